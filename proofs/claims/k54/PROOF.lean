import PyProof.Rows.All
import Wide.All
import OpenK.AllK
import Wide.FinOn
import HandS.ForMost
import HandS.Exc
import HandS.ExcOwn
import HandS.TryOnly
import HandS.WordsExc
import HandS.CallSlots
import HandS.TupAny
import HandS.Wide
import HandS.Deep
import HandS.IsInst
import HandS.SortInts
import HandS.More
import HandS.DictComp
import HandS.SetFor
import HandS.Strs
import HandS.Ends
import HandS.RaiseMore
import KE.KSortTupAny
import HandS.Zip
import HandS.Style
import HandS.WideBits
import HandS.Defaults
import KE.BitLaws
import PySem.Challenge.RW_latemoves_k54_links_of_later_lives
set_option Elab.async false
set_option linter.all false
set_option maxRecDepth 100000
set_option maxHeartbeats 4000000
/-! PM1: plain values and a store of objects; how they lie in the abstract heap. -/
namespace PM
open PySem PySem.Spec PyProof.Rows L2

/-- a plain value: tuples as data; con: a list that is only read (the script); loc: an object of the store -/
inductive D where
  | non | bl (b : Bool) | int (i : Int) | str (x : Str) | tup (xs : List D) | con (xs : List D) | loc (n : Nat)
/-- an object of the store: a list; a dict (keys ints and texts), the same while it is walked, a dict with tuples as keys; an instance of class number c -/
inductive O where
  | lst (xs : List D) | dct (kvs : List (Key × D)) | fdc (kvs : List (Key × D)) | dtt (kvs : List (List Key × D)) | ins (c : Nat) (fs : List (Str × D))
abbrev Sto := List O

/-- a result: a value and the store behind; an exception of class number c with its fields; none that is told -/
inductive R (α : Type) where
  | ok (a : α) (st : Sto) | exc (c : Nat) (fs : List (Str × D)) (st : Sto) | bad
def R.bind {α β : Type} : R α → (α → Sto → R β) → R β
  | .ok a st, f => f a st
  | .exc c fs st, _ => .exc c fs st
  | .bad, _ => .bad
@[simp] theorem R.bind_ok {α β : Type} (a : α) (st : Sto) (f : α → Sto → R β) : (R.ok a st).bind f = f a st := rfl
@[simp] theorem R.bind_exc {α β : Type} (c : Nat) (fs : List (Str × D)) (st : Sto) (f : α → Sto → R β) : (R.exc c fs st).bind f = .exc c fs st := rfl
@[simp] theorem R.bind_bad {α β : Type} (f : α → Sto → R β) : (R.bad : R α).bind f = .bad := rfl

abbrev Frag := PySem.W.Frag

/-- a list that is only read -/
def ConL (K : Frag) (H : Hp) (a : Addr) (xs : List V) : Prop :=
  (∃ o, H a = some (.frz o (.lst xs))) ∨
    ∃ (o : Obj) (its : Array Value) (n : Nat), K.lookup a = some o ∧ o.cls = .type "list" ∧ o.dict = none ∧ o.data = .seq its n ∧ its.size ≤ sizeLine ∧ Vals xs its.toList
theorem ConL.sq {K : Frag} {H : Hp} {a : Addr} {xs : List V} (h : ConL K H a xs) : SqL K H a xs := by
  rcases h with ⟨o, h⟩ | h
  · exact .inl (.inr ⟨o, h⟩)
  · exact .inr h

mutual
inductive RV (K : Frag) (α : Nat → Addr) (N : Nat) (H : Hp) : D → V → Prop
  | non : RV K α N H .non .non
  | bl (b : Bool) : RV K α N H (.bl b) (.bl b)
  | int (i : Int) : RV K α N H (.int i) (.int i)
  | str (x : Str) : RV K α N H (.str x) (.str x)
  | tup {a : Addr} {vs : List V} {xs : List D} : SqT K H a vs → RVs K α N H xs vs → RV K α N H (.tup xs) (.ref a)
  | con {a : Addr} {vs : List V} {xs : List D} : ConL K H a vs → RVs K α N H xs vs → RV K α N H (.con xs) (.ref a)
  | loc {n : Nat} : n < N → RV K α N H (.loc n) (.ref (α n))
inductive RVs (K : Frag) (α : Nat → Addr) (N : Nat) (H : Hp) : List D → List V → Prop
  | nil : RVs K α N H [] []
  | cons {d : D} {v : V} {xs : List D} {vs : List V} : RV K α N H d v → RVs K α N H xs vs → RVs K α N H (d :: xs) (v :: vs)
end

/-- pairs of keys and values -/
inductive RKs (K : Frag) (α : Nat → Addr) (N : Nat) (H : Hp) {κ : Type} : List (κ × D) → List (κ × V) → Prop
  | nil : RKs K α N H [] []
  | cons {k : κ} {d : D} {v : V} {xs : List (κ × D)} {vs : List (κ × V)} : RV K α N H d v → RKs K α N H xs vs → RKs K α N H ((k, d) :: xs) ((k, v) :: vs)

/-- an object of the store and what is tracked of it -/
inductive RO (K : Frag) (ca : Nat → Addr) (α : Nat → Addr) (N : Nat) (H : Hp) : O → HO → Prop
  | lst {xs : List D} {vs : List V} : RVs K α N H xs vs → RO K ca α N H (.lst xs) (.lst vs)
  | dct {xs : List (Key × D)} {vs : List (Key × V)} : RKs K α N H xs vs → RO K ca α N H (.dct xs) (.dK vs)
  | fdc {o : Obj} {xs : List (Key × D)} {vs : List (Key × V)} : RKs K α N H xs vs → RO K ca α N H (.fdc xs) (.frz o (.dK vs))
  | dtt {xs : List (List Key × D)} {vs : List (List Key × V)} : RKs K α N H xs vs → RO K ca α N H (.dtt xs) (.dT vs)
  | ins {c : Nat} {dx : Addr} {fs : List (Str × D)} {gs : List (Str × V)} : RKs K α N H fs gs → RO K ca α N H (.ins c fs) (.ins (ca c) dx gs)

/-- the store lies in the heap -/
structure Lk (K : Frag) (ca : Nat → Addr) (α : Nat → Addr) (st : Sto) (H : Hp) : Prop where
  at_ : ∀ n o, st[n]? = some o → ∃ ho, H (α n) = some ho ∧ RO K ca α st.length H o ho
  inj : ∀ i j, i < st.length → j < st.length → α i = α j → i = j

/-- what values lean on -/
structure Gr (K : Frag) (α : Nat → Addr) (N : Nat) (H : Hp) (α' : Nat → Addr) (N' : Nat) (H' : Hp) : Prop where
  le : N ≤ N'
  ag : ∀ n, n < N → α' n = α n
  tup : ∀ a vs, SqT K H a vs → SqT K H' a vs
  con : ∀ a vs, ConL K H a vs → ConL K H' a vs
/-- what is kept from one state to a later one -/
structure Xt (K : Frag) (α : Nat → Addr) (N : Nat) (H : Hp) (α' : Nat → Addr) (N' : Nat) (H' : Hp) : Prop extends Gr K α N H α' N' H' where
  new : ∀ n, N ≤ n → n < N' → H (α' n) = none
  keep : ∀ a o, H a = some o → (∀ n, n < N → α n ≠ a) → H' a = some o
  old : ∀ n, n < N → H (α n) ≠ none → H' (α n) ≠ none
  frz : ∀ a o u, H a = some (.frz o u) → H' a = some (.frz o u)

section
variable {K : Frag} {ca : Nat → Addr} {α α' α'' : Nat → Addr} {N N' N'' : Nat} {H H' H'' : Hp} {st st' : Sto}

theorem Xt.refl : Xt K α N H α N H := ⟨⟨Nat.le_refl _, fun _ _ => rfl, fun _ _ h => h, fun _ _ h => h⟩, fun n h h' => absurd h' (Nat.not_lt.mpr h), fun _ _ h _ => h, fun _ _ h => h, fun _ _ _ h => h⟩
theorem Xt.fresh (a : Xt K α N H α' N' H') {p : Addr} (h : H' p = none) : H p = none := by
  cases e : H p with
  | none => rfl
  | some o =>
    by_cases hi : ∃ m, m < N ∧ α m = p
    · obtain ⟨m, hm, em⟩ := hi
      exact absurd (em ▸ h) (a.old m hm (by rw [em, e]; exact fun z => by cases z))
    · rw [a.keep _ o e fun m hm em => hi ⟨m, hm, em⟩] at h
      cases h
theorem Xt.trans (a : Xt K α N H α' N' H') (b : Xt K α' N' H' α'' N'' H'') : Xt K α N H α'' N'' H'' where
  le := Nat.le_trans a.le b.le
  ag := fun n h => (b.ag n (Nat.lt_of_lt_of_le h a.le)).trans (a.ag n h)
  new := fun n h h' => by
    by_cases hn : n < N'
    · rw [b.ag n hn]; exact a.new n h hn
    · exact a.fresh (b.new n (Nat.le_of_not_lt hn) h')
  keep := fun c o h hn => b.keep c o (a.keep c o h hn) fun n h' e => by
    by_cases hN : n < N
    · rw [a.ag n hN] at e; exact hn n hN e
    · have := a.new n (Nat.le_of_not_lt hN) h'
      rw [e, h] at this; cases this
  tup := fun c vs h => b.tup c vs (a.tup c vs h)
  con := fun c vs h => b.con c vs (a.con c vs h)
  old := fun n h ho => by
    have h1 := a.old n h ho
    have e := a.ag n h
    rw [← e] at h1 ⊢
    exact b.old n (Nat.lt_of_lt_of_le h a.le) h1
  frz := fun c o u h => b.frz c o u (a.frz c o u h)

mutual
theorem RV.mono (x : Gr K α N H α' N' H') : ∀ {d : D} {v : V}, RV K α N H d v → RV K α' N' H' d v
  | _, _, .non => .non
  | _, _, .bl b => .bl b
  | _, _, .int i => .int i
  | _, _, .str s => .str s
  | _, _, .tup h r => .tup (x.tup _ _ h) (RVs.mono x r)
  | _, _, .con h r => .con (x.con _ _ h) (RVs.mono x r)
  | _, _, .loc h => by rw [← x.ag _ h]; exact .loc (Nat.lt_of_lt_of_le h x.le)
theorem RVs.mono (x : Gr K α N H α' N' H') : ∀ {d : List D} {v : List V}, RVs K α N H d v → RVs K α' N' H' d v
  | _, _, .nil => .nil
  | _, _, .cons h r => .cons (RV.mono x h) (RVs.mono x r)
end
theorem RKs.mono {κ : Type} (x : Gr K α N H α' N' H') : ∀ {d : List (κ × D)} {v : List (κ × V)}, RKs K α N H d v → RKs K α' N' H' d v
  | _, _, .nil => .nil
  | _, _, .cons h r => .cons (h.mono x) (RKs.mono x r)
theorem RO.mono (x : Gr K α N H α' N' H') {o : O} {ho : HO} (r : RO K ca α N H o ho) : RO K ca α' N' H' o ho := by
  cases r with
  | lst r => exact .lst (r.mono x)
  | dct r => exact .dct (r.mono x)
  | fdc r => exact .fdc (r.mono x)
  | dtt r => exact .dtt (r.mono x)
  | ins r => exact .ins (r.mono x)
theorem RVs.length : ∀ {d : List D} {v : List V}, RVs K α N H d v → d.length = v.length
  | _, _, .nil => rfl
  | _, _, .cons _ r => congrArg (· + 1) r.length
theorem RVs.append : ∀ {d e : List D} {v w : List V}, RVs K α N H d v → RVs K α N H e w → RVs K α N H (d ++ e) (v ++ w)
  | _, _, _, _, .nil, s => s
  | _, _, _, _, .cons r t, s => .cons r (RVs.append t s)
theorem RVs.take : ∀ {d : List D} {v : List V} (n : Nat), RVs K α N H d v → RVs K α N H (d.take n) (v.take n)
  | _, _, 0, _ => .nil
  | _, _, _ + 1, .nil => .nil
  | _, _, n + 1, .cons r t => .cons r (RVs.take n t)
theorem RVs.drop : ∀ {d : List D} {v : List V} (n : Nat), RVs K α N H d v → RVs K α N H (d.drop n) (v.drop n)
  | _, _, 0, r => r
  | _, _, _ + 1, .nil => .nil
  | _, _, n + 1, .cons _ t => RVs.drop n t
theorem RVs.set {x : D} {y : V} (r : RV K α N H x y) : ∀ {d : List D} {v : List V} (i : Nat), RVs K α N H d v → RVs K α N H (d.set i x) (v.set i y)
  | _, _, _, .nil => .nil
  | _, _, 0, .cons _ t => .cons r t
  | _, _, i + 1, .cons q t => .cons q (RVs.set r i t)
theorem RVs.get : ∀ {d : List D} {v : List V} {i : Nat} {x : D}, RVs K α N H d v → d[i]? = some x → ∃ y, v[i]? = some y ∧ RV K α N H x y
  | _, _, _, _, .nil, e => by simp at e
  | _, _, 0, _, .cons r _, e => by simp at e; subst e; exact ⟨_, rfl, r⟩
  | _, _, i + 1, x, .cons _ t, e => by
    obtain ⟨y, h1, h2⟩ := RVs.get (i := i) (x := x) t (by simpa using e)
    exact ⟨y, by simpa using h1, h2⟩
theorem RVs.getV : ∀ {d : List D} {v : List V} {i : Nat} {y : V}, RVs K α N H d v → v[i]? = some y → ∃ x, d[i]? = some x ∧ RV K α N H x y
  | _, _, _, _, .nil, e => by simp at e
  | _, _, 0, _, .cons r _, e => by simp at e; subst e; exact ⟨_, rfl, r⟩
  | _, _, i + 1, x, .cons _ t, e => by
    obtain ⟨y, h1, h2⟩ := RVs.getV (i := i) (y := x) t (by simpa using e)
    exact ⟨y, by simpa using h1, h2⟩
theorem RVs.reverse {d : List D} {v : List V} (h : RVs K α N H d v) : RVs K α N H d.reverse v.reverse := by
  induction h using RVs.rec (motive_1 := fun _ _ _ => True) with
  | nil => exact .nil
  | cons r _ _ ih => rw [List.reverse_cons, List.reverse_cons]; exact ih.append (.cons r .nil)
  | _ => trivial
theorem RVs.rep {d : List D} {v : List V} (h : RVs K α N H d v) : ∀ k : Nat, RVs K α N H (List.replicate k d).flatten (List.replicate k v).flatten
  | 0 => .nil
  | k + 1 => by rw [List.replicate_succ, List.replicate_succ, List.flatten_cons, List.flatten_cons]; exact h.append (RVs.rep h k)

theorem Lk.lt_of {n : Nat} {o : O} (h : st[n]? = some o) : n < st.length := (List.getElem?_eq_some_iff.mp h).1
theorem Lk.some_of {n : Nat} (h : n < st.length) : ∃ o, st[n]? = some o := ⟨st[n], by simp [h]⟩
theorem Lk.there (L : Lk K ca α st H) {n : Nat} (h : n < st.length) : ∃ ho, H (α n) = some ho := by
  obtain ⟨o, ho⟩ := Lk.some_of h
  obtain ⟨x, hx, _⟩ := L.at_ n o ho
  exact ⟨x, hx⟩
/-- the kinds of a store's objects -/
theorem RO.ntup {o : O} {ho : HO} (r : RO K ca α N H o ho) : ∀ xs, ho ≠ .tup xs := by intro xs e; subst e; cases r
theorem RO.nftup {o : O} {ho : HO} (r : RO K ca α N H o ho) : ∀ ob xs, ho ≠ .frz ob (.tup xs) := by intro ob xs e; subst e; cases r
theorem RO.nflst {o : O} {ho : HO} (r : RO K ca α N H o ho) : ∀ ob xs, ho ≠ .frz ob (.lst xs) := by intro ob xs e; subst e; cases r

/-- a change at one address which holds no tuple and no read-only list -/
theorem sqT_upd {p : Addr} {ho : HO} (h1 : ∀ xs, H p ≠ some (.tup xs)) (h2 : ∀ o xs, H p ≠ some (.frz o (.tup xs))) {a : Addr} {vs : List V} (h : SqT K H a vs) : SqT K (upd H p ho) a vs := by
  rcases h with (h | ⟨o, h⟩) | h
  · exact .inl (.inl (by rw [upd_ne (fun e => h1 _ (e ▸ h))]; exact h))
  · exact .inl (.inr ⟨o, by rw [upd_ne (fun e => h2 _ _ (e ▸ h))]; exact h⟩)
  · exact .inr h
theorem conL_upd {p : Addr} {ho : HO} (h1 : ∀ o xs, H p ≠ some (.frz o (.lst xs))) {a : Addr} {vs : List V} (h : ConL K H a vs) : ConL K (upd H p ho) a vs := by
  rcases h with ⟨o, h⟩ | h
  · exact .inl ⟨o, by rw [upd_ne (fun e => h1 _ _ (e ▸ h))]; exact h⟩
  · exact .inr h

/-- a new object that no name of the store holds (a tuple, a list in passing) -/
theorem xt_new {p : Addr} {ho : HO} (hp : H p = none) : Xt K α N H α N (upd H p ho) :=
  ⟨⟨Nat.le_refl _, fun _ _ => rfl,
    fun a vs h => sqT_upd (fun xs z => by rw [hp] at z; cases z) (fun o xs z => by rw [hp] at z; cases z) h,
    fun a vs h => conL_upd (fun o xs z => by rw [hp] at z; cases z) h⟩, fun n h h' => absurd h' (Nat.not_lt.mpr h), fun a o h _ => by rw [upd_ne (ne_of_none h hp)]; exact h,
    fun n _ ho => by
      by_cases e : α n = p
      · rw [e, upd_same]; exact fun z => by cases z
      · rw [upd_ne e]; exact ho,
    fun a o u h => by rw [upd_ne (ne_of_none h hp)]; exact h⟩
theorem Lk.temp {p : Addr} {ho : HO} (L : Lk K ca α st H) (hp : H p = none) : Lk K ca α st (upd H p ho) :=
  ⟨fun n o h => by
    obtain ⟨x, hx, r⟩ := L.at_ n o h
    exact ⟨x, by rw [upd_ne (ne_of_none hx hp)]; exact hx, r.mono (xt_new hp).toGr⟩, L.inj⟩
/-- an address for the next object -/
def ext (α : Nat → Addr) (N : Nat) (p : Addr) : Nat → Addr := fun n => if n = N then p else α n
theorem ext_at {p : Addr} : ext α N p N = p := if_pos rfl
theorem ext_lt {p : Addr} {n : Nat} (h : n < N) : ext α N p n = α n := if_neg (Nat.ne_of_lt h)
theorem gr_ext {p : Addr} : Gr K α N H (ext α N p) (N + 1) H := ⟨Nat.le_succ _, fun _ h => ext_lt h, fun _ _ h => h, fun _ _ h => h⟩
/-- an object in passing is taken into the store -/
theorem Lk.adopt {H0 : Hp} {α0 : Nat → Addr} {N0 : Nat} {p : Addr} {o : O} {ho : HO} (L : Lk K ca α st H) (hp : H p = some ho) (hn : ∀ n, n < st.length → α n ≠ p) (r : RO K ca α st.length H o ho) (x : Xt K α0 N0 H0 α st.length H) (hf : H0 p = none) :
    Lk K ca (ext α st.length p) (st ++ [o]) H ∧ Xt K α0 N0 H0 (ext α st.length p) (st ++ [o]).length H := by
  have el : (st ++ [o]).length = st.length + 1 := by simp
  rw [el]
  refine ⟨⟨fun n o' h => ?_, fun i j hi hj e => ?_⟩, ⟨⟨Nat.le_succ_of_le x.le, fun n h => (ext_lt (Nat.lt_of_lt_of_le h x.le)).trans (x.ag n h), x.tup, x.con⟩, fun n h h' => ?_, x.keep, x.old, x.frz⟩⟩
  · by_cases hl : n < st.length
    · rw [List.getElem?_append_left hl] at h
      obtain ⟨x', hx, r'⟩ := L.at_ n o' h
      rw [ext_lt hl, el]
      exact ⟨x', hx, r'.mono gr_ext⟩
    · have hlt := Lk.lt_of h
      have hN : n = st.length := by rw [el] at hlt; omega
      subst hN
      rw [List.getElem?_append_right (Nat.le_refl _), Nat.sub_self] at h
      have h : o = o' := by simpa using h
      subst h
      rw [ext_at, el]
      exact ⟨ho, hp, r.mono gr_ext⟩
  · rw [el] at hi hj
    by_cases hI : i < st.length
    · by_cases hJ : j < st.length
      · rw [ext_lt hI, ext_lt hJ] at e
        exact L.inj i j hI hJ e
      · have : j = st.length := by omega
        subst this
        rw [ext_lt hI, ext_at] at e
        exact absurd e (hn i hI)
    · have : i = st.length := by omega
      subst this
      by_cases hJ : j < st.length
      · rw [ext_lt hJ, ext_at] at e
        exact absurd e.symm (hn j hJ)
      · omega
  · by_cases hl : n < st.length
    · rw [ext_lt hl]; exact x.new n h hl
    · have : n = st.length := by omega
      subst this
      rw [ext_at]; exact hf
/-- a new object, at once in the store -/
theorem Lk.alloc {p : Addr} {o : O} {ho : HO} (L : Lk K ca α st H) (hp : H p = none) (r : RO K ca α st.length H o ho) :
    Lk K ca (ext α st.length p) (st ++ [o]) (upd H p ho) ∧ Xt K α st.length H (ext α st.length p) (st ++ [o]).length (upd H p ho) :=
  (L.temp hp).adopt upd_same (fun n hn e => by
    obtain ⟨x, hx⟩ := L.there hn
    rw [e, hp] at hx; cases hx) (r.mono (xt_new hp).toGr) (xt_new hp) hp
/-- an object of the store is written -/
theorem Lk.write {n : Nat} {o o' : O} {ho ho' : HO} (L : Lk K ca α st H) (h : st[n]? = some o) (hx : H (α n) = some ho) (hm : ∀ xs, ho ≠ .tup xs) (nf : ∀ ob u, ho ≠ .frz ob u) (r : RO K ca α st.length H o' ho') :
    Lk K ca α (st.set n o') (upd H (α n) ho') ∧ Xt K α st.length H α (st.set n o').length (upd H (α n) ho') := by
  have hn := Lk.lt_of h
  have g : Gr K α st.length H α st.length (upd H (α n) ho') := ⟨Nat.le_refl _, fun _ _ => rfl, fun a vs z => sqT_upd (fun xs q => by rw [hx] at q; exact hm xs (Option.some.inj q)) (fun ob xs q => by rw [hx] at q; exact nf ob _ (Option.some.inj q)) z,
    fun a vs z => conL_upd (fun ob xs q => by rw [hx] at q; exact nf ob _ (Option.some.inj q)) z⟩
  rw [List.length_set]
  refine ⟨⟨fun m o2 h2 => ?_, fun i j hi hj e => L.inj i j (by simpa using hi) (by simpa using hj) e⟩, ⟨g, fun m h1 h2 => absurd h2 (Nat.not_lt.mpr h1), fun a o2 h2 hne => by rw [upd_ne (fun e => hne n hn e.symm)]; exact h2, fun m hm' h2 => ?_, fun a ob u z => by rw [upd_ne (fun e => by rw [e, hx] at z; exact nf ob u (Option.some.inj z))]; exact z⟩⟩
  · rw [List.length_set]
    by_cases e : m = n
    · subst e
      rw [List.getElem?_set_self hn] at h2
      cases h2
      exact ⟨ho', upd_same, r.mono g⟩
    · rw [List.getElem?_set_ne (Ne.symm e)] at h2
      obtain ⟨x, hx2, r2⟩ := L.at_ m o2 h2
      exact ⟨x, by rw [upd_ne (fun q => e (L.inj m n (Lk.lt_of h2) hn q))]; exact hx2, r2.mono g⟩
  · by_cases e : α m = α n
    · rw [e, upd_same]; exact fun z => by cases z
    · rw [upd_ne e]; exact h2
end

/-! ### a def's names -/
abbrev Env := List (Option D)
inductive RE (K : Frag) (α : Nat → Addr) (N : Nat) (H : Hp) : Env → L2.St → Prop
  | nil : RE K α N H [] []
  | skip {v : Option V} {ρ : Env} {σ : L2.St} : RE K α N H ρ σ → RE K α N H (none :: ρ) (v :: σ)
  | has {d : D} {v : V} {ρ : Env} {σ : L2.St} : RV K α N H d v → RE K α N H ρ σ → RE K α N H (some d :: ρ) (some v :: σ)
section
variable {K : Frag} {ca : Nat → Addr} {α α' α'' : Nat → Addr} {N N' N'' : Nat} {H H' H'' : Hp} {st st' : Sto}
theorem RE.mono (x : Gr K α N H α' N' H') : ∀ {ρ : Env} {σ : L2.St}, RE K α N H ρ σ → RE K α' N' H' ρ σ
  | _, _, .nil => .nil
  | _, _, .skip r => .skip (RE.mono x r)
  | _, _, .has h r => .has (h.mono x) (RE.mono x r)
theorem RE.get : ∀ {ρ : Env} {σ : L2.St} {i : Nat} {d : D}, RE K α N H ρ σ → ρ[i]? = some (some d) → ∃ v, σ[i]? = some (some v) ∧ RV K α N H d v
  | _, _, _, _, .nil, e => by simp at e
  | _, _, 0, _, .skip _, e => by simp at e
  | _, _, 0, _, .has h _, e => by simp at e; subst e; exact ⟨_, rfl, h⟩
  | _, _, i + 1, d, .skip r, e => by
    obtain ⟨y, h1, h2⟩ := RE.get (i := i) (d := d) r (by simpa using e)
    exact ⟨y, by simpa using h1, h2⟩
  | _, _, i + 1, d, .has _ r, e => by
    obtain ⟨y, h1, h2⟩ := RE.get (i := i) (d := d) r (by simpa using e)
    exact ⟨y, by simpa using h1, h2⟩
theorem RE.set {d : D} {v : V} (h : RV K α N H d v) : ∀ {ρ : Env} {σ : L2.St} (i : Nat), RE K α N H ρ σ → RE K α N H (ρ.set i (some d)) (σ.set i (some v))
  | _, _, _, .nil => .nil
  | _, _, 0, .skip r => .has h r
  | _, _, 0, .has _ r => .has h r
  | _, _, i + 1, .skip r => .skip (RE.set h i r)
  | _, _, i + 1, .has q r => .has q (RE.set h i r)
theorem RE.forget {v : Option V} : ∀ {ρ : Env} {σ : L2.St} (i : Nat), RE K α N H ρ σ → RE K α N H (ρ.set i none) (σ.set i v)
  | _, _, _, .nil => .nil
  | _, _, 0, .skip r => .skip r
  | _, _, 0, .has _ r => .skip r
  | _, _, i + 1, .skip r => .skip (RE.forget i r)
  | _, _, i + 1, .has q r => .has q (RE.forget i r)
theorem RE.nones : ∀ (k : Nat), RE K α N H (List.replicate k none) (List.replicate k none)
  | 0 => .nil
  | k + 1 => .skip (RE.nones k)
theorem RE.start {ds : List D} {vs : List V} (r : RVs K α N H ds vs) (k : Nat) : RE K α N H (ds.map some ++ List.replicate k none) (vs.map some ++ List.replicate k none) := by
  have go : ∀ {ds : List D} {vs : List V}, RVs K α N H ds vs → RE K α N H (ds.map some ++ List.replicate k none) (vs.map some ++ List.replicate k none)
  := by
    intro ds
    induction ds with
    | nil => intro vs r; cases r; exact RE.nones k
    | cons d ds ih => intro vs r; cases r with | cons h r => exact .has h (ih r)
  exact go r
end

/-! ### what is wanted of a result -/
/-- a result's value b and what lies in the heap for it; the first heap: that ahead -/
abbrev Rel (β γ : Type) := Hp → (Nat → Addr) → Nat → Hp → β → γ → Prop
def relV (K : Frag) : Rel D V := fun _ α N H d v => RV K α N H d v
def relVs (K : Frag) : Rel (List D) (List V) := fun _ α N H d v => RVs K α N H d v
def relB : Rel Bool Bool := fun _ _ _ _ b c => b = c
/-- a new list that no name holds -/
def relL (K : Frag) : Rel (List D) V := fun H0 α N H xs v => ∃ p vs, v = .ref p ∧ H0 p = none ∧ H p = some (.lst vs) ∧ RVs K α N H xs vs ∧ ∀ n, n < N → α n ≠ p
/-- the fields of an exception -/
def XD (K : Frag) (α : Nat → Addr) (N : Nat) (H : Hp) (fs : List (Str × D)) (dd : Option Addr) : Prop :=
  (fs = [] ∧ dd = none) ∨ ∃ d gs, dd = some d ∧ H d = some (.xd gs) ∧ RKs K α N H fs gs

def Post (K : Frag) (ca : Nat → Addr) {β γ : Type} (rel : Rel β γ) (α : Nat → Addr) (N : Nat) (H : Hp) (W : XK) (Q : γ → Hp → Prop) : R β → Prop
  | .ok b st' => ∀ α' H' g, Xt K α N H α' st'.length H' → Lk K ca α' st' H' → rel H α' st'.length H' b g → Q g H'
  | .exc c fs st' => ∀ α' H' dd, Xt K α N H α' st'.length H' → Lk K ca α' st' H' → XD K α' st'.length H' fs dd → W (.ref (ca c)) dd H'
  | .bad => False

/-- a result kind that may be told of an earlier heap too -/
def RelOk {β γ : Type} (rel : Rel β γ) (K : Frag) : Prop := ∀ (α : Nat → Addr) (N : Nat) (H : Hp) (α1 : Nat → Addr) (N1 : Nat) (H1 : Hp) (α2 : Nat → Addr) (N2 : Nat) (H2 : Hp) (b : β) (g : γ),
  Xt K α N H α1 N1 H1 → Xt K α1 N1 H1 α2 N2 H2 → rel H1 α2 N2 H2 b g → rel H α2 N2 H2 b g
theorem relV_ok {K : Frag} : RelOk (relV K) K := fun _ _ _ _ _ _ _ _ _ _ _ _ _ h => h
theorem relVs_ok {K : Frag} : RelOk (relVs K) K := fun _ _ _ _ _ _ _ _ _ _ _ _ _ h => h
theorem relB_ok {K : Frag} : RelOk relB K := fun _ _ _ _ _ _ _ _ _ _ _ _ _ h => h
theorem relL_ok {K : Frag} : RelOk (relL K) K := fun _ _ _ _ _ _ _ _ _ _ _ x _ ⟨p, vs, e, h1, h2⟩ => ⟨p, vs, e, x.fresh h1, h2⟩

section
variable {K : Frag} {ca : Nat → Addr} {α α' α'' : Nat → Addr} {N N' N'' : Nat} {H H' H'' : Hp} {st st' : Sto} {β γ β' γ' : Type} {rel : Rel β γ} {rel' : Rel β' γ'} {W W' : XK} {Q Q' : γ → Hp → Prop} {r : R β}
/-- the state ahead goes on -/
theorem Post.later (ok : RelOk rel K) (x : Xt K α N H α' N' H') (h : Post K ca rel α N H W Q r) : Post K ca rel α' N' H' W Q r := by
  cases r with
  | ok b st' => exact fun a2 H2 g x2 L2 r2 => h a2 H2 g (x.trans x2) L2 (ok _ _ _ _ _ _ _ _ _ _ _ x x2 r2)
  | exc c fs st' => exact fun a2 H2 dd x2 L2 r2 => h a2 H2 dd (x.trans x2) L2 r2
  | bad => exact h
theorem Post.imp (h : Post K ca rel α N H W Q r) (hQ : ∀ g H', Q g H' → Q' g H') : Post K ca rel α N H W Q' r := by
  cases r with
  | ok b st' => exact fun a2 H2 g x2 L2 r2 => hQ _ _ (h a2 H2 g x2 L2 r2)
  | exc c fs st' => exact h
  | bad => exact h
end

/-- the state: the store lies in the heap, the names' values are those -/
structure At (K : Frag) (ca : Nat → Addr) (α : Nat → Addr) (st : Sto) (H : Hp) (ρ : Env) (σ : L2.St) : Prop where
  lk : Lk K ca α st H
  re : RE K α st.length H ρ σ
theorem At.later {K : Frag} {ca : Nat → Addr} {α α' : Nat → Addr} {st st' : Sto} {H H' : Hp} {ρ : Env} {σ : L2.St} (a : At K ca α st H ρ σ) (x : Xt K α st.length H α' st'.length H') (L : Lk K ca α' st' H') : At K ca α' st' H' ρ σ := ⟨L, a.re.mono x.toGr⟩

/-- the reading of a piece of code whose mirror is e -/
def tG (K : Frag) (ca : Nat → Addr) {β γ : Type} (rel : Rel β γ) (W : WX) (e : Env → Sto → R β) : L2.St → Hp → (γ → Hp → Prop) → Prop := fun σ H Q =>
  ∃ α st ρ, At K ca α st H ρ σ ∧ Post K ca rel α st.length H (fun c d H' => W c d σ H') Q (e ρ st)

section
variable {K : Frag} {ca : Nat → Addr} {β γ β' γ' : Type} {rel : Rel β γ} {rel' : Rel β' γ'} {W : WX} {σ : L2.St} {H : Hp} {e : Env → Sto → R β} {f : Env → β → Sto → R β'} {Q : γ' → Hp → Prop}
/-- one after another -/
theorem tG_bind (ok' : RelOk rel' K) (h : tG K ca rel' W (fun ρ st => (e ρ st).bind (f ρ)) σ H Q) :
    tG K ca rel W e σ H fun g H1 => ∃ α st ρ α0 N0 H0 b, At K ca α st H1 ρ σ ∧ Xt K α0 N0 H0 α st.length H1 ∧ rel H0 α st.length H1 b g ∧ Post K ca rel' α0 N0 H0 (fun c d H' => W c d σ H') Q (f ρ b st) := by
  obtain ⟨α, st, ρ, a, p⟩ := h
  refine ⟨α, st, ρ, a, ?_⟩
  have p : Post K ca rel' α st.length H (fun c d H' => W c d σ H') Q ((e ρ st).bind (f ρ)) := p
  revert p
  cases e ρ st with
  | ok b st1 => exact fun p α1 H1 g x L r => ⟨α1, st1, ρ, α, st.length, H, b, a.later x L, x, r, p⟩
  | exc c fs st1 => exact fun p => p
  | bad => exact fun p => p
end
end PM

set_option Elab.async false
set_option linter.all false
set_option maxRecDepth 100000
set_option maxHeartbeats 4000000
/-! PM2: expressions. -/
namespace PM
open PySem PySem.Spec PyProof.Rows L2

abbrev E := Env → Sto → R D
abbrev EL := Env → Sto → R (List D)
abbrev ET := Env → Sto → R Bool
def QE (X : Cx) (ca : Nat → Addr) (W : WX) (x : Expr) (e : E) : Prop := PE X x (tG X.K ca (relV X.K) W e)
def QL (X : Cx) (ca : Nat → Addr) (W : WX) (x : Expr) (e : EL) : Prop := PE X x (tG X.K ca (relL X.K) W e)
def QA (X : Cx) (ca : Nat → Addr) (W : WX) (xs : List Expr) (e : EL) : Prop := PA X xs (tG X.K ca (relVs X.K) W e)
def QT (X : Cx) (ca : Nat → Addr) (W : WX) (x : Expr) (e : ET) : Prop := PT X x (tG X.K ca relB W e)
def QW (X : Cx) (ca : Nat → Addr) (W : WX) (x : Expr) (e : ET) : Prop := PW X x (tG X.K ca relB W e)

theorem peW {X : Cx} {x : Expr} {t t' : TE} (p : PE X x t) (h : ∀ σ H Q, t' σ H Q → t σ H Q) : PE X x t' := ⟨fun pins s σ H Q I q => p.run pins s σ H Q I (h σ H Q q)⟩
theorem ptW {X : Cx} {x : Expr} {t t' : TT} (p : PT X x t) (h : ∀ σ H Q, t' σ H Q → t σ H Q) : PT X x t' := ⟨fun pins s σ H Q I q => p.run pins s σ H Q I (h σ H Q q)⟩
theorem pwW {X : Cx} {x : Expr} {t t' : TT} (p : PW X x t) (h : ∀ σ H Q, t' σ H Q → t σ H Q) : PW X x t' := ⟨fun wh pins s σ H Q I q => p.run wh pins s σ H Q I (h σ H Q q)⟩
theorem paW {X : Cx} {x : List Expr} {t t' : TA} (p : PA X x t) (h : ∀ σ H Q, t' σ H Q → t σ H Q) : PA X x t' := ⟨fun pos pins s σ H Q I q => p.run pos pins s σ H Q I (h σ H Q q)⟩

section
variable {X : Cx} {ca : Nat → Addr} {W : WX} {a b c : Expr} {ea eb ec : E} {pos : Pos}

/-! ### names, constants -/
def cVar (i : Nat) : E := fun ρ st => match ρ[i]? with
  | some (some d) => .ok d st
  | _ => .bad
theorem qe_var (i : Nat) {x : Str} {pos : Pos} (hN : X.N[i]? = some x := by rfl) (hv : Vis X.env.scope x := by first | exact Or.inl rfl | exact Or.inr (Or.inl rfl) | exact Or.inr (Or.inr rfl)) (hd : (x == ("__debug__" : Str)) = false := by decide)
    (hcd : (x == ("__classdict__" : Str)) = false := by decide) : QE X ca W (.Name x pos) (cVar i) := by
  refine peW (pe_var hN hv hd hcd) fun σ H Q h => ?_
  obtain ⟨α, st, ρ, a, p⟩ := h
  unfold cVar at p
  split at p
  · rename_i d e
    obtain ⟨v, h1, h2⟩ := a.re.get e
    exact ⟨v, h1, p α H v .refl a.lk h2⟩
  · exact p.elim
def cC (d : D) : E := fun _ st => .ok d st
theorem qe_int {i j pos} : QE X ca W (.Constant (.int i) j pos) (cC (.int i)) := peW pe_int fun σ H Q ⟨α, st, ρ, a, p⟩ => p α H _ .refl a.lk (.int i)
theorem qe_bl {b j pos} : QE X ca W (.Constant (.bool b) j pos) (cC (.bl b)) := peW pe_bl fun σ H Q ⟨α, st, ρ, a, p⟩ => p α H _ .refl a.lk (.bl b)
theorem qe_non {j pos} : QE X ca W (.Constant .none j pos) (cC .non) := peW pe_non fun σ H Q ⟨α, st, ρ, a, p⟩ => p α H _ .refl a.lk .non
theorem qe_str {x j pos} : QE X ca W (.Constant (.str x) j pos) (cC (.str x)) := peW pe_str fun σ H Q ⟨α, st, ρ, a, p⟩ => p α H _ .refl a.lk (.str x)
/-- a name of the module: a constant that the top made -/
theorem qe_glob {x : Str} {d : D} {v : V} {u : Value} {pos : Pos} (hg : Gl X x) (hm : X.mg x = some u) (r : RelV v u) (hd : ∀ α N H, RV X.K α N H d v) (hdb : (x == ("__debug__" : Str)) = false := by decide) : QE X ca W (.Name x pos) (cC d) :=
  peW (pe_glob hg hm r hdb) fun σ H Q ⟨α, st, ρ, a, p⟩ => p α H _ .refl a.lk (hd _ _ _)

/-! ### operators -/
def cOp2 (f : D → D → Sto → R D) (a b : E) : E := fun ρ st => (a ρ st).bind fun x st => (b ρ st).bind fun y st => f x y st
def rD2 (K : Frag) (ca : Nat → Addr) (f : D → D → Sto → R D) : R2 := fun x y H Q => ∃ α st α0 N0 H0 dx dy W, Lk K ca α st H ∧ Xt K α0 N0 H0 α st.length H ∧ RV K α st.length H dx x ∧ RV K α st.length H dy y ∧ Post K ca (relV K) α0 N0 H0 W Q (f dx dy st)
theorem tG_op2 {K : Frag} {f : D → D → Sto → R D} {σ : L2.St} {H : Hp} {Q : VK} (h : tG K ca (relV K) W (cOp2 f ea eb) σ H Q) :
    tOp (rD2 K ca f) (tG K ca (relV K) W ea) (tG K ca (relV K) W eb) σ H Q := by
  obtain ⟨α, st, ρ, a, p⟩ := h
  refine ⟨α, st, ρ, a, ?_⟩
  unfold cOp2 at p
  revert p
  cases ea ρ st with
  | exc c fs st1 => exact fun p => p
  | bad => exact fun p => p
  | ok x st1 =>
    intro p α1 H1 v1 x1 L1 r1
    have a1 := a.later x1 L1
    refine ⟨α1, st1, ρ, a1, ?_⟩
    have p : Post K ca (relV K) α st.length H (fun c d H' => W c d σ H') Q ((eb ρ st1).bind fun y st => f x y st) := p
    revert p
    cases eb ρ st1 with
    | exc c fs st2 => exact fun p α2 H2 dd x2 L2 => p α2 H2 dd (x1.trans x2) L2
    | bad => exact fun p => p
    | ok y st2 =>
      intro p α2 H2 v2 x2 L2 r2
      exact ⟨α2, st2, α, st.length, H, x, y, _, L2, x1.trans x2, RV.mono x2.toGr r1, r2, p⟩
theorem qe_op2 {op : Operator} {f : D → D → Sto → R D} (ho : OpR X (binaryOp op) (rD2 X.K ca f)) (ha : QE X ca W a ea) (hb : QE X ca W b eb) : QE X ca W (.BinOp a op b pos) (cOp2 f ea eb) :=
  peW (pe_op ho ha hb) fun σ H Q h => tG_op2 h
theorem qe_cmp {op : CmpOp} {f : D → D → Sto → R D} (ho : OpR X (compareOp op) (rD2 X.K ca f)) (ha : QE X ca W a ea) (hb : QE X ca W b eb) (hm : behindInMarks op b = false) : QE X ca W (.Compare a [op] [b] pos) (cOp2 f ea eb) :=
  peW (pe_cmpR ho ha hb hm) fun σ H Q h => tG_op2 h
/-- an operator's answer as a test -/
def asB : R D → R Bool
  | .ok (.bl b) st => .ok b st
  | .exc c fs st => .exc c fs st
  | _ => .bad
def cTst (e : E) : ET := fun ρ st => asB (e ρ st)
theorem tG_tst {K : Frag} {e : E} {σ : L2.St} {H : Hp} {Q : Bool → Hp → Prop} (h : tG K ca relB W (cTst e) σ H Q) : tTest (tG K ca (relV K) W e) σ H Q := by
  obtain ⟨α, st, ρ, a, p⟩ := h
  refine ⟨α, st, ρ, a, ?_⟩
  unfold cTst at p
  revert p
  cases e ρ st with
  | exc c fs st1 => exact fun p => p
  | bad => exact fun p => p
  | ok d st1 =>
    cases d with
    | bl b =>
      intro p α1 H1 v1 x1 L1 r1
      cases r1
      exact ⟨b, rfl, p α1 H1 b x1 L1 rfl⟩
    | _ => exact fun p => False.elim p
theorem qt_cmp {op : CmpOp} {f : D → D → Sto → R D} (ho : OpR X (compareOp op) (rD2 X.K ca f)) (ha : QE X ca W a ea) (hb : QE X ca W b eb) (hm : behindInMarks op b = false) : QT X ca W (.Compare a [op] [b] pos) (cTst (cOp2 f ea eb)) :=
  ptW (pt_cmpR ho ha hb hm) fun σ H Q h => by
    have h2 := tG_tst h
    exact tG_op2 h2
/-- a op1 b op2 c -/
def cChain (f g : D → D → Sto → R D) (a b c : E) : E := fun ρ st => (a ρ st).bind fun x st => (b ρ st).bind fun y st => (asB (f x y st)).bind fun k st =>
  match k with
  | true => (c ρ st).bind fun z st => g y z st
  | false => .ok (.bl false) st
/-- an operator that leaves the store as it is and answers with a bool -/
def BoolOp (f : D → D → Sto → R D) : Prop := ∀ x y st, (∃ k, f x y st = .ok (.bl k) st) ∨ f x y st = .bad
theorem tG_chain {K : Frag} {f g : D → D → Sto → R D} {σ : L2.St} {H : Hp} {Q : VK} (hf : BoolOp f) (h : tG K ca (relV K) W (cChain f g ea eb ec) σ H Q) :
    tChain (rD2 K ca f) (rD2 K ca g) (tG K ca (relV K) W ea) (tG K ca (relV K) W eb) (tG K ca (relV K) W ec) σ H Q := by
  obtain ⟨α, st, ρ, a, p⟩ := h
  refine ⟨α, st, ρ, a, ?_⟩
  unfold cChain at p
  revert p
  cases ea ρ st with
  | exc c fs st1 => exact fun p => p
  | bad => exact fun p => p
  | ok x st1 =>
    intro p α1 H1 v1 x1 L1 r1
    have a1 := a.later x1 L1
    refine ⟨α1, st1, ρ, a1, ?_⟩
    simp only [R.bind_ok] at p
    revert p
    cases eb ρ st1 with
    | exc c fs st2 => exact fun p α2 H2 dd x2 L2 => p α2 H2 dd (x1.trans x2) L2
    | bad => exact fun p => p
    | ok y st2 =>
      intro p α2 H2 v2 x2 L2 r2
      simp only [R.bind_ok] at p
      refine ⟨α2, st2, α2, st2.length, H2, x, y, fun _ _ _ => False, L2, .refl, RV.mono x2.toGr r1, r2, ?_⟩
      rcases hf x y st2 with ⟨k, e⟩ | e
      · rw [e] at p ⊢
        have a2 := a1.later x2 L2
        intro α3 H3 v3 x3 L3 r3
        cases r3
        refine ⟨k, rfl, ?_⟩
        cases k with
        | false => exact p α3 H3 _ ((x1.trans x2).trans x3) L3 (.bl false)
        | true =>
          rw [if_pos rfl]
          refine ⟨α3, st2, ρ, a2.later x3 L3, ?_⟩
          have p : Post K ca (relV K) α st.length H (fun c d H' => W c d σ H') Q ((ec ρ st2).bind fun z st => g y z st) := p
          revert p
          cases ec ρ st2 with
          | exc c fs st4 => exact fun p α4 H4 dd x4 L4 => p α4 H4 dd (((x1.trans x2).trans x3).trans x4) L4
          | bad => exact fun p => p
          | ok z st4 =>
            intro p α4 H4 v4 x4 L4 r4
            exact ⟨α4, st4, α, st.length, H, y, z, _, L4, ((x1.trans x2).trans x3).trans x4, RV.mono (x3.trans x4).toGr r2, r4, p⟩
      · rw [e] at p
        exact p.elim
theorem qe_chain {op op' : CmpOp} {f g : D → D → Sto → R D} (ho : OpR X (compareOp op) (rD2 X.K ca f)) (ho' : OpR X (compareOp op') (rD2 X.K ca g)) (hf : BoolOp f) (ha : QE X ca W a ea) (hb : QE X ca W b eb) (hc : QE X ca W c ec)
    (hm : lastMarks [op, op'] [b, c] = false := by with_unfolding_all rfl) : QE X ca W (.Compare a [op, op'] [b, c] pos) (cChain f g ea eb ec) :=
  peW (pe_chain ho ho' ha hb hc hm) fun σ H Q h => tG_chain hf h
theorem qt_chain {op op' : CmpOp} {f g : D → D → Sto → R D} (ho : OpR X (compareOp op) (rD2 X.K ca f)) (ho' : OpR X (compareOp op') (rD2 X.K ca g)) (hf : BoolOp f) (ha : QE X ca W a ea) (hb : QE X ca W b eb) (hc : QE X ca W c ec)
    (hm : lastMarks [op, op'] [b, c] = false := by with_unfolding_all rfl) : QT X ca W (.Compare a [op, op'] [b, c] pos) (cTst (cChain f g ea eb ec)) :=
  ptW (pt_chain ho ho' ha hb hc hm) fun σ H Q h => tG_chain hf (tG_tst h)

/-! ### one operand -/
def cOp1 (f : D → Sto → R D) (a : E) : E := fun ρ st => (a ρ st).bind fun x st => f x st
def rD1 (K : Frag) (ca : Nat → Addr) (f : D → Sto → R D) : V → Hp → VK → Prop := fun x H Q => ∃ α st α0 N0 H0 dx W, Lk K ca α st H ∧ Xt K α0 N0 H0 α st.length H ∧ RV K α st.length H dx x ∧ Post K ca (relV K) α0 N0 H0 W Q (f dx st)
theorem tG_op1 {K : Frag} {f : D → Sto → R D} {σ : L2.St} {H : Hp} {Q : VK} (h : tG K ca (relV K) W (cOp1 f ea) σ H Q) :
    tG K ca (relV K) W ea σ H fun x H1 => rD1 K ca f x H1 Q := by
  obtain ⟨α, st, ρ, a, p⟩ := h
  refine ⟨α, st, ρ, a, ?_⟩
  unfold cOp1 at p
  revert p
  cases ea ρ st with
  | exc c fs st1 => exact fun p => p
  | bad => exact fun p => p
  | ok x st1 =>
    intro p α1 H1 v1 x1 L1 r1
    exact ⟨α1, st1, α, st.length, H, x, _, L1, x1, r1, p⟩
theorem qe_un {op : UnaryOp} {f : D → Sto → R D} (ho : UnR X (unaryOp op) (rD1 X.K ca f)) (ha : QE X ca W a ea) : QE X ca W (.UnaryOp op a pos) (cOp1 f ea) :=
  peW (pe_un ho ha) fun σ H Q h => tG_op1 h

/-! ### the arithmetic of ints, texts, tuples, lists -/
def addD : D → D → Sto → R D
  | .int i, .int j, st => .ok (.int (i + j)) st
  | .str i, .str j, st => if i.length + j.length ≤ sizeLine then .ok (.str (i ++ j)) st else .bad
  | .tup xs, .tup ys, st => if xs.length + ys.length ≤ sizeLine then .ok (.tup (xs ++ ys)) st else .bad
  | .loc m, .loc n, st => match st[m]?, st[n]? with
    | some (.lst xs), some (.lst ys) => if xs.length + ys.length ≤ sizeLine then .ok (.loc st.length) (st ++ [.lst (xs ++ ys)]) else .bad
    | _, _ => .bad
  | _, _, _ => .bad
theorem lk_lst {K : Frag} {α : Nat → Addr} {st : Sto} {H : Hp} {n : Nat} {xs : List D} (L : Lk K ca α st H) (h : st[n]? = some (.lst xs)) : ∃ vs, H (α n) = some (.lst vs) ∧ RVs K α st.length H xs vs := by
  obtain ⟨ho, h1, h2⟩ := L.at_ n _ h
  cases h2 with
  | lst r => exact ⟨_, h1, r⟩
/-- the value of a new tuple -/
theorem fin_tup {K : Frag} {α α0 : Nat → Addr} {st : Sto} {N0 : Nat} {H H0 : Hp} {W : XK} {Q : VK} {xs : List D} {vs : List V} {p : Addr} (q : Post K ca (relV K) α0 N0 H0 W Q (.ok (.tup xs) st)) (xt : Xt K α0 N0 H0 α st.length H) (L : Lk K ca α st H)
    (r : RVs K α st.length H xs vs) (hp : H p = none) : Q (.ref p) (upd H p (.tup vs)) :=
  q α _ _ (xt.trans (xt_new hp)) (L.temp hp) (.tup (.inl (.inl upd_same)) (r.mono (xt_new hp).toGr))
/-- the value of a new list, taken into the store -/
theorem fin_lst {K : Frag} {α α0 : Nat → Addr} {st : Sto} {N0 : Nat} {H H0 : Hp} {W : XK} {Q : VK} {xs : List D} {vs : List V} {p : Addr} (q : Post K ca (relV K) α0 N0 H0 W Q (.ok (.loc st.length) (st ++ [.lst xs]))) (xt : Xt K α0 N0 H0 α st.length H) (L : Lk K ca α st H)
    (r : RVs K α st.length H xs vs) (hp : H p = none) : Q (.ref p) (upd H p (.lst vs)) := by
  obtain ⟨L2, x2⟩ := L.alloc hp (.lst r)
  refine q _ _ _ (xt.trans x2) L2 ?_
  have e : V.ref p = V.ref (ext α st.length p st.length) := by rw [ext_at]
  rw [e]
  exact .loc (by simp)
theorem d_add : OpR X (binaryOp .Add) (rD2 X.K ca addD) := by
  intro pins s σ H x y v u Q I rx ry ⟨α, st, α0, N0, H0, dx, dy, W, L, xt, r1, r2, p⟩
  cases r1 <;> cases r2 <;> try exact False.elim p
  · exact op_add pins s σ H _ _ v u Q I rx ry ⟨_, _, rfl, rfl, p α H _ xt L (.int _)⟩
  · simp only [addD] at p
    split at p
    · rename_i h
      exact op_add_str pins s σ H _ _ v u Q I rx ry ⟨_, _, rfl, rfl, h, p α H _ xt L (.str _)⟩
    · exact p.elim
  · rename_i a1 vs xs h1 q1 a2 ws ys h2 q2
    simp only [addD] at p
    split at p
    · rename_i h
      rw [q1.length, q2.length] at h
      refine op_catA pins s σ H _ _ v u Q I rx ry ⟨_, _, _, _, rfl, rfl, h1, h2, h, fun e => ?_, fun _ e => ?_, fun _ _ p' hp => ?_⟩
      · have : xs = [] := List.length_eq_zero_iff.mp (by rw [q1.length, e]; rfl)
        subst this
        exact p α H _ xt L (.tup h2 q2)
      · have : ys = [] := List.length_eq_zero_iff.mp (by rw [q2.length, e]; rfl)
        subst this
        rw [List.append_nil] at p
        exact p α H _ xt L (.tup h1 q1)
      · exact fin_tup p xt L (q1.append q2) hp
    · exact p.elim
  · rename_i m hm n hn
    simp only [addD] at p
    split at p <;> try exact p.elim
    rename_i xs ys e1 e2
    split at p
    · rename_i h
      obtain ⟨vs, h1, q1⟩ := lk_lst L e1
      obtain ⟨ws, h2, q2⟩ := lk_lst L e2
      rw [q1.length, q2.length] at h
      exact op_cat pins s σ H _ _ v u Q I rx ry ⟨_, _, _, _, rfl, rfl, h1, h2, h, fun p' hp => fin_lst p xt L (q1.append q2) hp⟩
    · exact p.elim
/-- ints alone -/
def int2 (C : Int → Int → Bool) (g : Int → Int → Int) : D → D → Sto → R D
  | .int i, .int j, st => if C i j = true then .ok (.int (g i j)) st else .bad
  | _, _, _ => .bad
theorem d_int2 {op : Operator} {C : Int → Int → Bool} {Cp : Int → Int → Prop} {g : Int → Int → Int} (h : OpR X (binaryOp op) (rI Cp fun i j => .int (g i j))) (hc : ∀ i j, C i j = true → Cp i j) : OpR X (binaryOp op) (rD2 X.K ca (int2 C g)) := by
  intro pins s σ H x y v u Q I rx ry ⟨α, st, α0, N0, H0, dx, dy, W, L, xt, r1, r2, p⟩
  cases r1 <;> cases r2 <;> try exact False.elim p
  simp only [int2] at p
  split at p
  · rename_i q
    exact h pins s σ H _ _ v u Q I rx ry ⟨_, _, rfl, rfl, hc _ _ q, p α H _ xt L (.int _)⟩
  · exact p.elim
theorem d_int20 {op : Operator} {g : Int → Int → Int} (h : OpR X (binaryOp op) (rI0 fun i j => .int (g i j))) : OpR X (binaryOp op) (rD2 X.K ca (int2 (fun _ _ => true) g)) :=
  d_int2 (Cp := fun _ _ => True) (fun pins s σ H x y v u Q I rx ry ⟨i, j, e1, e2, _, q⟩ => h pins s σ H x y v u Q I rx ry ⟨i, j, e1, e2, q⟩) fun _ _ _ => trivial
def subD : D → D → Sto → R D := int2 (fun _ _ => true) fun i j => i - j
def mulC (i j : Int) : Bool := decide (i.natAbs.log2 + j.natAbs.log2 < 1000000) || (decide (-(2 ^ 64) < i ∧ i < 2 ^ 64) || decide (-(2 ^ 64) < j ∧ j < 2 ^ 64))
def fdivC (_ j : Int) : Bool := decide (j ≠ 0) && decide (j.natAbs.log2 < 9000)
def modC (_ j : Int) : Bool := decide (j ≠ 0)
def shC (i j : Int) : Bool := decide (0 ≤ j ∧ j ≤ 1000000 ∧ i.natAbs < 2 ^ 64)
theorem d_sub : OpR X (binaryOp .Sub) (rD2 X.K ca subD) := d_int20 op_sub
theorem op_mulA : OpR X (binaryOp .Mult) (rI (fun i j => CMulW i j ∨ CMul i j) fun i j => .int (i * j)) := by
  intro pins s σ H x y v u Q I rx ry ⟨i, j, e1, e2, hc, q⟩
  rcases hc with hc | hc
  · exact op_mulW pins s σ H x y v u Q I rx ry ⟨i, j, e1, e2, hc, q⟩
  · exact op_mul pins s σ H x y v u Q I rx ry ⟨i, j, e1, e2, hc, q⟩
theorem op_fdivA : OpR X (binaryOp .FloorDiv) (rI (fun _ j => j ≠ 0 ∧ j.natAbs.log2 < 9000) fun i j => .int (i.fdiv j)) := opI fun _ _ _ _ _ _ _ hc q => floordiv_int hc.1 q (.inl (PyProof.noPylong_of_log2 hc.2))
def mulD : D → D → Sto → R D := int2 mulC fun i j => i * j
def fdivD : D → D → Sto → R D := int2 fdivC fun i j => i.fdiv j
def modD : D → D → Sto → R D := int2 modC fun i j => i.fmod j
def powD : D → D → Sto → R D := int2 shC fun i j => i ^ j.toNat
def shlD : D → D → Sto → R D := int2 shC fun i j => i * 2 ^ j.toNat
def shrD : D → D → Sto → R D := int2 (fun _ j => decide (0 ≤ j)) fun i j => i / 2 ^ j.toNat
def andD : D → D → Sto → R D := int2 (fun _ _ => true) Builtin.bitAnd
def orD : D → D → Sto → R D := int2 (fun _ _ => true) Builtin.bitOr
def xorD : D → D → Sto → R D := int2 (fun _ _ => true) Builtin.bitXor
theorem d_mul : OpR X (binaryOp .Mult) (rD2 X.K ca mulD) := d_int2 op_mulA fun i j h => by
  unfold mulC at h
  rcases Bool.or_eq_true _ _ |>.mp h with h | h
  · have h' := of_decide_eq_true h
    exact .inl h'
  · rcases Bool.or_eq_true _ _ |>.mp h with h | h
    · exact .inr (.inl (of_decide_eq_true h))
    · exact .inr (.inr (of_decide_eq_true h))
theorem d_fdiv : OpR X (binaryOp .FloorDiv) (rD2 X.K ca fdivD) := d_int2 op_fdivA fun i j h => by
  have := Bool.and_eq_true _ _ |>.mp h
  exact ⟨of_decide_eq_true this.1, of_decide_eq_true this.2⟩
theorem d_mod : OpR X (binaryOp .Mod) (rD2 X.K ca modD) := d_int2 op_modN fun i j h => of_decide_eq_true h
theorem d_pow : OpR X (binaryOp .Pow) (rD2 X.K ca powD) := d_int2 op_pow fun i j h => by have h' := of_decide_eq_true h; exact h'
theorem d_shl : OpR X (binaryOp .LShift) (rD2 X.K ca shlD) := d_int2 op_shl fun i j h => by have h' := of_decide_eq_true h; exact h'
theorem d_shr : OpR X (binaryOp .RShift) (rD2 X.K ca shrD) := d_int2 op_shr fun i j h => of_decide_eq_true h
theorem d_and : OpR X (binaryOp .BitAnd) (rD2 X.K ca andD) := d_int20 op_and
theorem d_or : OpR X (binaryOp .BitOr) (rD2 X.K ca orD) := d_int20 op_or
theorem d_xor : OpR X (binaryOp .BitXor) (rD2 X.K ca xorD) := d_int20 op_xor
def negD : D → Sto → R D
  | .int i, st => .ok (.int (-i)) st
  | _, _ => .bad
theorem d_neg : UnR X (unaryOp .USub) (rD1 X.K ca negD) := by
  intro pins s σ H x v Q I rx ⟨α, st, α0, N0, H0, dx, W, L, xt, r1, p⟩
  cases r1 <;> try exact False.elim p
  exact un_neg pins s σ H _ v Q I rx ⟨_, rfl, p α H _ xt L (.int _)⟩

/-! ### comparisons -/
def cmpI (g : Int → Int → Bool) : D → D → Sto → R D
  | .int i, .int j, st => .ok (.bl (g i j)) st
  | _, _, _ => .bad
theorem cmpI_bool (g : Int → Int → Bool) : BoolOp (cmpI g) := by
  intro x y st
  cases x <;> cases y <;> first | exact .inl ⟨_, rfl⟩ | exact .inr rfl
theorem d_cmpI {op : CmpOp} {g : Int → Int → Bool} (h : OpR X (compareOp op) (rI0 fun i j => .bl (g i j))) : OpR X (compareOp op) (rD2 X.K ca (cmpI g)) := by
  intro pins s σ H x y v u Q I rx ry ⟨α, st, α0, N0, H0, dx, dy, W, L, xt, r1, r2, p⟩
  cases r1 <;> cases r2 <;> try exact False.elim p
  exact h pins s σ H _ _ v u Q I rx ry ⟨_, _, rfl, rfl, p α H _ xt L (.bl _)⟩
def ltD := cmpI fun i j => decide (i < j)
def leD := cmpI fun i j => decide (i ≤ j)
def gtD := cmpI fun i j => decide (j < i)
def geD := cmpI fun i j => decide (j ≤ i)
theorem d_lt : OpR X (compareOp .Lt) (rD2 X.K ca ltD) := d_cmpI op_lt
theorem d_le : OpR X (compareOp .LtE) (rD2 X.K ca leD) := d_cmpI op_le
theorem d_gt : OpR X (compareOp .Gt) (rD2 X.K ca gtD) := d_cmpI op_gt
theorem d_ge : OpR X (compareOp .GtE) (rD2 X.K ca geD) := d_cmpI op_ge
def isND : D → D → Sto → R D
  | x, .non, st => .ok (.bl (match x with | .non => true | _ => false)) st
  | _, _, _ => .bad
def notND : D → D → Sto → R D
  | x, .non, st => .ok (.bl (match x with | .non => false | _ => true)) st
  | _, _, _ => .bad
theorem d_isN : OpR X (compareOp .Is) (rD2 X.K ca isND) := by
  intro pins s σ H x y v u Q I rx ry ⟨α, st, α0, N0, H0, dx, dy, W, L, xt, r1, r2, p⟩
  cases r2 <;> try exact False.elim p
  refine op_isN pins s σ H _ _ v u Q I rx ry ⟨rfl, ?_⟩
  cases r1 <;> exact p α H _ xt L (.bl _)
theorem d_notN : OpR X (compareOp .IsNot) (rD2 X.K ca notND) := by
  intro pins s σ H x y v u Q I rx ry ⟨α, st, α0, N0, H0, dx, dy, W, L, xt, r1, r2, p⟩
  cases r2 <;> try exact False.elim p
  refine op_notN pins s σ H _ _ v u Q I rx ry ⟨rfl, ?_⟩
  cases r1 <;> exact p α H _ xt L (.bl _)

/-! ### == of data -/
mutual
/-- a value as data -/
def pd : D → Option PyData
  | .non => some .none
  | .bl b => some (.bool b)
  | .int i => some (.int i)
  | .str x => some (.str x)
  | .tup xs => (pdAll xs).map .tuple
  | .con xs => (pdAll xs).map .list
  | .loc _ => none
def pdAll : List D → Option (List PyData)
  | [] => some []
  | x :: xs => (pd x).bind fun a => (pdAll xs).map fun r => a :: r
end
mutual
theorem pd_ok {K : Frag} {α : Nat → Addr} {N : Nat} {H : Hp} : ∀ {d : D} {v : V} {a : PyData}, RV K α N H d v → pd d = some a → Dp K H v a
  | _, _, _, .non, e => by simp only [pd, Option.some.injEq] at e; subst e; exact .non
  | _, _, _, .bl b, e => by simp only [pd, Option.some.injEq] at e; subst e; exact .bl b
  | _, _, _, .int i, e => by simp only [pd, Option.some.injEq] at e; subst e; exact .int i
  | _, _, _, .str x, e => by simp only [pd, Option.some.injEq] at e; subst e; exact .str x
  | _, _, _, .tup h r, e => by
    simp only [pd] at e
    obtain ⟨ds, h1, h2⟩ := Option.map_eq_some_iff.mp e
    subst h2
    exact .tup h (pdAll_ok r h1)
  | _, _, _, .con h r, e => by
    simp only [pd] at e
    obtain ⟨ds, h1, h2⟩ := Option.map_eq_some_iff.mp e
    subst h2
    exact .lst h.sq (pdAll_ok r h1)
  | _, _, _, .loc _, e => by simp [pd] at e
theorem pdAll_ok {K : Frag} {α : Nat → Addr} {N : Nat} {H : Hp} : ∀ {d : List D} {v : List V} {a : List PyData}, RVs K α N H d v → pdAll d = some a → DpAll K H v a
  | _, _, _, .nil, e => by simp only [pdAll, Option.some.injEq] at e; subst e; exact .nil
  | _, _, _, .cons h r, e => by
    simp only [pdAll] at e
    obtain ⟨x, h1, h2⟩ := Option.bind_eq_some_iff.mp e
    obtain ⟨y, h3, h4⟩ := Option.map_eq_some_iff.mp h2
    subst h4
    exact .cons (pd_ok h h1) (pdAll_ok r h3)
end
/-- .. a list of the store too -/
def pdS (st : Sto) : D → Option PyData
  | .loc n => match st[n]? with
    | some (.lst xs) => (pdAll xs).map .list
    | _ => none
  | d => pd d
theorem pdS_ok {K : Frag} {α : Nat → Addr} {st : Sto} {H : Hp} {d : D} {v : V} {a : PyData} (L : Lk K ca α st H) (r : RV K α st.length H d v) (e : pdS st d = some a) : Dp K H v a := by
  cases r with
  | loc h =>
    rename_i n
    unfold pdS at e
    dsimp only at e
    split at e
    · rename_i xs q
      obtain ⟨vs, h1, h2⟩ := lk_lst L q
      obtain ⟨ds, h3, h4⟩ := Option.map_eq_some_iff.mp e
      subst h4
      exact .lst (.inl (.inl h1)) (pdAll_ok h2 h3)
    · cases e
  | _ => exact pd_ok (α := α) (N := st.length) (by constructor <;> assumption) e
def scalD : D → D → Bool
  | .int _, .int _ => true | .bl _, .bl _ => true | .str _, .str _ => true | .non, .non => true
  | .int _, .non => true | .non, .int _ => true | .str _, .non => true | .non, .str _ => true | .bl _, .non => true | .non, .bl _ => true
  | .int _, .str _ => true | .str _, .int _ => true | .bl _, .str _ => true | .str _, .bl _ => true
  | _, _ => false
def eqS : D → D → Bool
  | .int i, .int j => decide (i = j) | .bl i, .bl j => decide (i = j) | .str i, .str j => decide (i = j) | .non, .non => true
  | _, _ => false
/-- whether two values are equal, where that is told -/
def eqO (x y : D) (st : Sto) : Option Bool :=
  if scalD x y = true then some (eqS x y) else
  match pdS st x, pdS st y with
  | some a, some b => if SeqAt.shaped a = true ∧ SeqAt.shaped b = true then some (PyData.eqv a b) else none
  | _, _ => none
def eqD : D → D → Sto → R D := fun x y st => match eqO x y st with
  | some b => .ok (.bl b) st
  | none => .bad
def neD : D → D → Sto → R D := fun x y st => match eqO x y st with
  | some b => .ok (.bl (!b)) st
  | none => .bad
theorem scalD_eq {K : Frag} {α : Nat → Addr} {N : Nat} {H : Hp} {dx dy : D} {x y : V} (r1 : RV K α N H dx x) (r2 : RV K α N H dy y) (h : scalD dx dy = true) : scal x y = true ∧ decide (x = y) = eqS dx dy := by
  cases r1 <;> cases r2 <;> first
    | exact absurd h Bool.false_ne_true
    | exact ⟨rfl, by simp [eqS]⟩
theorem d_eqne {op : CmpOp} {f : D → D → Sto → R D} {g : Bool → Bool} (hf : ∀ x y st, f x y st = match eqO x y st with | some b => .ok (.bl (g b)) st | none => .bad)
    (h1 : OpR X (compareOp op) fun x y H Q => scal x y = true ∧ Q (.bl (g (decide (x = y)))) H)
    (h2 : OpR X (compareOp op) fun x y H Q => ∃ d e, Dp X.K H x d ∧ Dp X.K H y e ∧ SeqAt.shaped d = true ∧ SeqAt.shaped e = true ∧ Q (.bl (g (PyData.eqv d e))) H) : OpR X (compareOp op) (rD2 X.K ca f) := by
  intro pins s σ H x y v u Q I rx ry ⟨α, st, α0, N0, H0, dx, dy, W, L, xt, r1, r2, p⟩
  rw [hf] at p
  unfold eqO at p
  by_cases hs : scalD dx dy = true
  · rw [if_pos hs] at p
    obtain ⟨e1, e2⟩ := scalD_eq r1 r2 hs
    exact h1 pins s σ H _ _ v u Q I rx ry ⟨e1, by rw [e2]; exact p α H _ xt L (.bl _)⟩
  · rw [if_neg hs] at p
    cases q1 : pdS st dx with
    | none => rw [q1] at p; exact p.elim
    | some da =>
      cases q2 : pdS st dy with
      | none => rw [q1, q2] at p; exact p.elim
      | some db =>
        rw [q1, q2] at p
        dsimp only at p
        by_cases hz : SeqAt.shaped da = true ∧ SeqAt.shaped db = true
        · rw [if_pos hz] at p
          exact h2 pins s σ H _ _ v u Q I rx ry ⟨da, db, pdS_ok L r1 q1, pdS_ok L r2 q2, hz.1, hz.2, p α H _ xt L (.bl _)⟩
        · rw [if_neg hz] at p
          exact p.elim
theorem d_eq (hu : X.A.units + 64 < cLine) : OpR X (compareOp .Eq) (rD2 X.K ca eqD) := d_eqne (g := fun b => b) (fun _ _ _ => rfl) op_eq (op_eqD hu)
theorem d_ne (hu : X.A.units + 64 < cLine) : OpR X (compareOp .NotEq) (rD2 X.K ca neD) := d_eqne (g := fun b => !b) (fun _ _ _ => rfl) op_ne (op_neD hu)
end
end PM

set_option Elab.async false
set_option linter.all false
set_option maxRecDepth 100000
set_option maxHeartbeats 4000000
/-! PM3: tests, displays, subscripts, built-ins. -/
namespace PM
open PySem PySem.Spec PyProof.Rows L2
section
variable {X : Cx} {ca : Nat → Addr} {W : WX} {a b c : Expr} {ea eb ec : E} {pos : Pos} {es : List Expr} {rest : List Expr}

/-! ### one after another, two result kinds -/
theorem tG_seq {K : Frag} {β γ β' γ' : Type} {rel : Rel β γ} {rel' : Rel β' γ'} {e : Env → Sto → R β} {f : Env → β → Sto → R β'} {σ : L2.St} {H : Hp} {Q : γ' → Hp → Prop} {T : γ → Hp → Prop}
    (h : tG K ca rel' W (fun ρ st => (e ρ st).bind (f ρ)) σ H Q)
    (go : ∀ α st ρ α0 N0 H0 b g H1, At K ca α st H1 ρ σ → Xt K α0 N0 H0 α st.length H1 → rel H0 α st.length H1 b g → Post K ca rel' α0 N0 H0 (fun c d H' => W c d σ H') Q (f ρ b st) → T g H1) :
    tG K ca rel W e σ H T := by
  obtain ⟨α, st, ρ, a, p⟩ := h
  refine ⟨α, st, ρ, a, ?_⟩
  have p : Post K ca rel' α st.length H (fun c d H' => W c d σ H') Q ((e ρ st).bind (f ρ)) := p
  revert p
  cases e ρ st with
  | ok b st1 => exact fun p α1 H1 g x L r => go α1 st1 ρ α st.length H b g H1 (a.later x L) x r p
  | exc c fs st1 => exact fun p => p
  | bad => exact fun p => p

theorem tG_next {K : Frag} {β γ β' γ' : Type} {rel : Rel β γ} {rel' : Rel β' γ'} {e : Env → Sto → R β} {f : β → Sto → R β'} {σ : L2.St} {H0 H1 : Hp} {Q : γ' → Hp → Prop} {T : γ → Hp → Prop} {α α0 : Nat → Addr} {st : Sto} {N0 : Nat} {ρ : Env}
    (a : At K ca α st H1 ρ σ) (x : Xt K α0 N0 H0 α st.length H1) (p : Post K ca rel' α0 N0 H0 (fun c d H' => W c d σ H') Q ((e ρ st).bind f))
    (go : ∀ α2 st2 b g H2, At K ca α2 st2 H2 ρ σ → Xt K α st.length H1 α2 st2.length H2 → Xt K α0 N0 H0 α2 st2.length H2 → rel H1 α2 st2.length H2 b g → Post K ca rel' α0 N0 H0 (fun c d H' => W c d σ H') Q (f b st2) → T g H2) :
    tG K ca rel W e σ H1 T := by
  refine ⟨α, st, ρ, a, ?_⟩
  revert p
  cases e ρ st with
  | ok b st1 => exact fun p α1 H2 g x2 L r => go α1 st1 b g H2 (a.later x2 L) x2 (x.trans x2) r p
  | exc c fs st1 => exact fun p α1 H2 dd x2 L r => p α1 H2 dd (x.trans x2) L r
  | bad => exact fun p => p

/-! ### and, or, not -/
def cAnd (a b : E) : E := fun ρ st => (a ρ st).bind fun x st => match x with
  | .bl true => b ρ st
  | .bl false => .ok (.bl false) st
  | _ => .bad
def cOr (a b : E) : E := fun ρ st => (a ρ st).bind fun x st => match x with
  | .bl false => b ρ st
  | .bl true => .ok (.bl true) st
  | _ => .bad
def cNot (a : E) : E := fun ρ st => (a ρ st).bind fun x st => match x with
  | .bl k => .ok (.bl (!k)) st
  | _ => .bad
theorem qe_one {op} (h : QE X ca W a ea) : QE X ca W (.BoolOp op [a] pos) ea := pe_one h
theorem qe_and (ha : QE X ca W a ea) (hb : QE X ca W (.BoolOp .And (b :: rest) pos) eb) : QE X ca W (.BoolOp .And (a :: b :: rest) pos) (cAnd ea eb) :=
  peW (pe_and ha hb) fun σ H Q h => tG_seq h fun α st ρ α0 N0 H0 d v H1 at1 x r p => by
    cases r <;> try exact False.elim p
    rename_i k
    refine ⟨k, rfl, ?_⟩
    cases k with
    | true => rw [if_pos rfl]; exact ⟨α, st, ρ, at1, Post.later relV_ok x p⟩
    | false => exact p α H1 _ x at1.lk (.bl false)
theorem qe_or (ha : QE X ca W a ea) (hb : QE X ca W (.BoolOp .Or (b :: rest) pos) eb) : QE X ca W (.BoolOp .Or (a :: b :: rest) pos) (cOr ea eb) :=
  peW (pe_or ha hb) fun σ H Q h => tG_seq h fun α st ρ α0 N0 H0 d v H1 at1 x r p => by
    cases r <;> try exact False.elim p
    rename_i k
    refine ⟨k, rfl, ?_⟩
    cases k with
    | false => rw [if_neg Bool.false_ne_true]; exact ⟨α, st, ρ, at1, Post.later relV_ok x p⟩
    | true => exact p α H1 _ x at1.lk (.bl true)
theorem qe_not (ha : QE X ca W a ea) : QE X ca W (.UnaryOp .Not a pos) (cNot ea) :=
  peW (pe_not ha) fun σ H Q h => tG_seq h fun α st ρ α0 N0 H0 d v H1 at1 x r p => by
    cases r <;> try exact False.elim p
    exact ⟨_, rfl, p α H1 _ x at1.lk (.bl _)⟩
variable {ta tb tc : ET}
def tAndD (a b : ET) : ET := fun ρ st => (a ρ st).bind fun k st => match k with
  | true => b ρ st
  | false => .ok false st
def tOrD (a b : ET) : ET := fun ρ st => (a ρ st).bind fun k st => match k with
  | true => .ok true st
  | false => b ρ st
def tNotD (a : ET) : ET := fun ρ st => (a ρ st).bind fun k st => .ok (!k) st
theorem qt_w (h : QW X ca W a ta) : QT X ca W a ta := h.pt
theorem qw_and1 (h : QT X ca W a ta) : QW X ca W (.BoolOp .And [a] pos) ta := pw_and1 h
theorem qw_or1 (h : QT X ca W a ta) : QW X ca W (.BoolOp .Or [a] pos) ta := pw_or1 h
theorem qw_and (ha : QT X ca W a ta) (hb : QW X ca W (.BoolOp .And (b :: rest) pos) tb) : QW X ca W (.BoolOp .And (a :: b :: rest) pos) (tAndD ta tb) :=
  pwW (pw_and ha hb) fun σ H Q h => tG_seq h fun α st ρ α0 N0 H0 k k' H1 at1 x r p => by
    cases r
    cases k with
    | true => rw [if_pos rfl]; exact ⟨α, st, ρ, at1, Post.later relB_ok x p⟩
    | false => rw [if_neg Bool.false_ne_true]; exact p α H1 _ x at1.lk rfl
theorem qw_or (ha : QT X ca W a ta) (hb : QW X ca W (.BoolOp .Or (b :: rest) pos) tb) : QW X ca W (.BoolOp .Or (a :: b :: rest) pos) (tOrD ta tb) :=
  pwW (pw_or ha hb) fun σ H Q h => tG_seq h fun α st ρ α0 N0 H0 k k' H1 at1 x r p => by
    cases r
    cases k with
    | false => rw [if_neg Bool.false_ne_true]; exact ⟨α, st, ρ, at1, Post.later relB_ok x p⟩
    | true => rw [if_pos rfl]; exact p α H1 _ x at1.lk rfl
theorem qt_not (ha : QT X ca W a ta) : QT X ca W (.UnaryOp .Not a pos) (tNotD ta) :=
  ptW (pt_not ha) fun σ H Q h => tG_seq h fun α st ρ α0 N0 H0 k k' H1 at1 x r p => by
    cases r
    exact p α H1 _ x at1.lk rfl
/-- a value's truth -/
def truD : D → Sto → R Bool
  | .non, st => .ok false st
  | .bl b, st => .ok b st
  | .int i, st => .ok (i != 0) st
  | .str y, st => if y.length ≤ sizeLine then .ok ((y.length : Int) != 0) st else .bad
  | .tup xs, st => .ok (!xs.isEmpty) st
  | .con xs, st => .ok (!xs.isEmpty) st
  | .loc n, st => match st[n]? with
    | some (.lst xs) => .ok (!xs.isEmpty) st
    | some (.dct xs) => .ok (!xs.isEmpty) st
    | _ => .bad
theorem RVs.isEmpty {K : Frag} {α : Nat → Addr} {N : Nat} {H : Hp} {d : List D} {v : List V} (r : RVs K α N H d v) : d.isEmpty = v.isEmpty := by cases r <;> rfl
theorem RKs.length {K : Frag} {α : Nat → Addr} {N : Nat} {H : Hp} {κ : Type} : ∀ {d : List (κ × D)} {v : List (κ × V)}, RKs K α N H d v → d.length = v.length
  | _, _, .nil => rfl
  | _, _, .cons _ r => congrArg (· + 1) r.length
theorem RKs.isEmpty {K : Frag} {α : Nat → Addr} {N : Nat} {H : Hp} {κ : Type} {d : List (κ × D)} {v : List (κ × V)} (r : RKs K α N H d v) : d.isEmpty = v.isEmpty := by cases r <;> rfl
def cTru (e : E) : ET := fun ρ st => (e ρ st).bind fun x st => truD x st
theorem qt_truth (ha : QE X ca W a ea) (he : ∀ whole, isTrue a X.env whole = (do let v ← whole; standAt a.pos; holding [v] (truthy v)) := by intro _; rfl) : QT X ca W a (cTru ea) :=
  ptW (pt_truth ha he) fun σ H Q h => tG_seq h fun α st ρ α0 N0 H0 d v H1 at1 x r p => by
    cases r with
    | non => exact ⟨false, rfl, p α H1 _ x at1.lk rfl⟩
    | bl b => exact ⟨b, rfl, p α H1 _ x at1.lk rfl⟩
    | int i => exact ⟨_, rfl, p α H1 _ x at1.lk rfl⟩
    | str y =>
      simp only [truD] at p
      split at p
      · rename_i hy
        exact ⟨_, ⟨hy, rfl⟩, p α H1 _ x at1.lk rfl⟩
      · exact p.elim
    | tup h r => exact ⟨_, .inr (.inl ⟨_, h, rfl⟩), p α H1 _ x at1.lk (congrArg (!·) r.isEmpty)⟩
    | con h r => exact ⟨_, .inl ⟨_, h.sq, rfl⟩, p α H1 _ x at1.lk (congrArg (!·) r.isEmpty)⟩
    | loc hn =>
      simp only [truD] at p
      split at p
      · rename_i xs e
        obtain ⟨vs, h1, q1⟩ := lk_lst at1.lk e
        exact ⟨_, .inl ⟨_, .inl (.inl h1), rfl⟩, p α H1 _ x at1.lk (congrArg (!·) q1.isEmpty)⟩
      · rename_i xs e
        obtain ⟨ho, h1, q1⟩ := at1.lk.at_ _ _ e
        cases q1 with
        | dct q1 => exact ⟨_, .inr (.inr ⟨_, h1, rfl⟩), p α H1 _ x at1.lk (congrArg (!·) q1.isEmpty)⟩
      · exact p.elim
/-- a if t else b -/
def cIf (t : ET) (a b : E) : E := fun ρ st => (t ρ st).bind fun k st => match k with
  | true => a ρ st
  | false => b ρ st
theorem qe_if (ht : QT X ca W c tc) (ha : QE X ca W a ea) (hb : QE X ca W b eb) : QE X ca W (.IfExp c a b pos) (cIf tc ea eb) :=
  peW (pe_ifExp ht ha hb) fun σ H Q h => tG_seq h fun α st ρ α0 N0 H0 k k' H1 at1 x r p => by
    cases r
    cases k with
    | true => rw [if_pos rfl]; exact ⟨α, st, ρ, at1, Post.later relV_ok x p⟩
    | false => rw [if_neg Bool.false_ne_true]; exact ⟨α, st, ρ, at1, Post.later relV_ok x p⟩

/-! ### argument lists, displays -/
def cArgs : List E → EL
  | [] => fun _ st => .ok [] st
  | e :: r => fun ρ st => (e ρ st).bind fun x st => (cArgs r ρ st).bind fun xs st => .ok (x :: xs) st
theorem cArgs_length : ∀ {es : List E} {ρ : Env} {st st' : Sto} {xs : List D}, cArgs es ρ st = .ok xs st' → xs.length = es.length
  | [], ρ, st, st', xs, h => by simp only [cArgs, R.ok.injEq] at h; rw [← h.1]; rfl
  | e :: r, ρ, st, st', xs, h => by
    simp only [cArgs] at h
    cases q : e ρ st with
    | ok x st1 =>
      rw [q, R.bind_ok] at h
      cases q2 : cArgs r ρ st1 with
      | ok ys st2 =>
        rw [q2, R.bind_ok] at h
        simp only [R.ok.injEq] at h
        rw [← h.1, List.length_cons, List.length_cons, cArgs_length q2]
      | exc _ _ _ => rw [q2] at h; cases h
      | bad => rw [q2] at h; cases h
    | exc _ _ _ => rw [q] at h; cases h
    | bad => rw [q] at h; cases h
theorem qa_nil : QA X ca W [] (cArgs []) := paW pa_nil fun σ H Q ⟨α, st, ρ, a, p⟩ => p α H [] .refl a.lk .nil
theorem qa_cons {e : Expr} {ee : E} {ees : List E} (h1 : QE X ca W e ee) (h2 : QA X ca W es (cArgs ees)) (hs : starEach (e :: es) X.env = (false, eval e X.env) :: starEach es X.env := by rfl) : QA X ca W (e :: es) (cArgs (ee :: ees)) :=
  paW (pa_cons h1 h2 hs) fun σ H Q ⟨α, st, ρ, a, p⟩ => tG_next a .refl p fun α1 st1 d v H1 a1 _ x1 r1 p1 =>
    tG_next a1 x1 p1 fun α2 st2 ds vs H2 a2 x2 xb r2 p2 => p2 α2 H2 _ xb a2.lk (.cons (RV.mono x2.toGr r1) r2)
/-- a tuple that is written out -/
def cTup (es : List E) : E := fun ρ st => (cArgs es ρ st).bind fun xs st => .ok (.tup xs) st
theorem tG_next2 {K : Frag} {β γ β' γ' : Type} {rel : Rel β γ} {rel' : Rel β' γ'} {e : Env → Sto → R β} {f : β → Sto → R β'} {σ : L2.St} {H0 H1 : Hp} {Q : γ' → Hp → Prop} {T : γ → Hp → Prop} {α α0 : Nat → Addr} {st : Sto} {N0 : Nat} {ρ : Env}
    (a : At K ca α st H1 ρ σ) (x : Xt K α0 N0 H0 α st.length H1) (p : Post K ca rel' α0 N0 H0 (fun c d H' => W c d σ H') Q ((e ρ st).bind f))
    (go : ∀ α2 st2 b g H2, e ρ st = .ok b st2 → At K ca α2 st2 H2 ρ σ → Xt K α0 N0 H0 α2 st2.length H2 → rel H1 α2 st2.length H2 b g → Post K ca rel' α0 N0 H0 (fun c d H' => W c d σ H') Q (f b st2) → T g H2) :
    tG K ca rel W e σ H1 T := by
  refine ⟨α, st, ρ, a, ?_⟩
  cases q : e ρ st with
  | ok b st1 => rw [q] at p; exact fun α1 H2 g x2 L r => go α1 st1 b g H2 q (a.later x2 L) (x.trans x2) r p
  | exc c fs st1 => rw [q] at p; exact fun α1 H2 dd x2 L r => p α1 H2 dd (x.trans x2) L r
  | bad => rw [q] at p; exact p
theorem qe_tup {x1} {ees : List E} (h : QA X ca W es (cArgs ees)) (hz : ees.length ≤ 1000 := by decide) : QE X ca W (.Tuple es x1 pos) (cTup ees) :=
  peW (pe_tup h) fun σ H Q ⟨α, st, ρ, a, p⟩ => tG_next2 a .refl p fun α1 st1 ds vs H1 q a1 x1 r1 p1 => by
    have e := cArgs_length q
    have e2 := RVs.length r1
    refine ⟨by rw [sizeLine_eq]; omega, fun p hp => fin_tup p1 x1 a1.lk r1 hp⟩
/-- a list that is written out: no name holds it yet -/
def cLst (es : List E) : EL := cArgs es
theorem fin_new {K : Frag} {α α0 : Nat → Addr} {st : Sto} {N0 : Nat} {H H0 : Hp} {W : XK} {Q : VK} {xs : List D} {vs : List V} {p : Addr} (q : Post K ca (relL K) α0 N0 H0 W Q (.ok xs st)) (xt : Xt K α0 N0 H0 α st.length H) (L : Lk K ca α st H)
    (r : RVs K α st.length H xs vs) (hp : H p = none) : Q (.ref p) (upd H p (.lst vs)) :=
  q α _ _ (xt.trans (xt_new hp)) (L.temp hp) ⟨p, vs, rfl, xt.fresh hp, upd_same, r.mono (xt_new hp).toGr, fun n hn e => by
    obtain ⟨x, hx⟩ := L.there hn
    rw [e, hp] at hx; cases hx⟩
theorem bindok {β : Type} (r : R β) : r.bind (fun x st => .ok x st) = r := by cases r <;> rfl
theorem ql_lst {ees : List E} (h : QA X ca W es (cArgs ees)) (hz : ees.length ≤ 1000 := by decide) : QL X ca W (.List es pos) (cLst ees) :=
  peW (pe_lst h) fun σ H Q ⟨α, st, ρ, a, p⟩ => by
    have p : Post X.K ca (relL X.K) α st.length H (fun c d H' => W c d σ H') Q ((cArgs ees ρ st).bind fun xs st => .ok xs st) := by rw [bindok]; exact p
    refine tG_next2 a .refl p fun α1 st1 ds vs H1 q a1 x1 r1 p1 => ?_
    have e := cArgs_length q
    have e2 := RVs.length r1
    exact ⟨by rw [sizeLine_eq]; omega, fun p hp => fin_new p1 x1 a1.lk r1 hp⟩
/-- a list in passing is kept -/
def cNew (e : EL) : E := fun ρ st => (e ρ st).bind fun xs st => .ok (.loc st.length) (st ++ [.lst xs])
theorem qe_new {e : EL} (h : QL X ca W a e) : QE X ca W a (cNew e) :=
  peW h fun σ H Q ⟨α, st, ρ, at0, p⟩ => tG_next2 at0 .refl p fun α1 st1 ds v H1 q a1 x1 r1 p1 => by
    obtain ⟨p, vs, rfl, h0, h1, r, hn⟩ := r1
    obtain ⟨L2, x2⟩ := a1.lk.adopt h1 hn (.lst r) x1 h0
    refine p1 _ H1 _ x2 L2 ?_
    have e : V.ref p = V.ref (ext α1 st1.length p st1.length) := by rw [ext_at]
    rw [e]
    exact .loc (by simp)

/-! ### what is read as a list: a tuple, a list, a list in passing -/
def relS (K : Frag) : Rel (List D) V := fun _ α N H xs v => ∃ p vs, v = .ref p ∧ (SqL K H p vs ∨ SqT K H p vs) ∧ RVs K α N H xs vs
theorem relS_ok {K : Frag} : RelOk (relS K) K := fun _ _ _ _ _ _ _ _ _ _ _ _ _ h => h
def QS (X : Cx) (ca : Nat → Addr) (W : WX) (x : Expr) (e : EL) : Prop := PE X x (tG X.K ca (relS X.K) W e)
def seqD : D → Sto → R (List D)
  | .tup xs, st => .ok xs st
  | .con xs, st => .ok xs st
  | .loc n, st => match st[n]? with
    | some (.lst xs) => .ok xs st
    | _ => .bad
  | _, _ => .bad
def cSeq (e : E) : EL := fun ρ st => (e ρ st).bind seqD
theorem qs_e (h : QE X ca W a ea) : QS X ca W a (cSeq ea) :=
  peW h fun σ H Q ⟨α, st, ρ, a, p⟩ => tG_next a .refl p fun α1 st1 d v H1 a1 _ x1 r1 p1 => by
    cases r1 <;> try exact False.elim p1
    · rename_i h r
      exact p1 α1 H1 _ x1 a1.lk ⟨_, _, rfl, .inr h, r⟩
    · rename_i h r
      exact p1 α1 H1 _ x1 a1.lk ⟨_, _, rfl, .inl h.sq, r⟩
    · simp only [seqD] at p1
      split at p1
      · rename_i xs e
        obtain ⟨vs, h1, q1⟩ := lk_lst a1.lk e
        exact p1 α1 H1 _ x1 a1.lk ⟨_, _, rfl, .inl (.inl (.inl h1)), q1⟩
      · exact p1.elim
theorem qs_l {e : EL} (h : QL X ca W a e) : QS X ca W a e :=
  peW h fun σ H Q ⟨α, st, ρ, a, p⟩ => by
    refine ⟨α, st, ρ, a, ?_⟩
    revert p
    cases e ρ st with
    | ok xs st1 =>
      intro p α1 H1 v x1 L r
      obtain ⟨q, vs, rfl, h0, h1, r, hn⟩ := r
      exact p α1 H1 _ x1 L ⟨q, vs, rfl, .inl (.inl (.inl h1)), r⟩
    | exc c fs st1 => exact fun p => p
    | bad => exact fun p => p

/-! ### built-ins of one argument -/
variable {r : List V → Hp → VK → Prop} {x : Str} {p0 : Pos}
theorem pa1 {t : TE} (h : PE X a t) (hs : starEach [a] X.env = (false, eval a X.env) :: starEach [] X.env := by rfl) : PA X [a] (tCons t tNil) := pa_cons h pa_nil hs
def cB1 {β : Type} (f : D → Sto → R β) (e : E) : Env → Sto → R β := fun ρ st => (e ρ st).bind f
def cS1 {β : Type} (f : List D → Sto → R β) (e : EL) : Env → Sto → R β := fun ρ st => (e ρ st).bind f
/-- a rule for a call by values: of one value; of one thing read as a list -/
def ruleD {β : Type} (K : Frag) (ca : Nat → Addr) (rel : Rel β V) (f : D → Sto → R β) (r : List V → Hp → VK → Prop) : Prop := ∀ α st α0 N0 H0 H W d v (Q : VK), Lk K ca α st H → Xt K α0 N0 H0 α st.length H → RV K α st.length H d v → Post K ca rel α0 N0 H0 W Q (f d st) → r [v] H Q
def ruleS {β : Type} (K : Frag) (ca : Nat → Addr) (rel : Rel β V) (f : List D → Sto → R β) (r : List V → Hp → VK → Prop) : Prop := ∀ α st α0 N0 H0 H W xs p vs (Q : VK), Lk K ca α st H → Xt K α0 N0 H0 α st.length H → (SqL K H p vs ∨ SqT K H p vs) → RVs K α st.length H xs vs → Post K ca rel α0 N0 H0 W Q (f xs st) → r [.ref p] H Q
theorem qb1 {β : Type} {rel : Rel β V} {f : D → Sto → R β} {id : String} (rule : ruleD X.K ca rel f r) (hc : CallR X (.builtin id) r) (ha : QE X ca W a ea) (hg : Gl X x) (hm : X.mg x = none) (hv : bootBuiltins x = some (.builtin id)) (hn : x ≠ "__name__" := by decide) (hdb : (x == ("__debug__" : Str)) = false := by decide)
    (hs : starEach [a] X.env = (false, eval a X.env) :: starEach [] X.env := by rfl) : PE X (.Call (.Name x p0) [a] [] pos) (tG X.K ca rel W (cB1 f ea)) :=
  peW (pe_callB hc hg hm hv (pa1 ha hs) hn hdb hs (by rfl)) fun σ H Q ⟨α, st, ρ, a, p⟩ => tG_next a .refl p fun α1 st1 d v H1 a1 _ x1 r1 p1 => rule _ _ _ _ _ _ _ _ _ _ a1.lk x1 r1 p1
theorem qt1 {β : Type} {rel : Rel β V} {f : D → Sto → R β} {T : String} (rule : ruleD X.K ca rel f r) (hc : CallR X (.type T) r) (ha : QE X ca W a ea) (hg : Gl X x) (hm : X.mg x = none) (hv : bootBuiltins x = some (.type T)) (hn : x ≠ "__name__" := by decide) (hdb : (x == ("__debug__" : Str)) = false := by decide)
    (hs : starEach [a] X.env = (false, eval a X.env) :: starEach [] X.env := by rfl) : PE X (.Call (.Name x p0) [a] [] pos) (tG X.K ca rel W (cB1 f ea)) :=
  peW (pe_callTy hc hg hm hv (pa1 ha hs) hn hdb hs (by rfl)) fun σ H Q ⟨α, st, ρ, a, p⟩ => tG_next a .refl p fun α1 st1 d v H1 a1 _ x1 r1 p1 => rule _ _ _ _ _ _ _ _ _ _ a1.lk x1 r1 p1
theorem qbS {β : Type} {rel : Rel β V} {f : List D → Sto → R β} {id : String} {e : EL} (rule : ruleS X.K ca rel f r) (hc : CallR X (.builtin id) r) (ha : QS X ca W a e) (hg : Gl X x) (hm : X.mg x = none) (hv : bootBuiltins x = some (.builtin id)) (hn : x ≠ "__name__" := by decide) (hdb : (x == ("__debug__" : Str)) = false := by decide)
    (hs : starEach [a] X.env = (false, eval a X.env) :: starEach [] X.env := by rfl) : PE X (.Call (.Name x p0) [a] [] pos) (tG X.K ca rel W (cS1 f e)) :=
  peW (pe_callB hc hg hm hv (pa1 ha hs) hn hdb hs (by rfl)) fun σ H Q ⟨α, st, ρ, a, p⟩ => tG_next a .refl p fun α1 st1 d v H1 a1 _ x1 ⟨q, vs, e, h, r1⟩ p1 => by
    subst e
    exact rule _ _ _ _ _ _ _ _ _ _ _ a1.lk x1 h r1 p1
theorem qtS {β : Type} {rel : Rel β V} {f : List D → Sto → R β} {T : String} {e : EL} (rule : ruleS X.K ca rel f r) (hc : CallR X (.type T) r) (ha : QS X ca W a e) (hg : Gl X x) (hm : X.mg x = none) (hv : bootBuiltins x = some (.type T)) (hn : x ≠ "__name__" := by decide) (hdb : (x == ("__debug__" : Str)) = false := by decide)
    (hs : starEach [a] X.env = (false, eval a X.env) :: starEach [] X.env := by rfl) : PE X (.Call (.Name x p0) [a] [] pos) (tG X.K ca rel W (cS1 f e)) :=
  peW (pe_callTy hc hg hm hv (pa1 ha hs) hn hdb hs (by rfl)) fun σ H Q ⟨α, st, ρ, a, p⟩ => tG_next a .refl p fun α1 st1 d v H1 a1 _ x1 ⟨q, vs, e, h, r1⟩ p1 => by
    subst e
    exact rule _ _ _ _ _ _ _ _ _ _ _ a1.lk x1 h r1 p1

/-- len -/
def lenD : D → Sto → R D
  | .str y, st => if y.length ≤ sizeLine then .ok (.int y.length) st else .bad
  | .tup xs, st => .ok (.int xs.length) st
  | .con xs, st => .ok (.int xs.length) st
  | .loc n, st => match st[n]? with
    | some (.lst xs) => .ok (.int xs.length) st
    | some (.dct xs) => .ok (.int xs.length) st
    | _ => .bad
  | _, _ => .bad
def rLen (X : Cx) : List V → Hp → VK → Prop := fun xs H Q => (∃ x n, xs = [x] ∧ LenV X.K x H n ∧ Q (.int n) H) ∨ ∃ a kvs, xs = [V.ref a] ∧ H a = some (.dK kvs) ∧ Q (.int kvs.length) H
theorem call_lenA : CallR X (.builtin "len") (rLen X) := by
  intro pins s σ H xs us Q I r h
  rcases h with h | h
  · exact call_len pins s σ H xs us Q I r h
  · exact call_lenD pins s σ H xs us Q I r h
theorem rule_len : ruleD X.K ca (relV X.K) lenD (rLen X) := by
  intro α st α0 N0 H0 H W d v Q L xt r p
  cases r <;> try exact False.elim p
  · simp only [lenD] at p
    split at p
    · rename_i h
      exact .inl ⟨_, _, rfl, ⟨h, rfl⟩, p α H _ xt L (.int _)⟩
    · exact p.elim
  · rename_i h r
    exact .inl ⟨_, _, rfl, .inr ⟨_, h, rfl⟩, by rw [← r.length]; exact p α H _ xt L (.int _)⟩
  · rename_i h r
    exact .inl ⟨_, _, rfl, .inl ⟨_, h.sq, rfl⟩, by rw [← r.length]; exact p α H _ xt L (.int _)⟩
  · simp only [lenD] at p
    split at p
    · rename_i xs e
      obtain ⟨vs, h1, q1⟩ := lk_lst L e
      exact .inl ⟨_, _, rfl, .inl ⟨_, .inl (.inl h1), rfl⟩, by rw [← q1.length]; exact p α H _ xt L (.int _)⟩
    · rename_i xs e
      obtain ⟨ho, h1, q1⟩ := L.at_ _ _ e
      cases q1 with
      | dct q1 => exact .inr ⟨_, _, rfl, h1, by rw [← q1.length]; exact p α H _ xt L (.int _)⟩
    · exact p.elim
theorem qe_len (ha : QE X ca W a ea) (hg : Gl X "len") (hm : X.mg "len" = none) (hs : starEach [a] X.env = (false, eval a X.env) :: starEach [] X.env := by rfl) : QE X ca W (.Call (.Name "len" p0) [a] [] pos) (cB1 lenD ea) :=
  qb1 rule_len call_lenA ha hg hm PySem.boot_len (by decide) (by decide) hs
/-- len of a list in passing -/
def lenS : List D → Sto → R D := fun xs st => .ok (.int xs.length) st
theorem rule_lenS : ruleS X.K ca (relV X.K) lenS (rLen X) := by
  intro α st α0 N0 H0 H W xs p vs Q L xt h r q
  refine .inl ⟨_, vs.length, rfl, ?_, by rw [← r.length]; exact q α H _ xt L (.int _)⟩
  rcases h with h | h
  · exact .inl ⟨_, h, rfl⟩
  · exact .inr ⟨_, h, rfl⟩
theorem qe_lenS {e : EL} (ha : QS X ca W a e) (hg : Gl X "len") (hm : X.mg "len" = none) (hs : starEach [a] X.env = (false, eval a X.env) :: starEach [] X.env := by rfl) : QE X ca W (.Call (.Name "len" p0) [a] [] pos) (cS1 lenS e) :=
  qbS rule_lenS call_lenA ha hg hm PySem.boot_len (by decide) (by decide) hs
/-- tuple(xs) -/
def tupS : List D → Sto → R D := fun xs st => .ok (.tup xs) st
theorem rule_tup : ruleS X.K ca (relV X.K) tupS (fun xs H Q => ∃ p ys, xs = [.ref p] ∧ ((SqL X.K H p ys ∧ ∀ l, H l = none → Q (.ref l) (upd H l (.tup ys))) ∨ (SqT X.K H p ys ∧ Q (.ref p) H))) := by
  intro α st α0 N0 H0 H W xs p vs Q L xt h r q
  refine ⟨p, vs, rfl, ?_⟩
  rcases h with h | h
  · exact .inl ⟨h, fun l hl => fin_tup q xt L r hl⟩
  · exact .inr ⟨h, q α H _ xt L (.tup h r)⟩
theorem qe_tuple {e : EL} (ha : QS X ca W a e) (hg : Gl X "tuple") (hm : X.mg "tuple" = none) (hs : starEach [a] X.env = (false, eval a X.env) :: starEach [] X.env := by rfl) : QE X ca W (.Call (.Name "tuple" p0) [a] [] pos) (cS1 tupS e) :=
  qtS rule_tup call_tuple_of ha hg hm (by decide +kernel) (by decide) (by decide) hs
/-- list(xs) -/
def lstS : List D → Sto → R (List D) := fun xs st => .ok xs st
theorem rule_lst : ruleS X.K ca (relL X.K) lstS (fun xs H Q => ∃ p ys, xs = [.ref p] ∧ (SqL X.K H p ys ∨ SqT X.K H p ys) ∧ ∀ l, H l = none → Q (.ref l) (upd H l (.lst ys))) := by
  intro α st α0 N0 H0 H W xs p vs Q L xt h r q
  exact ⟨p, vs, rfl, h, fun l hl => fin_new q xt L r hl⟩
theorem ql_list {e : EL} (ha : QS X ca W a e) (hg : Gl X "list") (hm : X.mg "list" = none) (hs : starEach [a] X.env = (false, eval a X.env) :: starEach [] X.env := by rfl) : QL X ca W (.Call (.Name "list" p0) [a] [] pos) (cS1 lstS e) :=
  qtS rule_lst call_list_of ha hg hm (by decide +kernel) (by decide) (by decide) hs
/-- int(x) -/
def intD : D → Sto → R D
  | .int i, st => .ok (.int i) st
  | .bl k, st => .ok (.int (if k then 1 else 0)) st
  | _, _ => .bad
theorem rule_int : ruleD X.K ca (relV X.K) intD (fun xs H Q => (∃ i, xs = [.int i] ∧ Q (.int i) H) ∨ ∃ k, xs = [.bl k] ∧ Q (.int (if k then 1 else 0)) H) := by
  intro α st α0 N0 H0 H W d v Q L xt r p
  cases r <;> try exact False.elim p
  · exact .inr ⟨_, rfl, p α H _ xt L (.int _)⟩
  · exact .inl ⟨_, rfl, p α H _ xt L (.int _)⟩
theorem qe_intOf (ha : QE X ca W a ea) (hg : Gl X "int") (hm : X.mg "int" = none) (hs : starEach [a] X.env = (false, eval a X.env) :: starEach [] X.env := by rfl) : QE X ca W (.Call (.Name "int" p0) [a] [] pos) (cB1 intD ea) :=
  qt1 rule_int call_int1 ha hg hm (by decide +kernel) (by decide) (by decide) hs
/-- abs(x) -/
def absD : D → Sto → R D
  | .int i, st => .ok (.int (if i < 0 then -i else i)) st
  | _, _ => .bad
theorem rule_abs : ruleD X.K ca (relV X.K) absD (fun xs H Q => ∃ i, xs = [.int i] ∧ Q (.int (if i < 0 then -i else i)) H) := by
  intro α st α0 N0 H0 H W d v Q L xt r p
  cases r <;> try exact False.elim p
  exact ⟨_, rfl, p α H _ xt L (.int _)⟩
theorem qe_abs (ha : QE X ca W a ea) (hg : Gl X "abs") (hm : X.mg "abs" = none) (hs : starEach [a] X.env = (false, eval a X.env) :: starEach [] X.env := by rfl) : QE X ca W (.Call (.Name "abs" p0) [a] [] pos) (cB1 absD ea) :=
  qb1 rule_abs call_abs ha hg hm (by decide +kernel) (by decide) (by decide) hs
end
end PM

set_option Elab.async false
set_option linter.all false
set_option maxRecDepth 100000
set_option maxHeartbeats 4000000
/-! PM4: subscripts, slices, attributes, in, more built-ins. -/
namespace PM
open PySem PySem.Spec PyProof.Rows L2

/-! ### dicts as lists of pairs -/
section
variable {κ : Type} [DecidableEq κ]
def valD (kvs : List (κ × D)) (k : κ) : Option D := (kvs.find? fun kv => decide (kv.1 = k)).map (·.2)
def putD (kvs : List (κ × D)) (k : κ) (v : D) : List (κ × D) :=
  if kvs.any (fun kv => decide (kv.1 = k)) then kvs.map fun kv => if kv.1 = k then (kv.1, v) else kv else kvs ++ [(k, v)]
def dropD (kvs : List (κ × D)) (k : κ) : List (κ × D) := kvs.filter fun kv => decide (kv.1 ≠ k)
variable {K : Frag} {α : Nat → Addr} {N : Nat} {H : Hp}
theorem RKs.val (k : κ) : ∀ {d : List (κ × D)} {v : List (κ × V)}, RKs K α N H d v → (valD d k = none ∧ valV v k = none) ∨ ∃ x y, valD d k = some x ∧ valV v k = some y ∧ RV K α N H x y
  | _, _, .nil => .inl ⟨rfl, rfl⟩
  | _, _, .cons (k := k') (d := d) (v := v) (xs := xs) (vs := vs) h r => by
    by_cases e : k' = k
    · refine .inr ⟨d, v, ?_, ?_, h⟩
      · simp [valD, List.find?_cons, e]
      · simp [valV, List.find?_cons, e]
    · have e1 : valD ((k', d) :: xs) k = valD xs k := by simp [valD, List.find?_cons, e]
      have e2 : valV ((k', v) :: vs) k = valV vs k := by simp [valV, List.find?_cons, e]
      rw [e1, e2]
      exact RKs.val k r
theorem RKs.any (k : κ) : ∀ {d : List (κ × D)} {v : List (κ × V)}, RKs K α N H d v → (d.any fun kv => decide (kv.1 = k)) = v.any fun kv => decide (kv.1 = k)
  | _, _, .nil => rfl
  | _, _, .cons h r => by rw [List.any_cons, List.any_cons, RKs.any k r]
theorem RKs.append : ∀ {d e : List (κ × D)} {v w : List (κ × V)}, RKs K α N H d v → RKs K α N H e w → RKs K α N H (d ++ e) (v ++ w)
  | _, _, _, _, .nil, s => s
  | _, _, _, _, .cons r t, s => .cons r (RKs.append t s)
theorem RKs.repl (k : κ) {x : D} {y : V} (q : RV K α N H x y) : ∀ {d : List (κ × D)} {v : List (κ × V)}, RKs K α N H d v → RKs K α N H (d.map fun kv => if kv.1 = k then (kv.1, x) else kv) (v.map fun kv => if kv.1 = k then (kv.1, y) else kv)
  | _, _, .nil => .nil
  | _, _, .cons (k := k') h r => by
    rw [List.map_cons, List.map_cons]
    by_cases e : k' = k
    · simp only [e, if_true]; exact .cons q (RKs.repl k q r)
    · simp only [e, if_false]; exact .cons h (RKs.repl k q r)
theorem RKs.put {d : List (κ × D)} {v : List (κ × V)} (r : RKs K α N H d v) (k : κ) {x : D} {y : V} (q : RV K α N H x y) : RKs K α N H (putD d k x) (putK v k y) := by
  unfold putD putK
  rw [r.any k]
  split
  · exact r.repl k q
  · exact r.append (.cons q .nil)
theorem RKs.drop (k : κ) : ∀ {d : List (κ × D)} {v : List (κ × V)}, RKs K α N H d v → RKs K α N H (dropD d k) (dropK v k)
  | _, _, .nil => .nil
  | _, _, .cons (k := k') h r => by
    have ih := RKs.drop k r
    unfold dropD dropK at ih ⊢
    rw [List.filter_cons, List.filter_cons]
    by_cases e : k' = k
    · rw [if_neg (by simp [e]), if_neg (by simp [e])]; exact ih
    · rw [if_pos (by simp [e]), if_pos (by simp [e])]; exact .cons h ih
theorem RKs.keys : ∀ {d : List (κ × D)} {v : List (κ × V)}, RKs K α N H d v → d.map (·.1) = v.map (·.1)
  | _, _, .nil => rfl
  | _, _, .cons _ r => by rw [List.map_cons, List.map_cons, RKs.keys r]
theorem RKs.get {κ : Type} {d : List (κ × D)} {v : List (κ × V)} (r : RKs K α N H d v) {i : Nat} {k : κ} {x : D} (e : d[i]? = some (k, x)) : ∃ y, v[i]? = some (k, y) ∧ RV K α N H x y := by
  induction r generalizing i with
  | nil => simp at e
  | cons h r ih =>
    cases i with
    | zero => simp at e; obtain ⟨rfl, rfl⟩ := e; exact ⟨_, rfl, h⟩
    | succ i =>
      obtain ⟨y, h1, h2⟩ := ih (i := i) (by simpa using e)
      exact ⟨y, by simpa using h1, h2⟩
end
/-- a field of an instance -/
def fldD (fs : List (Str × D)) (f : Str) : Option D := fs.lookup f
def putFD (f : Str) (v : D) : List (Str × D) → List (Str × D)
  | [] => [(f, v)]
  | (g, x) :: r => if g = f then (g, v) :: r else (g, x) :: putFD f v r
section
variable {K : Frag} {α : Nat → Addr} {N : Nat} {H : Hp}
theorem RKs.fld (f : Str) : ∀ {d : List (Str × D)} {v : List (Str × V)}, RKs K α N H d v → (d.lookup f = none ∧ v.lookup f = none) ∨ ∃ x y, d.lookup f = some x ∧ v.lookup f = some y ∧ RV K α N H x y
  | _, _, .nil => .inl ⟨rfl, rfl⟩
  | _, _, .cons (k := k') h r => by
    simp only [List.lookup]
    by_cases e : f = k'
    · simp only [e, beq_self_eq_true]; exact .inr ⟨_, _, rfl, rfl, h⟩
    · have : (f == k') = false := by simpa using e
      simp only [this]
      exact RKs.fld f r
theorem RKs.putF (f : Str) {x : D} {y : V} (q : RV K α N H x y) : ∀ {d : List (Str × D)} {v : List (Str × V)}, RKs K α N H d v → RKs K α N H (putFD f x d) (L2.putF f y v)
  | _, _, .nil => .cons q .nil
  | _, _, .cons (k := k') h r => by
    unfold putFD L2.putF
    split
    · exact .cons q r
    · exact .cons h (RKs.putF f q r)
end

def keyD : D → Option Key
  | .int i => some (.inl i)
  | .str x => some (.inr x)
  | _ => none
theorem keyD_ok {K : Frag} {α : Nat → Addr} {N : Nat} {H : Hp} {d : D} {v : V} {k : Key} (r : RV K α N H d v) (e : keyD d = some k) : v = kV k := by
  cases r <;> simp only [keyD, Option.some.injEq, reduceCtorEq] at e <;> subst e <;> rfl

/-! ### subscripts -/
theorem subTail_of {prog : Program} {w : World} {A : Around} {E : Value → Shared → Prop} {s : Shared} {value slice : Expr} {o i : Value} {T id : String} {Q : Value → Shared → Prop}
    (hl : typeLookup (.type T) "__getitem__" = pure (some (.builtin id))) (hs : subscripted slice false o i = operate [o, i] (getItem o i)) (hT : s.TypeIs o T)
    (h₂ : wpAny (model prog w) A (getItem o i) Q E s) : wpAny (model prog w) A (subscriptTail value slice o i) Q E s := by
  unfold subscriptTail
  refine wpAny_bind ?_
  rw [getitemInPython_of_ne hT.not_modules]
  refine wpAny_bind (wpAny_specialOf hT hl ?_)
  have fin : wpAny (model prog w) A (subscripted slice false o i) (fun r s₃ => wpAny (model prog w) A (letTemporaryGo value o r >>= fun _ => pure r) Q E s₃) E s := by
    rw [hs]
    exact wpAny_operating (wpAny_mono h₂ (fun r s₃ h₃ => wpAny_bind (wpAny_letTemporaryGo (wpAny_pure h₃))) fun _ _ x => x)
  first
    | exact wpAny_pure (wpAny_bind fin)
    | exact wpAny_bind (wpAny_pure (wpAny_bind fin))
    | exact wpAny_bind fin
section
variable {X : Cx} {ca : Nat → Addr} {W : WX} {a b c : Expr} {ea eb ec : E} {pos : Pos} {es : List Expr} {rest : List Expr} {x : Str} {p0 apos cpos : Pos}
theorem ix_dict (hu : X.A.units + 1 < cLine) : IxR X (fun x y H Q => ∃ a v, x = .ref a ∧ DGet H a y (some v) ∧ Q v H) := by
  intro value slice pins s σ H x y v u Q I rx ry ⟨a, z, e, g, q⟩ hs
  subst e
  cases rx
  exact subTail_of PySem.F.slot_dict_getitem.lookup hs (dict_typeIs I g) (d_getItem hu I g ry fun w' s3 I3 rw' => ⟨z, H, I3, rw', q⟩)
def rIxA (X : Cx) : R2 := fun x y H Q => rIx X.K x y H Q ∨ ∃ a v, x = .ref a ∧ DGet H a y (some v) ∧ Q v H
theorem ix_any (hu : X.A.units + 1 < cLine) : IxR X (rIxA X) := ix_seq.or (ix_dict hu)
def atD (xs : List D) (y : D) (st : Sto) : R D := match y with
  | .int i => match atI xs i with
    | some d => .ok d st
    | none => .bad
  | _ => .bad
def atK (kvs : List (Key × D)) (y : D) (st : Sto) : R D := match keyD y with
  | some k => match valD kvs k with
    | some d => .ok d st
    | none => .bad
  | none => .bad
/-- x[y] -/
def getD : D → D → Sto → R D
  | .tup xs, y, st => atD xs y st
  | .con xs, y, st => atD xs y st
  | .str z, .int i, st => if z.length ≤ sizeLine then match atI z.cps.toList i with
    | some c => .ok (.str ⟨#[c]⟩) st
    | none => .bad else .bad
  | .loc n, y, st => match st[n]? with
    | some (.lst xs) => atD xs y st
    | some (.dct kvs) => atK kvs y st
    | some (.fdc kvs) => atK kvs y st
    | _ => .bad
  | _, _, _ => .bad
theorem atI_rel {K : Frag} {α : Nat → Addr} {N : Nat} {H : Hp} {d : List D} {v : List V} {i : Int} {x : D} (r : RVs K α N H d v) (e : atI d i = some x) : ∃ y, atI v i = some y ∧ RV K α N H x y := by
  unfold atI at e ⊢
  rw [← r.length]
  cases q : ixN d.length i with
  | none => rw [q] at e; cases e
  | some j =>
    rw [q] at e
    exact r.get e
theorem d_get (hu : X.A.units + 1 < cLine) : IxR X (rD2 X.K ca getD) := by
  intro value slice pins s σ H x y v u Q I rx ry ⟨α, st, α0, N0, H0, dx, dy, W, L, xt, r1, r2, p⟩ hs
  refine ix_any hu value slice pins s σ H x y v u Q I rx ry ?_ hs
  have at_ : ∀ {xs : List D} {vs : List V}, RVs X.K α st.length H xs vs → Post X.K ca (relV X.K) α0 N0 H0 W Q (atD xs dy st) → ∃ i z, y = .int i ∧ atI vs i = some z ∧ Q z H := fun {xs vs} r p => by
    unfold atD at p
    cases r2 <;> try exact False.elim p
    rename_i i _
    dsimp only at p
    cases e : atI xs i with
    | none => rw [e] at p; exact p.elim
    | some d =>
      rw [e] at p
      obtain ⟨z, h1, h2⟩ := atI_rel r e
      exact ⟨i, z, rfl, h1, p α H z xt L h2⟩
  have atk : ∀ {kvs : List (Key × D)} {ks : List (Key × V)}, RKs X.K α st.length H kvs ks → Post X.K ca (relV X.K) α0 N0 H0 W Q (atK kvs dy st) → ∃ k z, y = kV k ∧ valV ks k = some z ∧ Q z H := fun {kvs ks} r p => by
    unfold atK at p
    cases e : keyD dy with
    | none => rw [e] at p; exact p.elim
    | some k =>
      rw [e] at p
      dsimp only at p
      rcases r.val k with ⟨e1, _⟩ | ⟨x1, y1, e1, e2, r3⟩
      · rw [e1] at p; exact p.elim
      · rw [e1] at p
        exact ⟨k, y1, keyD_ok r2 e, e2, p α H _ xt L r3⟩
  cases r1 with
  | tup h r =>
    obtain ⟨i, z, e, h1, q⟩ := at_ r p
    exact .inl (.inr (.inl ⟨_, _, _, _, rfl, e, h, h1, q⟩))
  | con h r =>
    obtain ⟨i, z, e, h1, q⟩ := at_ r p
    exact .inl (.inl ⟨_, _, _, _, rfl, e, h.sq, h1, q⟩)
  | str z =>
    cases r2 <;> try exact False.elim p
    rename_i i
    simp only [getD] at p
    split at p
    · rename_i hz
      cases e : atI z.cps.toList i with
      | none => rw [e] at p; exact p.elim
      | some c =>
        rw [e] at p
        exact .inl (.inr (.inr ⟨_, _, _, rfl, rfl, hz, e, p α H _ xt L (.str _)⟩))
    · exact p.elim
  | loc hn =>
    simp only [getD] at p
    split at p
    · rename_i xs e
      obtain ⟨vs, h1, q1⟩ := lk_lst L e
      obtain ⟨i, z, e, h2, q⟩ := at_ q1 p
      exact .inl (.inl ⟨_, _, _, _, rfl, e, .inl (.inl h1), h2, q⟩)
    · rename_i xs e
      obtain ⟨ho, h1, q1⟩ := L.at_ _ _ e
      cases q1 with
      | dct q1 =>
        obtain ⟨k, z, e, h2, q⟩ := atk q1 p
        exact .inr ⟨_, z, rfl, .inl ⟨_, k, .inl h1, e, h2.symm⟩, q⟩
    · rename_i xs e
      obtain ⟨ho, h1, q1⟩ := L.at_ _ _ e
      cases q1 with
      | fdc q1 =>
        obtain ⟨k, z, e, h2, q⟩ := atk q1 p
        exact .inr ⟨_, z, rfl, .inl ⟨_, k, .inr ⟨_, h1⟩, e, h2.symm⟩, q⟩
    · exact p.elim
  | _ => exact False.elim p
theorem qe_ix (hu : X.A.units + 1 < cLine) (ha : QE X ca W a ea) (hb : QE X ca W b eb) (hs : PlainIx b := by intro _ _; rfl) : QE X ca W (.Subscript a b pos) (cOp2 getD ea eb) :=
  peW (pe_ix (d_get hu) ha hb hs) fun σ H Q h => tG_op2 h
/-- a list in passing, at an index -/
def cIxL (e : EL) (b : E) : E := fun ρ st => (e ρ st).bind fun xs st => (b ρ st).bind fun y st => atD xs y st
theorem qe_ixL {e : EL} (ha : QL X ca W a e) (hb : QE X ca W b eb) (hs : PlainIx b := by intro _ _; rfl) : QE X ca W (.Subscript a b pos) (cIxL e eb) :=
  peW (pe_ix ix_seq ha hb hs) fun σ H Q ⟨α, st, ρ, at0, p⟩ => tG_next at0 .refl p fun α1 st1 xs v H1 a1 _ x1 r1 p1 => tG_next a1 x1 p1 fun α2 st2 y u H2 a2 x2 xb r2 p2 => by
    obtain ⟨q, vs, rfl, h0, h1, r, hn⟩ := r1
    have h2 := x2.keep q _ h1 hn
    have r' := RVs.mono x2.toGr r
    unfold atD at p2
    cases r2 <;> try exact False.elim p2
    rename_i i
    dsimp only at p2
    cases e : atI xs i with
    | none => rw [e] at p2; exact p2.elim
    | some d =>
      rw [e] at p2
      obtain ⟨z, h3, h4⟩ := atI_rel r' e
      exact .inl ⟨_, _, _, _, rfl, rfl, .inl (.inl h2), h3, p2 α2 H2 z xb a2.lk h4⟩

/-! ### slices -/
def cutD (xs : List D) (lo hi : Option Int) : List D := (xs.drop (HT.sIx xs.length 0 lo)).take (HT.sIx xs.length xs.length hi - HT.sIx xs.length 0 lo)
theorem RVs.cut {K : Frag} {α : Nat → Addr} {N : Nat} {H : Hp} {d : List D} {v : List V} (r : RVs K α N H d v) (lo hi : Option Int) : RVs K α N H (cutD d lo hi) (cutV v lo hi) := by
  unfold cutD cutV
  rw [r.length]
  exact (r.drop _).take _
abbrev EO := Env → Sto → R (Option Int)
def relO : Rel (Option Int) (Option Int) := fun _ _ _ _ b c => b = c
structure QO (X : Cx) (ca : Nat → Addr) (W : WX) (e : Option Expr) (t : EO) : Prop where
  po : PO X e (tG X.K ca relO W t)
def cNoPart : EO := fun _ st => .ok none st
def cPart (e : E) : EO := fun ρ st => (e ρ st).bind fun x st => match x with
  | .int i => .ok (some i) st
  | _ => .bad
theorem poW {X : Cx} {x : Option Expr} {t t' : TO} (p : PO X x t) (h : ∀ σ H Q, t' σ H Q → t σ H Q) : PO X x t' := ⟨fun pins s σ H Q I q => p.run pins s σ H Q I (h σ H Q q)⟩
theorem qo_none : QO X ca W none cNoPart := ⟨poW po_none fun σ H Q ⟨α, st, ρ, a, p⟩ => p α H none .refl a.lk rfl⟩
theorem qo_some (h : QE X ca W a ea) : QO X ca W (some a) (cPart ea) :=
  ⟨poW (po_some h) fun σ H Q ⟨α, st, ρ, at0, p⟩ => tG_next at0 .refl p fun α1 st1 d v H1 a1 _ x1 r1 p1 => by
    cases r1 <;> try exact False.elim p1
    exact ⟨_, rfl, p1 α1 H1 _ x1 a1.lk rfl⟩⟩
/-- x[lo:hi] -/
def sliceD (x : D) (lo hi : Option Int) (st : Sto) : R D := match x with
  | .tup xs => .ok (.tup (cutD xs lo hi)) st
  | .con xs => .ok (.loc st.length) (st ++ [.lst (cutD xs lo hi)])
  | .str z => if z.length ≤ sizeLine then .ok (.str (cutS z lo hi)) st else .bad
  | .loc n => match st[n]? with
    | some (.lst xs) => .ok (.loc st.length) (st ++ [.lst (cutD xs lo hi)])
    | _ => .bad
  | _ => .bad
def cSlice (e : E) (lo hi : EO) : E := fun ρ st => (e ρ st).bind fun x st => (lo ρ st).bind fun l st => (hi ρ st).bind fun h st => sliceD x l h st
theorem cut_whole (xs : List V) (lo hi : Option Int) (h : HT.sIx xs.length 0 lo = 0 ∧ HT.sIx xs.length xs.length hi = xs.length) : cutV xs lo hi = xs := by
  unfold cutV
  rw [h.1, h.2]
  simp
theorem cutD_whole (xs : List D) (lo hi : Option Int) (h : HT.sIx xs.length 0 lo = 0 ∧ HT.sIx xs.length xs.length hi = xs.length) : cutD xs lo hi = xs := by
  unfold cutD
  rw [h.1, h.2]
  simp
def rSlAny (X : Cx) : V → Option Int → Option Int → Hp → VK → Prop := fun x lo hi H Q => rSlA X.K x lo hi H Q ∨ rSlL X.K x lo hi H Q ∨ rSlS x lo hi H Q
theorem sl_any : SlR X (rSlAny X) := sl_tupA.or (sl_list.or sl_str)
theorem qe_slice {lo hi : Option Expr} {tl th : EO} {p2 : Pos} (ha : QE X ca W a ea) (hl : QO X ca W lo tl) (hh : QO X ca W hi th) : QE X ca W (.Subscript a (.Slice lo hi none p2) pos) (cSlice ea tl th) :=
  peW (pe_slice sl_any ha hl.po hh.po) fun σ H Q ⟨α, st, ρ, at0, p⟩ => tG_next at0 .refl p fun α1 st1 d v H1 a1 _ x1 r1 p1 => tG_next a1 x1 p1 fun α2 st2 l l' H2 a2 x2 xb2 e2 p2 => tG_next a2 xb2 p2 fun α3 st3 h h' H3 a3 x3 xb3 e3 p3 => by
    cases e2
    cases e3
    have r3 := RV.mono (x2.trans x3).toGr r1
    cases r3 <;> try exact False.elim p3
    · rename_i z
      simp only [sliceD] at p3
      split at p3
      · rename_i hz
        exact .inr (.inr ⟨_, rfl, hz, p3 α3 H3 _ xb3 a3.lk (.str _)⟩)
      · exact p3.elim
    · rename_i h0 r0
      refine .inl ⟨_, _, rfl, h0, fun hw => ?_, fun _ q hq => fin_tup p3 xb3 a3.lk (r0.cut _ _) hq⟩
      rw [← r0.length] at hw
      have p4 : Post X.K ca (relV X.K) α st.length H _ Q (.ok (.tup (cutD _ l h)) st3) := p3
      rw [cutD_whole _ _ _ hw] at p4
      exact p4 α3 H3 _ xb3 a3.lk (.tup h0 r0)
    · rename_i h0 r0
      exact .inr (.inl ⟨_, _, rfl, h0.sq, fun q hq => fin_lst p3 xb3 a3.lk (r0.cut _ _) hq⟩)
    · simp only [sliceD] at p3
      split at p3
      · rename_i xs e
        obtain ⟨vs, h1, q1⟩ := lk_lst a3.lk e
        exact .inr (.inl ⟨_, _, rfl, .inl (.inl h1), fun q hq => fin_lst p3 xb3 a3.lk (q1.cut _ _) hq⟩)
      · exact p3.elim

/-! ### attributes -/
/-- what is known of the classes cs: instances of them hold the name f themselves -/
def Flds (X : Cx) (ca : Nat → Addr) (cs : List Nat) (f : Str) : Prop := ∀ c ∈ cs, Cls X.K (ca c) ∧ NoAttr X.K (ca c) f
def fldOf (cs : List Nat) (f : Str) : D → Sto → R D
  | .loc n, st => match st[n]? with
    | some (.ins c fs) => if c ∈ cs then match fs.lookup f with
      | some d => .ok d st
      | none => .bad else .bad
    | _ => .bad
  | _, _ => .bad
theorem lk_ins {K : Frag} {α : Nat → Addr} {st : Sto} {H : Hp} {n c : Nat} {fs : List (Str × D)} (L : Lk K ca α st H) (h : st[n]? = some (.ins c fs)) : ∃ dx gs, H (α n) = some (.ins (ca c) dx gs) ∧ RKs K α st.length H fs gs := by
  obtain ⟨ho, h1, h2⟩ := L.at_ n _ h
  cases h2 with
  | ins r => exact ⟨_, _, h1, r⟩
theorem qe_fld {cs : List Nat} {f : Str} (hc : Flds X ca cs f) (ha : QE X ca W a ea) (hb : attributeBase a f X.env (eval a X.env) = eval a X.env := by rfl) : QE X ca W (.Attribute a f pos) (cB1 (fldOf cs f) ea) :=
  peW (pe_fld ha hb) fun σ H Q ⟨α, st, ρ, at0, p⟩ => tG_next at0 .refl p fun α1 st1 d v H1 a1 _ x1 r1 p1 => by
    cases r1 <;> try exact False.elim p1
    simp only [fldOf] at p1
    split at p1 <;> try exact p1.elim
    rename_i c fs e
    split at p1 <;> try exact p1.elim
    rename_i hcs
    obtain ⟨dx, gs, h1, q1⟩ := lk_ins a1.lk e
    obtain ⟨k1, k2⟩ := hc c hcs
    rcases q1.fld f with ⟨e1, _⟩ | ⟨x2, y2, e1, e2, r2⟩
    · rw [e1] at p1; exact p1.elim
    · rw [e1] at p1
      exact ⟨_, _, _, _, _, rfl, h1, k1, k2, e2, p1 α1 H1 _ x1 a1.lk r2⟩

/-! ### lists put together -/
/-- a list of the store, or one in passing, at the moment -/
def relM (K : Frag) : Rel (List D) V := fun _ α N H xs v => ∃ p vs, v = .ref p ∧ H p = some (.lst vs) ∧ RVs K α N H xs vs
def QM (X : Cx) (ca : Nat → Addr) (W : WX) (x : Expr) (e : EL) : Prop := PE X x (tG X.K ca (relM X.K) W e)
def lstD : D → Sto → R (List D)
  | .loc n, st => match st[n]? with
    | some (.lst xs) => .ok xs st
    | _ => .bad
  | _, _ => .bad
def cLs (e : E) : EL := fun ρ st => (e ρ st).bind lstD
theorem qm_e (h : QE X ca W a ea) : QM X ca W a (cLs ea) :=
  peW h fun σ H Q ⟨α, st, ρ, at0, p⟩ => tG_next at0 .refl p fun α1 st1 d v H1 a1 _ x1 r1 p1 => by
    cases r1 <;> try exact False.elim p1
    simp only [lstD] at p1
    split at p1 <;> try exact p1.elim
    rename_i xs e
    obtain ⟨vs, h1, q1⟩ := lk_lst a1.lk e
    exact p1 α1 H1 _ x1 a1.lk ⟨_, _, rfl, h1, q1⟩
theorem qm_l {e : EL} (h : QL X ca W a e) : QM X ca W a e :=
  peW h fun σ H Q ⟨α, st, ρ, at0, p⟩ => by
    refine ⟨α, st, ρ, at0, ?_⟩
    revert p
    cases e ρ st with
    | ok xs st1 =>
      intro p α1 H1 v x1 L r
      obtain ⟨q, vs, rfl, h0, h1, r, hn⟩ := r
      exact p α1 H1 _ x1 L ⟨q, vs, rfl, h1, r⟩
    | exc c fs st1 => exact fun p => p
    | bad => exact fun p => p
def catL (xs ys : List D) (st : Sto) : R (List D) := if xs.length + ys.length ≤ sizeLine then .ok (xs ++ ys) st else .bad
/-- a list in passing + a list -/
def cCatL (a b : EL) : EL := fun ρ st => (a ρ st).bind fun xs st => (b ρ st).bind fun ys st => catL xs ys st
theorem ql_catL {e1 e2 : EL} (ha : QL X ca W a e1) (hb : QM X ca W b e2) : QL X ca W (.BinOp a .Add b pos) (cCatL e1 e2) :=
  peW (pe_op op_cat ha hb) fun σ H Q ⟨α, st, ρ, at0, p⟩ => tG_next at0 .refl p fun α1 st1 xs v H1 a1 _ x1 r1 p1 => tG_next a1 x1 p1 fun α2 st2 ys u H2 a2 x2 xb r2 p2 => by
    obtain ⟨q, vs, rfl, h0, h1, r, hn⟩ := r1
    obtain ⟨q2, ws, rfl, h3, r3⟩ := r2
    have h2 := x2.keep q _ h1 hn
    have r' := RVs.mono x2.toGr r
    unfold catL at p2
    split at p2 <;> try exact p2.elim
    rename_i hz
    rw [r'.length, r3.length] at hz
    exact ⟨_, _, _, _, rfl, rfl, h2, h3, hz, fun q hq => fin_new p2 xb a2.lk (r'.append r3) hq⟩
/-- a list of the store + a list -/
def cCatE (a : E) (b : EL) : EL := fun ρ st => (a ρ st).bind fun x st => (b ρ st).bind fun ys st => (lstD x st).bind fun xs st => catL xs ys st
theorem ql_catE {e2 : EL} (ha : QE X ca W a ea) (hb : QM X ca W b e2) : QL X ca W (.BinOp a .Add b pos) (cCatE ea e2) :=
  peW (pe_op op_cat ha hb) fun σ H Q ⟨α, st, ρ, at0, p⟩ => tG_next at0 .refl p fun α1 st1 d v H1 a1 _ x1 r1 p1 => tG_next a1 x1 p1 fun α2 st2 ys u H2 a2 x2 xb r2 p2 => by
    obtain ⟨q2, ws, rfl, h3, r3⟩ := r2
    have r1' := RV.mono x2.toGr r1
    cases r1' <;> try exact False.elim p2
    simp only [lstD] at p2
    split at p2 <;> try exact p2.elim
    rename_i xs e
    obtain ⟨vs, h1, q1⟩ := lk_lst a2.lk e
    simp only [R.bind_ok, catL] at p2
    split at p2 <;> try exact p2.elim
    rename_i hz
    rw [q1.length, r3.length] at hz
    exact ⟨_, _, _, _, rfl, rfl, h1, h3, hz, fun q hq => fin_new p2 xb a2.lk (q1.append r3) hq⟩
/-- a list in passing * n -/
def cRepL (a : EL) (b : E) : EL := fun ρ st => (a ρ st).bind fun xs st => (b ρ st).bind fun y st => match y with
  | .int k => if -(2 ^ 63) ≤ k ∧ k < 2 ^ 63 ∧ xs.length * k.toNat ≤ sizeLine then .ok (List.replicate k.toNat xs).flatten st else .bad
  | _ => .bad
theorem ql_rep {e1 : EL} (ha : QL X ca W a e1) (hb : QE X ca W b eb) : QL X ca W (.BinOp a .Mult b pos) (cRepL e1 eb) :=
  peW (pe_op op_rep ha hb) fun σ H Q ⟨α, st, ρ, at0, p⟩ => tG_next at0 .refl p fun α1 st1 xs v H1 a1 _ x1 r1 p1 => tG_next a1 x1 p1 fun α2 st2 y u H2 a2 x2 xb r2 p2 => by
    obtain ⟨q, vs, rfl, h0, h1, r, hn⟩ := r1
    have h2 := x2.keep q _ h1 hn
    have r' := RVs.mono x2.toGr r
    cases r2 <;> try exact False.elim p2
    rename_i k
    dsimp only at p2
    split at p2 <;> try exact p2.elim
    rename_i hz
    rw [r'.length] at hz
    exact ⟨_, _, _, rfl, rfl, h2, hz.1, hz.2.1, hz.2.2, fun q hq => fin_new p2 xb a2.lk (r'.rep _) hq⟩

/-! ### isinstance -/
inductive Ty where | non | bool | int | str | tuple | list | dict
  deriving DecidableEq
def Ty.name : Ty → String
  | .non => "NoneType" | .bool => "bool" | .int => "int" | .str => "str" | .tuple => "tuple" | .list => "list" | .dict => "dict"
def Ty.sub : Ty → Ty → Bool
  | .non, .non => true | .bool, .bool => true | .bool, .int => true | .int, .int => true | .str, .str => true | .tuple, .tuple => true | .list, .list => true | .dict, .dict => true
  | _, _ => false
theorem Ty.kit (a b : Ty) (hb : b ≠ .non) : kitB a.name b.name = some (Ty.sub a b) := by
  cases a <;> cases b <;> first | exact absurd rfl hb | decide +kernel
def tyD : D → Sto → Option Ty
  | .non, _ => some .non | .bl _, _ => some .bool | .int _, _ => some .int | .str _, _ => some .str | .tup _, _ => some .tuple | .con _, _ => some .list
  | .loc n, st => match st[n]? with
    | some (.lst _) => some .list
    | some (.dct _) => some .dict
    | some (.dtt _) => some .dict
    | some (.fdc _) => some .dict
    | _ => none
theorem tyD_ok {K : Frag} {α : Nat → Addr} {st : Sto} {H : Hp} {d : D} {v : V} {t : Ty} (L : Lk K ca α st H) (r : RV K α st.length H d v) (e : tyD d st = some t) : TyX K H v (.type t.name) := by
  cases r with
  | non => cases e; exact .base .non
  | bl b => cases e; exact .base (.bl b)
  | int i => cases e; exact .base (.int i)
  | str x => cases e; exact .base (.str x)
  | tup h r =>
    cases e
    rcases h with (h | ⟨o, h⟩) | ⟨o, its, n, h1, h2, _⟩
    · exact .base (.tup h)
    · exact .fTuple h
    · exact .kTuple h1 h2
  | con h r =>
    cases e
    rcases h with ⟨o, h⟩ | ⟨o, its, n, h1, h2, _⟩
    · exact .base (.frz h)
    · exact .kList h1 h2
  | loc hn =>
    simp only [tyD] at e
    split at e <;> try cases e
    · rename_i xs q
      obtain ⟨ho, h1, q1⟩ := L.at_ _ _ q
      cases q1
      exact .base (.lst h1)
    · rename_i xs q
      obtain ⟨ho, h1, q1⟩ := L.at_ _ _ q
      cases q1
      exact .base (.dK h1)
    · rename_i xs q
      obtain ⟨ho, h1, q1⟩ := L.at_ _ _ q
      cases q1
      exact .base (.dT h1)
    · rename_i xs q
      obtain ⟨ho, h1, q1⟩ := L.at_ _ _ q
      cases q1
      exact .fDict h1
def isiD (c : Ty) : D → Sto → R D := fun d st => match tyD d st with
  | some t => .ok (.bl (Ty.sub t c)) st
  | none => .bad
theorem qe_isi {t : Ty} {tn : Str} {p3 : Pos} (ht : t ≠ .non) (ha : QE X ca W a ea) (hg : Gl X "isinstance") (hm : X.mg "isinstance" = none) (hg2 : Gl X tn) (hm2 : X.mg tn = none) (hv : bootBuiltins tn = some (.type t.name))
    (hn : tn ≠ "__name__" := by decide) (hdb : (tn == ("__debug__" : Str)) = false := by decide)
    (hs : starEach (a :: [.Name tn p3]) X.env = (false, eval a X.env) :: starEach [.Name tn p3] X.env := by rfl) :
    QE X ca W (.Call (.Name "isinstance" p0) [a, .Name tn p3] [] pos) (cB1 (isiD t) ea) :=
  peW (pe_callB call_isi hg hm (by decide +kernel) (pa_cons ha (pa_cons (pe_bltn (v := .ty t.name) hg2 hm2 hv rfl hn hdb) pa_nil (by rfl)) hs) (by decide) (by decide) hs (by rfl)) fun σ H Q ⟨α, st, ρ, at0, p⟩ => tG_next at0 .refl p fun α1 st1 d v H1 a1 _ x1 r1 p1 => by
    unfold isiD at p1
    cases e : tyD d st1 with
    | none => rw [e] at p1; exact p1.elim
    | some t' =>
      rw [e] at p1
      exact ⟨v, .ty t.name, .type t'.name, .type t.name, Ty.sub t' t, rfl, .ty _, tyD_ok a1.lk r1 e, kit_ty (Ty.kit t' t ht), p1 α1 H1 _ x1 a1.lk (.bl _)⟩

/-! ### all, any, sum, sorted, min, max -/
def boolsD : List D → Option (List Bool)
  | [] => some []
  | .bl b :: r => (boolsD r).map (b :: ·)
  | _ :: _ => none
theorem boolsD_ok {K : Frag} {α : Nat → Addr} {N : Nat} {H : Hp} : ∀ {xs : List D} {vs : List V} {bs : List Bool}, RVs K α N H xs vs → boolsD xs = some bs → vs = bs.map V.bl
  | [], _, _, .nil, e => by simp only [boolsD, Option.some.injEq] at e; subst e; rfl
  | d :: xs, _, bs, .cons h r, e => by
    cases h <;> simp only [boolsD, reduceCtorEq] at e
    obtain ⟨cs, h1, h2⟩ := Option.map_eq_some_iff.mp e
    subst h2
    rw [boolsD_ok r h1]; rfl
def intsD : List D → Option (List Int)
  | [] => some []
  | .int b :: r => (intsD r).map (b :: ·)
  | _ :: _ => none
theorem intsD_ok {K : Frag} {α : Nat → Addr} {N : Nat} {H : Hp} : ∀ {xs : List D} {vs : List V} {bs : List Int}, RVs K α N H xs vs → intsD xs = some bs → vs = bs.map V.int
  | [], _, _, .nil, e => by simp only [intsD, Option.some.injEq] at e; subst e; rfl
  | d :: xs, _, bs, .cons h r, e => by
    cases h <;> simp only [intsD, reduceCtorEq] at e
    obtain ⟨cs, h1, h2⟩ := Option.map_eq_some_iff.mp e
    subst h2
    rw [intsD_ok r h1]; rfl
theorem ints_rvs {K : Frag} {α : Nat → Addr} {N : Nat} {H : Hp} : ∀ ns : List Int, RVs K α N H (ns.map D.int) (ns.map V.int)
  | [] => .nil
  | n :: ns => .cons (.int n) (ints_rvs ns)
/-- a rule for a call of one list -/
def ruleM {β : Type} (K : Frag) (ca : Nat → Addr) (rel : Rel β V) (f : List D → Sto → R β) (r : List V → Hp → VK → Prop) : Prop := ∀ α st α0 N0 H0 H W xs p vs (Q : VK), Lk K ca α st H → Xt K α0 N0 H0 α st.length H → H p = some (.lst vs) → RVs K α st.length H xs vs → Post K ca rel α0 N0 H0 W Q (f xs st) → r [.ref p] H Q
theorem qbM {β : Type} {rel : Rel β V} {f : List D → Sto → R β} {id : String} {e : EL} {r : List V → Hp → VK → Prop} (rule : ruleM X.K ca rel f r) (hc : CallR X (.builtin id) r) (ha : QM X ca W a e) (hg : Gl X x) (hm : X.mg x = none) (hv : bootBuiltins x = some (.builtin id)) (hn : x ≠ "__name__" := by decide) (hdb : (x == ("__debug__" : Str)) = false := by decide)
    (hs : starEach [a] X.env = (false, eval a X.env) :: starEach [] X.env := by rfl) : PE X (.Call (.Name x p0) [a] [] pos) (tG X.K ca rel W (cS1 f e)) :=
  peW (pe_callB hc hg hm hv (pa1 ha hs) hn hdb hs (by rfl)) fun σ H Q ⟨α, st, ρ, a, p⟩ => tG_next a .refl p fun α1 st1 d v H1 a1 _ x1 ⟨q, vs, e, h, r1⟩ p1 => by
    subst e
    exact rule _ _ _ _ _ _ _ _ _ _ _ a1.lk x1 h r1 p1
def allS : List D → Sto → R D := fun xs st => match boolsD xs with
  | some bs => .ok (.bl (bs.all id)) st
  | none => .bad
def anyS : List D → Sto → R D := fun xs st => match boolsD xs with
  | some bs => .ok (.bl (bs.any id)) st
  | none => .bad
def sumS : List D → Sto → R D := fun xs st => match intsD xs with
  | some ns => .ok (.int ns.sum) st
  | none => .bad
theorem qe_all {e : EL} (hc : X.calm = true) (ha : QM X ca W a e) (hg : Gl X "all") (hm : X.mg "all" = none) (hs : starEach [a] X.env = (false, eval a X.env) :: starEach [] X.env := by rfl) : QE X ca W (.Call (.Name "all" p0) [a] [] pos) (cS1 allS e) :=
  qbM (fun α st α0 N0 H0 H W xs p vs Q L xt h r q => by
    unfold allS at q
    cases e : boolsD xs with
    | none => rw [e] at q; exact q.elim
    | some bs =>
      rw [e] at q
      have ev := boolsD_ok r e
      subst ev
      exact ⟨p, bs, rfl, .inl (.inl h), q α H _ xt L (.bl _)⟩) (cr_all hc) ha hg hm (by decide +kernel) (by decide) (by decide) hs
theorem qe_any {e : EL} (hc : X.calm = true) (ha : QM X ca W a e) (hg : Gl X "any") (hm : X.mg "any" = none) (hs : starEach [a] X.env = (false, eval a X.env) :: starEach [] X.env := by rfl) : QE X ca W (.Call (.Name "any" p0) [a] [] pos) (cS1 anyS e) :=
  qbM (fun α st α0 N0 H0 H W xs p vs Q L xt h r q => by
    unfold anyS at q
    cases e : boolsD xs with
    | none => rw [e] at q; exact q.elim
    | some bs =>
      rw [e] at q
      have ev := boolsD_ok r e
      subst ev
      exact ⟨p, bs, rfl, .inl (.inl h), q α H _ xt L (.bl _)⟩) (cr_any hc) ha hg hm (by decide +kernel) (by decide) (by decide) hs
theorem qe_sum {e : EL} (hc : X.calm = true) (ha : QM X ca W a e) (hg : Gl X "sum") (hm : X.mg "sum" = none) (hs : starEach [a] X.env = (false, eval a X.env) :: starEach [] X.env := by rfl) : QE X ca W (.Call (.Name "sum" p0) [a] [] pos) (cS1 sumS e) :=
  qbM (fun α st α0 N0 H0 H W xs p vs Q L xt h r q => by
    unfold sumS at q
    cases e : intsD xs with
    | none => rw [e] at q; exact q.elim
    | some bs =>
      rw [e] at q
      have ev := intsD_ok r e
      subst ev
      exact ⟨p, bs, rfl, .inl (.inl h), q α H _ xt L (.int _)⟩) (cr_sum hc) ha hg hm (by decide +kernel) (by decide) (by decide) hs
/-- sorted ints -/
def sortI (ns : List Int) : List Int := ns.mergeSort fun a b => decide (a ≤ b)
theorem sortI_uniq {ns ms : List Int} (hp : ms.Perm ns) (hs : ms.Pairwise (· ≤ ·)) : ms = sortI ns := by
  have h1 : (sortI ns).Pairwise (fun a b => decide (a ≤ b) = true) := List.pairwise_mergeSort (le := fun a b => decide (a ≤ b)) (by intro a b c; simp only [decide_eq_true_eq]; omega) (by intro a b; simp only [Bool.or_eq_true, decide_eq_true_eq]; omega) ns
  have h1' : (sortI ns).Pairwise (· ≤ ·) := h1.imp fun h => of_decide_eq_true h
  have h2 : (sortI ns).Perm ns := List.mergeSort_perm ns _
  exact (hp.trans h2.symm).eq_of_pairwise (le := (· ≤ ·)) (fun a b _ _ h h' => Int.le_antisymm h h') hs h1'
def sortedS : List D → Sto → R (List D) := fun xs st => match intsD xs with
  | some ns => .ok ((sortI ns).map D.int) st
  | none => .bad
theorem ql_sorted {e : EL} (ha : QM X ca W a e) (hg : Gl X "sorted") (hm : X.mg "sorted" = none) (hs : starEach [a] X.env = (false, eval a X.env) :: starEach [] X.env := by rfl) : QL X ca W (.Call (.Name "sorted" p0) [a] [] pos) (cS1 sortedS e) :=
  qbM (rel := relL X.K) (fun α st α0 N0 H0 H W xs p vs Q L xt h r q => by
    unfold sortedS at q
    cases e : intsD xs with
    | none => rw [e] at q; exact q.elim
    | some ns =>
      rw [e] at q
      have ev := intsD_ok r e
      subst ev
      refine ⟨p, ns, rfl, .inl (.inl h), fun ms l hp hs hl => ?_⟩
      rw [sortI_uniq hp hs]
      exact fin_new q xt L (ints_rvs _) hl) cr_sortedI ha hg hm (by decide +kernel) (by decide) (by decide) hs
def maxI : List Int → Option Int
  | [] => none
  | n :: ns => some (ns.foldl max n)
def minI : List Int → Option Int
  | [] => none
  | n :: ns => some (ns.foldl min n)
theorem foldl_max_ge : ∀ (ns : List Int) (n : Int), n ≤ ns.foldl max n ∧ ∀ y ∈ ns, y ≤ ns.foldl max n
  | [], n => ⟨Int.le_refl _, fun y h => by simp at h⟩
  | m :: ns, n => by
    obtain ⟨h1, h2⟩ := foldl_max_ge ns (max n m)
    rw [List.foldl_cons]
    refine ⟨by omega, fun y h => ?_⟩
    rcases List.mem_cons.mp h with e | e
    · subst e; omega
    · exact h2 y e
theorem foldl_max_mem : ∀ (ns : List Int) (n : Int), ns.foldl max n = n ∨ ns.foldl max n ∈ ns
  | [], n => .inl rfl
  | m :: ns, n => by
    rw [List.foldl_cons]
    rcases foldl_max_mem ns (max n m) with h | h
    · rw [h]
      by_cases c : n ≤ m
      · right; rw [Int.max_eq_right c]; exact List.mem_cons_self
      · left; exact Int.max_eq_left (by omega)
    · exact .inr (List.mem_cons_of_mem _ h)
theorem foldl_min_le : ∀ (ns : List Int) (n : Int), ns.foldl min n ≤ n ∧ ∀ y ∈ ns, ns.foldl min n ≤ y
  | [], n => ⟨Int.le_refl _, fun y h => by simp at h⟩
  | m :: ns, n => by
    obtain ⟨h1, h2⟩ := foldl_min_le ns (min n m)
    rw [List.foldl_cons]
    refine ⟨by omega, fun y h => ?_⟩
    rcases List.mem_cons.mp h with e | e
    · subst e; omega
    · exact h2 y e
theorem foldl_min_mem : ∀ (ns : List Int) (n : Int), ns.foldl min n = n ∨ ns.foldl min n ∈ ns
  | [], n => .inl rfl
  | m :: ns, n => by
    rw [List.foldl_cons]
    rcases foldl_min_mem ns (min n m) with h | h
    · rw [h]
      by_cases c : n ≤ m
      · left; exact Int.min_eq_left c
      · right; rw [Int.min_eq_right (by omega)]; exact List.mem_cons_self
    · exact .inr (List.mem_cons_of_mem _ h)
def maxS : List D → Sto → R D := fun xs st => match (intsD xs).bind maxI with
  | some m => .ok (.int m) st
  | none => .bad
def minS : List D → Sto → R D := fun xs st => match (intsD xs).bind minI with
  | some m => .ok (.int m) st
  | none => .bad
theorem qe_max {e : EL} (hc : X.calm = true) (ha : QM X ca W a e) (hg : Gl X "max") (hm : X.mg "max" = none) (hs : starEach [a] X.env = (false, eval a X.env) :: starEach [] X.env := by rfl) : QE X ca W (.Call (.Name "max" p0) [a] [] pos) (cS1 maxS e) :=
  qbM (fun α st α0 N0 H0 H W xs p vs Q L xt h r q => by
    unfold maxS at q
    cases e : intsD xs with
    | none => rw [e] at q; exact q.elim
    | some ns =>
      rw [e] at q
      have ev := intsD_ok r e
      subst ev
      cases ns with
      | nil => exact q.elim
      | cons n ns =>
        refine ⟨p, n :: ns, rfl, .inl (.inl h), Nat.succ_pos _, fun m h1 h2 => ?_⟩
        have e1 : m = ns.foldl max n := by
          have g := foldl_max_ge ns n
          have hm1 := foldl_max_mem ns n
          have : ns.foldl max n ≤ m := by
            rcases hm1 with z | z
            · rw [z]; exact h2 n List.mem_cons_self
            · exact h2 _ (List.mem_cons_of_mem _ z)
          rcases List.mem_cons.mp h1 with z | z
          · subst z; omega
          · have := g.2 m z; omega
        subst e1
        exact q α H _ xt L (.int _)) (cr_max hc) ha hg hm (by decide +kernel) (by decide) (by decide) hs
theorem qe_min {e : EL} (hc : X.calm = true) (ha : QM X ca W a e) (hg : Gl X "min") (hm : X.mg "min" = none) (hs : starEach [a] X.env = (false, eval a X.env) :: starEach [] X.env := by rfl) : QE X ca W (.Call (.Name "min" p0) [a] [] pos) (cS1 minS e) :=
  qbM (fun α st α0 N0 H0 H W xs p vs Q L xt h r q => by
    unfold minS at q
    cases e : intsD xs with
    | none => rw [e] at q; exact q.elim
    | some ns =>
      rw [e] at q
      have ev := intsD_ok r e
      subst ev
      cases ns with
      | nil => exact q.elim
      | cons n ns =>
        refine ⟨p, n :: ns, rfl, .inl (.inl h), Nat.succ_pos _, fun m h1 h2 => ?_⟩
        have e1 : m = ns.foldl min n := by
          have g := foldl_min_le ns n
          have hm1 := foldl_min_mem ns n
          have : m ≤ ns.foldl min n := by
            rcases hm1 with z | z
            · rw [z]; exact h2 n List.mem_cons_self
            · exact h2 _ (List.mem_cons_of_mem _ z)
          rcases List.mem_cons.mp h1 with z | z
          · subst z; omega
          · have := g.2 m z; omega
        subst e1
        exact q α H _ xt L (.int _)) (cr_min hc) ha hg hm (by decide +kernel) (by decide) (by decide) hs
/-- max(a, b), min(a, b) -/
def max2D : D → D → Sto → R D
  | .int i, .int j, st => .ok (.int (max i j)) st
  | _, _, _ => .bad
def min2D : D → D → Sto → R D
  | .int i, .int j, st => .ok (.int (min i j)) st
  | _, _, _ => .bad
theorem qe_max2 (hc : X.calm = true) (ha : QE X ca W a ea) (hb : QE X ca W b eb) (hg : Gl X "max") (hm : X.mg "max" = none) (hs : starEach [a, b] X.env = (false, eval a X.env) :: starEach [b] X.env := by rfl) (hs2 : starEach [b] X.env = (false, eval b X.env) :: starEach [] X.env := by rfl)
    (hpl : (backTo pos (starEach [b] X.env)).any (·.1) = false := by rfl) : QE X ca W (.Call (.Name "max" p0) [a, b] [] pos) (cOp2 max2D ea eb) :=
  peW (pe_callB (call_max2 hc) hg hm (by decide +kernel) (pa_cons ha (pa1 hb hs2) hs) (by decide) (by decide) hs hpl) fun σ H Q ⟨α, st, ρ, at0, p⟩ => tG_next at0 .refl p fun α1 st1 d v H1 a1 _ x1 r1 p1 => tG_next a1 x1 p1 fun α2 st2 e u H2 a2 x2 xb r2 p2 => by
    cases r1 <;> cases r2 <;> try exact False.elim p2
    rename_i i j
    refine ⟨i, j, rfl, ?_⟩
    have e : (if j > i then j else i) = max i j := by split <;> omega
    rw [e]
    exact p2 α2 H2 _ xb a2.lk (.int _)
theorem qe_min2 (hc : X.calm = true) (ha : QE X ca W a ea) (hb : QE X ca W b eb) (hg : Gl X "min") (hm : X.mg "min" = none) (hs : starEach [a, b] X.env = (false, eval a X.env) :: starEach [b] X.env := by rfl) (hs2 : starEach [b] X.env = (false, eval b X.env) :: starEach [] X.env := by rfl)
    (hpl : (backTo pos (starEach [b] X.env)).any (·.1) = false := by rfl) : QE X ca W (.Call (.Name "min" p0) [a, b] [] pos) (cOp2 min2D ea eb) :=
  peW (pe_callB (call_min2 hc) hg hm (by decide +kernel) (pa_cons ha (pa1 hb hs2) hs) (by decide) (by decide) hs hpl) fun σ H Q ⟨α, st, ρ, at0, p⟩ => tG_next at0 .refl p fun α1 st1 d v H1 a1 _ x1 r1 p1 => tG_next a1 x1 p1 fun α2 st2 e u H2 a2 x2 xb r2 p2 => by
    cases r1 <;> cases r2 <;> try exact False.elim p2
    rename_i i j
    refine ⟨i, j, rfl, ?_⟩
    have e : (if j < i then j else i) = min i j := by split <;> omega
    rw [e]
    exact p2 α2 H2 _ xb a2.lk (.int _)
end
end PM

set_option Elab.async false
set_option linter.all false
set_option maxRecDepth 100000
set_option maxHeartbeats 4000000
/-! PM5: statements, loops, calls. -/
namespace PM
open PySem PySem.Spec PyProof.Rows L2

/-- how a statement ends -/
inductive F where
  | nx (ρ : Env) (st : Sto) | rt (d : D) (st : Sto) | bk (ρ : Env) (st : Sto) | ct (ρ : Env) (st : Sto) | exc (c : Nat) (fs : List (Str × D)) (ρ : Env) (st : Sto) | bad
abbrev S := Env → Sto → F
def FPost (K : Frag) (ca : Nat → Addr) (α : Nat → Addr) (N : Nat) (H : Hp) (W : WX) (E : Ends) : F → Prop
  | .nx ρ st => ∀ α' H' σ', Xt K α N H α' st.length H' → At K ca α' st H' ρ σ' → E.nx σ' H'
  | .bk ρ st => ∀ α' H' σ', Xt K α N H α' st.length H' → At K ca α' st H' ρ σ' → E.bk σ' H'
  | .ct ρ st => ∀ α' H' σ', Xt K α N H α' st.length H' → At K ca α' st H' ρ σ' → E.ct σ' H'
  | .rt d st => ∀ α' H' v, Xt K α N H α' st.length H' → Lk K ca α' st H' → RV K α' st.length H' d v → E.rt v H'
  | .exc c fs ρ st => ∀ α' H' σ' dd, Xt K α N H α' st.length H' → At K ca α' st H' ρ σ' → XD K α' st.length H' fs dd → W (.ref (ca c)) dd σ' H'
  | .bad => False
def tF (K : Frag) (ca : Nat → Addr) (W : WX) (s : S) : TS := fun E σ H => ∃ α st ρ, At K ca α st H ρ σ ∧ FPost K ca α st.length H W E (s ρ st)
def QF (X : Cx) (ca : Nat → Addr) (W : WX) (x : Stmt) (s : S) : Prop := PS X x (tF X.K ca W s)
def QFs (X : Cx) (ca : Nat → Addr) (W : WX) (x : List Stmt) (s : S) : Prop := PSs X x (tF X.K ca W s)
theorem psW {X : Cx} {x : Stmt} {t t' : TS} (p : PS X x t) (h : ∀ E σ H, t' E σ H → t E σ H) : PS X x t' := ⟨fun pins s σ H E I q => p.run pins s σ H E I (h E σ H q)⟩
theorem pssW {X : Cx} {x : List Stmt} {t t' : TS} (p : PSs X x t) (h : ∀ E σ H, t' E σ H → t E σ H) : PSs X x t' := ⟨fun pins s σ H E I q => p.run pins s σ H E I (h E σ H q)⟩
section
variable {K : Frag} {ca : Nat → Addr} {α α' : Nat → Addr} {N N' : Nat} {H H' : Hp} {W : WX} {E : Ends} {r : F}
theorem FPost.later (x : Xt K α N H α' N' H') (h : FPost K ca α N H W E r) : FPost K ca α' N' H' W E r := by
  cases r with
  | nx ρ st => exact fun a2 H2 s2 x2 A2 => h a2 H2 s2 (x.trans x2) A2
  | bk ρ st => exact fun a2 H2 s2 x2 A2 => h a2 H2 s2 (x.trans x2) A2
  | ct ρ st => exact fun a2 H2 s2 x2 A2 => h a2 H2 s2 (x.trans x2) A2
  | rt d st => exact fun a2 H2 v x2 L2 r2 => h a2 H2 v (x.trans x2) L2 r2
  | exc c fs ρ st => exact fun a2 H2 s2 dd x2 A2 r2 => h a2 H2 s2 dd (x.trans x2) A2 r2
  | bad => exact h
end
/-- an expression, then what follows -/
def fE {β : Type} (r : R β) (ρ : Env) (k : β → Sto → F) : F := match r with
  | .ok b st => k b st
  | .exc c fs st => .exc c fs ρ st
  | .bad => .bad
@[simp] theorem fE_ok {β : Type} (b : β) (st : Sto) (ρ : Env) (k : β → Sto → F) : fE (.ok b st) ρ k = k b st := rfl
@[simp] theorem fE_exc {β : Type} (c : Nat) (fs : List (Str × D)) (st : Sto) (ρ : Env) (k : β → Sto → F) : fE (.exc c fs st : R β) ρ k = .exc c fs ρ st := rfl
@[simp] theorem fE_bad {β : Type} (ρ : Env) (k : β → Sto → F) : fE (.bad : R β) ρ k = .bad := rfl
theorem tF_next {K : Frag} {ca : Nat → Addr} {W : WX} {β γ : Type} {rel : Rel β γ} {e : Env → Sto → R β} {k : β → Sto → F} {σ : L2.St} {H0 H1 : Hp} {E : Ends} {T : γ → Hp → Prop} {α α0 : Nat → Addr} {st : Sto} {N0 : Nat} {ρ : Env}
    (a : At K ca α st H1 ρ σ) (x : Xt K α0 N0 H0 α st.length H1) (p : FPost K ca α0 N0 H0 W E (fE (e ρ st) ρ k))
    (go : ∀ α2 st2 b g H2, At K ca α2 st2 H2 ρ σ → Xt K α st.length H1 α2 st2.length H2 → Xt K α0 N0 H0 α2 st2.length H2 → rel H1 α2 st2.length H2 b g → FPost K ca α0 N0 H0 W E (k b st2) → T g H2) :
    tG K ca rel W e σ H1 T := by
  refine ⟨α, st, ρ, a, ?_⟩
  revert p
  cases e ρ st with
  | ok b st1 => exact fun p α1 H2 g x2 L r => go α1 st1 b g H2 (a.later x2 L) x2 (x.trans x2) r p
  | exc c fs st1 => exact fun p α1 H2 dd x2 L r => p α1 H2 σ dd (x.trans x2) (a.later x2 L) r
  | bad => exact fun p => p

/-- what a body's proof carries: what is let out, and how -/
structure Ok (X : Cx) (W : WX) : Prop where
  tk : Takes X W
  hp : PassesOwn (model X.prog X.w) X.A X.env X.xe
  calm : X.calm = true

section
variable {X : Cx} {ca : Nat → Addr} {W : WX} {a b c : Expr} {ea eb ec : E} {pos : Pos} {es : List Expr} {st st1 : Stmt} {sts sts2 : List Stmt} {s1 s2 : S} {tc : ET}
def sNext : S := fun ρ st => .nx ρ st
def sSeq (a b : S) : S := fun ρ st => match a ρ st with
  | .nx ρ' st' => b ρ' st'
  | .rt d st' => .rt d st'
  | .bk ρ' st' => .bk ρ' st'
  | .ct ρ' st' => .ct ρ' st'
  | .exc c fs ρ' st' => .exc c fs ρ' st'
  | .bad => .bad
theorem qf_nil : QFs X ca W [] sNext := pssW pss_nil fun E σ H ⟨α, st, ρ, a, p⟩ => p α H σ .refl a
theorem qf_cons (h1 : QF X ca W st s1) (h2 : QFs X ca W sts s2) : QFs X ca W (st :: sts) (sSeq s1 s2) :=
  pssW (pss_cons h1 h2) fun E σ H ⟨α, st, ρ, a, p⟩ => by
    refine ⟨α, st, ρ, a, ?_⟩
    unfold sSeq at p
    revert p
    cases s1 ρ st with
    | nx ρ' st' => exact fun p α1 H1 σ1 x1 A1 => ⟨α1, st', ρ', A1, p.later x1⟩
    | rt d st' => exact fun p => p
    | bk ρ' st' => exact fun p => p
    | ct ρ' st' => exact fun p => p
    | exc c fs ρ' st' => exact fun p => p
    | bad => exact fun p => p
theorem qf_one (h1 : QF X ca W st s1) : QFs X ca W [st] s1 := pss_one h1
theorem qf_pass : QF X ca W (.Pass pos) sNext := psW ps_pass fun E σ H ⟨α, st, ρ, a, p⟩ => p α H σ .refl a
def sBreak : S := fun ρ st => .bk ρ st
def sCont : S := fun ρ st => .ct ρ st
theorem qf_break : QF X ca W (.Break pos) sBreak := psW ps_break fun E σ H ⟨α, st, ρ, a, p⟩ => p α H σ .refl a
theorem qf_cont : QF X ca W (.Continue pos) sCont := psW ps_continue fun E σ H ⟨α, st, ρ, a, p⟩ => p α H σ .refl a
def sExp (e : E) : S := fun ρ st => fE (e ρ st) ρ fun _ st => .nx ρ st
theorem qf_exp (he : QE X ca W a ea) (hs : swapsWith a none pos.line X.env = pure false := by rfl) : QF X ca W (.Expr a pos) (sExp ea) :=
  psW (ps_expr he hs) fun E σ H ⟨α, st, ρ, at0, p⟩ => tF_next at0 .refl p fun α1 st1 d v H1 a1 _ x1 r1 p1 => p1 α1 H1 σ x1 a1
def sRet (e : E) : S := fun ρ st => fE (e ρ st) ρ fun d st => .rt d st
theorem qf_ret (he : QE X ca W a ea) : QF X ca W (.Return (some a) pos) (sRet ea) :=
  psW (ps_ret he) fun E σ H ⟨α, st, ρ, at0, p⟩ => tF_next at0 .refl p fun α1 st1 d v H1 a1 _ x1 r1 p1 => p1 α1 H1 v x1 a1.lk r1
def sRetN : S := fun _ st => .rt .non st
theorem qf_retN : QF X ca W (.Return none pos) sRetN := psW ps_retN fun E σ H ⟨α, st, ρ, a, p⟩ => p α H .non .refl a.lk .non
def sIf (t : ET) (a b : S) : S := fun ρ st => fE (t ρ st) ρ fun k st => match k with
  | true => a ρ st
  | false => b ρ st
theorem qf_if (ht : QT X ca W c tc) (ha : QFs X ca W sts s1) (hb : QFs X ca W sts2 s2) : QF X ca W (.If c sts sts2 pos) (sIf tc s1 s2) :=
  psW (ps_if ht ha hb) fun E σ H ⟨α, st, ρ, at0, p⟩ => tF_next at0 .refl p fun α1 st1 k k' H1 a1 _ x1 r1 p1 => by
    cases r1
    cases k with
    | true => rw [if_pos rfl]; exact ⟨α1, st1, ρ, a1, p1.later x1⟩
    | false => rw [if_neg Bool.false_ne_true]; exact ⟨α1, st1, ρ, a1, p1.later x1⟩

/-! ### targets -/
/-- a target: names are set -/
abbrev G := D → Env → Option Env
def tGt (K : Frag) (ca : Nat → Addr) (g : G) : TG := fun v σ H Q => ∃ α st d ρ ρ', At K ca α st H ρ σ ∧ RV K α st.length H d v ∧ g d ρ = some ρ' ∧ ∀ σ', At K ca α st H ρ' σ' → Q σ' H
def QG (X : Cx) (ca : Nat → Addr) (x : Expr) (g : G) : Prop := PG X x (tGt X.K ca g)
theorem pgW {X : Cx} {x : Expr} {t t' : TG} (p : PG X x t) (h : ∀ v σ H Q, t' v σ H Q → t v σ H Q) : PG X x t' := ⟨fun pins s σ H v u Q I r q => p.run pins s σ H v u Q I r (h v σ H Q q)⟩
def gN (i : Nat) : G := fun d ρ => some (ρ.set i (some d))
theorem qg_name (i : Nat) {x : Str} (hN : X.N.Nodup) (hi : X.N[i]? = some x := by rfl) (hx : Loc X.env.scope x := by first | exact Or.inl rfl | exact Or.inr rfl) (hf : X.fn x = true ∨ X.env.scope.names.lookup x = some .local := by first | exact .inl rfl | exact .inr rfl) : QG X ca (.Name x pos) (gN i) :=
  pgW (pg_name hN hi hx hf) fun v σ H Q ⟨α, st, d, ρ, ρ', A, r, e, q⟩ => by
    cases e
    exact q _ ⟨A.lk, A.re.set r i⟩
/-- several targets -/
abbrev Gs := List D → Env → Option Env
def tGts (K : Frag) (ca : Nat → Addr) (g : Gs) : TGs := fun vs σ H Q => ∃ α st ds ρ ρ', At K ca α st H ρ σ ∧ RVs K α st.length H ds vs ∧ g ds ρ = some ρ' ∧ ∀ σ', At K ca α st H ρ' σ' → Q σ' H
def QGs (X : Cx) (ca : Nat → Addr) (x : List Expr) (g : Gs) : Prop := PGs X x (tGts X.K ca g)
theorem pgsW {X : Cx} {x : List Expr} {t t' : TGs} (p : PGs X x t) (h : ∀ v σ H Q, t' v σ H Q → t v σ H Q) : PGs X x t' := ⟨fun pins s σ H v u Q I r q => p.run pins s σ H v u Q I r (h v σ H Q q)⟩
def gsNil : Gs := fun ds ρ => match ds with
  | [] => some ρ
  | _ => none
def gsCons (g : G) (gs : Gs) : Gs := fun ds ρ => match ds with
  | d :: r => (g d ρ).bind fun ρ1 => gs r ρ1
  | [] => none
theorem qgs_nil : QGs X ca [] gsNil := pgsW pgs_nil fun vs σ H Q ⟨α, st, ds, ρ, ρ', A, r, e, q⟩ => by
  cases r with
  | nil => cases e; exact ⟨rfl, q _ A⟩
  | cons _ _ => cases e
theorem qgs_cons {g : G} {gs : Gs} (h1 : QG X ca a g) (h2 : QGs X ca es gs) (hs : (assignEach (a :: es) X.env).map (·.2) = assign a X.env :: (assignEach es X.env).map (·.2) := by rfl) : QGs X ca (a :: es) (gsCons g gs) :=
  pgsW (pgs_cons h1 h2 hs) fun vs σ H Q ⟨α, st, ds, ρ, ρ', A, r, e, q⟩ => by
    cases r with
    | nil => cases e
    | cons r rr =>
      obtain ⟨ρ1, e1, e2⟩ := Option.bind_eq_some_iff.mp e
      exact ⟨_, _, rfl, α, st, _, ρ, ρ1, A, r, e1, fun σ1 A1 => ⟨α, st, _, ρ1, ρ', A1, rr, e2, q⟩⟩
def gT (n : Nat) (gs : Gs) : G := fun d ρ => match d with
  | .tup xs => if xs.length = n then gs xs ρ else none
  | _ => none
theorem qg_tup {gs : Gs} {k n : Nat} (hc : X.calm = true) (h : QGs X ca es gs) (hn : (assignEach es X.env).length = n := by rfl) (hst : (assignEach es X.env).findIdx? (·.1) = none := by rfl) : QG X ca (.Tuple es k pos) (gT n gs) :=
  pgW (pg_tup hc h hn hst) fun v σ H Q ⟨α, st, d, ρ, ρ', A, r, e, q⟩ => by
    cases r <;> try cases e
    rename_i h1 r1 _
    simp only [gT] at e
    split at e <;> try cases e
    rename_i hl
    exact ⟨_, _, rfl, h1, by rw [← r1.length]; exact hl, α, st, _, ρ, ρ', A, r1, e, q⟩
/-- target = e -/
def sAsg (e : E) (g : G) : S := fun ρ st => fE (e ρ st) ρ fun d st => match g d ρ with
  | some ρ' => .nx ρ' st
  | none => .bad
theorem qf_asg {tg : Expr} {g : G} (he : QE X ca W a ea) (hg : QG X ca tg g) (hs : swapsWithSole [tg] a pos.line X.env = pure false := by rfl) (hw : swappedStores [tg] a X.env = pure none := by rfl)
    (h1 : (assignEach [tg] X.env).map (·.2) = [assign tg X.env] := by rfl) : QF X ca W (.Assign [tg] a pos) (sAsg ea g) :=
  psW (ps_asg he hg hs hw h1) fun E σ H ⟨α, st, ρ, at0, p⟩ => tF_next at0 .refl p fun α1 st1 d v H1 a1 _ x1 r1 p1 => by
    cases e : g d ρ with
    | none => rw [e] at p1; exact p1.elim
    | some ρ' =>
      rw [e] at p1
      exact ⟨α1, st1, d, ρ, ρ', a1, r1, e, fun σ' A' => p1 α1 H1 σ' x1 A'⟩
def sSet (i : Nat) (e : E) : S := fun ρ st => fE (e ρ st) ρ fun d st => .nx (ρ.set i (some d)) st
theorem qf_set (i : Nat) {x : Str} {pos' : Pos} (hN : X.N.Nodup) (he : QE X ca W a ea) (hi : X.N[i]? = some x := by rfl) (hx : Loc X.env.scope x := by first | exact Or.inl rfl | exact Or.inr rfl) (hs : swapsWith a (some (.Name x pos')) pos.line X.env = pure false := by rfl) (hf : X.fn x = true ∨ X.env.scope.names.lookup x = some .local := by first | exact .inl rfl | exact .inr rfl) :
    QF X ca W (.Assign [.Name x pos'] a pos) (sSet i ea) :=
  psW (ps_set hN hi hx he hs hf) fun E σ H ⟨α, st, ρ, at0, p⟩ => tF_next at0 .refl p fun α1 st1 d v H1 a1 _ x1 r1 p1 => p1 α1 H1 _ x1 ⟨a1.lk, a1.re.set r1 i⟩
/-- a, b = e1, e2 (two names) -/
def sPar (i j : Nat) (es : List E) : S := fun ρ st => fE (cArgs es ρ st) ρ fun ds st => match ds with
  | [d, e] => .nx ((ρ.set i (some d)).set j (some e)) st
  | _ => .bad
theorem qf_par (i j : Nat) {x y : Str} {ees : List E} {px py pt : Pos} {kt k2 pt2} (hc : X.calm = true) (hN : X.N.Nodup) (ha : QA X ca W [a, b] (cArgs ees))
    (hw : swappedStores [.Tuple [.Name x px, .Name y py] kt pt] (.Tuple [a, b] k2 pt2) X.env = pure (some [x, y])) (hi : X.N[i]? = some x := by rfl) (hj : X.N[j]? = some y := by rfl) (hij : i ≠ j := by decide)
    (hx : X.env.scope.names.lookup x = some .local := by rfl) (hy : X.env.scope.names.lookup y = some .local := by rfl)
    (hs : swapsWithSole [.Tuple [.Name x px, .Name y py] kt pt] (.Tuple [a, b] k2 pt2) pos.line X.env = pure false := by rfl) :
    QF X ca W (.Assign [.Tuple [.Name x px, .Name y py] kt pt] (.Tuple [a, b] k2 pt2) pos) (sPar i j ees) :=
  psW (ps_par hc hN hi hj hij hx hy ha hw hs) fun E σ H ⟨α, st, ρ, at0, p⟩ => tF_next at0 .refl p fun α1 st1 ds vs H1 a1 _ x1 r1 p1 => by
    cases r1 with
    | nil => exact p1.elim
    | cons q1 r1 =>
      cases r1 with
      | nil => exact p1.elim
      | cons q2 r1 =>
        cases r1 with
        | nil => exact ⟨_, _, rfl, p1 α1 H1 _ x1 ⟨a1.lk, (a1.re.set q1 i).set q2 j⟩⟩
        | cons _ _ => exact p1.elim
/-- name op= e -/
def sAug (i : Nat) (f : D → D → Sto → R D) (e : E) : S := fun ρ st => match ρ[i]? with
  | some (some x) => fE (e ρ st) ρ fun y st => fE (f x y st) ρ fun z st => .nx (ρ.set i (some z)) st
  | _ => .bad
theorem fE_bind {β γ : Type} (r : R β) (f : β → Sto → R γ) (ρ : Env) (k : γ → Sto → F) : fE (r.bind f) ρ k = fE r ρ fun b st => fE (f b st) ρ k := by cases r <;> rfl
theorem qf_aug (i : Nat) {x : Str} {op : Operator} {f : D → D → Sto → R D} {pos' : Pos} (hN : X.N.Nodup) (hf : OpR X (inplaceOp op) (rD2 X.K ca f)) (he : QE X ca W a ea) (hi : X.N[i]? = some x := by rfl) (hx : Loc X.env.scope x := by first | exact Or.inl rfl | exact Or.inr rfl) (hl : X.fn x = true ∨ X.env.scope.names.lookup x = some .local := by first | exact .inl rfl | exact .inr rfl)
    (hb : ∀ x y st, (∃ z, f x y st = .ok z st) ∨ f x y st = .bad := by intro x y st; cases x <;> cases y <;> first | exact .inr rfl | exact .inl ⟨_, rfl⟩) :
    QF X ca W (.AugAssign (.Name x pos') op a pos) (sAug i f ea) :=
  psW (ps_aug (ti := rD2 X.K ca f) hN hi hx he hf hl) fun E σ H ⟨α, st, ρ, at0, p⟩ => by
    unfold sAug at p
    split at p <;> try exact p.elim
    rename_i d e
    obtain ⟨v, h1, h2⟩ := at0.re.get e
    refine ⟨v, h1, tF_next at0 .refl p fun α1 st1 y w H1 a1 x1 _ r1 p1 => ?_⟩
    refine ⟨α1, st1, α1, st1.length, H1, d, y, fun _ _ _ => False, a1.lk, .refl, h2.mono x1.toGr, r1, ?_⟩
    rcases hb d y st1 with ⟨z, e⟩ | e
    · rw [e] at p1 ⊢
      exact fun α2 H2 g x2 L2 r2 => p1 α2 H2 _ (x1.trans x2) ⟨L2, (a1.re.mono x2.toGr).set r2 i⟩
    · rw [e] at p1
      exact p1.elim
def iaddD : D → D → Sto → R D
  | .int i, .int j, st => .ok (.int (i + j)) st
  | _, _, _ => .bad
def isubD : D → D → Sto → R D
  | .int i, .int j, st => .ok (.int (i - j)) st
  | _, _, _ => .bad
theorem d_iadd : OpR X (inplaceOp .Add) (rD2 X.K ca iaddD) := by
  intro pins s σ H x y v u Q I rx ry ⟨α, st, α0, N0, H0, dx, dy, W, L, xt, r1, r2, p⟩
  cases r1 <;> cases r2 <;> try exact False.elim p
  exact iop_add pins s σ H _ _ v u Q I rx ry ⟨_, _, rfl, rfl, p α H _ xt L (.int _)⟩
theorem d_isub : OpR X (inplaceOp .Sub) (rD2 X.K ca isubD) := by
  intro pins s σ H x y v u Q I rx ry ⟨α, st, α0, N0, H0, dx, dy, W, L, xt, r1, r2, p⟩
  cases r1 <;> cases r2 <;> try exact False.elim p
  exact iop_sub pins s σ H _ _ v u Q I rx ry ⟨_, _, rfl, rfl, p α H _ xt L (.int _)⟩

/-! ### fields -/
/-- o.f = e -/
def sFldD (cs : List Nat) (f : Str) (o e : E) : S := fun ρ st => fE (e ρ st) ρ fun d st => fE (o ρ st) ρ fun x st => match x with
  | .loc n => match st[n]? with
    | some (.ins c fs) => if c ∈ cs ∧ fs.length < 1000 then .nx ρ (st.set n (.ins c (putFD f d fs))) else .bad
    | _ => .bad
  | _ => .bad
theorem qf_fld {cs : List Nat} {f : Str} {o : Expr} {eo : E} {tpos : Pos} (hc : Flds X ca cs f) (ho : QE X ca W o eo) (he : QE X ca W a ea) (hs : swapsWith a (some (.Attribute o f tpos)) pos.line X.env = pure false := by rfl) :
    QF X ca W (.Assign [.Attribute o f tpos] a pos) (sFldD cs f eo ea) :=
  psW (ps_fld ho he hs) fun E σ H ⟨α, st, ρ, at0, p⟩ => tF_next at0 .refl p fun α1 st1 d v H1 a1 _ x1 r1 p1 => tF_next a1 x1 p1 fun α2 st2 y u H2 a2 x2 xb r2 p2 => by
    have r1' := RV.mono x2.toGr r1
    cases r2 <;> try exact False.elim p2
    dsimp only at p2
    split at p2 <;> try exact p2.elim
    rename_i c fs e
    split at p2 <;> try exact p2.elim
    rename_i hcs
    obtain ⟨dx, gs, h1, q1⟩ := lk_ins a2.lk e
    obtain ⟨k1, k2⟩ := hc c hcs.1
    obtain ⟨L2, xw⟩ := a2.lk.write e h1 (fun _ z => by cases z) (fun _ _ z => by cases z) (.ins (dx := dx) (q1.putF f r1'))
    refine ⟨_, _, _, _, rfl, h1, k1, k2, by rw [← q1.length]; exact hcs.2, p2 _ _ σ (xb.trans xw) (a2.later xw L2)⟩
/-- o.f op= e -/
def sFldAugD (cs : List Nat) (f : Str) (g : D → D → Sto → R D) (o e : E) : S := fun ρ st => fE (o ρ st) ρ fun x st => match x with
  | .loc n => match st[n]? with
    | some (.ins c fs) => if c ∈ cs then match fs.lookup f with
      | some v => fE (e ρ st) ρ fun y st => fE (g v y st) ρ fun z st => match st[n]? with
        | some (.ins c' fs') => if c' = c ∧ fs'.length < 1000 then .nx ρ (st.set n (.ins c (putFD f z fs'))) else .bad
        | _ => .bad
      | none => .bad else .bad
    | _ => .bad
  | _ => .bad
theorem qf_fldaug {cs : List Nat} {f : Str} {o : Expr} {eo : E} {tpos : Pos} {op : Operator} {g : D → D → Sto → R D} (hc : Flds X ca cs f) (hg : InOp X op (rD2 X.K ca g)) (ho : QE X ca W o eo) (he : QE X ca W a ea)
    (hb : ∀ x y st, (∃ z, g x y st = .ok z st) ∨ g x y st = .bad := by intro x y st; cases x <;> cases y <;> first | exact .inr rfl | exact .inl ⟨_, rfl⟩) : QF X ca W (.AugAssign (.Attribute o f tpos) op a pos) (sFldAugD cs f g eo ea) :=
  psW (ps_fldaug ho he hg) fun E σ H ⟨α, st, ρ, at0, p⟩ => by
    refine tF_next (rel := relV X.K) at0 .refl p fun α1 st1 x v H1 a1 _ x1 r1 p1 => ?_
    cases r1 <;> try exact False.elim p1
    rename_i n hn
    dsimp only at p1
    split at p1 <;> try exact p1.elim
    rename_i c fs e
    split at p1 <;> try exact p1.elim
    rename_i hcs
    obtain ⟨dx, gs, h1, q1⟩ := lk_ins a1.lk e
    obtain ⟨k1, k2⟩ := hc c hcs
    rcases q1.fld f with ⟨e1, _⟩ | ⟨d, y2, e1, e2, r2⟩
    · rw [e1] at p1; exact p1.elim
    · rw [e1] at p1
      refine ⟨_, _, _, _, _, rfl, h1, k1, k2, e2, tF_next (rel := relV X.K) a1 x1 p1 fun α2 st2 y u H2 a2 x2 xb r3 p2 => ?_⟩
      refine ⟨α2, st2, α2, st2.length, H2, d, y, fun _ _ _ => False, a2.lk, .refl, r2.mono x2.toGr, r3, ?_⟩
      rcases hb d y st2 with ⟨z, e⟩ | e
      · rw [e] at p2 ⊢
        simp only [fE_ok] at p2
        intro α3 H3 zv x3 L3 r4
        have a3 := a2.later x3 L3
        have xb3 := xb.trans x3
        split at p2 <;> try exact p2.elim
        rename_i c' fs' e'
        split at p2 <;> try exact p2.elim
        rename_i hcs'
        obtain ⟨dx', gs', h1', q1'⟩ := lk_ins a3.lk e'
        obtain ⟨rfl, hz⟩ := hcs'
        obtain ⟨L4, xw⟩ := a3.lk.write e' h1' (fun _ z => by cases z) (fun _ _ z => by cases z) (.ins (dx := dx') (q1'.putF f r4))
        have ea' : α3 n = α1 n := (x2.trans x3).ag n hn
        rw [ea'] at h1' L4 xw
        exact ⟨dx', gs', h1', by rw [← q1'.length]; exact hz, p2 _ _ σ (xb3.trans xw) (a3.later xw L4)⟩
      · rw [e] at p2
        exact p2.elim
theorem in_isub : InOp X .Sub (rD2 X.K ca isubD) := fun pins s σ H x y u v Q I rx ry h => d_isub pins s σ H x y u v Q I rx ry h
theorem in_iadd : InOp X .Add (rD2 X.K ca iaddD) := fun pins s σ H x y u v Q I rx ry h => d_iadd pins s σ H x y u v Q I rx ry h

/-! ### o[i] = e, del d[k] -/
def setD (o i v : D) (st : Sto) : Option Sto := match o with
  | .loc n => match st[n]? with
    | some (.lst xs) => match i with
      | .int k => (ixN xs.length k).map fun j => st.set n (.lst (xs.set j v))
      | _ => none
    | some (.dct kvs) => match keyD i with
      | some k => if kvs.length < sizeLine then some (st.set n (.dct (putD kvs k v))) else none
      | none => none
    | _ => none
  | _ => none
def rSetA (K : Frag) (ca : Nat → Addr) : TSet := fun o i v H Q => ∃ α st do_ di dv st', Lk K ca α st H ∧ RV K α st.length H do_ o ∧ RV K α st.length H di i ∧ RV K α st.length H dv v ∧ setD do_ di dv st = some st' ∧
  ∀ H', Lk K ca α st' H' → Xt K α st.length H α st'.length H' → Q H'
theorem set_any (hu : X.A.units + 1 < cLine) : PSet X (rSetA X.K ca) := by
  intro pins s σ H o i v ov iv u Q I ro ri rv ⟨α, st, do_, di, dv, st', L, r1, r2, r3, e, q⟩
  cases r1 <;> try cases e
  rename_i n hn
  simp only [setD] at e
  split at e <;> try cases e
  · rename_i xs q1
    obtain ⟨vs, h1, r4⟩ := lk_lst L q1
    cases r2 <;> try cases e
    rename_i k
    dsimp only at e
    obtain ⟨j, e1, e2⟩ := Option.map_eq_some_iff.mp e
    subst e2
    obtain ⟨L2, x2⟩ := L.write q1 h1 (fun _ z => by cases z) (fun _ _ z => by cases z) (.lst (r4.set r3 j))
    refine set_list pins s σ H _ _ v ov iv u Q I ro ri rv ⟨_, _, _, j, rfl, rfl, h1, by rw [← r4.length]; exact e1, q _ L2 x2⟩
  · rename_i kvs q1
    obtain ⟨ho, h1, r4⟩ := L.at_ _ _ q1
    cases r4 with
    | dct r4 =>
      split at e <;> try cases e
      rename_i k ek
      split at e <;> try cases e
      rename_i hz
      obtain ⟨L2, x2⟩ := L.write q1 h1 (fun _ z => by cases z) (fun _ _ z => by cases z) (.dct (r4.put k r3))
      have ei := keyD_ok r2 ek
      subst ei
      cases ro
      exact d_setItem hu I (DPut.k (k := k) h1 (by rw [← r4.length]; exact hz)) ri rv fun s' I' => ⟨_, I', q _ L2 x2⟩
def sSub (o i e : E) : S := fun ρ st => fE (e ρ st) ρ fun d st => fE (o ρ st) ρ fun x st => fE (i ρ st) ρ fun y st => match setD x y d st with
  | some st' => .nx ρ st'
  | none => .bad
theorem qf_sub {o i : Expr} {eo ei : PM.E} {tpos : Pos} (hu : X.A.units + 1 < cLine) (ho : QE X ca W o eo) (hi : QE X ca W i ei) (he : QE X ca W a ea)
    (ha : ∀ v, assign (.Subscript o i tpos) X.env v = (do
      let ov ← holding [v] (eval o X.env)
      let iv ← holding [v, ov] (eval i X.env)
      standAt tpos
      holding [v, ov, iv] (setItem ov iv v)
      release [v, ov, iv] []) := by intro _; rfl)
    (hs : swapsWithSole [.Subscript o i tpos] a pos.line X.env = pure false := by rfl) (hw : swappedStores [.Subscript o i tpos] a X.env = pure none := by rfl)
    (h1 : (assignEach [.Subscript o i tpos] X.env).map (·.2) = [assign (.Subscript o i tpos) X.env] := by rfl) : QF X ca W (.Assign [.Subscript o i tpos] a pos) (sSub eo ei ea) :=
  psW (ps_asg he (pg_sub ho hi (set_any hu) ha) hs hw h1) fun E σ H ⟨α, st, ρ, at0, p⟩ => tF_next (rel := relV X.K) at0 .refl p fun α1 st1 d v H1 a1 _ x1 r1 p1 => tF_next (rel := relV X.K) a1 x1 p1 fun α2 st2 x u H2 a2 x2 xb2 r2 p2 => tF_next (rel := relV X.K) a2 xb2 p2 fun α3 st3 y w H3 a3 x3 xb3 r3 p3 => by
    cases e : setD x y d st3 with
    | none => rw [e] at p3; exact p3.elim
    | some st' =>
      rw [e] at p3
      exact ⟨α3, st3, x, y, d, st', a3.lk, r2.mono x3.toGr, r3, r1.mono (x2.trans x3).toGr, e, fun H' L' x' => p3 α3 H' σ (xb3.trans x') (a3.later x' L')⟩
def delD (o i : D) (st : Sto) : Option Sto := match o with
  | .loc n => match st[n]? with
    | some (.dct kvs) => match keyD i with
      | some k => if (valD kvs k).isSome then some (st.set n (.dct (dropD kvs k))) else none
      | none => none
    | _ => none
  | _ => none
def sDel (o i : E) : S := fun ρ st => fE (o ρ st) ρ fun x st => fE (i ρ st) ρ fun y st => match delD x y st with
  | some st' => .nx ρ st'
  | none => .bad
theorem qf_del {o i : Expr} {eo ei : PM.E} {tpos : Pos} (ho : QE X ca W o eo) (hi : QE X ca W i ei) : QF X ca W (.Delete [.Subscript o i tpos] pos) (sDel eo ei) :=
  psW (ps_ddel ho hi) fun E σ H ⟨α, st, ρ, at0, p⟩ => tF_next (rel := relV X.K) at0 .refl p fun α1 st1 d v H1 a1 _ x1 r1 p1 => tF_next (rel := relV X.K) a1 x1 p1 fun α2 st2 x u H2 a2 x2 xb2 r2 p2 => by
    have r1' := RV.mono x2.toGr r1
    cases r1' <;> try exact False.elim p2
    rename_i n hn
    simp only [delD] at p2
    split at p2 <;> try exact p2.elim
    rename_i st' e
    split at e <;> try cases e
    rename_i kvs q1
    split at e <;> try cases e
    rename_i k ek
    split at e <;> try cases e
    rename_i hk
    obtain ⟨ho, h1, r4⟩ := a2.lk.at_ _ _ q1
    cases r4 with
    | dct r4 =>
      obtain ⟨L3, x3⟩ := a2.lk.write q1 h1 (fun _ z => by cases z) (fun _ _ z => by cases z) (.dct (r4.drop k))
      have ei := keyD_ok r2 ek
      refine ⟨_, _, k, rfl, h1, ei, ?_, p2 _ _ σ (xb2.trans x3) (a2.later x3 L3)⟩
      rcases r4.val k with ⟨e1, _⟩ | ⟨_, _, _, e2, _⟩
      · rw [e1] at hk; exact absurd hk (by simp)
      · rw [e2]; rfl
end
end PM

set_option Elab.async false
set_option linter.all false
set_option maxRecDepth 100000
set_option maxHeartbeats 4000000
/-! PM6: loops, comprehensions. -/
namespace PM
open PySem PySem.Spec PyProof.Rows L2

/-- what a loop walks: what must stay, the items -/
structure Itb where
  chk : Sto → Prop
  xs : List D
abbrev EI := Env → Sto → R Itb
def IterOk (K : Frag) (ca : Nat → Addr) (α : Nat → Addr) (N : Nat) (H : Hp) (b : Itb) (J : It) : Prop :=
  ∀ α1 st1 H1, Xt K α N H α1 st1.length H1 → Lk K ca α1 st1 H1 → b.chk st1 → J.stop b.xs.length H1 ∧ ∀ i d, b.xs[i]? = some d → J.go i H1 ∧ ∀ x H2, J.yld i H1 x H2 → Xt K α1 st1.length H1 α1 st1.length H2 ∧ Lk K ca α1 st1 H2 ∧ RV K α1 st1.length H2 d x
def relI (K : Frag) (ca : Nat → Addr) : Rel Itb It := fun _ α N H b J => IterOk K ca α N H b J
def QI (X : Cx) (ca : Nat → Addr) (W : WX) (tg x : Expr) (e : EI) : Prop := PI X tg x (tG X.K ca (relI X.K ca) W e)
theorem piW {X : Cx} {tg x : Expr} {t t' : TI} (p : PI X tg x t) (h : ∀ σ H Q, t' σ H Q → t σ H Q) : PI X tg x t' := ⟨fun pins s σ H Q I q => p.run pins s σ H Q I (h σ H Q q)⟩

section
variable {X : Cx} {ca : Nat → Addr} {W : WX} {a b c : Expr} {ea eb ec : E} {pos : Pos} {tg : Expr} {p0 : Pos}
theorem pi_seq {l : Expr} {tl : TE} (hl : PE X l tl) : PI X tg l (fun σ H R => tl σ H fun x H1 => ∃ a, x = .ref a ∧ (((∃ xs, SqL X.K H1 a xs) ∧ R (Itl X.K a) H1) ∨ ((∃ xs, SqT X.K H1 a xs) ∧ R (Itt X.K a) H1))) := by
  refine ⟨fun pins s σ H R I h => ?_⟩
  refine thn (hl.run pins s σ H _ I h) fun v s1 ⟨x, H1, I1, r1, q1⟩ => ?_
  obtain ⟨a, e, q | q⟩ := q1
  · obtain ⟨⟨xs, hq⟩, q⟩ := q
    subst e
    cases r1
    obtain ⟨its, rv, p, hz⟩ := I1.list hq
    refine wpAny_pyIter_list p.isList ?_
    refine ⟨s1.heap.objs.size, [s1.heap.objs.size], _, _, H1, rfl, I1.kept (t' := s1.toks) fun b o e => Heap.get?_push_of_some _ e, turn_list a _, ⟨_, Heap.get?_push_size _ rfl, rfl, rfl⟩, fun b hb => ?_, q⟩
    have e : b = s1.heap.objs.size := by simpa using hb
    subst e
    exact I1.fpOk (Nat.le_refl _) (I1.hok.fresh (Nat.le_refl _))
  · obtain ⟨⟨xs, hq⟩, q⟩ := q
    subst e
    cases r1
    obtain ⟨its, rv, p, hz⟩ := I1.tuple hq
    refine wpAny_pyIter_tuple (show s1.heap.IsTuple a its.toArray from p) ?_
    refine ⟨s1.heap.objs.size, [s1.heap.objs.size], _, _, H1, rfl, I1.kept (t' := s1.toks) fun b o e => Heap.get?_push_of_some _ e, turn_tuple a _, ⟨_, Heap.get?_push_size _ rfl, rfl, rfl⟩, fun b hb => ?_, q⟩
    have e : b = s1.heap.objs.size := by simpa using hb
    subst e
    exact I1.fpOk (Nat.le_refl _) (I1.hok.fresh (Nat.le_refl _))
theorem sqL_inj {K : Frag} {H : Hp} {a : Addr} {xs ys : List V} (h : H a = some (.lst xs)) : SqL K H a xs := .inl (.inl h)
/-- an item of a list, read off -/
theorem itl_ok {K : Frag} {α : Nat → Addr} {N : Nat} {H1 : Hp} {a : Addr} {ds : List D} {vs : List V} (h : SqL K H1 a vs) (r : RVs K α N H1 ds vs) :
    (Itl K a).stop ds.length H1 ∧ ∀ i d, ds[i]? = some d → (Itl K a).go i H1 ∧ ∀ x H2, (Itl K a).yld i H1 x H2 → H2 = H1 ∧ RV K α N H1 d x := by
  refine ⟨⟨vs, h, by rw [r.length]; exact Nat.le_refl _⟩, fun i d e => ?_⟩
  obtain ⟨y, e2, r2⟩ := r.get e
  refine ⟨⟨vs, y, h, e2⟩, fun x H2 ⟨e3, q⟩ => ⟨e3, ?_⟩⟩
  have := q vs h
  rw [e2] at this
  cases this
  exact r2
theorem itt_ok {K : Frag} {α : Nat → Addr} {N : Nat} {H1 : Hp} {a : Addr} {ds : List D} {vs : List V} (h : SqT K H1 a vs) (r : RVs K α N H1 ds vs) :
    (Itt K a).stop ds.length H1 ∧ ∀ i d, ds[i]? = some d → (Itt K a).go i H1 ∧ ∀ x H2, (Itt K a).yld i H1 x H2 → H2 = H1 ∧ RV K α N H1 d x := by
  refine ⟨⟨vs, h, by rw [r.length]; exact Nat.le_refl _⟩, fun i d e => ?_⟩
  obtain ⟨y, e2, r2⟩ := r.get e
  refine ⟨⟨vs, y, h, e2⟩, fun x H2 ⟨e3, q⟩ => ⟨e3, ?_⟩⟩
  have := q vs h
  rw [e2] at this
  cases this
  exact r2
def itrD : D → Sto → R Itb
  | .tup xs, st => .ok ⟨fun _ => True, xs⟩ st
  | .con xs, st => .ok ⟨fun _ => True, xs⟩ st
  | .loc n, st => match st[n]? with
    | some (.lst xs) => .ok ⟨fun st => st[n]? = some (.lst xs), xs⟩ st
    | _ => .bad
  | _, _ => .bad
def cItr (e : E) : EI := fun ρ st => (e ρ st).bind itrD
theorem qi_e (h : QE X ca W a ea) : QI X ca W tg a (cItr ea) :=
  piW (pi_seq h) fun σ H Q ⟨α, st, ρ, at0, p⟩ => tG_next at0 .refl p fun α1 st1 d v H1 a1 _ x1 r1 p1 => by
    cases r1 <;> try exact False.elim p1
    · rename_i h r
      refine ⟨_, rfl, .inr ⟨⟨_, h⟩, p1 α1 H1 _ x1 a1.lk fun α2 st2 H2 x2 L2 _ => ?_⟩⟩
      obtain ⟨h1, h2⟩ := itt_ok (x2.tup _ _ h) (r.mono x2.toGr)
      refine ⟨h1, fun i d e => ⟨(h2 i d e).1, fun x H3 y => ?_⟩⟩
      obtain ⟨rfl, r3⟩ := (h2 i d e).2 x H3 y
      exact ⟨.refl, L2, r3⟩
    · rename_i h r
      refine ⟨_, rfl, .inl ⟨⟨_, h.sq⟩, p1 α1 H1 _ x1 a1.lk fun α2 st2 H2 x2 L2 _ => ?_⟩⟩
      obtain ⟨h1, h2⟩ := itl_ok (x2.con _ _ h).sq (r.mono x2.toGr)
      refine ⟨h1, fun i d e => ⟨(h2 i d e).1, fun x H3 y => ?_⟩⟩
      obtain ⟨rfl, r3⟩ := (h2 i d e).2 x H3 y
      exact ⟨.refl, L2, r3⟩
    · rename_i n hn
      simp only [itrD] at p1
      split at p1 <;> try exact p1.elim
      rename_i xs e
      obtain ⟨vs, h1, q1⟩ := lk_lst a1.lk e
      refine ⟨_, rfl, .inl ⟨⟨_, .inl (.inl h1)⟩, p1 α1 H1 _ x1 a1.lk fun α2 st2 H2 x2 L2 ck => ?_⟩⟩
      obtain ⟨ws, h2, q2⟩ := lk_lst L2 ck
      rw [x2.ag n hn] at h2
      obtain ⟨h3, h4⟩ := itl_ok (.inl (.inl h2)) q2
      refine ⟨h3, fun i d e => ⟨(h4 i d e).1, fun x H3 y => ?_⟩⟩
      obtain ⟨rfl, r3⟩ := (h4 i d e).2 x H3 y
      exact ⟨.refl, L2, r3⟩
def cItl (e : EL) : EI := fun ρ st => (e ρ st).bind fun xs st => .ok ⟨fun _ => True, xs⟩ st
theorem qi_l {e : EL} (h : QL X ca W a e) : QI X ca W tg a (cItl e) :=
  piW (pi_seq h) fun σ H Q ⟨α, st, ρ, at0, p⟩ => tG_next at0 .refl p fun α1 st1 d v H1 a1 _ x1 r1 p1 => by
    obtain ⟨q, vs, rfl, h0, h1, r, hn⟩ := r1
    refine ⟨_, rfl, .inl ⟨⟨_, .inl (.inl h1)⟩, p1 α1 H1 _ x1 a1.lk fun α2 st2 H2 x2 L2 _ => ?_⟩⟩
    obtain ⟨h3, h4⟩ := itl_ok (K := X.K) (.inl (.inl (x2.keep q _ h1 hn))) (r.mono x2.toGr)
    refine ⟨h3, fun i d e => ⟨(h4 i d e).1, fun x H3 y => ?_⟩⟩
    obtain ⟨rfl, r3⟩ := (h4 i d e).2 x H3 y
    exact ⟨.refl, L2, r3⟩
/-- lo, lo + 1, .. (n of them) -/
def rngD (lo : Int) (n : Nat) : List D := (List.range n).map fun i => D.int (lo + (i : Nat))
theorem itr_ok {K : Frag} {α : Nat → Addr} {N : Nat} {H : Hp} {lo : Int} {n : Nat} : IterOk K ca α N H ⟨fun _ => True, rngD lo n⟩ (Itr lo n) := by
  intro α1 st1 H1 x L _
  refine ⟨by show n ≤ (rngD lo n).length; simp [rngD], fun i d e => ?_⟩
  have e : (rngD lo n)[i]? = some d := e
  unfold rngD at e
  rw [List.getElem?_map] at e
  obtain ⟨j, e1, e2⟩ := Option.map_eq_some_iff.mp e
  obtain ⟨h1, h2⟩ := List.getElem?_eq_some_iff.mp e1
  simp at h1 h2
  subst h2
  refine ⟨h1, fun x H2 ⟨e3, e4⟩ => ?_⟩
  subst e3 e4 e2
  exact ⟨.refl, L, .int _⟩
def rng1D (x : D) (st : Sto) : R Itb := match x with
  | .int j => if -(2 ^ 62) ≤ j ∧ j < 2 ^ 62 then .ok ⟨fun _ => True, rngD 0 j.toNat⟩ st else .bad
  | _ => .bad
def cRng1 (e : E) : EI := fun ρ st => (e ρ st).bind rng1D
theorem qi_range1 (hg : Gl X "range") (hm : X.mg "range" = none) (ha : QE X ca W a ea) (hs : starEach [a] X.env = [(false, eval a X.env)] := by rfl) : QI X ca W tg (.Call (.Name "range" p0) [a] [] pos) (cRng1 ea) :=
  piW (pi_range1 hg hm (pa1 ha hs) hs) fun σ H Q ⟨α, st, ρ, at0, p⟩ => tG_next at0 .refl p fun α1 st1 d v H1 a1 _ x1 r1 p1 => by
    cases r1 <;> try exact False.elim p1
    rename_i j
    simp only [rng1D] at p1
    split at p1 <;> try exact p1.elim
    rename_i hj
    exact ⟨j, rfl, hj.1, hj.2, p1 α1 H1 _ x1 a1.lk itr_ok⟩
def rng2D (x y : D) (st : Sto) : R Itb := match x, y with
  | .int i, .int j => if (-(2 ^ 62) ≤ i ∧ i < 2 ^ 62 ∧ -(2 ^ 62) ≤ j ∧ j < 2 ^ 62) then .ok ⟨fun _ => True, rngD i (j - i).toNat⟩ st else .bad
  | _, _ => .bad
def cRng2 (e f : E) : EI := fun ρ st => (e ρ st).bind fun x st => (f ρ st).bind fun y st => rng2D x y st
theorem qi_range2 (hg : Gl X "range") (hm : X.mg "range" = none) (ha : QE X ca W a ea) (hb : QE X ca W b eb) (hs : starEach [a, b] X.env = [(false, eval a X.env), (false, eval b X.env)] := by rfl) (hs2 : starEach [b] X.env = [(false, eval b X.env)] := by rfl) :
    QI X ca W tg (.Call (.Name "range" p0) [a, b] [] pos) (cRng2 ea eb) :=
  piW (pi_range2 hg hm (pa_cons ha (pa1 hb hs2) (by rw [hs, hs2])) hs hs2) fun σ H Q ⟨α, st, ρ, at0, p⟩ => tG_next at0 .refl p fun α1 st1 d v H1 a1 _ x1 r1 p1 => tG_next a1 x1 p1 fun α2 st2 e u H2 a2 x2 xb r2 p2 => by
    cases r1 <;> try exact False.elim p2
    cases r2 <;> try exact False.elim p2
    rename_i i j
    simp only [rng2D] at p2
    split at p2 <;> try exact p2.elim
    rename_i hj
    exact ⟨i, j, rfl, hj, p2 α2 H2 _ xb a2.lk itr_ok⟩

/-! ### for -/
open Classical in
noncomputable def forGo (chk : Sto → Prop) (g : G) (body : S) : List D → Env → Sto → F
  | [], ρ, st => if chk st then .nx ρ st else .bad
  | x :: r, ρ, st => if chk st then match g x ρ with
    | some ρ1 => match body ρ1 st with
      | .nx ρ' st' => forGo chk g body r ρ' st'
      | .ct ρ' st' => forGo chk g body r ρ' st'
      | .bk ρ' st' => .nx ρ' st'
      | .rt d st' => .rt d st'
      | .exc c fs ρ' st' => .exc c fs ρ' st'
      | .bad => .bad
    | none => .bad else .bad
noncomputable def sFor (e : EI) (g : G) (body : S) : S := fun ρ st => fE (e ρ st) ρ fun b st => forGo b.chk g body b.xs ρ st
theorem qf_for {iter : Expr} {body : List Stmt} {e : EI} {g : G} {s1 : S} (o : Ok X W) (hi : QI X ca W tg iter e) (hg : QG X ca tg g) (hb : QFs X ca W body s1) (hs : ∀ x, foldedSetIterable iter X.env x = pure x := by intro _; rfl) :
    QF X ca W (.For tg iter body [] pos) (sFor e g s1) :=
  psW (ps_for o.hp o.calm hi hg hb hs) fun E σ H ⟨α, st, ρ, at0, p⟩ => by
    refine tF_next (rel := relI X.K ca) at0 .refl p fun α1 st1 b J H1 a1 _ x1 io p1 => ?_
    refine ⟨fun i m σ' H' => ∃ α' st' ρ', At X.K ca α' st' H' ρ' σ' ∧ Xt X.K α1 st1.length H1 α' st'.length H' ∧ m + i = b.xs.length ∧ FPost X.K ca α st.length H W E (forGo b.chk g s1 (b.xs.drop i) ρ' st'),
      ⟨b.xs.length, α1, st1, ρ, a1, .refl, rfl, p1⟩, ?_⟩
    rintro i m σ' H' ⟨α', st', ρ', a', x', hm, q⟩
    cases hd : b.xs.drop i with
    | nil =>
      rw [hd] at q
      unfold forGo at q
      split at q <;> try exact q.elim
      rename_i ck
      have hl : b.xs.length ≤ i := by simpa using hd
      have hil : i = b.xs.length := by omega
      subst hil
      exact .inl ⟨(io α' st' H' x' a'.lk ck).1, q α' H' σ' (x1.trans x') a'⟩
    | cons d r =>
      rw [hd] at q
      unfold forGo at q
      split at q <;> try exact q.elim
      rename_i ck
      have hlt : i < b.xs.length := by
        apply Classical.byContradiction
        intro hn
        rw [List.drop_eq_nil_of_le (Nat.le_of_not_lt hn)] at hd
        cases hd
      have hget : b.xs[i]? = some d := by
        have : (b.xs.drop i)[0]? = some d := by rw [hd]; rfl
        simpa using this
      have hr : b.xs.drop (i + 1) = r := by
        have : (b.xs.drop i).drop 1 = r := by rw [hd]; rfl
        rw [List.drop_drop] at this
        exact this
      obtain ⟨go, yl⟩ := (io α' st' H' x' a'.lk ck).2 i d hget
      cases eg : g d ρ' with
      | none => rw [eg] at q; exact q.elim
      | some ρ1 =>
        rw [eg] at q
        dsimp only at q
        refine .inr ⟨go, fun σ2 H2 => ∃ α' st' ρ', At X.K ca α' st' H2 ρ' σ2 ∧ Xt X.K α1 st1.length H1 α' st'.length H2 ∧ (m - 1) + (i + 1) = b.xs.length ∧ FPost X.K ca α st.length H W E (forGo b.chk g s1 (b.xs.drop (i + 1)) ρ' st'),
          fun σ2 H2 h => ⟨m - 1, by omega, h⟩, fun x H2 y => ?_⟩
        obtain ⟨xy, Ly, ry⟩ := yl x H2 y
        have ay := a'.later xy Ly
        refine ⟨α', st', d, ρ', ρ1, ay, ry, eg, fun σ3 a3 => ⟨α', st', ρ1, a3, ?_⟩⟩
        have xb := (x1.trans x').trans xy
        have xi := x'.trans xy
        revert q
        cases s1 ρ1 st' with
        | nx ρ2 st2 => exact fun q α4 H4 σ4 x4 a4 => ⟨α4, st2, ρ2, a4, xi.trans x4, by omega, by rw [hr]; exact q⟩
        | ct ρ2 st2 => exact fun q α4 H4 σ4 x4 a4 => ⟨α4, st2, ρ2, a4, xi.trans x4, by omega, by rw [hr]; exact q⟩
        | bk ρ2 st2 => exact fun q α4 H4 σ4 x4 a4 => q α4 H4 σ4 (xb.trans x4) a4
        | rt d2 st2 => exact fun q α4 H4 v x4 L4 r4 => q α4 H4 v (xb.trans x4) L4 r4
        | exc c fs ρ2 st2 => exact fun q α4 H4 σ4 dd x4 a4 r4 => q α4 H4 σ4 dd (xb.trans x4) a4 r4
        | bad => exact fun q => q

/-! ### while -/
def whileN (c : ET) (b : S) : Nat → Env → Sto → Option F
  | 0, _, _ => none
  | n + 1, ρ, st => match c ρ st with
    | .ok false st' => some (.nx ρ st')
    | .ok true st' => match b ρ st' with
      | .nx ρ2 st2 => whileN c b n ρ2 st2
      | .ct ρ2 st2 => whileN c b n ρ2 st2
      | .bk ρ2 st2 => some (.nx ρ2 st2)
      | .rt d st2 => some (.rt d st2)
      | .exc k fs ρ2 st2 => some (.exc k fs ρ2 st2)
      | .bad => some .bad
    | .exc k fs st' => some (.exc k fs ρ st')
    | .bad => some .bad
theorem whileN_mono {c : ET} {b : S} : ∀ {n : Nat} {ρ : Env} {st : Sto} {r : F}, whileN c b n ρ st = some r → ∀ {m : Nat}, n ≤ m → whileN c b m ρ st = some r
  | 0, _, _, _, h, _, _ => by cases h
  | n + 1, ρ, st, r, h, m, hm => by
    obtain ⟨m, rfl⟩ : ∃ k, m = k + 1 := ⟨m - 1, by omega⟩
    unfold whileN at h ⊢
    cases e : c ρ st with
    | exc k fs st' => rw [e] at h; exact h
    | bad => rw [e] at h; exact h
    | ok k st' =>
      rw [e] at h
      cases k with
      | false => exact h
      | true =>
        dsimp only at h ⊢
        cases e2 : b ρ st' with
        | nx ρ2 st2 => rw [e2] at h; exact whileN_mono h (by omega)
        | ct ρ2 st2 => rw [e2] at h; exact whileN_mono h (by omega)
        | bk ρ2 st2 => rw [e2] at h; exact h
        | rt d st2 => rw [e2] at h; exact h
        | exc k fs ρ2 st2 => rw [e2] at h; exact h
        | bad => rw [e2] at h; exact h
open Classical in
noncomputable def sWhile (c : ET) (b : S) : S := fun ρ st => if h : ∃ r, ∃ n, whileN c b n ρ st = some r then h.choose else .bad
theorem sWhile_eq {c : ET} {b : S} {ρ : Env} {st : Sto} {r : F} {n : Nat} (h : whileN c b n ρ st = some r) : sWhile c b ρ st = r := by
  unfold sWhile
  have hx : ∃ r, ∃ n, whileN c b n ρ st = some r := ⟨r, n, h⟩
  rw [dif_pos hx]
  obtain ⟨m, hm⟩ := hx.choose_spec
  have h1 := whileN_mono h (Nat.le_max_left n m)
  have h2 := whileN_mono hm (Nat.le_max_right n m)
  rw [h1] at h2
  exact (Option.some.inj h2).symm
theorem qf_while {body : List Stmt} {tc : ET} {s1 : S} (o : Ok X W) (hc : QT X ca W c tc) (hb : QFs X ca W body s1) : QF X ca W (.While c body [] pos) (sWhile tc s1) :=
  psW (ps_while o.hp hc hb) fun E σ H ⟨α, st, ρ, at0, p⟩ => by
    by_cases hx : ∃ r, ∃ n, whileN tc s1 n ρ st = some r
    · obtain ⟨r, n, hr⟩ := hx
      rw [sWhile_eq hr] at p
      refine ⟨fun m σ' H' => ∃ α' st' ρ', At X.K ca α' st' H' ρ' σ' ∧ Xt X.K α st.length H α' st'.length H' ∧ whileN tc s1 m ρ' st' = some r, ⟨n, α, st, ρ, at0, .refl, hr⟩, ?_⟩
      rintro m σ' H' ⟨α', st', ρ', a', x', h⟩
      refine ⟨α', st', ρ', a', ?_⟩
      cases m with
      | zero => cases h
      | succ m =>
        unfold whileN at h
        cases e : tc ρ' st' with
        | exc k fs st2 =>
          rw [e] at h
          cases h
          exact fun α2 H2 dd x2 L2 r2 => p α2 H2 σ' dd (x'.trans x2) (a'.later x2 L2) r2
        | bad => rw [e] at h; cases h; exact p.elim
        | ok k st2 =>
          rw [e] at h
          intro α2 H2 k' x2 L2 ek
          cases ek
          have a2 := a'.later x2 L2
          cases k with
          | false =>
            cases h
            rw [if_neg Bool.false_ne_true]
            exact p α2 H2 σ' (x'.trans x2) a2
          | true =>
            rw [if_pos rfl]
            refine ⟨fun σ3 H3 => ∃ α' st' ρ', At X.K ca α' st' H3 ρ' σ3 ∧ Xt X.K α st.length H α' st'.length H3 ∧ whileN tc s1 m ρ' st' = some r, fun σ3 H3 h3 => ⟨m, Nat.lt_succ_self _, h3⟩, α2, st2, ρ', a2, ?_⟩
            dsimp only at h
            have xb := x'.trans x2
            cases e2 : s1 ρ' st2 with
            | nx ρ2 st3 => rw [e2] at h; exact fun α4 H4 σ4 x4 a4 => ⟨α4, st3, ρ2, a4, xb.trans x4, h⟩
            | ct ρ2 st3 => rw [e2] at h; exact fun α4 H4 σ4 x4 a4 => ⟨α4, st3, ρ2, a4, xb.trans x4, h⟩
            | bk ρ2 st3 => rw [e2] at h; cases h; exact fun α4 H4 σ4 x4 a4 => p α4 H4 σ4 (xb.trans x4) a4
            | rt d st3 => rw [e2] at h; cases h; exact fun α4 H4 v x4 L4 r4 => p α4 H4 v (xb.trans x4) L4 r4
            | exc k fs ρ2 st3 => rw [e2] at h; cases h; exact fun α4 H4 σ4 dd x4 a4 r4 => p α4 H4 σ4 dd (xb.trans x4) a4 r4
            | bad => rw [e2] at h; cases h; exact p.elim
    · unfold sWhile at p
      rw [dif_neg hx] at p
      exact p.elim

/-! ### comprehensions -/
/-- a comprehension's target: names by their slots -/
inductive CT where
  | one (i : Nat) | tup (is : List Nat)
def CT.slots : CT → List Nat
  | .one i => [i]
  | .tup is => is
def setAll : List Nat → List D → Env → Option Env
  | [], [], ρ => some ρ
  | i :: is, d :: ds, ρ => setAll is ds (ρ.set i (some d))
  | _, _, _ => none
def CT.set : CT → D → Env → Option Env
  | .one i, d, ρ => some (ρ.set i (some d))
  | .tup is, .tup ds, ρ => setAll is ds ρ
  | .tup _, _, _ => none
def gNs : List Nat → TGs
  | [] => gNil
  | i :: is => gCons (gName i) (gNs is)
def CT.g (K : Frag) : CT → TG
  | .one i => gName i
  | .tup is => gTup K is.length (gNs is)
def wipeD (ρ : Env) : List Nat → Env
  | [] => ρ
  | v :: vs => (wipeD ρ vs).set v none
theorem wipe_at {σ : L2.St} : ∀ {vs : List Nat} {i : Nat}, (wipe σ vs)[i]? = if i ∈ vs then (if i < σ.length then some none else none) else σ[i]?
  | [], i => by simp [wipe]
  | v :: vs, i => by
    unfold wipe
    by_cases e : v = i
    · subst e
      simp only [List.mem_cons, true_or, if_true]
      by_cases hv : v < σ.length
      · rw [List.getElem?_set_self (by rw [wipe_length]; exact hv), if_pos hv]
      · rw [List.getElem?_eq_none (by rw [List.length_set, wipe_length]; omega), if_neg hv]
    · rw [List.getElem?_set_ne e, wipe_at]
      have : (i ∈ v :: vs) ↔ i ∈ vs := by simp only [List.mem_cons]; exact ⟨fun h => h.resolve_left fun z => e z.symm, .inr⟩
      simp only [this]
theorem wipe_set {σ : L2.St} {vs : List Nat} {i : Nat} {x : Option V} (h : i ∈ vs) : wipe (σ.set i x) vs = wipe σ vs := by
  apply List.ext_getElem?
  intro j
  rw [wipe_at, wipe_at, List.length_set]
  by_cases hj : j ∈ vs
  · rw [if_pos hj, if_pos hj]
  · rw [if_neg hj, if_neg hj, List.getElem?_set_ne (fun e => hj (by rw [← e]; exact h))]
theorem wipe_wipe {σ : L2.St} {vs : List Nat} : wipe (wipe σ vs) vs = wipe σ vs := by
  apply List.ext_getElem?
  intro j
  rw [wipe_at, wipe_at, wipe_length]
  by_cases hj : j ∈ vs
  · rw [if_pos hj, if_pos hj]
  · rw [if_neg hj, if_neg hj]
theorem RE.wipe {K : Frag} {α : Nat → Addr} {N : Nat} {H : Hp} {ρ : Env} {σ : L2.St} (r : RE K α N H ρ σ) : ∀ vs : List Nat, RE K α N H (wipeD ρ vs) (L2.wipe σ vs)
  | [] => r
  | v :: vs => (RE.wipe r vs).forget v
theorem gNs_ok {K : Frag} {α : Nat → Addr} {N : Nat} {H : Hp} {vs : List Nat} : ∀ {is : List Nat} {ds : List D} {ws : List V} {ρ ρ' : Env} {σ : L2.St} {Q : L2.St → Hp → Prop}, RVs K α N H ds ws → RE K α N H ρ σ → setAll is ds ρ = some ρ' → (∀ i ∈ is, i ∈ vs) →
    (∀ σ', RE K α N H ρ' σ' → wipe σ' vs = wipe σ vs → Q σ' H) → gNs is ws σ H Q
  | [], _, _, ρ, ρ', σ, Q, .nil, re, e, _, q => by cases e; exact ⟨rfl, q σ re rfl⟩
  | [], _, _, _, _, _, _, .cons _ _, _, e, _, _ => by cases e
  | i :: is, _, _, _, _, _, _, .nil, _, e, _, _ => by cases e
  | i :: is, _, _, ρ, ρ', σ, Q, .cons (v := v) h r, re, e, hs, q => by
    refine ⟨_, _, rfl, ?_⟩
    show gNs is _ (σ.set i (some v)) H Q
    exact gNs_ok r (re.set h i) e (fun j hj => hs j (List.mem_cons_of_mem _ hj)) fun σ' r' w' => q σ' r' (w'.trans (wipe_set (hs i List.mem_cons_self)))
theorem CT.ok {K : Frag} {α : Nat → Addr} {N : Nat} {H : Hp} {vs : List Nat} {t : CT} {d : D} {v : V} {ρ ρ' : Env} {σ : L2.St} {Q : L2.St → Hp → Prop} (r : RV K α N H d v) (re : RE K α N H ρ σ) (e : t.set d ρ = some ρ') (hs : ∀ i ∈ t.slots, i ∈ vs)
    (q : ∀ σ', RE K α N H ρ' σ' → wipe σ' vs = wipe σ vs → Q σ' H) : t.g K v σ H Q := by
  cases t with
  | one i =>
    cases e
    exact q _ (re.set r i) (wipe_set (hs i (by simp [CT.slots])))
  | tup is =>
    cases r <;> try cases e
    rename_i h r
    have e : setAll is _ ρ = some ρ' := e
    have hl : is.length = _ := (by
      have go : ∀ {is : List Nat} {ds : List D} {ρ ρ' : Env}, setAll is ds ρ = some ρ' → is.length = ds.length := by
        intro is
        induction is with
        | nil => intro ds ρ ρ' h; cases ds <;> first | rfl | cases h
        | cons i is ih => intro ds ρ ρ' h; cases ds with
          | nil => cases h
          | cons d ds => simp only [List.length_cons]; rw [ih h]
      exact go e)
    exact ⟨_, _, rfl, h, by rw [← r.length, hl], gNs_ok r re e hs q⟩
theorem bind_assoc {β γ δ : Type} (r : R β) (f : β → Sto → R γ) (g : γ → Sto → R δ) : (r.bind f).bind g = r.bind fun x st => (f x st).bind g := by cases r <;> rfl

/-- one block's turn by turn: the items that come out -/
def cNx {β : Type} : R β → R β
  | .ok b st => .ok b st
  | _ => .bad
open Classical in
noncomputable def compGo {β : Type} (chk : Sto → Prop) (t : CT) (tt : ET) (te : Env → Sto → R β) (ρ : Env) : List D → Sto → R (List β)
  | [], st => if chk st then .ok [] st else .bad
  | x :: r, st => if chk st then match t.set x ρ with
    | some ρ1 => (cNx (tt ρ1 st)).bind fun k st => match k with
      | true => (cNx (te ρ1 st)).bind fun y st => (compGo chk t tt te ρ r st).bind fun ys st => .ok (y :: ys) st
      | false => compGo chk t tt te ρ r st
    | none => .bad else .bad
noncomputable def cComp (e : EI) (t : CT) (tt : ET) (te : E) (vs : List Nat) : EL := fun ρ st => (e ρ st).bind fun b st =>
  if b.xs.length ≤ sizeLine then compGo b.chk t tt te (wipeD ρ vs) b.xs st else .bad
def tYesD : ET := fun _ st => .ok true st
/-- the list that grows, which no name holds -/
theorem xt_scratch {K : Frag} {α α' : Nat → Addr} {N N' : Nat} {H H' : Hp} {L : Addr} {ho ho' : HO} (x : Xt K α N H α' N' H') (h0 : H L = none) (hn : ∀ n, n < N' → α' n ≠ L) (h1 : H' L = some ho) (nt : ∀ xs, ho ≠ .tup xs) (nf : ∀ o u, ho ≠ .frz o u) : Xt K α N H α' N' (upd H' L ho') where
  le := x.le
  ag := x.ag
  tup := fun a vs h => sqT_upd (fun xs z => by rw [h1] at z; exact nt xs (Option.some.inj z)) (fun o xs z => by rw [h1] at z; exact nf o _ (Option.some.inj z)) (x.tup a vs h)
  con := fun a vs h => conL_upd (fun o xs z => by rw [h1] at z; exact nf o _ (Option.some.inj z)) (x.con a vs h)
  new := x.new
  keep := fun a o h hne => by rw [upd_ne (ne_of_none h h0)]; exact x.keep a o h hne
  old := fun n hl ho => by
    have := x.old n hl ho
    rw [upd_ne (by rw [← x.ag n hl]; exact hn n (Nat.lt_of_lt_of_le hl x.le))]; exact this
  frz := fun a o u h => by rw [upd_ne (ne_of_none h h0)]; exact x.frz a o u h
theorem lk_scratch {K : Frag} {α : Nat → Addr} {st : Sto} {H : Hp} {L : Addr} {ho ho' : HO} (k : Lk K ca α st H) (hn : ∀ n, n < st.length → α n ≠ L) (h1 : H L = some ho) (nt : ∀ xs, ho ≠ .tup xs) (nf : ∀ o u, ho ≠ .frz o u) : Gr K α st.length H α st.length (upd H L ho') ∧ Lk K ca α st (upd H L ho') := by
  have g : Gr K α st.length H α st.length (upd H L ho') := ⟨Nat.le_refl _, fun _ _ => rfl, fun a vs h => sqT_upd (fun xs z => by rw [h1] at z; exact nt xs (Option.some.inj z)) (fun o xs z => by rw [h1] at z; exact nf o _ (Option.some.inj z)) h,
    fun a vs h => conL_upd (fun o xs z => by rw [h1] at z; exact nf o _ (Option.some.inj z)) h⟩
  exact ⟨g, fun n o h => by
    obtain ⟨x, hx, r⟩ := k.at_ n o h
    exact ⟨x, by rw [upd_ne (hn n (Lk.lt_of h))]; exact hx, r.mono g⟩, k.inj⟩
abbrev W0 : WX := fun _ _ _ _ => False
theorem comp_tLc {e : EI} {t : CT} {tt : ET} {te : E} {own : List (Str × Nat)} {σ : L2.St} {H : Hp} {Q : VK} (hv : ∀ i ∈ t.slots, i ∈ own.map (·.2)) (h : tG X.K ca (relL X.K) W (cComp e t tt te (own.map (·.2))) σ H Q) :
    tLc (tG X.K ca (relI X.K ca) W e) (t.g X.K) (tG X.K ca relB W0 tt) (tG X.K ca (relV X.K) W0 te) (own.map (·.2)) σ H Q := by
  obtain ⟨α, st, ρ, at0, p⟩ := h
  refine tG_next (rel := relI X.K ca) at0 .refl p fun α1 st1 b J H1 a1 _ x1 io p1 => ?_
  intro L hL
  split at p1 <;> try exact p1.elim
  rename_i hz
  have nL : ∀ n, n < st1.length → α1 n ≠ L := fun n hn z => by
    obtain ⟨o, ho⟩ := a1.lk.there hn
    rw [z, hL] at ho; cases ho
  have keyW : ∀ {α' α'' : Nat → Addr} {st' st'' : Sto} {H' H'' : Hp} {accV : List V}, (∀ n, n < st'.length → α' n ≠ L) → H' L = some (.lst accV) → Xt X.K α' st'.length H' α'' st''.length H'' → ∀ n, n < st''.length → α'' n ≠ L := fun {α' α'' st' st'' H' H'' accV} hn hD x n hl z => by
    by_cases h1 : n < st'.length
    · rw [x.ag n h1] at z; exact hn n h1 z
    · have := x.new n (Nat.le_of_not_lt h1) hl
      rw [z, hD] at this; cases this
  have W : ∃ Wv : Nat → Nat → Hp → Prop, Wv = fun i m H' => ∃ α' st' acc accV, At X.K ca α' st' H' ρ σ ∧ Xt X.K α1 st1.length H1 α' st'.length H' ∧ H' L = some (.lst accV) ∧ (∀ n, n < st'.length → α' n ≠ L) ∧ RVs X.K α' st'.length H' acc accV ∧ acc.length ≤ i ∧ m + i = b.xs.length ∧
    Post X.K ca (relL X.K) α st.length H (fun c d H' => W c d σ H') Q ((compGo b.chk t tt te (wipeD ρ (own.map (·.2))) (b.xs.drop i) st').bind fun ys st => .ok (acc ++ ys) st) := ⟨_, rfl⟩
  obtain ⟨Wv, eW⟩ := W
  refine ⟨Wv, ⟨b.xs.length, ?_⟩, ?_⟩
  · rw [eW]
    refine ⟨α1, st1, [], [], a1.later (xt_new hL) (a1.lk.temp hL), xt_new hL, upd_same, nL, .nil, Nat.le_refl _, rfl, ?_⟩
    rw [List.drop_zero]
    have e0 : ∀ r : R (List D), (r.bind fun ys st => .ok ([] ++ ys) st) = r := fun r => by cases r <;> rfl
    rw [e0]
    exact p1
  · intro i m H' hW
    rw [eW] at hW
    obtain ⟨α', st', acc, accV, a', x', hD, nL', ra, hai, hm, q⟩ := hW
    cases hd : b.xs.drop i with
    | nil =>
      rw [hd] at q
      unfold compGo at q
      split at q <;> try exact q.elim
      rename_i ck
      have hl : b.xs.length ≤ i := by simpa using hd
      have hil : i = b.xs.length := by omega
      subst hil
      refine .inl ⟨(io α' st' H' x' a'.lk ck).1, ?_⟩
      rw [R.bind_ok, List.append_nil] at q
      exact q α' H' _ (x1.trans x') a'.lk ⟨L, accV, rfl, x1.fresh hL, hD, ra, nL'⟩
    | cons d r =>
      rw [hd] at q
      unfold compGo at q
      split at q <;> try exact q.elim
      rename_i ck
      have hlt : i < b.xs.length := by
        apply Classical.byContradiction
        intro hn
        rw [List.drop_eq_nil_of_le (Nat.le_of_not_lt hn)] at hd
        cases hd
      have hget : b.xs[i]? = some d := by
        have : (b.xs.drop i)[0]? = some d := by rw [hd]; rfl
        simpa using this
      have hr : b.xs.drop (i + 1) = r := by
        have : (b.xs.drop i).drop 1 = r := by rw [hd]; rfl
        rw [List.drop_drop] at this
        exact this
      obtain ⟨go, yl⟩ := (io α' st' H' x' a'.lk ck).2 i d hget
      cases eg : t.set d (wipeD ρ (own.map (·.2))) with
      | none => rw [eg] at q; exact q.elim
      | some ρ1 =>
        rw [eg] at q
        dsimp only at q
        refine .inr ⟨go, Wv (i + 1) (m - 1), fun H2 h => ⟨m - 1, by omega, h⟩, fun x H2 y => ?_⟩
        obtain ⟨xy, Ly, ry⟩ := yl x H2 y
        have hD2 := xy.keep L _ hD nL'
        have re2 := (a'.re.mono xy.toGr).wipe (own.map (·.2))
        refine CT.ok ry re2 eg hv fun σ2 re3 hw => ⟨hw.trans wipe_wipe, ?_⟩
        refine ⟨α', st', ρ1, ⟨Ly, re3⟩, ?_⟩
        rw [bind_assoc] at q
        revert q
        cases tt ρ1 st' with
        | exc c fs st2 => exact fun q => False.elim q
        | bad => exact fun q => False.elim q
        | ok k st2 =>
          intro q α2 H3 k' x2 L2 ek
          cases ek
          have nL2 := keyW nL' hD2 x2
          have hD3 := x2.keep L _ hD2 nL'
          have xi := (x'.trans xy).trans x2
          cases k with
          | false =>
            rw [if_neg Bool.false_ne_true, eW]
            exact ⟨α2, st2, acc, accV, (a'.later xy Ly).later x2 L2, xi, hD3, nL2, ra.mono (xy.trans x2).toGr, by omega, by omega, by rw [hr]; exact q⟩
          | true =>
            rw [if_pos rfl]
            refine ⟨α2, st2, ρ1, ⟨L2, re3.mono x2.toGr⟩, ?_⟩
            have q : Post X.K ca (relL X.K) α st.length H (fun c d H' => W c d σ H') Q (((cNx (te ρ1 st2)).bind fun y st => (compGo b.chk t tt te (wipeD ρ (own.map (·.2))) r st).bind fun ys st => .ok (y :: ys) st).bind fun ys st => .ok (acc ++ ys) st) := q
            rw [bind_assoc] at q
            revert q
            cases te ρ1 st2 with
            | exc c fs st2 => exact fun q => False.elim q
            | bad => exact fun q => False.elim q
            | ok yd st3 =>
              intro q α3 H4 yv x3 L3 r3
              have nL3 := keyW nL2 hD3 x3
              have hD4 := x3.keep L _ hD3 nL2
              have xi3 := xi.trans x3
              have ra3 := ra.mono ((xy.trans x2).trans x3).toGr
              refine ⟨accV, hD4, by rw [← ra3.length]; omega, ?_⟩
              obtain ⟨g5, L5⟩ := lk_scratch (ho' := .lst (accV ++ [yv])) L3 nL3 hD4 (fun _ z => by cases z) (fun _ _ z => by cases z)
              have x5 := xt_scratch (ho' := .lst (accV ++ [yv])) xi3 hL nL3 hD4 (fun _ z => by cases z) (fun _ _ z => by cases z)
              rw [eW]
              refine ⟨α3, st3, acc ++ [yd], accV ++ [yv], ⟨L5, (((a'.re.mono xy.toGr).mono x2.toGr).mono x3.toGr).mono g5⟩, x5, upd_same, nL3, (ra3.append (.cons r3 .nil)).mono g5, by rw [List.length_append]; show _ + 1 ≤ _; omega, by omega, ?_⟩
              have e1 : ∀ ys : List D, acc ++ [yd] ++ ys = acc ++ yd :: ys := fun ys => by simp
              have q : Post X.K ca (relL X.K) α st.length H (fun c d H' => W c d σ H') Q (((compGo b.chk t tt te (wipeD ρ (own.map (·.2))) r st3).bind fun ys st => .ok (yd :: ys) st).bind fun ys st => .ok (acc ++ ys) st) := q
              rw [bind_assoc] at q
              rw [hr]
              simp only [e1]
              exact q
theorem ql_comp {elt iter : Expr} {ifs : List Expr} {scope : Scope} {own : List (Str × Nat)} {e : EI} {t : CT} {tt : ET} {te : E} (hc : X.calm = true) (hN : X.N.Nodup) (hi : QI X ca W tg iter e) (ok : BlkOk X.N X.env.scope scope own)
    (hg : ∀ (s : Shared) (H : Hp) (C : Addr) (cl : List (Str × Addr)) (fp : List Addr), PG (X.blk s H scope (compEnvC scope cl C X.env) fp) tg (t.g X.K))
    (ht : ∀ (s : Shared) (H : Hp) (C : Addr) (cl : List (Str × Addr)) (fp : List Addr), PTs (X.blk s H scope (compEnvC scope cl C X.env) fp) ifs (tG X.K ca relB W0 tt))
    (he : ∀ (s : Shared) (H : Hp) (C : Addr) (cl : List (Str × Addr)) (fp : List Addr), QE (X.blk s H scope (compEnvC scope cl C X.env) fp) ca W0 elt te)
    (hv : ∀ i ∈ t.slots, i ∈ own.map (·.2)) (hs : ∀ x, foldedSetIterable iter X.env x = pure x := by intro _; rfl) :
    QL X ca W (.ListComp elt [⟨tg, iter, ifs, 0⟩] scope pos) (cComp e t tt te (own.map (·.2))) :=
  peW (pe_lc (te := tG X.K ca (relV X.K) W0 te) hc hN hi ok hg ht he hs) fun σ H Q h => comp_tLc hv h
/-- y = [..], y a plain name -/
theorem qf_setLc (i : Nat) {y : Str} {py spos : Pos} {elt iter : Expr} {ifs : List Expr} {scope : Scope} {own : List (Str × Nat)} {e : EI} {t : CT} {tt : ET} {te : E} (hc : X.calm = true) (hN : X.N.Nodup) (hi : QI X ca W tg iter e) (ok : BlkOk X.N X.env.scope scope own)
    (hg : ∀ (s : Shared) (H : Hp) (C : Addr) (cl : List (Str × Addr)) (fp : List Addr), PG (X.blk s H scope (compEnvC scope cl C X.env) fp) tg (t.g X.K))
    (ht : ∀ (s : Shared) (H : Hp) (C : Addr) (cl : List (Str × Addr)) (fp : List Addr), PTs (X.blk s H scope (compEnvC scope cl C X.env) fp) ifs (tG X.K ca relB W0 tt))
    (he : ∀ (s : Shared) (H : Hp) (C : Addr) (cl : List (Str × Addr)) (fp : List Addr), QE (X.blk s H scope (compEnvC scope cl C X.env) fp) ca W0 elt te)
    (hv : ∀ i ∈ t.slots, i ∈ own.map (·.2)) (hy : X.N[i]? = some y := by rfl) (hyl : X.env.scope.names.lookup y = some .local := by rfl)
    (hsw : swapsWith (.ListComp elt [⟨tg, iter, ifs, 0⟩] scope pos) (some (.Name y py)) spos.line X.env = pure true := by exact sw_true rfl rfl rfl (by decide +kernel)) (hs : ∀ x, foldedSetIterable iter X.env x = pure x := by intro _; rfl) :
    QF X ca W (.Assign [.Name y py] (.ListComp elt [⟨tg, iter, ifs, 0⟩] scope pos) spos) (sSet i (cNew (cComp e t tt te (own.map (·.2))))) :=
  psW (ps_setLc (te := tG X.K ca (relV X.K) W0 te) hc hN hy hyl hsw hi ok hg ht he hs) fun E σ H ⟨α, st, ρ, at0, p⟩ => by
    refine comp_tLc (Q := fun v H' => gName i v σ H' E.nx) hv (W := W) ⟨α, st, ρ, at0, ?_⟩
    have p : FPost X.K ca α st.length H W E (fE ((cComp e t tt te (own.map (·.2)) ρ st).bind fun xs st => .ok (.loc st.length) (st ++ [.lst xs])) ρ fun d st => .nx (ρ.set i (some d)) st) := p
    revert p
    cases cComp e t tt te (own.map (·.2)) ρ st with
    | exc c fs st' => exact fun p α' H' dd x L xd => p α' H' σ dd x (at0.later x L) xd
    | bad => exact fun p => p
    | ok xs st' =>
      intro p α' H' g x L ⟨l, vs, eg, hf, hl, r, hn⟩
      subst eg
      obtain ⟨L2, x2⟩ := L.adopt hl hn (.lst r) x hf
      refine p _ H' _ x2 ⟨L2, ?_⟩
      have g2 : Gr X.K α st.length H (ext α' st'.length l) (st' ++ [O.lst xs]).length H' := x2.toGr
      have rv : RV X.K (ext α' st'.length l) (st' ++ [O.lst xs]).length H' (.loc st'.length) (.ref l) := by
        have e : V.ref l = V.ref (ext α' st'.length l st'.length) := by rw [ext_at]
        rw [e]
        exact .loc (by simp)
      exact (at0.re.mono g2).set rv i
end
end PM

set_option Elab.async false
set_option linter.all false
set_option maxRecDepth 100000
set_option maxHeartbeats 4000000
/-! PM7: defs, calls, classes, errors. -/
namespace PM
open PySem PySem.Spec PyProof.Rows L2

mutual
/-- no object from N on is named -/
def below (N : Nat) : D → Bool
  | .non => true | .bl _ => true | .int _ => true | .str _ => true
  | .tup xs => belowAll N xs
  | .con xs => belowAll N xs
  | .loc n => decide (n < N)
def belowAll (N : Nat) : List D → Bool
  | [] => true
  | x :: xs => below N x && belowAll N xs
end
mutual
theorem RV.low {K : Frag} {α : Nat → Addr} {N N' : Nat} {H : Hp} : ∀ {d : D} {v : V}, RV K α N' H d v → below N d = true → RV K α N H d v
  | _, _, .non, _ => .non
  | _, _, .bl b, _ => .bl b
  | _, _, .int i, _ => .int i
  | _, _, .str s, _ => .str s
  | _, _, .tup h r, e => .tup h (RVs.low r e)
  | _, _, .con h r, e => .con h (RVs.low r e)
  | _, _, .loc _, e => .loc (of_decide_eq_true e)
theorem RVs.low {K : Frag} {α : Nat → Addr} {N N' : Nat} {H : Hp} : ∀ {d : List D} {v : List V}, RVs K α N' H d v → belowAll N d = true → RVs K α N H d v
  | _, _, .nil, _ => .nil
  | _, _, .cons h r, e => .cons (RV.low h (Bool.and_eq_true _ _ |>.mp e).1) (RVs.low r (Bool.and_eq_true _ _ |>.mp e).2)
end
mutual
theorem RV.bel {K : Frag} {α : Nat → Addr} {N : Nat} {H : Hp} : ∀ {d : D} {v : V}, RV K α N H d v → below N d = true
  | _, _, .non => rfl
  | _, _, .bl _ => rfl
  | _, _, .int _ => rfl
  | _, _, .str _ => rfl
  | _, _, .tup _ r => RVs.bel r
  | _, _, .con _ r => RVs.bel r
  | _, _, .loc h => decide_eq_true h
theorem RVs.bel {K : Frag} {α : Nat → Addr} {N : Nat} {H : Hp} : ∀ {d : List D} {v : List V}, RVs K α N H d v → belowAll N d = true
  | _, _, .nil => rfl
  | _, _, .cons h r => Bool.and_eq_true _ _ |>.mpr ⟨RV.bel h, RVs.bel r⟩
end
theorem RKs.low {K : Frag} {α : Nat → Addr} {N N' : Nat} {H : Hp} {κ : Type} : ∀ {d : List (κ × D)} {v w : List (κ × V)}, RKs K α N' H d v → RKs K α N H d w → RKs K α N H d v
  | _, _, _, .nil, .nil => .nil
  | _, _, _, .cons h r, .cons h' r' => .cons (h.low h'.bel) (RKs.low r r')
theorem RKs.low2 {K : Frag} {α α0 : Nat → Addr} {N N' : Nat} {H H0 : Hp} {κ : Type} : ∀ {d : List (κ × D)} {v w : List (κ × V)}, RKs K α N' H d v → RKs K α0 N H0 d w → RKs K α N H d v
  | _, _, _, .nil, .nil => .nil
  | _, _, _, .cons h r, .cons h' r' => .cons (h.low h'.bel) (RKs.low2 r r')
theorem RO.low {K : Frag} {ca : Nat → Addr} {α α0 : Nat → Addr} {N N' : Nat} {H H0 : Hp} {o : O} {ho ho0 : HO} (r : RO K ca α N' H o ho) (r0 : RO K ca α0 N H0 o ho0) : RO K ca α N H o ho := by
  cases r with
  | lst r => cases r0 with | lst r0 => exact .lst (r.low r0.bel)
  | dct r => cases r0 with | dct r0 => exact .dct (r.low2 r0)
  | fdc r => cases r0 with | fdc r0 => exact .fdc (r.low2 r0)
  | dtt r => cases r0 with | dtt r0 => exact .dtt (r.low2 r0)
  | ins r => cases r0 with | ins r0 => exact .ins (r.low2 r0)
/-- objects that nobody can name any more are let go -/
theorem gc_ok {K : Frag} {ca : Nat → Addr} {α α' : Nat → Addr} {st st' : Sto} {H H' : Hp} (L : Lk K ca α st H) (x : Xt K α st.length H α' st'.length H') (L' : Lk K ca α' st' H') (pre : st <+: st') :
    Xt K α st.length H α' st.length H' ∧ Lk K ca α' st H' := by
  obtain ⟨g, rfl⟩ := pre
  refine ⟨⟨⟨Nat.le_refl _, x.ag, x.tup, x.con⟩, fun n h h' => absurd h' (Nat.not_lt.mpr h), x.keep, x.old, x.frz⟩, fun n o h => ?_, fun i j hi hj e => L'.inj i j (by simp; omega) (by simp; omega) e⟩
  have hn := Lk.lt_of h
  obtain ⟨ho, h1, r1⟩ := L'.at_ n o (by rw [List.getElem?_append_left hn]; exact h)
  obtain ⟨ho0, h0, r0⟩ := L.at_ n o h
  exact ⟨ho, h1, r1.low r0⟩
open Classical in
noncomputable def gcR (st : Sto) : R D → R D
  | .ok d st' => if st <+: st' ∧ below st.length d = true then .ok d st else .ok d st'
  | .exc c fs st' => if st <+: st' ∧ fs = [] then .exc c fs st else .exc c fs st'
  | .bad => .bad
/-- a def's mirror, by its body's -/
def outR : F → R D
  | .nx _ st => .ok .non st
  | .rt d st => .ok d st
  | .exc c fs _ st => .exc c fs st
  | _ => .bad
noncomputable def mDef (n : Nat) (s : S) (ds : List D) (st : Sto) : R D := gcR st (outR (s (ds.map some ++ List.replicate (n - ds.length) none) st))
abbrev M := List D → Sto → R D

/-- the promise of a def whose mirror is m -/
def spOf (K : Frag) (ca : Nat → Addr) (n : Nat) (m : M) : Sp := fun vs H Q E => vs.length = n ∧ ∃ α st ds, Lk K ca α st H ∧ RVs K α st.length H ds vs ∧ Post K ca (relV K) α st.length H E Q (m ds st)
/-- a def of the module, by its name -/
def Fn (P : Program) (w : World) (K : Frag) (mg : Str → Option Value) (base : Heap) (ca : Nat → Addr) (k : Nat) (x : Str) (ps : List Str) (m : M) : Prop :=
  ∃ f fd, mg x = some (.ref f) ∧ PySem.W.keepIn K (.ref f) = true ∧ Binds K fd ps [] ∧ FnOk P w K mg base (L2.CX P w) k f fd ps (spOf K ca ps.length m)
/-- a method of class c -/
def Md (P : Program) (w : World) (K : Frag) (mg : Str → Option Value) (base : Heap) (ca : Nat → Addr) (k : Nat) (c : Nat) (x : Str) (ps : List Str) (m : M) : Prop :=
  ∃ f fd, Cls K (ca c) ∧ Meth K (ca c) x f ∧ Binds K fd ps [] ∧ FnOk P w K mg base (L2.CX P w) k f fd ps (spOf K ca ps.length m)
/-- a class that is called: its __init__ -/
def Cm (P : Program) (w : World) (K : Frag) (mg : Str → Option Value) (base : Heap) (ca : Nat → Addr) (k : Nat) (c : Nat) (x : Str) (ps : List Str) (m : M) : Prop :=
  ∃ f fd, mg x = some (.ref (ca c)) ∧ Mk K (ca c) f ∧ Binds K fd ps [] ∧ FnOk P w K mg base (L2.CX P w) k f fd ps (spOf K ca ps.length m)

section
variable {P : Program} {w : World} {K : Frag} {mg : Str → Option Value} {base : Heap} {ca : Nat → Addr}
/-- THE RULE for a def: its body's derivation -/
theorem fn_ok {x qual : Str} {st : Stmt} {f : Addr} {fd : FuncData} {N ps : List Str} {k : Nat} {s : S} (Fx : Fun K x qual st f fd) (sc : FnScope N ps (defScope st))
    (hb : ∀ (cdv : Value) (A : Around) (outer : List PySem.Env) (s0 : Shared) (H : Hp) (E : XK), Room k (A.deeper (envOfC qual (defScope st) s0.heap.objs.size f cdv)) →
      Ok (cxOf (L2.CX P w) P w K mg base N qual (defScope st) f cdv A outer s0 H E) (fun c d _ H => E c d H) →
      QFs (cxOf (L2.CX P w) P w K mg base N qual (defScope st) f cdv A outer s0 H E) ca (fun c d _ H => E c d H) (defBody st) s) :
    FnOk P w K mg base (L2.CX P w) (k + 1) f fd ps (spOf K ca ps.length (mDef N.length s)) := by
  refine Fx.okX sc (fun vs H Q E h => h.1) fun cdv A outer s0 H vs Q E hr h => ?_
  obtain ⟨hl, α, st, ds, L, r, p⟩ := h
  refine ⟨_, hb cdv A outer s0 H E hr ⟨takes_of rfl rfl rfl rfl, passes_of (K := fun e s' => L2.CX P w outer H s0 E e s') rfl, rfl⟩, ?_⟩
  have hds : ds.length = vs.length := r.length
  refine ⟨α, st, ds.map some ++ List.replicate (N.length - ds.length) none, ⟨L, ?_⟩, ?_⟩
  · unfold L2.start
    rw [hds]
    exact RE.start r _
  · unfold mDef at p
    revert p
    cases s (ds.map some ++ List.replicate (N.length - ds.length) none) st with
    | nx ρ st' =>
      intro p α' H' σ' x a
      simp only [outR, gcR] at p
      split at p
      · rename_i h
        obtain ⟨x2, L2⟩ := gc_ok L x a.lk h.1
        exact p α' H' .non x2 L2 .non
      · exact p α' H' .non x a.lk .non
    | rt d st' =>
      intro p α' H' v x L' rv
      simp only [outR, gcR] at p
      split at p
      · rename_i h
        obtain ⟨x2, L2⟩ := gc_ok L x L' h.1
        exact p α' H' v x2 L2 (rv.low h.2)
      · exact p α' H' v x L' rv
    | exc c fs ρ st' =>
      intro p α' H' σ' dd x a xd
      simp only [outR, gcR] at p
      split at p
      · rename_i h
        obtain ⟨x2, L2⟩ := gc_ok L x a.lk h.1
        refine p α' H' dd x2 L2 ?_
        obtain ⟨_, rfl⟩ := h
        rcases xd with ⟨_, e⟩ | ⟨d, gs, e1, e2, r⟩
        · exact .inl ⟨rfl, e⟩
        · cases r
          exact .inr ⟨d, _, e1, e2, .nil⟩
      · exact p α' H' dd x a.lk xd
    | bk _ _ => exact fun p => False.elim p
    | ct _ _ => exact fun p => False.elim p
    | bad => exact fun p => False.elim p
theorem FnOk.up {k k' : Nat} {f : Addr} {fd : FuncData} {ps : List Str} {m : M} (h : FnOk P w K mg base (L2.CX P w) k f fd ps (spOf K ca ps.length m)) (hk : k ≤ k') : FnOk P w K mg base (L2.CX P w) k' f fd ps (spOf K ca ps.length m) := h.mono hk
theorem Fn.up {k k' : Nat} {x : Str} {ps : List Str} {m : M} (h : Fn P w K mg base ca k x ps m) (hk : k ≤ k') : Fn P w K mg base ca k' x ps m := by
  obtain ⟨f, fd, h1, h2, h3, h4⟩ := h
  exact ⟨f, fd, h1, h2, h3, h4.mono hk⟩
/-- a mirror that tells less -/
def Le (m m' : M) : Prop := ∀ ds st, m ds st = .bad ∨ m ds st = m' ds st
theorem spOf_le {n : Nat} {m m' : M} (h : Le m m') {vs : List V} {H : Hp} {Q : VK} {E : XK} (p : spOf K ca n m vs H Q E) : spOf K ca n m' vs H Q E := by
  obtain ⟨h1, α, st, ds, L, r, p⟩ := p
  refine ⟨h1, α, st, ds, L, r, ?_⟩
  rcases h ds st with e | e
  · rw [e] at p; exact p.elim
  · rw [← e]; exact p
end

section
variable {X : Cx} {ca : Nat → Addr} {W : WX} {a b c o : Expr} {ea eb ec eo : E} {pos : Pos} {es : List Expr} {ees : List E} {x : Str} {p0 apos cpos : Pos} {k : Nat} {ps : List Str} {m : M}
theorem tG_next3 {K : Frag} {β γ β' γ' : Type} {rel : Rel β γ} {rel' : Rel β' γ'} {e : Env → Sto → R β} {f : β → Sto → R β'} {σ : L2.St} {H0 H1 : Hp} {Q : γ' → Hp → Prop} {T : γ → Hp → Prop} {α α0 : Nat → Addr} {st : Sto} {N0 : Nat} {ρ : Env}
    (a : At K ca α st H1 ρ σ) (x : Xt K α0 N0 H0 α st.length H1) (p : Post K ca rel' α0 N0 H0 (fun c d H' => W c d σ H') Q ((e ρ st).bind f))
    (go : ∀ α2 st2 b g H2, e ρ st = .ok b st2 → At K ca α2 st2 H2 ρ σ → Xt K α st.length H1 α2 st2.length H2 → Xt K α0 N0 H0 α2 st2.length H2 → rel H1 α2 st2.length H2 b g → Post K ca rel' α0 N0 H0 (fun c d H' => W c d σ H') Q (f b st2) → T g H2) :
    tG K ca rel W e σ H1 T := by
  refine ⟨α, st, ρ, a, ?_⟩
  cases q : e ρ st with
  | ok b st1 => rw [q] at p; exact fun α1 H2 g x2 L r => go α1 st1 b g H2 q (a.later x2 L) x2 (x.trans x2) r p
  | exc c fs st1 => rw [q] at p; exact fun α1 H2 dd x2 L r => p α1 H2 dd (x.trans x2) L r
  | bad => rw [q] at p; exact p
def cCall (m : M) (es : List E) : E := fun ρ st => (cArgs es ρ st).bind m
theorem sp_of {n : Nat} {σ : L2.St} {H1 : Hp} {α1 α0 : Nat → Addr} {st1 : Sto} {N0 : Nat} {H0 : Hp} {ds : List D} {vs : List V} {Q : VK} (L : Lk X.K ca α1 st1 H1) (x1 : Xt X.K α0 N0 H0 α1 st1.length H1) (r : RVs X.K α1 st1.length H1 ds vs) (hn : ds.length = n)
    (p : Post X.K ca (relV X.K) α0 N0 H0 (fun c d H' => W c d σ H') Q (m ds st1)) : spOf X.K ca n m vs H1 Q (WE W σ) :=
  ⟨by rw [← r.length]; exact hn, α1, st1, ds, L, r, Post.later relV_ok x1 p⟩
theorem qe_call (F : Fn X.prog X.w X.K X.mg X.base ca k x ps m) (hr : Room k X.A) (ok : Ok X W) (ha : QA X ca W (a :: es) (cArgs ees)) (hg : Gl X x) (hn : ees.length = ps.length := by rfl) (hdb : (x == ("__debug__" : Str)) = false := by decide)
    (he : starEach (a :: es) X.env = (false, eval a X.env) :: starEach es X.env := by rfl) (hpl : (backTo pos (starEach es X.env)).any (·.1) = false := by rfl) : QE X ca W (.Call (.Name x p0) (a :: es) [] pos) (cCall m ees) := by
  obtain ⟨f, fd, h1, h2, h3, h4⟩ := F
  exact peW (pe_callS h4 hr hg h1 h2 h3 (fun σ => passAt ok.tk σ) ha hdb he hpl) fun σ H Q ⟨α, st, ρ, at0, p⟩ => tG_next2 at0 .refl p fun α1 st1 ds vs H1 q a1 x1 r1 p1 => sp_of a1.lk x1 r1 ((cArgs_length q).trans hn) p1
theorem pe_callS0 {CX : CXT} {f : Addr} {fd : FuncData} {sp : Sp} {E : L2.St → XK} {p pos : Pos} (F : FnOk X.prog X.w X.K X.mg X.base CX k f fd ps sp) (hr : Room k X.A) (hg : Gl X x) (hm : X.mg x = some (.ref f)) (hk : PySem.W.keepIn X.K (.ref f) = true) (hb : Binds X.K fd ps []) (hx : ∀ σ, PassesAt CX X σ (E σ))
    (hdb : (x == ("__debug__" : Str)) = false := by decide) : PE X (.Call (.Name x p) [] [] pos) (fun σ H Q => sp [] H Q (E σ)) := by
  refine ⟨fun pins s σ H Q I h => ?_⟩
  refine wpAny_Call_Name_kw (ld_glob I hg hm ?_ hdb)
  exact PySem.W.callWith_K0 I.kIn hk (run_fnS (us := []) F hr hb (hx σ) I .nil h)
theorem qe_call0 (F : Fn X.prog X.w X.K X.mg X.base ca k x ps m) (hr : Room k X.A) (ok : Ok X W) (hg : Gl X x) (hn : ([] : List E).length = ps.length := by rfl) (hdb : (x == ("__debug__" : Str)) = false := by decide) : QE X ca W (.Call (.Name x p0) [] [] pos) (cCall m []) := by
  obtain ⟨f, fd, h1, h2, h3, h4⟩ := F
  exact peW (pe_callS0 h4 hr hg h1 h2 h3 (fun σ => passAt ok.tk σ) hdb) fun σ H Q ⟨α, st, ρ, at0, p⟩ => sp_of (ds := []) at0.lk .refl .nil hn p
/-- o.m(..) of class c -/
def cMeth (c : Nat) (x : Str) (m : M) (o : E) (es : List E) : E := fun ρ st => (o ρ st).bind fun d st => match d with
  | .loc n => match st[n]? with
    | some (.ins c' fs) => if c' = c ∧ fs.lookup x = none then (cArgs es ρ st).bind fun ds st => m (d :: ds) st else .bad
    | _ => .bad
  | _ => .bad
theorem pe_methS {CX : CXT} {f C : Addr} {fd : FuncData} {sp : Sp} {E : L2.St → XK} {ta : TE} {t : TA} {pl : Sem Bool} (he : PE X o ta) (c : Cls X.K C) (hm : Meth X.K C x f) (F : FnOk X.prog X.w X.K X.mg X.base CX k f fd ps sp) (hr : Room k X.A) (hb : Binds X.K fd ps []) (hx : ∀ σ, PassesAt CX X σ (E σ)) (ha : PA X (a :: es) t)
    (hst : starEach (a :: es) X.env = (false, eval a X.env) :: starEach es X.env := by rfl) (hpl : (backTo pos (starEach es X.env)).any (·.1) = false := by rfl)
    (ht : eval (.Call (.Attribute o x apos) (a :: es) [] pos) X.env = (do
      let ov ← eval o X.env
      standAt apos.atName
      let (f, first) ← holding [ov] (getMethod ov x pl)
      callWith pos f first (backTo pos (starEach (a :: es) X.env)) (backToKw pos (keywordEach [] X.env))) := by rfl) :
    PE X (.Call (.Attribute o x apos) (a :: es) [] pos) (fun σ H Q => ta σ H fun y H1 => ∃ a dx fs, y = .ref a ∧ H1 a = some (.ins C dx fs) ∧ fs.lookup x = none ∧ t σ H1 fun vs H2 => sp (y :: vs) H2 Q (E σ)) := by
  refine ⟨fun pins s σ H Q I h => ?_⟩
  refine PySem.W.methodCall_KW (pl := pl) (thn (he.run pins s σ H _ I h) fun u s1 ⟨y, H1, I1, rx, a, dx, fs, ex, ea, l, q⟩ => ?_) ht
  subst ex
  obtain rfl : u = Value.ref a := rx
  refine getmeth_ok I1 ea c hm l ?_
  refine PySem.W.callWith_K (first := [.ref a]) (h₀ := X.base) I.ok.mod.kin hm.kp (thn (ha.run pos pins s1 σ H1 _ I1 q) fun us s2 ⟨vs, H2, I2, r, q2⟩ => ⟨I2.kIn, ?_⟩) hst hpl
  exact run_fnS (us := .ref a :: us) (vs := .ref a :: vs) F hr hb (hx σ) I2 (.cons rfl r) q2
theorem pe_methS0 {CX : CXT} {f C : Addr} {fd : FuncData} {sp : Sp} {E : L2.St → XK} {ta : TE} {pl : Sem Bool} (he : PE X o ta) (c : Cls X.K C) (hm : Meth X.K C x f) (F : FnOk X.prog X.w X.K X.mg X.base CX k f fd ps sp) (hr : Room k X.A) (hb : Binds X.K fd ps []) (hx : ∀ σ, PassesAt CX X σ (E σ))
    (ht : eval (.Call (.Attribute o x apos) [] [] pos) X.env = (do
      let ov ← eval o X.env
      standAt apos.atName
      let (f, first) ← holding [ov] (getMethod ov x pl)
      callWith pos f first (backTo pos (starEach [] X.env)) (backToKw pos (keywordEach [] X.env))) := by rfl) :
    PE X (.Call (.Attribute o x apos) [] [] pos) (fun σ H Q => ta σ H fun y H1 => ∃ a dx fs, y = .ref a ∧ H1 a = some (.ins C dx fs) ∧ fs.lookup x = none ∧ sp [y] H1 Q (E σ)) := by
  refine ⟨fun pins s σ H Q I h => ?_⟩
  refine PySem.W.methodCall_KW (pl := pl) (thn (he.run pins s σ H _ I h) fun u s1 ⟨y, H1, I1, rx, a, dx, fs, ex, ea, l, q⟩ => ?_) ht
  subst ex
  obtain rfl : u = Value.ref a := rx
  refine getmeth_ok I1 ea c hm l ?_
  exact PySem.W.callWith_K0 (first := [.ref a]) I1.kIn hm.kp (run_fnS (us := [.ref a]) (vs := [.ref a]) F hr hb (hx σ) I1 (.cons rfl .nil) q)
theorem qe_meth {c : Nat} {pl : Sem Bool} (F : Md X.prog X.w X.K X.mg X.base ca k c x ps m) (hr : Room k X.A) (ok : Ok X W) (ho : QE X ca W o eo) (ha : QA X ca W (a :: es) (cArgs ees)) (hn : (eo :: ees).length = ps.length := by rfl)
    (hst : starEach (a :: es) X.env = (false, eval a X.env) :: starEach es X.env := by rfl) (hpl : (backTo pos (starEach es X.env)).any (·.1) = false := by rfl)
    (ht : eval (.Call (.Attribute o x apos) (a :: es) [] pos) X.env = (do
      let ov ← eval o X.env
      standAt apos.atName
      let (f, first) ← holding [ov] (getMethod ov x pl)
      callWith pos f first (backTo pos (starEach (a :: es) X.env)) (backToKw pos (keywordEach [] X.env))) := by rfl) :
    QE X ca W (.Call (.Attribute o x apos) (a :: es) [] pos) (cMeth c x m eo ees) := by
  obtain ⟨f, fd, h1, h2, h3, h4⟩ := F
  refine peW (pe_methS (E := WE W) ho h1 h2 h4 hr h3 (fun σ => passAt ok.tk σ) ha hst hpl ht) fun σ H Q ⟨α, st, ρ, at0, p⟩ => tG_next (rel := relV X.K) at0 .refl p fun α1 st1 d v H1 a1 _ x1 r1 p1 => ?_
  have r1' := r1
  cases r1 <;> try exact False.elim p1
  dsimp only at p1
  split at p1 <;> try exact p1.elim
  rename_i c' fs e
  split at p1 <;> try exact p1.elim
  rename_i hc
  obtain ⟨rfl, hl⟩ := hc
  obtain ⟨dx, gs, g1, q1⟩ := lk_ins a1.lk e
  refine ⟨_, dx, gs, rfl, g1, ?_, tG_next3 a1 x1 p1 fun α2 st2 ds vs H2 q a2 x2 xb r2 p2 => ?_⟩
  · rcases q1.fld x with ⟨_, e2⟩ | ⟨_, _, e1, _⟩
    · exact e2
    · rw [hl] at e1; cases e1
  · exact sp_of a2.lk xb (.cons (r1'.mono x2.toGr) r2) (by rw [List.length_cons, cArgs_length q]; exact hn) p2
theorem qe_meth0 {c : Nat} {pl : Sem Bool} (F : Md X.prog X.w X.K X.mg X.base ca k c x ps m) (hr : Room k X.A) (ok : Ok X W) (ho : QE X ca W o eo) (hn : ([eo] : List E).length = ps.length := by rfl)
    (ht : eval (.Call (.Attribute o x apos) [] [] pos) X.env = (do
      let ov ← eval o X.env
      standAt apos.atName
      let (f, first) ← holding [ov] (getMethod ov x pl)
      callWith pos f first (backTo pos (starEach [] X.env)) (backToKw pos (keywordEach [] X.env))) := by rfl) :
    QE X ca W (.Call (.Attribute o x apos) [] [] pos) (cMeth c x m eo []) := by
  obtain ⟨f, fd, h1, h2, h3, h4⟩ := F
  refine peW (pe_methS0 (E := WE W) ho h1 h2 h4 hr h3 (fun σ => passAt ok.tk σ) ht) fun σ H Q ⟨α, st, ρ, at0, p⟩ => tG_next (rel := relV X.K) at0 .refl p fun α1 st1 d v H1 a1 _ x1 r1 p1 => ?_
  have r1' := r1
  cases r1 <;> try exact False.elim p1
  dsimp only at p1
  split at p1 <;> try exact p1.elim
  rename_i c' fs e
  split at p1 <;> try exact p1.elim
  rename_i hc
  obtain ⟨rfl, hl⟩ := hc
  obtain ⟨dx, gs, g1, q1⟩ := lk_ins a1.lk e
  refine ⟨_, dx, gs, rfl, g1, ?_, sp_of (ds := [_]) a1.lk x1 (.cons r1' .nil) hn p1⟩
  rcases q1.fld x with ⟨_, e2⟩ | ⟨_, _, e1, _⟩
  · exact e2
  · rw [hl] at e1; cases e1
/-- C(..) -/
def nonTo (n : Nat) : D → Sto → R D
  | .non, st => .ok (.loc n) st
  | _, _ => .bad
def cMake (c : Nat) (m : M) (es : List E) : E := fun ρ st => (cArgs es ρ st).bind fun ds st => (m (.loc st.length :: ds) (st ++ [.ins c []])).bind (nonTo st.length)
theorem run_makeS {CX : CXT} {f C : Addr} {fd : FuncData} {sp : Sp} {E : XK} {pins : List (Addr × Obj)} {σ : L2.St} {H : Hp} {s : Shared} {Q : VK} {us : List Value} {vs : List V} (M : Mk X.K C f) (F : FnOk X.prog X.w X.K X.mg X.base CX k f fd ps sp) (hr : Room (k + 1) X.A) (hb : Binds X.K fd ps [])
    (hx : PassesAt CX X σ E) (I : Inv X pins σ H s) (r : Vals vs us)
    (h : ∀ x dx, H x = none → H dx = none → dx ≠ x → sp (.ref x :: vs) (upd (upd H dx (.own x)) x (.ins C dx [])) (fun v H2 => v = .non ∧ Q (.ref x) H2) E) :
    wpAny (model X.prog X.w) X.A (call (.ref C) us) (EP X pins σ Q) X.xe s := by
  have hq := h (s.heap.objs.size + 1) s.heap.objs.size (I.hok.fresh (Nat.le_succ _)) (I.hok.fresh (Nat.le_refl _)) (Nat.ne_of_lt (Nat.lt_succ_self _))
  have I2 := Inv.made (C := C) I
  have r2 : Vals (V.ref (s.heap.objs.size + 1) :: vs) (Value.ref (s.heap.objs.size + 1) :: us) := .cons rfl r
  have hl : (Value.ref (s.heap.objs.size + 1) :: us).length = ps.length := by
    have e := r2.length
    rw [F.len _ _ _ _ hq] at e
    exact e.symm
  have b := hb _ (Value.ref (s.heap.objs.size + 1) :: us) I2.kIn (by rw [List.append_nil]; exact hl)
  rw [List.append_nil] at b
  refine wpAny_call (make_map (f := f) I.kIn M.makes M.init (beq_iff_eq.mp M.fn) (codeAny_mono (F.run _ X.stack _ _ ⟨Value.ref (s.heap.objs.size + 1) :: us, []⟩ (Value.ref (s.heap.objs.size + 1) :: us) _ _ E (hr.make C us [])
    (I2.env0.make C us []) b r2 hq) fun r s' hq' => ?_))
  cases r with
  | error e => exact hx pins _ _ e s' I2 hq'
  | ok fl =>
    cases fl with
    | ret u =>
      obtain ⟨v, H', I3, rv, ev, q3⟩ := I2.after hq'
      subst ev
      exact ⟨rv, ⟨V.ref (s.heap.objs.size + 1), H', I3, rfl, q3⟩⟩
    | next => exact False.elim hq'
    | brk => exact False.elim hq'
    | cont => exact False.elim hq'
theorem pe_makeS {CX : CXT} {f C : Addr} {fd : FuncData} {sp : Sp} {E : L2.St → XK} {t : TA} (M : Mk X.K C f) (F : FnOk X.prog X.w X.K X.mg X.base CX k f fd ps sp) (hr : Room (k + 1) X.A) (hg : Gl X x) (hm : X.mg x = some (.ref C)) (hb : Binds X.K fd ps []) (hx : ∀ σ, PassesAt CX X σ (E σ))
    (ha : PA X (a :: es) t) (hdb : (x == ("__debug__" : Str)) = false := by decide) (he : starEach (a :: es) X.env = (false, eval a X.env) :: starEach es X.env := by rfl) (hpl : (backTo pos (starEach es X.env)).any (·.1) = false := by rfl) :
    PE X (.Call (.Name x p0) (a :: es) [] pos) (fun σ H Q => t σ H fun vs H1 => ∀ x dx, H1 x = none → H1 dx = none → dx ≠ x → sp (.ref x :: vs) (upd (upd H1 dx (.own x)) x (.ins C dx [])) (fun v H2 => v = .non ∧ Q (.ref x) H2) (E σ)) := by
  refine ⟨fun pins s σ H Q I h => ?_⟩
  refine wpAny_Call_Name_kw (ld_glob I hg hm ?_ hdb)
  refine PySem.W.callWith_K (h₀ := X.base) I.ok.mod.kin M.kp (thn (ha.run pos pins s σ H _ I h) fun us s1 ⟨vs, H1, I1, r, q⟩ => ⟨I1.kIn, ?_⟩) he hpl
  exact run_makeS M F hr hb (hx σ) I1 r q
theorem pe_makeS0 {CX : CXT} {f C : Addr} {fd : FuncData} {sp : Sp} {E : L2.St → XK} (M : Mk X.K C f) (F : FnOk X.prog X.w X.K X.mg X.base CX k f fd ps sp) (hr : Room (k + 1) X.A) (hg : Gl X x) (hm : X.mg x = some (.ref C)) (hb : Binds X.K fd ps []) (hx : ∀ σ, PassesAt CX X σ (E σ))
    (hdb : (x == ("__debug__" : Str)) = false := by decide) :
    PE X (.Call (.Name x p0) [] [] pos) (fun σ H1 Q => ∀ x dx, H1 x = none → H1 dx = none → dx ≠ x → sp [.ref x] (upd (upd H1 dx (.own x)) x (.ins C dx [])) (fun v H2 => v = .non ∧ Q (.ref x) H2) (E σ)) := by
  refine ⟨fun pins s σ H Q I h => ?_⟩
  refine wpAny_Call_Name_kw (ld_glob I hg hm ?_ hdb)
  exact PySem.W.callWith_K0 I.kIn M.kp (run_makeS (us := []) (vs := []) M F hr hb (hx σ) I .nil h)
theorem make_ok {c : Nat} {n : Nat} {σ : L2.St} {H1 : Hp} {α1 α0 : Nat → Addr} {st1 : Sto} {N0 : Nat} {H0 : Hp} {ds : List D} {vs : List V} {Q : VK} (L : Lk X.K ca α1 st1 H1) (x1 : Xt X.K α0 N0 H0 α1 st1.length H1) (r : RVs X.K α1 st1.length H1 ds vs) (hn : ds.length + 1 = n)
    (p : Post X.K ca (relV X.K) α0 N0 H0 (fun c d H' => W c d σ H') Q ((m (.loc st1.length :: ds) (st1 ++ [.ins c []])).bind (nonTo st1.length))) :
    ∀ x dx, H1 x = none → H1 dx = none → dx ≠ x → spOf X.K ca n m (.ref x :: vs) (upd (upd H1 dx (.own x)) x (.ins (ca c) dx [])) (fun v H2 => v = .non ∧ Q (.ref x) H2) (WE W σ) := by
  intro x dx hx hdx hne
  have hx' : upd H1 dx (.own x) x = none := by rw [upd_ne (Ne.symm hne)]; exact hx
  have Ld := L.temp (ho := .own x) hdx
  have xd := xt_new (K := X.K) (α := α1) (N := st1.length) (ho := .own x) hdx
  obtain ⟨L2, x2⟩ := Ld.alloc hx' (o := .ins c []) (.ins (dx := dx) .nil)
  have xx := (x1.trans xd).trans x2
  refine ⟨by rw [List.length_cons, ← r.length]; exact hn, ext α1 st1.length x, st1 ++ [.ins c []], .loc st1.length :: ds, L2, .cons ?_ (r.mono (xd.trans x2).toGr), ?_⟩
  · have e : V.ref x = V.ref (ext α1 st1.length x st1.length) := by rw [ext_at]
    rw [e]
    exact .loc (by simp)
  · have p := Post.later relV_ok xx p
    revert p
    cases m (.loc st1.length :: ds) (st1 ++ [.ins c []]) with
    | ok d st' =>
      intro p α' H' g x3 L3 r3
      cases r3 <;> try exact False.elim p
      refine ⟨rfl, p α' H' _ x3 L3 ?_⟩
      have e : V.ref x = V.ref (α' st1.length) := by rw [x3.ag st1.length (by simp), ext_at]
      rw [e]
      exact .loc (Nat.lt_of_lt_of_le (by simp) x3.le)
    | exc c fs st' => exact fun p => p
    | bad => exact fun p => p
theorem qe_make {c : Nat} (F : Cm X.prog X.w X.K X.mg X.base ca k c x ps m) (hr : Room (k + 1) X.A) (ok : Ok X W) (ha : QA X ca W (a :: es) (cArgs ees)) (hg : Gl X x) (hn : ees.length + 1 = ps.length := by rfl) (hdb : (x == ("__debug__" : Str)) = false := by decide)
    (he : starEach (a :: es) X.env = (false, eval a X.env) :: starEach es X.env := by rfl) (hpl : (backTo pos (starEach es X.env)).any (·.1) = false := by rfl) : QE X ca W (.Call (.Name x p0) (a :: es) [] pos) (cMake c m ees) := by
  obtain ⟨f, fd, h1, h2, h3, h4⟩ := F
  exact peW (pe_makeS (E := WE W) h2 h4 hr hg h1 h3 (fun σ => passAt ok.tk σ) ha hdb he hpl) fun σ H Q ⟨α, st, ρ, at0, p⟩ => tG_next2 at0 .refl p fun α1 st1 ds vs H1 q a1 x1 r1 p1 => make_ok a1.lk x1 r1 (by rw [cArgs_length q]; exact hn) p1
theorem qe_make0 {c : Nat} (F : Cm X.prog X.w X.K X.mg X.base ca k c x ps m) (hr : Room (k + 1) X.A) (ok : Ok X W) (hg : Gl X x) (hn : 1 = ps.length := by rfl) (hdb : (x == ("__debug__" : Str)) = false := by decide) : QE X ca W (.Call (.Name x p0) [] [] pos) (cMake c m []) := by
  obtain ⟨f, fd, h1, h2, h3, h4⟩ := F
  exact peW (pe_makeS0 (E := WE W) h2 h4 hr hg h1 h3 (fun σ => passAt ok.tk σ) hdb) fun σ H Q ⟨α, st, ρ, at0, p⟩ => make_ok (ds := []) at0.lk .refl .nil hn p

/-! ### errors -/
/-- an error class of the program, over ValueError, without own __init__ -/
structure ExC (X : Cx) (ca : Nat → Addr) (c : Nat) (x : Str) : Prop where
  g : X.mg x = some (.ref (ca c))
  q : PySem.W.excIn X.K (ca c) [.type "ValueError", .type "Exception", .type "BaseException", .type "object"] "ValueError.__new__" = true
  k : PySem.W.keepIn X.K (.ref (ca c)) = true
  b : PySem.W.subIn X.K (.ref (ca c)) (.type "BaseException") = some true
  t : PySem.W.typeIn X.K (.ref (ca c)) = some (.type "type")
theorem pmk_own0 {c : Nat} (ex : ExC X ca c x) (hg : Gl X x) (hdb : (x == ("__debug__" : Str)) = false := by decide) : PMk X (.Call (.Name x p0) [] [] pos) (fun _ H Q => Q (.ref (ca c)) none H) := by
  intro pins s σ H Q I h
  refine wpAny_Call_Name_kw (ld_glob I hg ex.g ?_ hdb)
  refine PySem.W.callWith_K0 I.kIn ex.k ?_
  show wpAny _ _ (call (.ref (ca c)) []) _ _ _
  obtain ⟨bm, N, nm, qn, bs, hdct, sn, sub, ab, col, dd, k0, k1, k2, k3, k5, mN, hC, hN, hni, T⟩ := exc_obj I.kIn ex.q
  refine wpAny_call_exc_subT PySem.F.excBase_ValueError T hC hN hni (fun h' e hm => ?_) (by show 0 ≤ sizeLine; exact Nat.zero_le _)
  exact mk_of I hm (raises_own ex.b ex.t) h (I.hok.gone hm.new)
def sRaise (c : Nat) : S := fun ρ st => .exc c [] ρ st
theorem qf_raise0 {c : Nat} {pos' : Pos} (o : Ok X W) (ex : ExC X ca c x) (hg : Gl X x) (hdb : (x == ("__debug__" : Str)) = false := by decide) : QF X ca W (.Raise (some (.Call (.Name x p0) [] [] pos)) none pos') (sRaise c) :=
  psW (ps_raise o.calm o.tk (pmk_own0 ex hg hdb)) fun E σ H ⟨α, st, ρ, at0, p⟩ => p α H σ none .refl at0 (.inl ⟨rfl, rfl⟩)
/-- a suite from which nothing is raised -/
def fNx : F → F
  | .exc _ _ _ _ => .bad
  | f => f
def sTry (mt : Nat → Option Bool) (body h : S) : S := fun ρ st => match body ρ st with
  | .exc c fs ρ' st' => match mt c with
    | some true => fNx (h ρ' st')
    | some false => .exc c fs ρ' st'
    | none => .bad
  | f => f
theorem fNx_ok {K : Frag} {α : Nat → Addr} {N : Nat} {H : Hp} {E : Ends} {f : F} (p : FPost K ca α N H W E (fNx f)) : FPost K ca α N H W0 E f := by
  cases f <;> first | exact p | exact False.elim p
theorem qf_try {body suite : List Stmt} {b₀ : Stmt} {sb sh : S} {np pos' : Pos} {cv : Value} {mt : Nat → Option Bool} (o : Ok X W) (hs : X.stack = X.env :: X.outer) (hf : X.env.frame = some X.env.locals) (hc : Names X x cv) (hm : ∀ c b, mt c = some b → PySem.W.exmOne X.K (.ref (ca c)) cv = some b)
    (hb : ∀ (W' : WX) (pn : List (Addr × Obj)) (xe : Value → Shared → Prop), Ok (X.tr pn xe) W' → QFs (X.tr pn xe) ca W' body sb)
    (hsu : ∀ (a : Addr) (oe : Obj) (cls : Value) (d : Option Addr) (pn : List (Addr × Obj)), QFs (X.suite a ((a, oe) :: pn)) ca W0 (b₀ :: suite) sh) :
    QF X ca W (.Try body [.ExceptHandler (some (.Name x np)) none (b₀ :: suite) pos'] [] [] pos) (sTry mt sb sh) :=
  psW (ps_try_only (tb := fun W' => tF X.K ca W' sb) (ts := fun _ _ _ => tF X.K ca W0 sh) hs hf hc o.tk (fun W' pn xe tk hp => hb W' pn xe ⟨tk, hp, o.calm⟩) (fun a oe cls d pn _ _ => hsu a oe cls d pn)) fun E σ H ⟨α, st, ρ, at0, p⟩ => by
    refine ⟨α, st, ρ, at0, ?_⟩
    unfold sTry at p
    revert p
    cases sb ρ st with
    | nx ρ' st' => exact fun p => p
    | bk ρ' st' => exact fun p => p
    | ct ρ' st' => exact fun p => p
    | rt d st' => exact fun p => p
    | bad => exact fun p => p
    | exc c fs ρ' st' =>
      intro p α' H' σ' dd x' a' xd
      dsimp only at p
      cases em : mt c with
      | none => rw [em] at p; exact p.elim
      | some b =>
        rw [em] at p
        refine ⟨b, hm c b em, fun hb _ _ => ?_, fun hb => ?_⟩
        · subst hb
          exact ⟨α', st', ρ', a', (fNx_ok p).later x'⟩
        · subst hb
          exact p α' H' σ' dd x' a' xd
end
end PM

set_option Elab.async false
set_option linter.all false
set_option maxRecDepth 100000
set_option maxHeartbeats 4000000
/-! PM8: in, dicts. -/
namespace PM
open PySem PySem.Spec PyProof.Rows L2
section
variable {X : Cx} {ca : Nat → Addr} {W : WX} {a b c o : Expr} {ea eb ec eo : E} {pos : Pos} {es : List Expr} {x : Str} {p0 apos cpos : Pos}

/-! ### in -/
def flatD : D → Bool
  | .non => true | .bl _ => true | .int _ => true | .str _ => true
  | _ => false
/-- == of flat values -/
def eqF : D → D → Bool
  | .non, .non => true
  | .bl a, .bl b => a == b
  | .bl a, .int b => (if a then 1 else 0) == b
  | .int a, .bl b => a == (if b then 1 else 0)
  | .int a, .int b => a == b
  | .str a, .str b => a == b
  | _, _ => false
theorem flatD_ok {K : Frag} {α : Nat → Addr} {N : Nat} {H : Hp} {d : D} {v : V} (r : RV K α N H d v) (h : flatD d = true) : flatV v = true := by cases r <;> first | rfl | cases h
theorem flatAll_ok {K : Frag} {α : Nat → Addr} {N : Nat} {H : Hp} : ∀ {d : List D} {v : List V}, RVs K α N H d v → d.all flatD = true → v.all flatV = true
  | _, _, .nil, _ => rfl
  | _, _, .cons h r, e => by
    rw [List.all_cons, Bool.and_eq_true] at e ⊢
    exact ⟨flatD_ok h e.1, flatAll_ok r e.2⟩
theorem eqF_ok {K : Frag} {α : Nat → Addr} {N : Nat} {H : Hp} {d e : D} {v u : V} (r : RV K α N H d v) (q : RV K α N H e u) (h : flatD d = true) (h' : flatD e = true) : eqV v u = eqF d e := by
  cases r <;> first | exact absurd h Bool.false_ne_true | (cases q <;> first | exact absurd h' Bool.false_ne_true | rfl)
theorem inF_ok {K : Frag} {α : Nat → Addr} {N : Nat} {H : Hp} {d : D} {v : V} (r : RV K α N H d v) (h : flatD d = true) : ∀ {ds : List D} {vs : List V}, RVs K α N H ds vs → ds.all flatD = true → inV v vs = ds.any fun y => eqF y d
  | _, _, .nil, _ => rfl
  | _, _, .cons h1 r1, e => by
    rw [List.all_cons, Bool.and_eq_true] at e
    unfold inV
    rw [List.any_cons, List.any_cons, eqF_ok h1 r e.1 h]
    exact congrArg _ (inF_ok r h r1 e.2)
/-- whether x is among xs, where that is told; t: the sequence is a tuple -/
def inSeq (x : D) (xs : List D) : Option Bool :=
  if (flatD x && xs.all flatD) = true then some (xs.any fun y => eqF y x) else
  match pd x, pdAll xs with
  | some a, some ds => if SeqAt.shaped a = true ∧ PyData.canLayAll0 ds = true then some (ds.any fun z => PyData.eqv z a) else none
  | _, _ => none
def inO (x y : D) (st : Sto) : Option Bool := match y with
  | .tup xs => inSeq x xs
  | .con xs => inSeq x xs
  | .str z => match x with
    | .str t => some (!(Builtin.Str.occurrences z t 0 z.length 1).isEmpty)
    | _ => none
  | .loc n => match st[n]? with
    | some (.lst xs) => inSeq x xs
    | some (.dct kvs) => (keyD x).map fun k => (valD kvs k).isSome
    | some (.fdc kvs) => (keyD x).map fun k => (valD kvs k).isSome
    | _ => none
  | _ => none
def inD : D → D → Sto → R D := fun x y st => match inO x y st with
  | some b => .ok (.bl b) st
  | none => .bad
def notInD : D → D → Sto → R D := fun x y st => match inO x y st with
  | some b => .ok (.bl (!b)) st
  | none => .bad
theorem room_in {A : Around} {d : PyData} {ds : List PyData} (h : SeqAt.shaped d = true) (hu : A.units + 65 < cLine) : A.units + 1 + min (PyData.depthAll ds) d.depth < cLine := by
  have h1 := SeqAt.depth_of_shaped h
  have h2 : min (PyData.depthAll ds) d.depth ≤ d.depth := Nat.min_le_right _ _
  omega
/-- the four ways of in, by values -/
def rInAny (K : Frag) (neg : Bool) : R2 := fun x y H Q => rIn K neg x y H Q ∨
  (∃ d ds, Dp K H x d ∧ (Dp K H y (.list ds) ∨ Dp K H y (.tuple ds)) ∧ SeqAt.shaped d = true ∧ PyData.canLayAll0 ds = true ∧ Q (.bl (neg ^^ ds.any fun z => PyData.eqv z d)) H) ∨
  (∃ i j, x = .str i ∧ y = .str j ∧ Q (.bl (neg ^^ !(Builtin.Str.occurrences j i 0 j.length 1).isEmpty)) H) ∨
  (∃ a ov, y = .ref a ∧ DGet H a x ov ∧ Q (.bl (neg ^^ ov.isSome)) H)
theorem op_inAny (hu : X.A.units + 65 < cLine) : OpR X (compareOp .In) (rInAny X.K false) := by
  intro pins s σ H x y v u Q I rx ry h
  rcases h with h | ⟨d, ds, hd, he, sd, se, q⟩ | ⟨i, j, rfl, rfl, q⟩ | ⟨a, ov, rfl, g, q⟩
  · exact op_in_seq pins s σ H x y v u Q I rx ry h
  · obtain ⟨as, r1⟩ := Dp.reads I d x v hd rx
    rw [Bool.false_xor] at q
    rcases he with he | he
    · obtain ⟨bs, r2⟩ := Dp.reads I _ y u he ry
      exact SeqAt.in_list_reads r2 r1 se (SeqAt.canLay_of_shaped sd) (room_in sd hu) ⟨.bl _, H, I, rfl, q⟩
    · obtain ⟨bs, r2⟩ := Dp.reads I _ y u he ry
      exact SeqAt.in_tuple_reads r2 r1 se (SeqAt.canLay_of_shaped sd) (room_in sd hu) ⟨.bl _, H, I, rfl, q⟩
  · rw [Bool.false_xor] at q
    exact op_in_str pins s σ H _ _ v u Q I rx ry ⟨i, j, rfl, rfl, q⟩
  · rw [Bool.false_xor] at q
    cases ry
    exact d_in (by omega) I g rx fun s' I' => ⟨.bl _, H, I', rfl, q⟩
theorem op_notInAny (hu : X.A.units + 65 < cLine) : OpR X (compareOp .NotIn) (rInAny X.K true) := by
  intro pins s σ H x y v u Q I rx ry h
  rcases h with h | ⟨d, ds, hd, he, sd, se, q⟩ | ⟨i, j, rfl, rfl, q⟩ | ⟨a, ov, rfl, g, q⟩
  · exact op_notIn_seq pins s σ H x y v u Q I rx ry h
  · obtain ⟨as, r1⟩ := Dp.reads I d x v hd rx
    rw [Bool.true_xor] at q
    rcases he with he | he
    · obtain ⟨bs, r2⟩ := Dp.reads I _ y u he ry
      exact SeqAt.notIn_list_reads r2 r1 se (SeqAt.canLay_of_shaped sd) (room_in sd hu) ⟨.bl _, H, I, rfl, q⟩
    · obtain ⟨bs, r2⟩ := Dp.reads I _ y u he ry
      exact SeqAt.notIn_tuple_reads r2 r1 se (SeqAt.canLay_of_shaped sd) (room_in sd hu) ⟨.bl _, H, I, rfl, q⟩
  · rw [Bool.true_xor] at q
    exact op_notin_str pins s σ H _ _ v u Q I rx ry ⟨i, j, rfl, rfl, q⟩
  · rw [Bool.true_xor] at q
    cases ry
    exact d_notIn (by omega) I g rx fun s' I' => ⟨.bl _, H, I', rfl, q⟩
theorem inSeq_ok {K : Frag} {α : Nat → Addr} {N : Nat} {H : Hp} {d : D} {v : V} {xs : List D} {p : Addr} {vs : List V} {k neg : Bool} {Q : VK} (r1 : RV K α N H d v) (h : SqL K H p vs ∨ SqT K H p vs) (r : RVs K α N H xs vs) (e : inSeq d xs = some k) (q : Q (.bl (neg ^^ k)) H) :
    rInAny K neg v (.ref p) H Q := by
  unfold inSeq at e
  split at e
  · rename_i hf
    cases e
    rw [Bool.and_eq_true] at hf
    refine .inl ⟨p, vs, rfl, h, flatD_ok r1 hf.1, flatAll_ok r hf.2, ?_⟩
    rw [inF_ok r1 hf.1 r hf.2]
    cases neg
    · simpa using q
    · simpa using q
  · split at e <;> try cases e
    rename_i a ds e1 e2
    split at e <;> try cases e
    rename_i hz
    exact .inr (.inl ⟨a, ds, pd_ok r1 e1, h.elim (fun h => .inl (.lst h (pdAll_ok r e2))) (fun h => .inr (.tup h (pdAll_ok r e2))), hz.1, hz.2, q⟩)
theorem inO_ok {α : Nat → Addr} {st : Sto} {H : Hp} {dx dy : D} {vx vy : V} {k neg : Bool} {Q : VK} (L : Lk X.K ca α st H) (r1 : RV X.K α st.length H dx vx) (r2 : RV X.K α st.length H dy vy) (e : inO dx dy st = some k) (q : Q (.bl (neg ^^ k)) H) : rInAny X.K neg vx vy H Q := by
  cases r2 <;> try cases e
  · simp only [inO] at e
    split at e <;> try cases e
    cases r1
    exact .inr (.inr (.inl ⟨_, _, rfl, rfl, q⟩))
  · rename_i h r
    exact inSeq_ok r1 (.inr h) r e q
  · rename_i h r
    exact inSeq_ok r1 (.inl h.sq) r e q
  · rename_i n hn
    simp only [inO] at e
    have dk : ∀ {kvs : List (Key × D)} {ks : List (Key × V)}, RKs X.K α st.length H kvs ks → Rd H (α n) (.dK ks) → ((keyD dx).map fun k => (valD kvs k).isSome) = some k → rInAny X.K neg vx (.ref (α n)) H Q := fun {kvs ks} r h e => by
      obtain ⟨k', e1, e2⟩ := Option.map_eq_some_iff.mp e
      refine .inr (.inr (.inr ⟨_, valV ks k', rfl, .inl ⟨ks, k', h, keyD_ok r1 e1, rfl⟩, ?_⟩))
      have : (valV ks k').isSome = k := by
        rw [← e2]
        rcases r.val k' with ⟨z1, z2⟩ | ⟨_, _, z1, z2, _⟩ <;> rw [z1, z2] <;> rfl
      rw [this]
      exact q
    split at e <;> try cases e
    · rename_i xs q1
      obtain ⟨vs, h1, q1⟩ := lk_lst L q1
      exact inSeq_ok r1 (.inl (.inl (.inl h1))) q1 e q
    · rename_i xs q1
      obtain ⟨ho, h1, q1⟩ := L.at_ _ _ q1
      cases q1 with
      | dct q1 => exact dk q1 (.inl h1) e
    · rename_i xs q1
      obtain ⟨ho, h1, q1⟩ := L.at_ _ _ q1
      cases q1 with
      | fdc q1 => exact dk q1 (.inr ⟨_, h1⟩) e
theorem d_in' (hu : X.A.units + 65 < cLine) : OpR X (compareOp .In) (rD2 X.K ca inD) := by
  intro pins s σ H x y v u Q I rx ry ⟨α, st, α0, N0, H0, dx, dy, W, L, xt, r1, r2, p⟩
  unfold inD at p
  cases e : inO dx dy st with
  | none => rw [e] at p; exact p.elim
  | some k =>
    rw [e] at p
    exact op_inAny hu pins s σ H x y v u Q I rx ry (inO_ok L r1 r2 e (by rw [Bool.false_xor]; exact p α H _ xt L (.bl _)))
theorem d_notIn' (hu : X.A.units + 65 < cLine) : OpR X (compareOp .NotIn) (rD2 X.K ca notInD) := by
  intro pins s σ H x y v u Q I rx ry ⟨α, st, α0, N0, H0, dx, dy, W, L, xt, r1, r2, p⟩
  unfold notInD at p
  cases e : inO dx dy st with
  | none => rw [e] at p; exact p.elim
  | some k =>
    rw [e] at p
    exact op_notInAny hu pins s σ H x y v u Q I rx ry (inO_ok L r1 r2 e (by rw [Bool.true_xor]; exact p α H _ xt L (.bl _)))
/-- x in a list in passing -/
def cInL (neg : Bool) (a : E) (b : EL) : E := fun ρ st => (a ρ st).bind fun x st => (b ρ st).bind fun ys st => match inSeq x ys with
  | some k => .ok (.bl (neg ^^ k)) st
  | none => .bad
theorem inL_ok {K : Frag} {e2 : EL} {neg : Bool} {σ : L2.St} {H : Hp} {Q : VK} (h : tG K ca (relV K) W (cInL neg ea e2) σ H Q) : tOp (rInAny K neg) (tG K ca (relV K) W ea) (tG K ca (relS K) W e2) σ H Q := by
  obtain ⟨α, st, ρ, at0, p⟩ := h
  refine tG_next (rel := relV K) at0 .refl p fun α1 st1 d v H1 a1 _ x1 r1 p1 => tG_next a1 x1 p1 fun α2 st2 ys u H2 a2 x2 xb r2 p2 => ?_
  obtain ⟨q, vs, rfl, h, r⟩ := r2
  cases e : inSeq d ys with
  | none => rw [e] at p2; exact p2.elim
  | some k =>
    rw [e] at p2
    exact inSeq_ok (r1.mono x2.toGr) h r e (p2 α2 H2 _ xb a2.lk (.bl _))
theorem qe_inL {e2 : EL} (hu : X.A.units + 65 < cLine) (ha : QE X ca W a ea) (hb : QS X ca W b e2) (hm : behindInMarks .In b = false := by rfl) : QE X ca W (.Compare a [.In] [b] pos) (cInL false ea e2) :=
  peW (pe_cmpR (op_inAny hu) ha hb hm) fun σ H Q h => inL_ok h
theorem qt_inL {e2 : EL} (hu : X.A.units + 65 < cLine) (ha : QE X ca W a ea) (hb : QS X ca W b e2) (hm : behindInMarks .In b = false := by rfl) : QT X ca W (.Compare a [.In] [b] pos) (cTst (cInL false ea e2)) :=
  ptW (pt_cmpR (op_inAny hu) ha hb hm) fun σ H Q h => inL_ok (tG_tst h)
theorem qe_notInL {e2 : EL} (hu : X.A.units + 65 < cLine) (ha : QE X ca W a ea) (hb : QS X ca W b e2) (hm : behindInMarks .NotIn b = false := by rfl) : QE X ca W (.Compare a [.NotIn] [b] pos) (cInL true ea e2) :=
  peW (pe_cmpR (op_notInAny hu) ha hb hm) fun σ H Q h => inL_ok h
theorem qt_notInL {e2 : EL} (hu : X.A.units + 65 < cLine) (ha : QE X ca W a ea) (hb : QS X ca W b e2) (hm : behindInMarks .NotIn b = false := by rfl) : QT X ca W (.Compare a [.NotIn] [b] pos) (cTst (cInL true ea e2)) :=
  ptW (pt_cmpR (op_notInAny hu) ha hb hm) fun σ H Q h => inL_ok (tG_tst h)

/-! ### new dicts -/
/-- a dict in passing -/
def relD (K : Frag) : Rel (List (Key × D)) V := fun H0 α N H xs v => ∃ p vs, v = .ref p ∧ H0 p = none ∧ H p = some (.dK vs) ∧ RKs K α N H xs vs ∧ ∀ n, n < N → α n ≠ p
abbrev ED := Env → Sto → R (List (Key × D))
def QD (X : Cx) (ca : Nat → Addr) (W : WX) (x : Expr) (e : ED) : Prop := PE X x (tG X.K ca (relD X.K) W e)
/-- .. kept -/
def cNewD (e : ED) : E := fun ρ st => (e ρ st).bind fun xs st => .ok (.loc st.length) (st ++ [.dct xs])
theorem qe_newD {e : ED} (h : QD X ca W a e) : QE X ca W a (cNewD e) :=
  peW h fun σ H Q ⟨α, st, ρ, at0, p⟩ => tG_next at0 .refl p fun α1 st1 ds v H1 a1 _ x1 r1 p1 => by
    obtain ⟨p, vs, rfl, h0, h1, r, hn⟩ := r1
    obtain ⟨L2, x2⟩ := a1.lk.adopt h1 hn (.dct r) x1 h0
    refine p1 _ H1 _ x2 L2 ?_
    have e : V.ref p = V.ref (ext α1 st1.length p st1.length) := by rw [ext_at]
    rw [e]
    exact .loc (by simp)
theorem fin_newD {K : Frag} {α α0 : Nat → Addr} {st : Sto} {N0 : Nat} {H H0 : Hp} {W : XK} {Q : VK} {xs : List (Key × D)} {vs : List (Key × V)} {p : Addr} (q : Post K ca (relD K) α0 N0 H0 W Q (.ok xs st)) (xt : Xt K α0 N0 H0 α st.length H) (L : Lk K ca α st H)
    (r : RKs K α st.length H xs vs) (hp : H p = none) : Q (.ref p) (upd H p (.dK vs)) :=
  q α _ _ (xt.trans (xt_new hp)) (L.temp hp) ⟨p, vs, rfl, xt.fresh hp, upd_same, r.mono (xt_new hp).toGr, fun n hn e => by
    obtain ⟨x, hx⟩ := L.there hn
    rw [e, hp] at hx; cases hx⟩
def cD0 : ED := fun _ st => .ok [] st
theorem qd_new : QD X ca W (.Dict [] [] pos) cD0 := peW pe_dnewK fun σ H Q ⟨α, st, ρ, a, p⟩ q hq => fin_newD p .refl a.lk .nil hq
/-- {k: v, ..}, written out -/
def cPairs : List (E × E) → ED
  | [] => fun _ st => .ok [] st
  | (k, v) :: r => fun ρ st => (k ρ st).bind fun x st => (v ρ st).bind fun y st => match keyD x with
    | some k => (cPairs r ρ st).bind fun ps st => .ok ((k, y) :: ps) st
    | none => .bad
def mergeD (kvs more : List (Key × D)) : List (Key × D) := more.foldl (fun acc kv => putD acc kv.1 kv.2) kvs
theorem RKs.merge {K : Frag} {α : Nat → Addr} {N : Nat} {H : Hp} : ∀ {more : List (Key × D)} {rs : List (Key × V)} {kvs : List (Key × D)} {vs : List (Key × V)}, RKs K α N H more rs → RKs K α N H kvs vs → RKs K α N H (mergeD kvs more) (mergeK vs rs)
  | _, _, _, _, .nil, q => q
  | (_, _) :: _, _, _, _, .cons (k := k) h r, q => by
    have := RKs.merge r (q.put k h)
    exact this
inductive QPs (X : Cx) (ca : Nat → Addr) (W : WX) : List (Option Expr) → List Expr → List (E × E) → Prop
  | nil : QPs X ca W [] [] []
  | cons {k v : Expr} {ks : List (Option Expr)} {vs : List Expr} {ek ev : E} {r : List (E × E)} : QE X ca W k ek → QE X ca W v ev → QPs X ca W ks vs r → QPs X ca W (some k :: ks) (v :: vs) ((ek, ev) :: r)
def tOfs (K : Frag) (ca : Nat → Addr) (W : WX) : List (E × E) → List (TE × TE) := List.map fun p => (tG K ca (relV K) W p.1, tG K ca (relV K) W p.2)
theorem QPs.pps {ks : List (Option Expr)} {vs : List Expr} {r : List (E × E)} (h : QPs X ca W ks vs r) : PPs X pos ks vs (tOfs X.K ca W r) := by
  induction h with
  | nil => exact pps_nil
  | cons h1 h2 _ ih => exact pps_cons h1 h2 ih
theorem pairs_ok {K : Frag} : ∀ {r : List (E × E)} {σ : L2.St} {H0 H1 : Hp} {Q : VK} {T : List (V × V) → Hp → Prop} {α α0 : Nat → Addr} {st : Sto} {N0 : Nat} {ρ : Env} {f : List (Key × D) → Sto → R (List (Key × D))}, At K ca α st H1 ρ σ → Xt K α0 N0 H0 α st.length H1 →
    Post K ca (relD K) α0 N0 H0 (fun c d H' => W c d σ H') Q ((cPairs r ρ st).bind f) →
    (∀ α2 st2 ps vs H2, At K ca α2 st2 H2 ρ σ → Xt K α st.length H1 α2 st2.length H2 → RKs K α2 st2.length H2 ps vs → ps.length = r.length → Post K ca (relD K) α0 N0 H0 (fun c d H' => W c d σ H') Q (f ps st2) → T (vs.map fun kv => (kV kv.1, kv.2)) H2) →
    tPairs (tOfs K ca W r) σ H1 T
  | [], σ, H0, H1, Q, T, α, α0, st, N0, ρ, f, a, x, p, go => go α st [] [] H1 a .refl .nil rfl p
  | (k, v) :: r, σ, H0, H1, Q, T, α, α0, st, N0, ρ, f, a, x, p, go => by
    simp only [cPairs] at p
    rw [bind_assoc] at p
    refine tG_next (rel := relV K) a x p fun α1 st1 d1 v1 H2 a1 x1 xb1 r1 p1 => ?_
    rw [bind_assoc] at p1
    refine tG_next (rel := relV K) a1 xb1 p1 fun α2 st2 d2 v2 H3 a2 x2 xb2 r2 p2 => ?_
    cases e : keyD d1 with
    | none => rw [e] at p2; exact p2.elim
    | some kk =>
      rw [e] at p2
      dsimp only at p2
      rw [bind_assoc] at p2
      refine pairs_ok (r := r) a2 xb2 p2 fun α3 st3 ps vs H4 a3 x3 r3 hl p3 => ?_
      have e1 := keyD_ok r1 e
      subst e1
      exact go α3 st3 ((kk, d2) :: ps) ((kk, v2) :: vs) H4 a3 ((x1.trans x2).trans x3) (.cons (r2.mono x3.toGr) r3) (by rw [List.length_cons, List.length_cons, hl]) p3
def cDisp (r : List (E × E)) : ED := fun ρ st => (cPairs r ρ st).bind fun ps st => .ok (mergeD [] ps) st
theorem qd_disp {ks : List (Option Expr)} {vs : List Expr} {r : List (E × E)} (h : QPs X ca W ks vs r) (hall : ks.all (·.isSome) = true := by rfl) (hl : ks.length = vs.length := by rfl) (h0 : ks ≠ [] := by intro z; cases z) (h15 : ks.length ≤ 15 := by decide) (h16 : r.length ≤ 15 := by decide) : QD X ca W (.Dict ks vs pos) (cDisp r) :=
  peW (pe_disp h.pps hall hl h0 h15) fun σ H Q ⟨α, st, ρ, at0, p⟩ q hq => by
    have nL : ∀ n, n < st.length → α n ≠ q := fun n hn z => by
      obtain ⟨o, ho⟩ := at0.lk.there hn
      rw [z, hq] at ho; cases ho
    have x0 := xt_new (K := X.K) (α := α) (N := st.length) (ho := .dK []) hq
    refine pairs_ok (at0.later x0 (at0.lk.temp hq)) x0 p fun α2 st2 ps vs H2 a2 x2 r2 hlp p2 => ?_
    have hq2 := x2.keep q _ upd_same nL
    have nL2 : ∀ n, n < st2.length → α2 n ≠ q := fun n hl z => by
      by_cases h1 : n < st.length
      · rw [x2.ag n h1] at z; exact nL n h1 z
      · have := x2.new n (Nat.le_of_not_lt h1) hl
        rw [z, upd_same] at this; cases this
    refine ⟨hq2, vs, rfl, by rw [← r2.length, hlp]; exact h16, ?_⟩
    obtain ⟨g5, L5⟩ := lk_scratch (ho' := .dK (mergeK [] vs)) a2.lk nL2 hq2 (fun _ z => by cases z) (fun _ _ z => by cases z)
    have x5 := xt_scratch (ho' := .dK (mergeK [] vs)) (x0.trans x2) hq nL2 hq2 (fun _ z => by cases z) (fun _ _ z => by cases z)
    exact p2 α2 _ _ x5 L5 ⟨q, _, rfl, hq, upd_same, (RKs.merge r2 .nil).mono g5, nL2⟩
/-- the dict that a value is -/
def dctD : D → Sto → R (List (Key × D))
  | .loc n, st => match st[n]? with
    | some (.dct kvs) => .ok kvs st
    | some (.fdc kvs) => .ok kvs st
    | _ => .bad
  | _, _ => .bad
theorem dctD_ok {K : Frag} {α α0 : Nat → Addr} {st : Sto} {N0 : Nat} {H H0 : Hp} {d : D} {v : V} {β γ : Type} {rel : Rel β γ} {W : XK} {Q : γ → Hp → Prop} {f : List (Key × D) → Sto → R β} (L : Lk K ca α st H) (r : RV K α st.length H d v) (p : Post K ca rel α0 N0 H0 W Q ((dctD d st).bind f)) :
    ∃ q kvs ks, v = .ref q ∧ Rd H q (.dK ks) ∧ RKs K α st.length H kvs ks ∧ Post K ca rel α0 N0 H0 W Q (f kvs st) := by
  cases r <;> try exact False.elim p
  simp only [dctD] at p
  split at p <;> try exact p.elim
  · rename_i xs q1
    obtain ⟨ho, h1, q1⟩ := L.at_ _ _ q1
    cases q1 with
    | dct q1 => exact ⟨_, _, _, rfl, .inl h1, q1, p⟩
  · rename_i xs q1
    obtain ⟨ho, h1, q1⟩ := L.at_ _ _ q1
    cases q1 with
    | fdc q1 => exact ⟨_, _, _, rfl, .inr ⟨_, h1⟩, q1, p⟩
/-- dict(d) -/
def cDict (e : E) : ED := fun ρ st => (e ρ st).bind dctD
theorem bind_ret {β : Type} (r : R β) : r.bind (fun x st => .ok x st) = r := by cases r <;> rfl
theorem qd_dict (ha : QE X ca W a ea) (hg : Gl X "dict") (hm : X.mg "dict" = none) (hs : starEach [a] X.env = (false, eval a X.env) :: starEach [] X.env := by rfl) : QD X ca W (.Call (.Name "dict" p0) [a] [] pos) (cDict ea) :=
  peW (pe_callTy call_dictD hg hm (by decide +kernel) (pa1 ha hs) (by decide) (by decide) hs (by rfl)) fun σ H Q ⟨α, st, ρ, a, p⟩ => tG_next a .refl p fun α1 st1 d v H1 a1 _ x1 r1 p1 => by
    rw [← bind_ret (dctD d st1)] at p1
    obtain ⟨q, kvs, ks, rfl, h, r, p2⟩ := dctD_ok a1.lk r1 p1
    exact ⟨q, ks, rfl, h, fun l hl => fin_newD p2 x1 a1.lk r hl⟩
/-- dict([(k, v), ..]) -/
def prsD : List D → Option (List (Key × D))
  | [] => some []
  | .tup [k, v] :: r => (keyD k).bind fun k => (prsD r).map fun ps => (k, v) :: ps
  | _ :: _ => none
theorem prsD_ok {K : Frag} {α : Nat → Addr} {N : Nat} {H : Hp} : ∀ {xs : List D} {vs : List V} {kvs : List (Key × D)}, RVs K α N H xs vs → prsD xs = some kvs → ∃ ps ks, vs = ps.map V.ref ∧ Paired (fun p kv => SqT K H p [kV kv.1, kv.2]) ps ks ∧ RKs K α N H kvs ks
  | [], _, _, .nil, e => by simp only [prsD, Option.some.injEq] at e; subst e; exact ⟨[], [], rfl, .nil, .nil⟩
  | d :: xs, _, kvs, .cons h r, e => by
    cases h <;> try (simp only [prsD, reduceCtorEq] at e)
    rename_i h r2
    cases r2 with
    | nil => simp only [prsD, reduceCtorEq] at e
    | cons q1 r2 =>
      cases r2 with
      | nil => simp only [prsD, reduceCtorEq] at e
      | cons q2 r2 =>
        cases r2 with
        | cons _ _ => simp only [prsD, reduceCtorEq] at e
        | nil =>
          simp only [prsD] at e
          obtain ⟨k, e1, e2⟩ := Option.bind_eq_some_iff.mp e
          obtain ⟨rs, e3, e4⟩ := Option.map_eq_some_iff.mp e2
          subst e4
          obtain ⟨ps, ks, e5, e6, e7⟩ := prsD_ok r e3
          have ek := keyD_ok q1 e1
          subst ek
          exact ⟨_ :: ps, (k, _) :: ks, by rw [e5]; rfl, .cons h e6, .cons q2 e7⟩
def cDictL (e : EL) : ED := fun ρ st => (e ρ st).bind fun xs st => match prsD xs with
  | some ps => .ok (mergeD [] ps) st
  | none => .bad
theorem qd_dictL {e : EL} (hc : X.calm = true) (ha : QM X ca W a e) (hg : Gl X "dict") (hm : X.mg "dict" = none) (hs : starEach [a] X.env = (false, eval a X.env) :: starEach [] X.env := by rfl) : QD X ca W (.Call (.Name "dict" p0) [a] [] pos) (cDictL e) :=
  peW (pe_callTy (call_dictP hc) hg hm (by decide +kernel) (pa1 ha hs) (by decide) (by decide) hs (by rfl)) fun σ H Q ⟨α, st, ρ, a, p⟩ => tG_next a .refl p fun α1 st1 xs v H1 a1 _ x1 r1 p1 => by
    obtain ⟨q, vs, rfl, h, r⟩ := r1
    cases e : prsD xs with
    | none => rw [e] at p1; exact p1.elim
    | some kvs =>
      rw [e] at p1
      obtain ⟨ps, ks, e1, e2, e3⟩ := prsD_ok r e
      subst e1
      exact ⟨q, ps, ks, rfl, .inl (.inl h), e2, fun l hl => fin_newD p1 x1 a1.lk (RKs.merge e3 .nil) hl⟩
/-- list(d), sorted(d) -/
def kD : Key → D
  | .inl i => .int i
  | .inr z => .str z
theorem keys_rvs {K : Frag} {α : Nat → Addr} {N : Nat} {H : Hp} : ∀ {kvs : List (Key × D)} {ks : List (Key × V)}, RKs K α N H kvs ks → RVs K α N H (kvs.map fun kv => kD kv.1) (ks.map fun kv => kV kv.1)
  | _, _, .nil => .nil
  | _, _, .cons (k := k) h r => by
    rw [List.map_cons, List.map_cons]
    refine .cons ?_ (keys_rvs r)
    cases k with
    | inl i => exact .int i
    | inr z => exact .str z
def cKeys (e : E) : EL := fun ρ st => ((e ρ st).bind dctD).bind fun kvs st => .ok (kvs.map fun kv => kD kv.1) st
theorem ql_listD (hc : X.calm = true) (ha : QE X ca W a ea) (hg : Gl X "list") (hm : X.mg "list" = none) (hs : starEach [a] X.env = (false, eval a X.env) :: starEach [] X.env := by rfl) : QL X ca W (.Call (.Name "list" p0) [a] [] pos) (cKeys ea) :=
  peW (pe_callTy (call_listD hc) hg hm (by decide +kernel) (pa1 ha hs) (by decide) (by decide) hs (by rfl)) fun σ H Q ⟨α, st, ρ, a, p⟩ => by
    have p : Post X.K ca (relL X.K) α st.length H (fun c d H' => W c d σ H') Q (((ea ρ st).bind dctD).bind fun kvs st => .ok (kvs.map fun kv => kD kv.1) st) := p
    rw [bind_assoc] at p
    refine tG_next (rel := relV X.K) a .refl p fun α1 st1 d v H1 a1 _ x1 r1 p1 => ?_
    obtain ⟨q, kvs, ks, rfl, h, r, p2⟩ := dctD_ok a1.lk r1 p1
    exact ⟨q, ks, rfl, h, fun l hl => fin_new p2 x1 a1.lk (keys_rvs r) hl⟩
def intKeys : List (Key × D) → Option (List Int)
  | [] => some []
  | (.inl i, _) :: r => (intKeys r).map (i :: ·)
  | _ :: _ => none
theorem intKeys_ok {K : Frag} {α : Nat → Addr} {N : Nat} {H : Hp} : ∀ {kvs : List (Key × D)} {ks : List (Key × V)} {ns : List Int}, RKs K α N H kvs ks → intKeys kvs = some ns → ks.map (·.1) = ns.map Sum.inl ∧ ks.length = ns.length
  | _, _, _, .nil, e => by simp only [intKeys, Option.some.injEq] at e; subst e; exact ⟨rfl, rfl⟩
  | _, _, _, .cons (k := k) h r, e => by
    cases k <;> simp only [intKeys, reduceCtorEq] at e
    obtain ⟨ms, e1, e2⟩ := Option.map_eq_some_iff.mp e
    subst e2
    obtain ⟨h1, h2⟩ := intKeys_ok r e1
    exact ⟨by rw [List.map_cons, List.map_cons, h1], by rw [List.length_cons, List.length_cons, h2]⟩
def cSortedD (e : E) : EL := fun ρ st => ((e ρ st).bind dctD).bind fun kvs st => match intKeys kvs with
  | some ns => if ns.length < 64 then .ok ((sortI ns).map D.int) st else .bad
  | none => .bad
theorem ql_sortedD (hc : X.calm = true) (ha : QE X ca W a ea) (hg : Gl X "sorted") (hm : X.mg "sorted" = none) (hs : starEach [a] X.env = (false, eval a X.env) :: starEach [] X.env := by rfl) : QL X ca W (.Call (.Name "sorted" p0) [a] [] pos) (cSortedD ea) :=
  peW (pe_callB (call_sortedDI hc) hg hm (by decide +kernel) (pa1 ha hs) (by decide) (by decide) hs (by rfl)) fun σ H Q ⟨α, st, ρ, a, p⟩ => by
    have p : Post X.K ca (relL X.K) α st.length H (fun c d H' => W c d σ H') Q (((ea ρ st).bind dctD).bind fun kvs st => match intKeys kvs with
      | some ns => if ns.length < 64 then .ok ((sortI ns).map D.int) st else .bad
      | none => .bad) := p
    rw [bind_assoc] at p
    refine tG_next (rel := relV X.K) a .refl p fun α1 st1 d v H1 a1 _ x1 r1 p1 => ?_
    obtain ⟨q, kvs, ks, rfl, h, r, p2⟩ := dctD_ok a1.lk r1 p1
    cases e : intKeys kvs with
    | none => rw [e] at p2; exact p2.elim
    | some ns =>
      rw [e] at p2
      dsimp only at p2
      split at p2 <;> try exact p2.elim
      rename_i h64
      obtain ⟨e1, e2⟩ := intKeys_ok r e
      refine ⟨q, ks, ns, rfl, h, e1, h64, fun ys l hp hs hl => ?_⟩
      rw [sortI_uniq hp hs]
      exact fin_new p2 x1 a1.lk (ints_rvs _) hl
/-- d.get(k), d.get(k, y) -/
def cGet (d k : E) : E := fun ρ st => (d ρ st).bind fun x st => (dctD x st).bind fun _ st => (k ρ st).bind fun y st => (dctD x st).bind fun kvs st => match keyD y with
  | some k => .ok ((valD kvs k).getD .non) st
  | none => .bad
def cGet2 (d k z : E) : E := fun ρ st => (d ρ st).bind fun x st => (dctD x st).bind fun _ st => (k ρ st).bind fun y st => (z ρ st).bind fun u st => (dctD x st).bind fun kvs st => match keyD y with
  | some k => .ok ((valD kvs k).getD u) st
  | none => .bad
theorem getD_rel {K : Frag} {α : Nat → Addr} {N : Nat} {H : Hp} {kvs : List (Key × D)} {ks : List (Key × V)} {k : Key} {u : D} {v : V} (r : RKs K α N H kvs ks) (q : RV K α N H u v) : RV K α N H ((valD kvs k).getD u) ((valV ks k).getD v) := by
  rcases r.val k with ⟨e1, e2⟩ | ⟨x, y, e1, e2, r2⟩
  · rw [e1, e2]; exact q
  · rw [e1, e2]; exact r2
theorem qe_get (hu : X.A.units + 1 < cLine) (ho : QE X ca W o eo) (hk : QE X ca W a ea) (m : M1 X o "get" apos a cpos := by exact ⟨rfl, rfl, rfl, rfl⟩) : QE X ca W (.Call (.Attribute o "get" apos) [a] [] cpos) (cGet eo ea) :=
  peW (pe_dget1 hu ho hk m) fun σ H Q ⟨α, st, ρ, at0, p⟩ => tG_next (rel := relV X.K) at0 .refl p fun α1 st1 d v H1 a1 _ x1 r1 p1 => by
    obtain ⟨q, kvs, ks, rfl, h, r, p2⟩ := dctD_ok a1.lk r1 p1
    refine ⟨q, rfl, .inl ⟨ks, h⟩, tG_next (rel := relV X.K) a1 x1 p2 fun α2 st2 y u H2 a2 x2 xb r2 p3 => ?_⟩
    obtain ⟨q', kvs', ks', e', h', r', p4⟩ := dctD_ok a2.lk (r1.mono x2.toGr) p3
    cases e'
    cases e : keyD y with
    | none => rw [e] at p4; exact p4.elim
    | some k =>
      rw [e] at p4
      exact ⟨valV ks' k, .inl ⟨ks', k, h', keyD_ok r2 e, rfl⟩, p4 α2 H2 _ xb a2.lk (getD_rel r' .non)⟩
theorem qe_get2 (hu : X.A.units + 1 < cLine) (ho : QE X ca W o eo) (hk : QE X ca W a ea) (hz : QE X ca W b eb) (m : M2 X o "get" apos a b cpos := by exact ⟨rfl, rfl, rfl, rfl⟩) : QE X ca W (.Call (.Attribute o "get" apos) [a, b] [] cpos) (cGet2 eo ea eb) :=
  peW (pe_dget2 hu ho hk hz m) fun σ H Q ⟨α, st, ρ, at0, p⟩ => tG_next (rel := relV X.K) at0 .refl p fun α1 st1 d v H1 a1 _ x1 r1 p1 => by
    obtain ⟨q, kvs, ks, rfl, h, r, p2⟩ := dctD_ok a1.lk r1 p1
    refine ⟨q, rfl, .inl ⟨ks, h⟩, tG_next (rel := relV X.K) a1 x1 p2 fun α2 st2 y u H2 a2 x2 xb r2 p3 => tG_next (rel := relV X.K) a2 xb p3 fun α3 st3 z w H3 a3 x3 xb3 r3 p4 => ?_⟩
    obtain ⟨q', kvs', ks', e', h', r', p5⟩ := dctD_ok a3.lk (r1.mono (x2.trans x3).toGr) p4
    cases e'
    cases e : keyD y with
    | none => rw [e] at p5; exact p5.elim
    | some k =>
      rw [e] at p5
      exact ⟨valV ks' k, .inl ⟨ks', k, h', keyD_ok (r2.mono x3.toGr) e, rfl⟩, p5 α3 H3 _ xb3 a3.lk (getD_rel r' r3)⟩
end
end PM

set_option Elab.async false
set_option linter.all false
set_option maxRecDepth 100000
set_option maxHeartbeats 4000000
/-! PM9: dicts that are walked. -/
namespace PM
open PySem PySem.Spec PyProof.Rows L2
section
variable {X : Cx} {ca : Nat → Addr} {W : WX} {a b c o : Expr} {ea eb ec eo : E} {pos : Pos} {tg : Expr}

/-! ### a dict that stays the same for a while -/
def lockAt (p : E) : Env → Sto → Option (Nat × List (Key × D)) := fun ρ st => match p ρ st with
  | .ok (.loc n) _ => match st[n]? with
    | some (.dct kvs) => some (n, kvs)
    | _ => none
  | _ => none
def lockGo {β : Type} (n : Nat) : R β → R β
  | .ok b st => match st[n]? with
    | some (.fdc kvs) => .ok b (st.set n (.dct kvs))
    | _ => .bad
  | _ => .bad
def lockD {β : Type} (p : E) (e : Env → Sto → R β) : Env → Sto → R β := fun ρ st => match lockAt p ρ st with
  | some (n, kvs) => lockGo n (e ρ (st.set n (.fdc kvs)))
  | none => .bad
theorem lockAt_ok {p : E} {ρ : Env} {st : Sto} {n : Nat} {kvs : List (Key × D)} (h : lockAt p ρ st = some (n, kvs)) : st[n]? = some (.dct kvs) := by
  unfold lockAt at h
  split at h <;> try cases h
  split at h <;> cases h
  assumption
/-- what is told of a result, told again when a dict of the store is set free -/
def RelFree {β γ : Type} (rel : Rel β γ) (K : Frag) : Prop := ∀ (α α' : Nat → Addr) (N' : Nat) (H H' : Hp) (d : Addr) (u u' ou : HO) (b : β) (g : γ), H d = some ou → H' d = some u' → (∀ xs, u' ≠ .tup xs) → (∀ o xs, u' ≠ .frz o (.tup xs)) → (∀ o xs, u' ≠ .frz o (.lst xs)) →
  rel (upd H d u') α' N' H' b g → rel H α' N' (upd H' d u) b g
theorem gr_upd {K : Frag} {α : Nat → Addr} {N : Nat} {H : Hp} {d : Addr} {u u' : HO} (h : H d = some u') (h1 : ∀ xs, u' ≠ .tup xs) (h2 : ∀ o xs, u' ≠ .frz o (.tup xs)) (h3 : ∀ o xs, u' ≠ .frz o (.lst xs)) : Gr K α N H α N (upd H d u) :=
  ⟨Nat.le_refl _, fun _ _ => rfl, fun a vs z => sqT_upd (fun xs q => by rw [h] at q; exact h1 xs (Option.some.inj q)) (fun o xs q => by rw [h] at q; exact h2 o xs (Option.some.inj q)) z,
    fun a vs z => conL_upd (fun o xs q => by rw [h] at q; exact h3 o xs (Option.some.inj q)) z⟩
theorem relV_free {K : Frag} : RelFree (relV K) K := fun α α' N' H H' d u u' ou b g h0 h h1 h2 h3 r => RV.mono (gr_upd h h1 h2 h3) r
theorem relB_free {K : Frag} : RelFree relB K := fun α α' N' H H' d u u' ou b g h0 h h1 h2 h3 r => r
theorem relL_free {K : Frag} : RelFree (relL K) K := fun α α' N' H H' d u u' ou b g h0 h h1 h2 h3 ⟨p, vs, e, q1, q2, q3, q4⟩ => by
  have ne : p ≠ d := fun z => by rw [z, upd_same] at q1; cases q1
  rw [upd_ne ne] at q1
  exact ⟨p, vs, e, q1, by rw [upd_ne ne]; exact q2, RVs.mono (gr_upd h h1 h2 h3) q3, q4⟩
theorem relD_free {K : Frag} : RelFree (relD K) K := fun α α' N' H H' d u u' ou b g h0 h h1 h2 h3 ⟨p, vs, e, q1, q2, q3, q4⟩ => by
  have ne : p ≠ d := fun z => by rw [z, upd_same] at q1; cases q1
  rw [upd_ne ne] at q1
  exact ⟨p, vs, e, q1, by rw [upd_ne ne]; exact q2, RKs.mono (gr_upd h h1 h2 h3) q3, q4⟩
theorem lk_dct {K : Frag} {α : Nat → Addr} {st : Sto} {H : Hp} {n : Nat} {kvs : List (Key × D)} (L : Lk K ca α st H) (h : st[n]? = some (.dct kvs)) : ∃ ks, H (α n) = some (.dK ks) ∧ RKs K α st.length H kvs ks := by
  obtain ⟨ho, h1, r⟩ := L.at_ n _ h
  cases r with
  | dct r => exact ⟨_, h1, r⟩
theorem lk_fdc {K : Frag} {α : Nat → Addr} {st : Sto} {H : Hp} {n : Nat} {kvs : List (Key × D)} (L : Lk K ca α st H) (h : st[n]? = some (.fdc kvs)) : ∃ o ks, H (α n) = some (.frz o (.dK ks)) ∧ RKs K α st.length H kvs ks := by
  obtain ⟨ho, h1, r⟩ := L.at_ n _ h
  cases r with
  | fdc r => exact ⟨_, _, h1, r⟩
/-- a dict of the store is held -/
theorem lk_hold {K : Frag} {α : Nat → Addr} {st : Sto} {H : Hp} {n : Nat} {kvs : List (Key × D)} {ks : List (Key × V)} {od : Obj} (L : Lk K ca α st H) (h : st[n]? = some (.dct kvs)) (h1 : H (α n) = some (.dK ks)) (r : RKs K α st.length H kvs ks) :
    Lk K ca α (st.set n (.fdc kvs)) (upd H (α n) (.frz od (.dK ks))) ∧ Xt K α st.length H α (st.set n (.fdc kvs)).length (upd H (α n) (.frz od (.dK ks))) :=
  L.write h h1 (fun _ z => by cases z) (fun _ _ z => by cases z) (.fdc r)
/-- .. and set free -/
theorem lk_free {K : Frag} {α : Nat → Addr} {st : Sto} {H : Hp} {n : Nat} {kvs : List (Key × D)} {ks : List (Key × V)} {od : Obj} (L : Lk K ca α st H) (h : st[n]? = some (.fdc kvs)) (h1 : H (α n) = some (.frz od (.dK ks))) (r : RKs K α st.length H kvs ks) :
    Lk K ca α (st.set n (.dct kvs)) (upd H (α n) (.dK ks)) := by
  have hn := Lk.lt_of h
  have g : Gr K α st.length H α st.length (upd H (α n) (.dK ks)) := gr_upd h1 (fun _ z => by cases z) (fun _ _ z => by cases z) (fun _ _ z => by cases z)
  refine ⟨fun m o2 h2 => ?_, fun i j hi hj e => L.inj i j (by simpa using hi) (by simpa using hj) e⟩
  rw [List.length_set]
  by_cases e : m = n
  · subst e
    rw [List.getElem?_set_self hn] at h2
    cases h2
    exact ⟨_, upd_same, .dct (r.mono g)⟩
  · rw [List.getElem?_set_ne (Ne.symm e)] at h2
    obtain ⟨x, hx2, r2⟩ := L.at_ m o2 h2
    have hm := Lk.lt_of h2
    refine ⟨x, ?_, r2.mono g⟩
    rw [upd_ne (fun z => e (L.inj m n hm hn z))]
    exact hx2
theorem xt_free {K : Frag} {α α' : Nat → Addr} {N N' n : Nat} {H H' : Hp} {ks : List (Key × V)} {od : Obj} (hn : n < N) (h0 : H (α n) = some (.dK ks)) (x : Xt K α N (upd H (α n) (.frz od (.dK ks))) α' N' H') (h1 : H' (α n) = some (.frz od (.dK ks))) :
    Xt K α N H α' N' (upd H' (α n) (.dK ks)) where
  le := x.le
  ag := x.ag
  tup := fun a vs h => sqT_upd (fun xs z => by rw [h1] at z; cases z) (fun o xs z => by rw [h1] at z; cases z) (x.tup a vs (sqT_upd (fun xs z => by rw [h0] at z; cases z) (fun o xs z => by rw [h0] at z; cases z) h))
  con := fun a vs h => conL_upd (fun o xs z => by rw [h1] at z; cases z) (x.con a vs (conL_upd (fun o xs z => by rw [h0] at z; cases z) h))
  new := fun m hm hm' => by
    have := x.new m hm hm'
    by_cases e : α' m = α n
    · rw [e, upd_same] at this; cases this
    · rwa [upd_ne e] at this
  keep := fun a o h hne => by
    have ne : a ≠ α n := fun e => hne n hn e.symm
    rw [upd_ne ne]
    exact x.keep a o (by rw [upd_ne ne]; exact h) hne
  old := fun m hm ho => by
    by_cases e : α m = α n
    · rw [e, upd_same]; exact fun z => by cases z
    · rw [upd_ne e]; exact x.old m hm (by rw [upd_ne e]; exact ho)
  frz := fun a o u h => by
    have ne : a ≠ α n := fun e => by rw [e, h0] at h; cases h
    rw [upd_ne ne]
    exact x.frz a o u (by rw [upd_ne ne]; exact h)
theorem tG_lock {K : Frag} {β : Type} {rel : Rel β V} {p : E} {e : Env → Sto → R β} {σ : L2.St} {H : Hp} {Q : VK} (fr : RelFree rel K) (h : tG K ca rel W (lockD p e) σ H Q) : tLockE (tG K ca rel W0 e) σ H Q := by
  obtain ⟨α, st, ρ, at0, p⟩ := h
  simp only [lockD] at p
  split at p <;> try exact p.elim
  rename_i n kvs el
  have hs := lockAt_ok el
  obtain ⟨ks, h1, r⟩ := lk_dct at0.lk hs
  have hn := Lk.lt_of hs
  refine ⟨α n, _, h1, trivial, fun od => ?_⟩
  obtain ⟨L1, x1⟩ := lk_hold (od := od) at0.lk hs h1 r
  refine ⟨α, st.set n (.fdc kvs), ρ, ⟨L1, by rw [List.length_set]; exact at0.re.mono (by have := x1.toGr; rwa [List.length_set] at this)⟩, ?_⟩
  revert p
  cases e ρ (st.set n (.fdc kvs)) with
  | exc c fs st' => exact fun p => False.elim p
  | bad => exact fun p => False.elim p
  | ok b st' =>
    intro p α' H' g x L' rl
    simp only [lockGo] at p
    split at p <;> try exact p.elim
    rename_i kvs' e'
    have x : Xt K α st.length (upd H (α n) (.frz od (.dK ks))) α' st'.length H' := by rwa [List.length_set] at x
    have hd : H' (α n) = some (.frz od (.dK ks)) := x.frz _ _ _ upd_same
    obtain ⟨o2, ks2, h2, r2⟩ := lk_fdc L' e'
    have ea : α' n = α n := x.ag n hn
    rw [ea, hd] at h2
    cases h2
    refine ⟨hd, p α' _ g ?_ ?_ ?_⟩
    · rw [List.length_set]; exact xt_free hn h1 x hd
    · have := lk_free L' e' (by rw [ea]; exact hd) r2
      rwa [ea] at this
    · rw [List.length_set]; exact fr α α' _ _ _ _ _ _ _ _ _ h1 hd (fun _ z => by cases z) (fun _ _ z => by cases z) (fun _ _ z => by cases z) rl
theorem ql_lock (p : E) {e : EL} (h : QL X ca W0 a e) : QL X ca W a (lockD p e) := peW (pe_lock h) fun σ H Q q => tG_lock relL_free q
theorem qd_lock (p : E) {e : ED} (h : QD X ca W0 a e) : QD X ca W a (lockD p e) := peW (pe_lock h) fun σ H Q q => tG_lock relD_free q
theorem qe_lock (p : E) {e : E} (h : QE X ca W0 a e) : QE X ca W a (lockD p e) := peW (pe_lock h) fun σ H Q q => tG_lock relV_free q

/-! ### the keys of a dict that is held -/
def keysD : D → Sto → R Itb
  | .loc n, st => match st[n]? with
    | some (.fdc kvs) => .ok ⟨fun st => ∃ l, st[n]? = some (.fdc l) ∧ l.map (·.1) = kvs.map (·.1), kvs.map fun kv => kD kv.1⟩ st
    | _ => .bad
  | _, _ => .bad
def cKeysI (e : E) : EI := fun ρ st => (e ρ st).bind keysD
theorem kD_ok {K : Frag} {α : Nat → Addr} {N : Nat} {H : Hp} (k : Key) : RV K α N H (kD k) (kV k) := by cases k <;> constructor
theorem qi_keys (h : QE X ca W a ea) : QI X ca W tg a (cKeysI ea) :=
  piW (pi_keys h) fun σ H Q ⟨α, st, ρ, at0, p⟩ => tG_next (rel := relV X.K) at0 .refl p fun α1 st1 d v H1 a1 _ x1 r1 p1 => by
    cases r1 <;> try exact False.elim p1
    rename_i n hn
    simp only [keysD] at p1
    split at p1 <;> try exact p1.elim
    rename_i kvs e
    obtain ⟨o, ks, h1, r⟩ := lk_fdc a1.lk e
    refine ⟨_, o, rfl, .inl ⟨ks, h1, p1 α1 H1 _ x1 a1.lk fun α2 st2 H2 x2 L2 ck => ?_⟩⟩
    have h2 := x2.frz _ _ _ h1
    have hl : kvs.length = ks.length := r.length
    refine ⟨⟨h2, by show _ ≤ (kvs.map fun kv => kD kv.1).length; rw [List.length_map]; omega⟩, fun i d ei => ?_⟩
    have ei : (kvs.map fun kv => kD kv.1)[i]? = some d := ei
    rw [List.getElem?_map] at ei
    obtain ⟨⟨k, y⟩, e1, e2⟩ := Option.map_eq_some_iff.mp ei
    have hi : i < kvs.length := (List.getElem?_eq_some_iff.mp e1).1
    refine ⟨⟨h2, by omega⟩, fun x H3 ⟨e3, k', v', e4, e5⟩ => ?_⟩
    subst e3 e5 e2
    obtain ⟨y', e6, _⟩ := r.get e1
    rw [e6] at e4
    cases e4
    exact ⟨.refl, L2, kD_ok _⟩

/-! ### dict comprehensions -/
def pairD (ek ev : E) : Env → Sto → R (Key × D) := fun ρ st => (ek ρ st).bind fun k st => (ev ρ st).bind fun v st => match keyD k with
  | some k => .ok (k, v) st
  | none => .bad
noncomputable def cDComp (e : EI) (t : CT) (tt : ET) (ek ev : E) (vs : List Nat) : ED := fun ρ st => (e ρ st).bind fun b st =>
  if b.xs.length ≤ sizeLine then (compGo b.chk t tt (pairD ek ev) (wipeD ρ vs) b.xs st).bind fun ps st => .ok (mergeD [] ps) st else .bad
theorem qd_comp {kx vx iter : Expr} {ifs : List Expr} {scope : Scope} {own : List (Str × Nat)} {e : EI} {t : CT} {tt : ET} {ek ev : E} (hc : X.calm = true) (hN : X.N.Nodup) (hi : QI X ca W tg iter e) (ok : BlkOk X.N X.env.scope scope own)
    (hg : ∀ (s : Shared) (H : Hp) (C : Addr) (cl : List (Str × Addr)) (fp : List Addr), PG (X.blk s H scope (compEnvC scope cl C X.env) fp) tg (t.g X.K))
    (ht : ∀ (s : Shared) (H : Hp) (C : Addr) (cl : List (Str × Addr)) (fp : List Addr), PTs (X.blk s H scope (compEnvC scope cl C X.env) fp) ifs (tG X.K ca relB W0 tt))
    (hk : ∀ (s : Shared) (H : Hp) (C : Addr) (cl : List (Str × Addr)) (fp : List Addr), QE (X.blk s H scope (compEnvC scope cl C X.env) fp) ca W0 kx ek)
    (he : ∀ (s : Shared) (H : Hp) (C : Addr) (cl : List (Str × Addr)) (fp : List Addr), QE (X.blk s H scope (compEnvC scope cl C X.env) fp) ca W0 vx ev)
    (hv : ∀ i ∈ t.slots, i ∈ own.map (·.2)) (hs : ∀ x, foldedSetIterable iter X.env x = pure x := by intro _; rfl) :
    QD X ca W (.DictComp kx vx [⟨tg, iter, ifs, 0⟩] scope pos) (cDComp e t tt ek ev (own.map (·.2))) :=
  peW (pe_dc (tk := tG X.K ca (relV X.K) W0 ek) (tv := tG X.K ca (relV X.K) W0 ev) hc hN hi ok hg ht hk he hs) fun σ H Q ⟨α, st, ρ, at0, p⟩ => by
    refine tG_next (rel := relI X.K ca) at0 .refl p fun α1 st1 b J H1 a1 _ x1 io p1 => ?_
    intro L hL
    split at p1 <;> try exact p1.elim
    rename_i hz
    have nL : ∀ n, n < st1.length → α1 n ≠ L := fun n hn z => by
      obtain ⟨o, ho⟩ := a1.lk.there hn
      rw [z, hL] at ho; cases ho
    have keyW : ∀ {α' α'' : Nat → Addr} {st' st'' : Sto} {H' H'' : Hp} {accV : List (Key × V)}, (∀ n, n < st'.length → α' n ≠ L) → H' L = some (.dK accV) → Xt X.K α' st'.length H' α'' st''.length H'' → ∀ n, n < st''.length → α'' n ≠ L := fun {α' α'' st' st'' H' H'' accV} hn hD x n hl z => by
      by_cases h1 : n < st'.length
      · rw [x.ag n h1] at z; exact hn n h1 z
      · have := x.new n (Nat.le_of_not_lt h1) hl
        rw [z, hD] at this; cases this
    have W : ∃ Wv : Nat → Nat → Hp → Prop, Wv = fun i m H' => ∃ α' st' acc accV, At X.K ca α' st' H' ρ σ ∧ Xt X.K α1 st1.length H1 α' st'.length H' ∧ H' L = some (.dK accV) ∧ (∀ n, n < st'.length → α' n ≠ L) ∧ RKs X.K α' st'.length H' acc accV ∧ acc.length ≤ i ∧ m + i = b.xs.length ∧
      Post X.K ca (relD X.K) α st.length H (fun c d H' => W c d σ H') Q ((compGo b.chk t tt (pairD ek ev) (wipeD ρ (own.map (·.2))) (b.xs.drop i) st').bind fun ys st => .ok (mergeD acc ys) st) := ⟨_, rfl⟩
    obtain ⟨Wv, eW⟩ := W
    refine ⟨Wv, ⟨b.xs.length, ?_⟩, ?_⟩
    · rw [eW]
      refine ⟨α1, st1, [], [], a1.later (xt_new hL) (a1.lk.temp hL), xt_new hL, upd_same, nL, .nil, Nat.le_refl _, rfl, ?_⟩
      rw [List.drop_zero]
      exact p1
    · intro i m H' hW
      rw [eW] at hW
      obtain ⟨α', st', acc, accV, a', x', hD, nL', ra, hai, hm, q⟩ := hW
      cases hd : b.xs.drop i with
      | nil =>
        rw [hd] at q
        unfold compGo at q
        split at q <;> try exact q.elim
        rename_i ck
        have hl : b.xs.length ≤ i := by simpa using hd
        have hil : i = b.xs.length := by omega
        subst hil
        refine .inl ⟨(io α' st' H' x' a'.lk ck).1, ?_⟩
        exact q α' H' _ (x1.trans x') a'.lk ⟨L, accV, rfl, x1.fresh hL, hD, ra, nL'⟩
      | cons d r =>
        rw [hd] at q
        unfold compGo at q
        split at q <;> try exact q.elim
        rename_i ck
        have hlt : i < b.xs.length := by
          apply Classical.byContradiction
          intro hn
          rw [List.drop_eq_nil_of_le (Nat.le_of_not_lt hn)] at hd
          cases hd
        have hget : b.xs[i]? = some d := by
          have : (b.xs.drop i)[0]? = some d := by rw [hd]; rfl
          simpa using this
        have hr : b.xs.drop (i + 1) = r := by
          have : (b.xs.drop i).drop 1 = r := by rw [hd]; rfl
          rw [List.drop_drop] at this
          exact this
        obtain ⟨go, yl⟩ := (io α' st' H' x' a'.lk ck).2 i d hget
        cases eg : t.set d (wipeD ρ (own.map (·.2))) with
        | none => rw [eg] at q; exact q.elim
        | some ρ1 =>
          rw [eg] at q
          dsimp only at q
          refine .inr ⟨go, Wv (i + 1) (m - 1), fun H2 h => ⟨m - 1, by omega, h⟩, fun x H2 y => ?_⟩
          obtain ⟨xy, Ly, ry⟩ := yl x H2 y
          have hD2 := xy.keep L _ hD nL'
          have re2 := (a'.re.mono xy.toGr).wipe (own.map (·.2))
          refine CT.ok ry re2 eg hv fun σ2 re3 hw => ⟨hw.trans wipe_wipe, ?_⟩
          refine ⟨α', st', ρ1, ⟨Ly, re3⟩, ?_⟩
          rw [bind_assoc] at q
          revert q
          cases tt ρ1 st' with
          | exc c fs st2 => exact fun q => False.elim q
          | bad => exact fun q => False.elim q
          | ok k st2 =>
            intro q α2 H3 k' x2 L2 ek'
            cases ek'
            have nL2 := keyW nL' hD2 x2
            have hD3 := x2.keep L _ hD2 nL'
            have xi := (x'.trans xy).trans x2
            cases k with
            | false =>
              rw [if_neg Bool.false_ne_true, eW]
              exact ⟨α2, st2, acc, accV, (a'.later xy Ly).later x2 L2, xi, hD3, nL2, ra.mono (xy.trans x2).toGr, by omega, by omega, by rw [hr]; exact q⟩
            | true =>
              rw [if_pos rfl]
              refine ⟨α2, st2, ρ1, ⟨L2, re3.mono x2.toGr⟩, ?_⟩
              have q : Post X.K ca (relD X.K) α st.length H (fun c d H' => W c d σ H') Q (((cNx (pairD ek ev ρ1 st2)).bind fun y st => (compGo b.chk t tt (pairD ek ev) (wipeD ρ (own.map (·.2))) r st).bind fun ys st => .ok (y :: ys) st).bind fun ys st => .ok (mergeD acc ys) st) := q
              rw [bind_assoc] at q
              revert q
              unfold pairD
              cases ek ρ1 st2 with
              | exc c fs st2 => exact fun q => False.elim q
              | bad => exact fun q => False.elim q
              | ok kd st3 =>
                rw [R.bind_ok]
                intro q α3 H4 kv x3 L3 r3
                have nL3 := keyW nL2 hD3 x3
                have hD4 := x3.keep L _ hD3 nL2
                refine ⟨α3, st3, ρ1, ⟨L3, (re3.mono x2.toGr).mono x3.toGr⟩, ?_⟩
                revert q
                cases ev ρ1 st3 with
                | exc c fs st2 => exact fun q => False.elim q
                | bad => exact fun q => False.elim q
                | ok yd st4 =>
                  rw [R.bind_ok]
                  intro q α4 H5 yv x4 L4 r4
                  cases hk' : keyD kd with
                  | none => rw [hk'] at q; exact q.elim
                  | some k =>
                    rw [hk'] at q
                    have nL4 := keyW nL3 hD4 x4
                    have hD5 := x4.keep L _ hD4 nL3
                    have xi4 := (xi.trans x3).trans x4
                    have ra4 := ra.mono (((xy.trans x2).trans x3).trans x4).toGr
                    refine ⟨accV, k, keyD_ok r3 hk', hD5, by rw [← ra4.length]; omega, ?_⟩
                    obtain ⟨g5, L5⟩ := lk_scratch (ho' := .dK (putK accV k yv)) L4 nL4 hD5 (fun _ z => by cases z) (fun _ _ z => by cases z)
                    have x5 := xt_scratch (ho' := .dK (putK accV k yv)) xi4 hL nL4 hD5 (fun _ z => by cases z) (fun _ _ z => by cases z)
                    rw [eW]
                    refine ⟨α4, st4, putD acc k yd, putK accV k yv, ⟨L5, ((((a'.re.mono xy.toGr).mono x2.toGr).mono x3.toGr).mono x4.toGr).mono g5⟩, x5, upd_same, nL4, (ra4.put k r4).mono g5, ?_, by omega, ?_⟩
                    · have : (putD acc k yd).length ≤ acc.length + 1 := by
                        unfold putD
                        split
                        · rw [List.length_map]; omega
                        · rw [List.length_append]; exact Nat.le_refl _
                      omega
                    · have q : Post X.K ca (relD X.K) α st.length H (fun c d H' => W c d σ H') Q (((compGo b.chk t tt (pairD ek ev) (wipeD ρ (own.map (·.2))) r st4).bind fun ys st => .ok ((k, yd) :: ys) st).bind fun ys st => .ok (mergeD acc ys) st) := q
                      rw [bind_assoc] at q
                      rw [hr]
                      exact q
end
end PM

set_option Elab.async false
set_option linter.all false
set_option maxRecDepth 100000
set_option maxHeartbeats 4000000
/-! PM10: sorted(set(xs)), xs a list of ints. -/
namespace PM
open PySem PySem.Spec PyProof.Rows L2

abbrev setObj (w : World) : Obj := { cls := .type "set", dict := none, data := .set #[] 0 (.fresh 0 0 (!w.params.followText "set-order")) }
section
variable {P : Program} {w : World} {A : Around} {E : Value → Shared → Prop} {s : Shared}
set_option maxHeartbeats 6400000 in
/-- set(l) of a list of ints: the set, as cr_sortedSet asks it -/
theorem set_of_list {l : Addr} {us : Array Value} (ns : List Int) {Q : Value → Shared → Prop} (hh : A.handled = none) (hl : s.heap.IsList l us) (hi : IntsAre us.toList ns) (hb : ns.length + 1 < scanBound)
    (h : ∀ (h2 : Heap) (tk c : Nat), SetR w h2 s.heap.objs.size (fun j => decide (j ∈ ns)) c → c ≤ ns.length → (∀ b o, s.heap.get? b = some o → h2.get? b = some o) → Q (.ref s.heap.objs.size) { s with heap := h2, toks := tk }) :
    wpAny (model P w) A (call (.type "set") [.ref l]) Q E s := by
  have hsz : us.size = ns.length := by have := hi.length; rwa [Array.length_toList] at this
  obtain ⟨_, _, hmro⟩ := F.called_set.mro
  have f1 := F.called_set.made
  have f2 := F.called_set.sub
  have f3 := F.called_set.notType
  have f4 := F.called_set.canCreate
  have f5 := F.typeCall_set_1 (.ref l)
  refine wpAny_call (codeAny_of_tree (wpAny_pure ⟨Code.quiet_builtin _ (by decide +kernel), codeAny_builtin F.entry_type_call ?_⟩))
  rw [Around.under_plain (weight_type_call_type "set" [.ref l] []) rfl]
  repeat (any_goals (first | assumption | wp_step))
  generalize hS0 : s.heap.push (setObj w) = g0
  have hnew : g0.get? s.heap.objs.size = some (setObj w) := by rw [← hS0]; exact Heap.get?_push_size _ rfl
  have hold : ∀ b o, s.heap.get? b = some o → g0.get? b = some o := fun b o e => by rw [← hS0]; exact Heap.get?_push_of_some _ e
  have hgs : g0.objs.size = s.heap.objs.size + 1 := by rw [← hS0]; exact Heap.size_push ..
  refine codeAny_mono (code_set_led1 (.ref l) (E := E) (Q₁ := fun v s1 => v = .ref s.heap.objs.size ∧ s1 = { s with heap := g0 }) ⟨rfl, by rw [← hS0]⟩) fun r s1 hr => ?_
  match r, hr with
  | .error e, hr => exact hr
  | .ok .next, hr => exact hr.elim
  | .ok .brk, hr => exact hr.elim
  | .ok .cont, hr => exact hr.elim
  | .ok (.ret v), hr =>
    obtain ⟨rfl, rfl⟩ := hr
    have ty : Shared.TypeIs { s with heap := g0 } (.ref s.heap.objs.size) "set" := ⟨_, hnew, rfl⟩
    have f6 := F.called_set.init.lookup
    have f7 := F.called_set.init.bind (.ref s.heap.objs.size)
    repeat (any_goals (first | assumption | wp_step))
    refine codeAny_mono (codeAny_call_builtin (R := wants (fun r s2 => r = .none ∧ ∃ h2 tk c, s2 = { s with heap := h2, toks := tk } ∧ SetR w h2 s.heap.objs.size (fun j => decide (j ∈ ns)) c ∧ c ≤ ns.length ∧ (∀ b o, s.heap.get? b = some o → h2.get? b = some o)) E)
      F.called_set.init.plain F.entry_set_init (check_set_init_1 ty ?_)) fun r2 s2 hr2 => ?_
    · obtain ⟨⟨ocls, odict, odata, oslots⟩, hol, hcl, nl, hdl⟩ := hl
      simp only at hcl hdl
      subst hcl hdl
      have hol2 := hold _ _ hol
      have hlt : l < s.heap.objs.size := Heap.lt_size hol
      have e1 := F.sub_list_set
      have e2 := F.sub_list_frozenset
      have e3 : (Value.type "list" == Value.type "dict") = false := by decide
      have hl2 : g0.IsList l us := ⟨_, hol2, rfl, nl, rfl⟩
      unfold Builtin.«set.__init__» noKeywords Builtin.Frozenset.updateFrom
      generalize hPI : pyIter = PI
      wp_walk
      subst hPI
      refine wpAny_pyIter_list hl2 (wpAny_bind (wpAny_runValue ?_))
      have h3 : A.in1.in1.in1.handled = none := by simp [hh]
      have ne1 : l ≠ g0.objs.size := by rw [hgs]; exact Nat.ne_of_lt (Nat.lt_succ_of_lt hlt)
      have nin : s.heap.objs.size ∉ [g0.objs.size, l] := by
        rw [hgs]
        intro z
        rcases List.mem_cons.mp z with z | z
        · exact absurd z (Nat.ne_of_lt (Nat.lt_succ_self _))
        · exact absurd (List.mem_singleton.mp z) (Nat.ne_of_gt hlt)
      refine set_update_ints ((Walks.list h3 _ l ne1 us).toS) s.heap.objs.size nin ns hsz hb (fun i v hv => ?_) (us.size - 0) 0 _ (by omega) (Nat.zero_le _) ⟨⟨_, Heap.get?_push_size _ rfl, rfl, rfl⟩, hl2.push _⟩ ?_ ?_
      · have hin : i < ns.length := by rw [← hsz]; exact (Array.getElem?_eq_some_iff.mp hv).1
        obtain ⟨t, e⟩ := PyProof.Rows.IntsAre.int_at hi i v (by rw [Array.getElem?_toList]; exact hv)
        refine ⟨ns[i], t, List.getElem?_eq_getElem hin, ?_⟩
        rw [e, List.getD_eq_getElem?_getD, List.getElem?_eq_getElem hin] <;> rfl
      · exact ⟨0, Nat.le_refl 0, setR_new_at (Heap.get?_push_of_some _ hnew)⟩
      · intro s2 c hm hc R
        obtain ⟨h2, gg, dd, tt, oo⟩ := s2
        have eg : gg = s.gens := hm.gens
        have ed : dd = s.drawn := hm.drawn
        have eo : oo = s.os := hm.os
        subst eg ed eo
        show wpAny _ _ _ _ _ _
        refine wpAny_pure ?_
        show wpAny _ _ (ret Value.none) _ _ _
        rw [hsz] at hc
        refine wpAny_pure ⟨rfl, h2, tt, c, rfl, R, hc, fun b o e => ?_⟩
        have hb0 : b < s.heap.objs.size := Heap.lt_size e
        refine hm.heap b o (fun z => ?_) (Heap.get?_push_of_some _ (hold b o e))
        rcases List.mem_cons.mp z with z | z
        · exact absurd z (Nat.ne_of_lt hb0)
        · have z := List.mem_singleton.mp z
          rw [hgs] at z
          exact absurd z (Nat.ne_of_lt (Nat.lt_succ_of_lt hb0))
    · match r2, hr2 with
      | .error e, hr2 => exact hr2
      | .ok .next, hr2 => exact hr2.elim
      | .ok .brk, hr2 => exact hr2.elim
      | .ok .cont, hr2 => exact hr2.elim
      | .ok (.ret r), hr2 =>
        obtain ⟨rfl, h2, tk, c, rfl, R, hc, hk⟩ := hr2
        repeat (any_goals (first | assumption | wp_step))
        exact h _ _ _ R hc hk
end
end PM

set_option Elab.async false
set_option linter.all false
set_option maxRecDepth 100000
set_option maxHeartbeats 4000000
/-! PM11: sorted(set(xs)). -/
namespace PM
open PySem PySem.Spec PyProof.Rows L2
section
variable {X : Cx} {ca : Nat → Addr} {W : WX} {a : Expr} {p p2 pos q : Pos}
def nubI : List Int → List Int
  | [] => []
  | n :: ns => if n ∈ nubI ns then nubI ns else n :: nubI ns
theorem mem_nubI {k : Int} : ∀ {ns : List Int}, k ∈ nubI ns ↔ k ∈ ns
  | [] => Iff.rfl
  | n :: ns => by
    have ih := mem_nubI (k := k) (ns := ns)
    unfold nubI
    split
    · rename_i h
      rw [List.mem_cons, ih]
      exact ⟨fun z => .inr z, fun z => z.elim (fun e => by rw [e]; exact mem_nubI.mp h) id⟩
    · rw [List.mem_cons, List.mem_cons, ih]
theorem nodup_nubI : ∀ ns : List Int, (nubI ns).Nodup
  | [] => List.nodup_nil
  | n :: ns => by
    unfold nubI
    split
    · exact nodup_nubI ns
    · rename_i h
      exact List.nodup_cons.mpr ⟨h, nodup_nubI ns⟩
/-- the members of a list, each once, in order -/
def setI (ns : List Int) : List Int := sortI (nubI ns)
theorem setI_uniq {ns ms : List Int} (hs : ms.Pairwise (· < ·)) (hm : ∀ k, k ∈ ms ↔ k ∈ ns) : ms = setI ns := by
  refine sortI_uniq ?_ (hs.imp fun h => Int.le_of_lt h)
  refine (List.perm_ext_iff_of_nodup (hs.imp fun h => Int.ne_of_lt h) (nodup_nubI ns)).mpr fun k => ?_
  rw [hm, mem_nubI]
def sortSetS : List D → Sto → R (List D) := fun xs st => match intsD xs with
  | some ns => if ns.length < 64 then .ok ((setI ns).map .int) st else .bad
  | none => .bad
theorem cr_setI (hc : X.calm = true) : CallR X (.type "set") (fun xs H Q => ∃ (l : Addr) (ns : List Int), xs = [V.ref l] ∧ SqL X.K H l (ns.map V.int) ∧ ns.length + 1 < scanBound ∧ ∀ p n, H p = none → n ≤ ns.length → Q (.ref p) (upd H p (SetO X.w p (fun j => decide (j ∈ ns)) n))) := by
  intro pins s σ H xs us Q I r h
  obtain ⟨l, ns, rfl, hq, hb, q⟩ := h
  rw [Vals.ref1 r]
  obtain ⟨its, rv, pl, hz⟩ := I.list hq
  refine set_of_list ns (I.ok.hd hc) pl.isList (by simpa using ints_of_vals rv) hb fun h2 tk c R hcn hk => ?_
  have hn : H s.heap.objs.size = none := I.hok.fresh (Nat.le_refl _)
  exact ⟨.ref _, _, I.laid (t' := tk) hk (Nat.le_refl _) (setO_new R), rfl, q _ _ hn hcn⟩
theorem ql_sortedSet {e : EL} (hc : X.calm = true) (ha : QM X ca W a e) (hg : Gl X "sorted") (hm : X.mg "sorted" = none) (hg2 : Gl X "set") (hm2 : X.mg "set" = none) (hs : starEach [a] X.env = (false, eval a X.env) :: starEach [] X.env := by rfl)
    (hs2 : starEach [.Call (.Name "set" p2) [a] [] q] X.env = (false, eval (.Call (.Name "set" p2) [a] [] q) X.env) :: starEach [] X.env := by rfl) : QL X ca W (.Call (.Name "sorted" p) [.Call (.Name "set" p2) [a] [] q] [] pos) (cS1 sortSetS e) :=
  peW (pe_callB (cr_sortedSet hc) hg hm (by decide +kernel) (pa1 (pe_callTy (cr_setI hc) hg2 hm2 (by decide +kernel) (pa1 ha hs) (by decide) (by decide) hs (by rfl)) hs2) (by decide) (by decide) hs2 (by rfl)) fun σ H Q ⟨α, st, ρ, at0, p⟩ =>
    tG_next (rel := relM X.K) at0 .refl p fun α1 st1 xs v H1 a1 _ x1 ⟨l, vs, e, h, r1⟩ p1 => by
      subst e
      unfold sortSetS at p1
      cases e : intsD xs with
      | none => rw [e] at p1; exact p1.elim
      | some ns =>
        rw [e] at p1
        dsimp only at p1
        split at p1 <;> try exact p1.elim
        rename_i h64
        have ev := intsD_ok r1 e
        subst ev
        refine ⟨l, ns, rfl, .inl (.inl h), by unfold scanBound; omega, fun p n hp hn => ⟨p, _, n, rfl, upd_same, by omega, fun ms l2 hs hm hl hl2 => ?_⟩⟩
        rw [setI_uniq (ns := ns) hs fun k => (hm k).trans decide_eq_true_iff]
        exact fin_new p1 (x1.trans (xt_new hp)) (a1.lk.temp hp) (ints_rvs _) hl2
end
end PM

set_option Elab.async false
set_option linter.all false
set_option maxRecDepth 100000
set_option maxHeartbeats 4000000
/-! PM12: facts of defs, the end. -/
namespace PM
open PySem PySem.Spec PyProof.Rows L2
section
variable {X : Cx} {ca : Nat → Addr} {W : WX}
theorem Ok.blk {s : Shared} {H : Hp} {scope : Scope} {cenv : PySem.Env} {fp : List Addr} (hc : X.calm = true) : Ok (X.blk s H scope cenv fp) W0 := ⟨takes0, PassesOwn.never, hc⟩
theorem Ok.zero (o : Ok X W) : Ok X W0 := ⟨takes0, o.hp, o.calm⟩
theorem qts_nil : PTs X [] (tG X.K ca relB W0 tYesD) := ⟨fun pins s σ H Q I ⟨α, st, ρ, a, p⟩ => pts_nil.run pins s σ H Q I (p α H true .refl a.lk rfl)⟩
theorem qts_one {c : Expr} {t : ET} (h : QT X ca W0 c t) : PTs X [c] (tG X.K ca relB W0 t) := pts_one h
theorem hu1_of {A : Around} {k : Nat} (hr : Room k A) : A.units + 1 < cLine := by have := hr.un; omega
theorem hu64_of {A : Around} {k : Nat} (hr : Room k A) : A.units + 64 < cLine := by have := hr.un; omega
theorem hu65_of {A : Around} {k : Nat} (hr : Room k A) : A.units + 65 < cLine := by have := hr.un; omega
end
def TopF (K : Frag) (mg : Str → Option Value) (x : Str) (st : Stmt) : Prop := ∃ f fd, mg x = some (.ref f) ∧ PySem.W.keepIn K (.ref f) = true ∧ Fun K x x st f fd
def MetF (K : Frag) (C : Addr) (x qual : Str) (st : Stmt) : Prop := ∃ f fd, Cls K C ∧ Meth K C x f ∧ Fun K x qual st f fd
def MkF (K : Frag) (mg : Str → Option Value) (C : Addr) (c qual : Str) (st : Stmt) : Prop := ∃ f fd, mg c = some (.ref C) ∧ Mk K C f ∧ Fun K "__init__" qual st f fd
structure ExF (K : Frag) (mg : Str → Option Value) (C : Addr) (x : Str) : Prop where
  g : mg x = some (.ref C)
  q : PySem.W.excIn K C [.type "ValueError", .type "Exception", .type "BaseException", .type "object"] "ValueError.__new__" = true
  k : PySem.W.keepIn K (.ref C) = true
  b : PySem.W.subIn K (.ref C) (.type "BaseException") = some true
  t : PySem.W.typeIn K (.ref C) = some (.type "type")
theorem exC_of {X : Cx} {ca : Nat → Addr} {c : Nat} {x : Str} (e : ExF X.K X.mg (ca c) x) : ExC X ca c x := ⟨e.g, e.q, e.k, e.b, e.t⟩
theorem exm_of {K : Frag} {S U : Addr} {b : Bool} (h1 : PySem.W.subIn K (.ref U) (.type "BaseException") = some true) (h2 : PySem.W.isClsIn K U = true) (h3 : PySem.W.typeIn K (.ref U) = some (.type "type")) (h4 : PySem.W.subIn K (.ref S) (.ref U) = some b) : PySem.W.exmOne K (.ref S) (.ref U) = some b := by
  have a1 : (PySem.W.subIn K (.ref U) (.type "BaseException") == some true) = true := by rw [h1]; rfl
  have h2' : (PySem.W.clsIn K U).isSome = true := h2
  have a2 : ((PySem.W.clsIn K U).isSome && PySem.W.typeIn K (.ref U) == some (.type "type")) = true := by rw [h2', h3]; rfl
  unfold PySem.W.exmOne
  rw [if_pos a1]
  show (if ((PySem.W.clsIn K U).isSome && PySem.W.typeIn K (.ref U) == some (.type "type")) = true then PySem.W.subIn K (.ref S) (.ref U) else none) = some b
  rw [if_pos a2, h4]
section
variable {P : Program} {w : World} {K : Frag} {mg : Str → Option Value} {base : Heap} {ca : Nat → Addr} {k : Nat} {x qual : Str} {st : Stmt} {ps : List Str} {m : M}
theorem Fn.of (T : TopF K mg x st) (hB : ∀ (kV doc pm : Value) (an : Option Addr) (cdv ct : Value) (us : List Value), us.length = ps.length → bindArgs (PySem.W.fnOf x x (defArgs st) (defBody st) (defScope st) .none kV doc pm an cdv ct) ⟨us, []⟩ = pure (ps.zip us))
    (h : ∀ f fd, Fun K x x st f fd → FnOk P w K mg base (L2.CX P w) k f fd ps (spOf K ca ps.length m)) : Fn P w K mg base ca k x ps m := by
  obtain ⟨f, fd, h1, h2, F⟩ := T
  exact ⟨f, fd, h1, h2, F.binds hB, h f fd F⟩
theorem Md.of {c : Nat} (T : MetF K (ca c) x qual st) (hB : ∀ (kV doc pm : Value) (an : Option Addr) (cdv ct : Value) (us : List Value), us.length = ps.length → bindArgs (PySem.W.fnOf x qual (defArgs st) (defBody st) (defScope st) .none kV doc pm an cdv ct) ⟨us, []⟩ = pure (ps.zip us))
    (h : ∀ f fd, Fun K x qual st f fd → FnOk P w K mg base (L2.CX P w) k f fd ps (spOf K ca ps.length m)) : Md P w K mg base ca k c x ps m := by
  obtain ⟨f, fd, h1, h2, F⟩ := T
  exact ⟨f, fd, h1, h2, F.binds hB, h f fd F⟩
theorem Cm.of {c : Nat} (T : MkF K mg (ca c) x qual st) (hB : ∀ (kV doc pm : Value) (an : Option Addr) (cdv ct : Value) (us : List Value), us.length = ps.length → bindArgs (PySem.W.fnOf "__init__" qual (defArgs st) (defBody st) (defScope st) .none kV doc pm an cdv ct) ⟨us, []⟩ = pure (ps.zip us))
    (h : ∀ f fd, Fun K "__init__" qual st f fd → FnOk P w K mg base (L2.CX P w) k f fd ps (spOf K ca ps.length m)) : Cm P w K mg base ca k c x ps m := by
  obtain ⟨f, fd, h1, h2, F⟩ := T
  exact ⟨f, fd, h1, h2, F.binds hB, h f fd F⟩
theorem fn_okn {f : Addr} {fd : FuncData} {N : List Str} {n p : Nat} {s : S} (F : Fun K x qual st f fd) (sc : FnScope N ps (defScope st)) (hn : N.length = n) (hp : ps.length = p)
    (hb : ∀ (cdv : Value) (A : Around) (outer : List PySem.Env) (s0 : Shared) (H : Hp) (E : XK), Room k (A.deeper (envOfC qual (defScope st) s0.heap.objs.size f cdv)) →
      Ok (cxOf (L2.CX P w) P w K mg base N qual (defScope st) f cdv A outer s0 H E) (fun c d _ H => E c d H) →
      QFs (cxOf (L2.CX P w) P w K mg base N qual (defScope st) f cdv A outer s0 H E) ca (fun c d _ H => E c d H) (defBody st) s) :
    FnOk P w K mg base (L2.CX P w) (k + 1) f fd ps (spOf K ca p (mDef n s)) := by
  subst hn hp
  exact fn_ok F sc hb
theorem fn_bad {f : Addr} {fd : FuncData} : FnOk P w K mg base (L2.CX P w) k f fd ps (spOf K ca ps.length fun _ _ => .bad) := ⟨fun vs H Q E h => h.1, fun A outer s H args us vs Q E hr he hb hv h => by
  obtain ⟨_, _, _, _, _, _, p⟩ := h
  exact p.elim⟩
/-- the law's own promise -/
def spLaw (K : Frag) : Sp := fun vs H Q _ => ∃ (a : Addr) (ns : List Int), vs = [.ref a] ∧ ConL K H a (ns.map V.int) ∧ ns.length ≤ 63 ∧ ∀ H', Q (.bl true) H'
theorem law_of {f : Addr} {fd : FuncData} (F : FnOk P w K mg base (L2.CX P w) k f fd ["script"] (spOf K ca 1 m)) (hm : ∀ ns : List Int, ns.length ≤ 63 → ∃ st, m [.con (ns.map D.int)] [] = .ok (.bl true) st) : FnOk P w K mg base (L2.CX P w) k f fd ["script"] (spLaw K) :=
  F.imp fun vs H Q E ⟨a, ns, e, hc, hl, q⟩ => by
    subst e
    obtain ⟨st, e⟩ := hm ns hl
    refine ⟨rfl, fun _ => 0, [], [.con (ns.map D.int)], ⟨fun n o h => by simp at h, fun i j hi => by simp at hi⟩, .cons (.con hc (ints_rvs ns)) .nil, ?_⟩
    rw [e]
    intro α' H' g x L r
    cases r
    exact q H'
end
theorem con_of {K : Frag} {H : Hp} {a : Addr} {xs : List V} (hO : L2.Only H) (h : SqL K H a xs) : ConL K H a xs := by
  rcases h with (h | ⟨o, h⟩) | h
  · rcases hO a with e | ⟨o, ys, e⟩
    · rw [h] at e; cases e
    · rw [h] at e; cases e
  · exact .inl ⟨o, h⟩
  · exact .inr h
theorem walk {l : PySem.W.OpenLaw} {q : Program} {loose : List Str} {XP : (Str → Option Value) → Heap → Prop} {YP : World → Heap → Prop} {d : DefRec} {K : Params → PySem.W.Frag} (k : Nat) (hr : Room k callerA) (hn : l.most = some 63) (hdf : d.params.defaults = [])
    (hY : ∀ (w : World) (h : Heap), YP w h → (K w.params).In h)
    (F : ∀ (w : World) (mg : Str → Option Value) (fa : Addr) (h : Heap), (K w.params).In h → h.Ns mainGlobals mg → mg d.name = some (.ref fa) →
      ∃ fd : FuncData, (∀ (s : Shared) (u : Value), BindsTo s fd ⟨[u], []⟩ [("script", u)]) ∧ ∀ base : Heap, (K w.params).In base → base.Ns mainGlobals mg → FnOk l.prog w (K w.params) mg base (L2.CX l.prog w) k fa fd ["script"] (spLaw (K w.params))) :
    PySem.W.WalkO q loose XP YP l.row.toRowW d [] (fun f vs => PySem.call f vs) :=
  L2.walk_of (n := 63) (k := k) (x := "script") (CX := fun w => L2.CX l.prog w) (sp := fun w => spLaw (K w.params)) hn (by decide) hdf hr hY F (fun _ _ a ns hl hO hS => ⟨a, ns, rfl, con_of hO hS, hl, fun _ => rfl⟩) fun w H s e s' ⟨_, _, _, _, _, _, _, _, _, _, _, _, z⟩ => z
end PM

set_option Elab.async false
set_option linter.all false
set_option maxRecDepth 100000
set_option maxHeartbeats 4000000
/-! PM13: running a mirror (printed by genev.py). -/
namespace PM
open PySem PySem.Spec PyProof.Rows L2
open Classical in
@[simp] theorem cVar_ap (i : Nat)  (ρ : Env) (st : Sto) : cVar i ρ st = (match ρ[i]? with
  | some (some d) => .ok d st
  | _ => .bad) := rfl
@[simp] theorem cC_ap (d : D)  (ρ : Env) (st : Sto) : cC d ρ st = .ok d st := rfl
@[simp] theorem cOp2_ap (f : D → D → Sto → R D) (a b : E)  (ρ : Env) (st : Sto) : cOp2 f a b ρ st = (a ρ st).bind fun x st => (b ρ st).bind fun y st => f x y st := rfl
@[simp] theorem cTst_ap (e : E)  (ρ : Env) (st : Sto) : cTst e ρ st = asB (e ρ st) := rfl
@[simp] theorem cChain_ap (f g : D → D → Sto → R D) (a b c : E)  (ρ : Env) (st : Sto) : cChain f g a b c ρ st = ((a ρ st).bind fun x st => (b ρ st).bind fun y st => (asB (f x y st)).bind fun k st =>
  match k with
  | true => (c ρ st).bind fun z st => g y z st
  | false => .ok (.bl false) st) := rfl
@[simp] theorem cOp1_ap (f : D → Sto → R D) (a : E)  (ρ : Env) (st : Sto) : cOp1 f a ρ st = (a ρ st).bind fun x st => f x st := rfl
@[simp] theorem cAnd_ap (a b : E)  (ρ : Env) (st : Sto) : cAnd a b ρ st = ((a ρ st).bind fun x st => match x with
  | .bl true => b ρ st
  | .bl false => .ok (.bl false) st
  | _ => .bad) := rfl
@[simp] theorem cOr_ap (a b : E)  (ρ : Env) (st : Sto) : cOr a b ρ st = ((a ρ st).bind fun x st => match x with
  | .bl false => b ρ st
  | .bl true => .ok (.bl true) st
  | _ => .bad) := rfl
@[simp] theorem cNot_ap (a : E)  (ρ : Env) (st : Sto) : cNot a ρ st = ((a ρ st).bind fun x st => match x with
  | .bl k => .ok (.bl (!k)) st
  | _ => .bad) := rfl
@[simp] theorem tAndD_ap (a b : ET)  (ρ : Env) (st : Sto) : tAndD a b ρ st = ((a ρ st).bind fun k st => match k with
  | true => b ρ st
  | false => .ok false st) := rfl
@[simp] theorem tOrD_ap (a b : ET)  (ρ : Env) (st : Sto) : tOrD a b ρ st = ((a ρ st).bind fun k st => match k with
  | true => .ok true st
  | false => b ρ st) := rfl
@[simp] theorem tNotD_ap (a : ET)  (ρ : Env) (st : Sto) : tNotD a ρ st = (a ρ st).bind fun k st => .ok (!k) st := rfl
@[simp] theorem cTru_ap (e : E)  (ρ : Env) (st : Sto) : cTru e ρ st = (e ρ st).bind fun x st => truD x st := rfl
@[simp] theorem cIf_ap (t : ET) (a b : E)  (ρ : Env) (st : Sto) : cIf t a b ρ st = ((t ρ st).bind fun k st => match k with
  | true => a ρ st
  | false => b ρ st) := rfl
@[simp] theorem cTup_ap (es : List E)  (ρ : Env) (st : Sto) : cTup es ρ st = (cArgs es ρ st).bind fun xs st => .ok (.tup xs) st := rfl
@[simp] theorem cNew_ap (e : EL)  (ρ : Env) (st : Sto) : cNew e ρ st = (e ρ st).bind fun xs st => .ok (.loc st.length) (st ++ [.lst xs]) := rfl
@[simp] theorem cSeq_ap (e : E)  (ρ : Env) (st : Sto) : cSeq e ρ st = (e ρ st).bind seqD := rfl
@[simp] theorem cB1_ap {β : Type} (f : D → Sto → R β) (e : E)  (ρ : Env) (st : Sto) : cB1 f e ρ st = (e ρ st).bind f := rfl
@[simp] theorem cS1_ap {β : Type} (f : List D → Sto → R β) (e : EL)  (ρ : Env) (st : Sto) : cS1 f e ρ st = (e ρ st).bind f := rfl
@[simp] theorem cIxL_ap (e : EL) (b : E)  (ρ : Env) (st : Sto) : cIxL e b ρ st = (e ρ st).bind fun xs st => (b ρ st).bind fun y st => atD xs y st := rfl
@[simp] theorem cNoPart_ap  (ρ : Env) (st : Sto) : cNoPart  ρ st = .ok none st := rfl
@[simp] theorem cPart_ap (e : E)  (ρ : Env) (st : Sto) : cPart e ρ st = ((e ρ st).bind fun x st => match x with
  | .int i => .ok (some i) st
  | _ => .bad) := rfl
@[simp] theorem cSlice_ap (e : E) (lo hi : EO)  (ρ : Env) (st : Sto) : cSlice e lo hi ρ st = (e ρ st).bind fun x st => (lo ρ st).bind fun l st => (hi ρ st).bind fun h st => sliceD x l h st := rfl
@[simp] theorem cLs_ap (e : E)  (ρ : Env) (st : Sto) : cLs e ρ st = (e ρ st).bind lstD := rfl
@[simp] theorem cCatL_ap (a b : EL)  (ρ : Env) (st : Sto) : cCatL a b ρ st = (a ρ st).bind fun xs st => (b ρ st).bind fun ys st => catL xs ys st := rfl
@[simp] theorem cCatE_ap (a : E) (b : EL)  (ρ : Env) (st : Sto) : cCatE a b ρ st = (a ρ st).bind fun x st => (b ρ st).bind fun ys st => (lstD x st).bind fun xs st => catL xs ys st := rfl
@[simp] theorem cRepL_ap (a : EL) (b : E)  (ρ : Env) (st : Sto) : cRepL a b ρ st = ((a ρ st).bind fun xs st => (b ρ st).bind fun y st => match y with
  | .int k => if -(2 ^ 63) ≤ k ∧ k < 2 ^ 63 ∧ xs.length * k.toNat ≤ sizeLine then .ok (List.replicate k.toNat xs).flatten st else .bad
  | _ => .bad) := rfl
@[simp] theorem sNext_ap  (ρ : Env) (st : Sto) : sNext  ρ st = .nx ρ st := rfl
@[simp] theorem sSeq_ap (a b : S)  (ρ : Env) (st : Sto) : sSeq a b ρ st = (match a ρ st with
  | .nx ρ' st' => b ρ' st'
  | .rt d st' => .rt d st'
  | .bk ρ' st' => .bk ρ' st'
  | .ct ρ' st' => .ct ρ' st'
  | .exc c fs ρ' st' => .exc c fs ρ' st'
  | .bad => .bad) := rfl
@[simp] theorem sBreak_ap  (ρ : Env) (st : Sto) : sBreak  ρ st = .bk ρ st := rfl
@[simp] theorem sCont_ap  (ρ : Env) (st : Sto) : sCont  ρ st = .ct ρ st := rfl
@[simp] theorem sExp_ap (e : E)  (ρ : Env) (st : Sto) : sExp e ρ st = fE (e ρ st) ρ fun _ st => .nx ρ st := rfl
@[simp] theorem sRet_ap (e : E)  (ρ : Env) (st : Sto) : sRet e ρ st = fE (e ρ st) ρ fun d st => .rt d st := rfl
@[simp] theorem sRetN_ap  (ρ : Env) (st : Sto) : sRetN  ρ st = .rt .non st := rfl
@[simp] theorem sIf_ap (t : ET) (a b : S)  (ρ : Env) (st : Sto) : sIf t a b ρ st = (fE (t ρ st) ρ fun k st => match k with
  | true => a ρ st
  | false => b ρ st) := rfl
@[simp] theorem sAsg_ap (e : E) (g : G)  (ρ : Env) (st : Sto) : sAsg e g ρ st = (fE (e ρ st) ρ fun d st => match g d ρ with
  | some ρ' => .nx ρ' st
  | none => .bad) := rfl
@[simp] theorem sSet_ap (i : Nat) (e : E)  (ρ : Env) (st : Sto) : sSet i e ρ st = fE (e ρ st) ρ fun d st => .nx (ρ.set i (some d)) st := rfl
@[simp] theorem sPar_ap (i j : Nat) (es : List E)  (ρ : Env) (st : Sto) : sPar i j es ρ st = (fE (cArgs es ρ st) ρ fun ds st => match ds with
  | [d, e] => .nx ((ρ.set i (some d)).set j (some e)) st
  | _ => .bad) := rfl
@[simp] theorem sAug_ap (i : Nat) (f : D → D → Sto → R D) (e : E)  (ρ : Env) (st : Sto) : sAug i f e ρ st = (match ρ[i]? with
  | some (some x) => fE (e ρ st) ρ fun y st => fE (f x y st) ρ fun z st => .nx (ρ.set i (some z)) st
  | _ => .bad) := rfl
@[simp] theorem sFldD_ap (cs : List Nat) (f : Str) (o e : E)  (ρ : Env) (st : Sto) : sFldD cs f o e ρ st = (fE (e ρ st) ρ fun d st => fE (o ρ st) ρ fun x st => match x with
  | .loc n => match st[n]? with
    | some (.ins c fs) => if c ∈ cs ∧ fs.length < 1000 then .nx ρ (st.set n (.ins c (putFD f d fs))) else .bad
    | _ => .bad
  | _ => .bad) := rfl
@[simp] theorem sFldAugD_ap (cs : List Nat) (f : Str) (g : D → D → Sto → R D) (o e : E)  (ρ : Env) (st : Sto) : sFldAugD cs f g o e ρ st = (fE (o ρ st) ρ fun x st => match x with
  | .loc n => match st[n]? with
    | some (.ins c fs) => if c ∈ cs then match fs.lookup f with
      | some v => fE (e ρ st) ρ fun y st => fE (g v y st) ρ fun z st => match st[n]? with
        | some (.ins c' fs') => if c' = c ∧ fs'.length < 1000 then .nx ρ (st.set n (.ins c (putFD f z fs'))) else .bad
        | _ => .bad
      | none => .bad else .bad
    | _ => .bad
  | _ => .bad) := rfl
@[simp] theorem sSub_ap (o i e : E)  (ρ : Env) (st : Sto) : sSub o i e ρ st = (fE (e ρ st) ρ fun d st => fE (o ρ st) ρ fun x st => fE (i ρ st) ρ fun y st => match setD x y d st with
  | some st' => .nx ρ st'
  | none => .bad) := rfl
@[simp] theorem sDel_ap (o i : E)  (ρ : Env) (st : Sto) : sDel o i ρ st = (fE (o ρ st) ρ fun x st => fE (i ρ st) ρ fun y st => match delD x y st with
  | some st' => .nx ρ st'
  | none => .bad) := rfl
@[simp] theorem cItr_ap (e : E)  (ρ : Env) (st : Sto) : cItr e ρ st = (e ρ st).bind itrD := rfl
@[simp] theorem cItl_ap (e : EL)  (ρ : Env) (st : Sto) : cItl e ρ st = (e ρ st).bind fun xs st => .ok ⟨fun _ => True, xs⟩ st := rfl
@[simp] theorem cRng1_ap (e : E)  (ρ : Env) (st : Sto) : cRng1 e ρ st = (e ρ st).bind rng1D := rfl
@[simp] theorem cRng2_ap (e f : E)  (ρ : Env) (st : Sto) : cRng2 e f ρ st = (e ρ st).bind fun x st => (f ρ st).bind fun y st => rng2D x y st := rfl
@[simp] theorem sFor_ap (e : EI) (g : G) (body : S)  (ρ : Env) (st : Sto) : sFor e g body ρ st = fE (e ρ st) ρ fun b st => forGo b.chk g body b.xs ρ st := rfl
@[simp] theorem cComp_ap (e : EI) (t : CT) (tt : ET) (te : E) (vs : List Nat)  (ρ : Env) (st : Sto) : cComp e t tt te vs ρ st = ((e ρ st).bind fun b st =>
  if b.xs.length ≤ sizeLine then compGo b.chk t tt te (wipeD ρ vs) b.xs st else .bad) := rfl
@[simp] theorem tYesD_ap  (ρ : Env) (st : Sto) : tYesD  ρ st = .ok true st := rfl
@[simp] theorem cCall_ap (m : M) (es : List E)  (ρ : Env) (st : Sto) : cCall m es ρ st = (cArgs es ρ st).bind m := rfl
@[simp] theorem cMeth_ap (c : Nat) (x : Str) (m : M) (o : E) (es : List E)  (ρ : Env) (st : Sto) : cMeth c x m o es ρ st = ((o ρ st).bind fun d st => match d with
  | .loc n => match st[n]? with
    | some (.ins c' fs) => if c' = c ∧ fs.lookup x = none then (cArgs es ρ st).bind fun ds st => m (d :: ds) st else .bad
    | _ => .bad
  | _ => .bad) := rfl
@[simp] theorem cMake_ap (c : Nat) (m : M) (es : List E)  (ρ : Env) (st : Sto) : cMake c m es ρ st = (cArgs es ρ st).bind fun ds st => (m (.loc st.length :: ds) (st ++ [.ins c []])).bind (nonTo st.length) := rfl
@[simp] theorem sRaise_ap (c : Nat)  (ρ : Env) (st : Sto) : sRaise c ρ st = .exc c [] ρ st := rfl
@[simp] theorem sTry_ap (mt : Nat → Option Bool) (body h : S)  (ρ : Env) (st : Sto) : sTry mt body h ρ st = (match body ρ st with
  | .exc c fs ρ' st' => match mt c with
    | some true => fNx (h ρ' st')
    | some false => .exc c fs ρ' st'
    | none => .bad
  | f => f) := rfl
@[simp] theorem cInL_ap (neg : Bool) (a : E) (b : EL)  (ρ : Env) (st : Sto) : cInL neg a b ρ st = ((a ρ st).bind fun x st => (b ρ st).bind fun ys st => match inSeq x ys with
  | some k => .ok (.bl (neg ^^ k)) st
  | none => .bad) := rfl
@[simp] theorem cNewD_ap (e : ED)  (ρ : Env) (st : Sto) : cNewD e ρ st = (e ρ st).bind fun xs st => .ok (.loc st.length) (st ++ [.dct xs]) := rfl
@[simp] theorem cD0_ap  (ρ : Env) (st : Sto) : cD0  ρ st = .ok [] st := rfl
@[simp] theorem cDisp_ap (r : List (E × E))  (ρ : Env) (st : Sto) : cDisp r ρ st = (cPairs r ρ st).bind fun ps st => .ok (mergeD [] ps) st := rfl
@[simp] theorem cDict_ap (e : E)  (ρ : Env) (st : Sto) : cDict e ρ st = (e ρ st).bind dctD := rfl
@[simp] theorem cDictL_ap (e : EL)  (ρ : Env) (st : Sto) : cDictL e ρ st = ((e ρ st).bind fun xs st => match prsD xs with
  | some ps => .ok (mergeD [] ps) st
  | none => .bad) := rfl
@[simp] theorem cKeys_ap (e : E)  (ρ : Env) (st : Sto) : cKeys e ρ st = ((e ρ st).bind dctD).bind fun kvs st => .ok (kvs.map fun kv => kD kv.1) st := rfl
@[simp] theorem cSortedD_ap (e : E)  (ρ : Env) (st : Sto) : cSortedD e ρ st = (((e ρ st).bind dctD).bind fun kvs st => match intKeys kvs with
  | some ns => if ns.length < 64 then .ok ((sortI ns).map D.int) st else .bad
  | none => .bad) := rfl
@[simp] theorem cGet_ap (d k : E)  (ρ : Env) (st : Sto) : cGet d k ρ st = ((d ρ st).bind fun x st => (dctD x st).bind fun _ st => (k ρ st).bind fun y st => (dctD x st).bind fun kvs st => match keyD y with
  | some k => .ok ((valD kvs k).getD .non) st
  | none => .bad) := rfl
@[simp] theorem cGet2_ap (d k z : E)  (ρ : Env) (st : Sto) : cGet2 d k z ρ st = ((d ρ st).bind fun x st => (dctD x st).bind fun _ st => (k ρ st).bind fun y st => (z ρ st).bind fun u st => (dctD x st).bind fun kvs st => match keyD y with
  | some k => .ok ((valD kvs k).getD u) st
  | none => .bad) := rfl
@[simp] theorem lockAt_ap (p : E)  (ρ : Env) (st : Sto) : lockAt p ρ st = (match p ρ st with
  | .ok (.loc n) _ => match st[n]? with
    | some (.dct kvs) => some (n, kvs)
    | _ => none
  | _ => none) := rfl
@[simp] theorem lockD_ap {β : Type} (p : E) (e : Env → Sto → R β)  (ρ : Env) (st : Sto) : lockD p e ρ st = (match lockAt p ρ st with
  | some (n, kvs) => lockGo n (e ρ (st.set n (.fdc kvs)))
  | none => .bad) := rfl
@[simp] theorem cKeysI_ap (e : E)  (ρ : Env) (st : Sto) : cKeysI e ρ st = (e ρ st).bind keysD := rfl
@[simp] theorem pairD_ap (ek ev : E)  (ρ : Env) (st : Sto) : pairD ek ev ρ st = ((ek ρ st).bind fun k st => (ev ρ st).bind fun v st => match keyD k with
  | some k => .ok (k, v) st
  | none => .bad) := rfl
@[simp] theorem cDComp_ap (e : EI) (t : CT) (tt : ET) (ek ev : E) (vs : List Nat)  (ρ : Env) (st : Sto) : cDComp e t tt ek ev vs ρ st = ((e ρ st).bind fun b st =>
  if b.xs.length ≤ sizeLine then (compGo b.chk t tt (pairD ek ev) (wipeD ρ vs) b.xs st).bind fun ps st => .ok (mergeD [] ps) st else .bad) := rfl

@[simp] theorem cArgs_nil (ρ : Env) (st : Sto) : cArgs [] ρ st = .ok [] st := rfl
@[simp] theorem cArgs_cons (e : E) (es : List E) (ρ : Env) (st : Sto) : cArgs (e :: es) ρ st = (e ρ st).bind fun x st => (cArgs es ρ st).bind fun xs st => .ok (x :: xs) st := rfl
@[simp] theorem cLst_ap (es : List E) (ρ : Env) (st : Sto) : cLst es ρ st = cArgs es ρ st := rfl
@[simp] theorem asB_ok (b : Bool) (st : Sto) : asB (.ok (.bl b) st) = .ok b st := rfl
@[simp] theorem asB_exc (c : Nat) (fs : List (Str × D)) (st : Sto) : asB (.exc c fs st) = .exc c fs st := rfl
@[simp] theorem cNx_ok {β : Type} (b : β) (st : Sto) : cNx (.ok b st) = .ok b st := rfl
end PM

set_option Elab.async false
set_option linter.all false
set_option maxRecDepth 100000
set_option maxHeartbeats 1000000
/-! PM14: stores, garbage. -/
namespace PM
open PySem L2
open Classical
theorem get_set_ne {st : Sto} {n m : Nat} {o : O} (h : m ≠ n) : (st.set n o)[m]? = st[m]? := List.getElem?_set_ne (Ne.symm h)
theorem get_set_eq {st : Sto} {n : Nat} {o o' : O} (h : st[n]? = some o') : (st.set n o)[n]? = some o := List.getElem?_set_self (List.getElem?_eq_some_iff.mp h).1
theorem get_app {st : Sto} {n : Nat} {o : O} {g : Sto} (h : st[n]? = some o) : (st ++ g)[n]? = some o := by
  rw [List.getElem?_append_left (List.getElem?_eq_some_iff.mp h).1]; exact h
theorem get_new {st : Sto} {o : O} {g : Sto} : (st ++ o :: g)[st.length]? = some o := by
  rw [List.getElem?_append_right (Nat.le_refl _), Nat.sub_self]; rfl
theorem lt_get {st : Sto} {n : Nat} {o : O} (h : st[n]? = some o) : n < st.length := (List.getElem?_eq_some_iff.mp h).1
theorem gcR_same {st st' : Sto} {d : D} (h : st'.length = st.length) : gcR st (.ok d st') = .ok d st' := by
  show (if st <+: st' ∧ below st.length d = true then R.ok d st else .ok d st') = _
  split
  · rename_i hp
    rw [hp.1.eq_of_length h.symm]
  · rfl
theorem gcR_pure {st g : Sto} {d : D} (h : below st.length d = true) : gcR st (.ok d (st ++ g)) = .ok d st := by
  show (if st <+: st ++ g ∧ below st.length d = true then R.ok d st else .ok d (st ++ g)) = _
  rw [if_pos ⟨List.prefix_append st g, h⟩]
theorem gcR_id {st : Sto} {d : D} : gcR st (.ok d st) = .ok d st := gcR_same rfl
theorem gcR_exc {st st' : Sto} {c : Nat} (h : st'.length = st.length) : gcR st (.exc c [] st') = .exc c [] st' := by
  show (if st <+: st' ∧ ([] : List (Str × D)) = [] then R.exc c [] st else .exc c [] st') = _
  split
  · rename_i hp
    rw [hp.1.eq_of_length h.symm]
  · rfl
theorem gcR_new {st st' : Sto} {d : D} {n : Nat} (hn : n < st.length) (h : st'[n]? ≠ st[n]?) : gcR st (.ok d st') = .ok d st' := by
  show (if st <+: st' ∧ below st.length d = true then R.ok d st else .ok d st') = _
  rw [if_neg]
  rintro ⟨⟨g, rfl⟩, _⟩
  exact h (List.getElem?_append_left hn)
/-- x[i] of a list -/
theorem atI_nat {α : Type} {xs : List α} {i : Nat} {x : α} (h : xs[i]? = some x) : L2.atI xs (i : Int) = some x := by
  have hi := (List.getElem?_eq_some_iff.mp h).1
  unfold L2.atI L2.ixN
  rw [if_pos (Int.natCast_nonneg i), if_pos (by omega)]
  simpa using h
theorem getD_lst {st : Sto} {n : Nat} {xs : List D} {y : D} (h : st[n]? = some (.lst xs)) : getD (.loc n) y st = atD xs y st := by
  simp only [getD, h]
theorem getD_dct {st : Sto} {n : Nat} {xs : List (Key × D)} {y : D} (h : st[n]? = some (.dct xs)) : getD (.loc n) y st = atK xs y st := by
  simp only [getD, h]
theorem getD_fdc {st : Sto} {n : Nat} {xs : List (Key × D)} {y : D} (h : st[n]? = some (.fdc xs)) : getD (.loc n) y st = atK xs y st := by
  simp only [getD, h]
theorem setD_lst {st : Sto} {n : Nat} {xs : List D} {k : Int} {v : D} (h : st[n]? = some (.lst xs)) : setD (.loc n) (.int k) v st = (L2.ixN xs.length k).map fun j => st.set n (.lst (xs.set j v)) := by
  simp only [setD, h]
theorem setD_dct {st : Sto} {n : Nat} {kvs : List (Key × D)} {i : D} {k : Key} {v : D} (h : st[n]? = some (.dct kvs)) (hk : keyD i = some k) (hz : kvs.length < sizeLine) : setD (.loc n) i v st = some (st.set n (.dct (putD kvs k v))) := by
  simp only [setD, h, hk, if_pos hz]
theorem lenD_lst {st : Sto} {n : Nat} {xs : List D} (h : st[n]? = some (.lst xs)) : lenD (.loc n) st = .ok (.int xs.length) st := by
  simp only [lenD, h]
@[simp] theorem int2_int (C : Int → Int → Bool) (g : Int → Int → Int) (i j : Int) (st : Sto) : int2 C g (.int i) (.int j) st = if C i j = true then .ok (.int (g i j)) st else .bad := rfl
@[simp] theorem cmpI_int (g : Int → Int → Bool) (i j : Int) (st : Sto) : cmpI g (.int i) (.int j) st = .ok (.bl (g i j)) st := rfl
@[simp] theorem eqD_int (i j : Int) (st : Sto) : eqD (.int i) (.int j) st = .ok (.bl (decide (i = j))) st := rfl
@[simp] theorem neD_int (i j : Int) (st : Sto) : neD (.int i) (.int j) st = .ok (.bl (!decide (i = j))) st := rfl
@[simp] theorem eqD_str (i j : Str) (st : Sto) : eqD (.str i) (.str j) st = .ok (.bl (decide (i = j))) st := rfl
@[simp] theorem eqD_bl (i j : Bool) (st : Sto) : eqD (.bl i) (.bl j) st = .ok (.bl (decide (i = j))) st := rfl
@[simp] theorem neD_bl (i j : Bool) (st : Sto) : neD (.bl i) (.bl j) st = .ok (.bl (!decide (i = j))) st := rfl
@[simp] theorem addD_int (i j : Int) (st : Sto) : addD (.int i) (.int j) st = .ok (.int (i + j)) st := rfl
@[simp] theorem intD_int (i : Int) (st : Sto) : intD (.int i) st = .ok (.int i) st := rfl
@[simp] theorem subD_int (i j : Int) (st : Sto) : subD (.int i) (.int j) st = .ok (.int (i - j)) st := rfl
theorem modD_int {i j : Int} (st : Sto) (h : j ≠ 0) : modD (.int i) (.int j) st = .ok (.int (i.fmod j)) st := by
  show (if modC i j = true then R.ok (D.int (i.fmod j)) st else .bad) = _
  rw [if_pos (show modC i j = true from decide_eq_true h)]
theorem fdivD_int {i j : Int} (st : Sto) (h : j ≠ 0) (h2 : j.natAbs.log2 < 9000) : fdivD (.int i) (.int j) st = .ok (.int (i.fdiv j)) st := by
  show (if fdivC i j = true then R.ok (D.int (i.fdiv j)) st else .bad) = _
  rw [if_pos]
  unfold fdivC
  simp [h, h2]
theorem mulD_int {i j : Int} (st : Sto) (h : -(2 ^ 64) < j ∧ j < 2 ^ 64) : mulD (.int i) (.int j) st = .ok (.int (i * j)) st := by
  show (if mulC i j = true then R.ok (D.int (i * j)) st else .bad) = _
  rw [if_pos]
  unfold mulC
  simp only [decide_eq_true h, Bool.or_true]
theorem small_log {n : Nat} (h : n < 2 ^ 64) : n.log2 < 9000 := by
  by_cases h0 : n = 0
  · subst h0; decide
  · exact Nat.lt_of_lt_of_le (Nat.log2_lt h0 |>.mpr h) (by decide)
/-! ### loops -/
theorem forGo_inv {chk : Sto → Prop} {g : G} {body : S} (P : Nat → Env → Sto → Prop) : ∀ (xs : List D) (k : Nat), (∀ k ρ st, P k ρ st → chk st) →
    (∀ i x, xs[i]? = some x → ∀ ρ st, P (k + i) ρ st → ∃ ρ1, g x ρ = some ρ1 ∧ ∃ ρ' st', (body ρ1 st = .nx ρ' st' ∨ body ρ1 st = .ct ρ' st') ∧ P (k + i + 1) ρ' st') →
    ∀ ρ st, P k ρ st → ∃ ρ' st', forGo chk g body xs ρ st = .nx ρ' st' ∧ P (k + xs.length) ρ' st'
  | [], k, hc, _, ρ, st, p => ⟨ρ, st, by simp [forGo, hc _ _ _ p], p⟩
  | x :: r, k, hc, hs, ρ, st, p => by
    obtain ⟨ρ1, e1, ρ2, st2, e2, p2⟩ := hs 0 x rfl ρ st p
    obtain ⟨ρ3, st3, e3, p3⟩ := forGo_inv P r (k + 1) hc (fun i y e ρ st q => by
      have := hs (i + 1) y (by simpa using e) ρ st (by rw [show k + (i + 1) = k + 1 + i by omega]; exact q)
      rw [show k + (i + 1) + 1 = k + 1 + i + 1 by omega] at this
      exact this) ρ2 st2 p2
    refine ⟨ρ3, st3, ?_, by rw [List.length_cons, show k + (r.length + 1) = k + 1 + r.length by omega]; exact p3⟩
    unfold forGo
    rw [if_pos (hc _ _ _ p), e1]
    dsimp only
    rcases e2 with e2 | e2 <;> rw [e2] <;> exact e3
theorem compGo_inv {β : Type} {chk : Sto → Prop} {t : CT} {te : Env → Sto → R β} {ρ : Env} (P : Nat → List β → Sto → Prop) : ∀ (xs : List D) (k : Nat) (acc : List β), (∀ k acc st, P k acc st → chk st) →
    (∀ i x, xs[i]? = some x → ∀ acc st, P (k + i) acc st → ∃ ρ1, t.set x ρ = some ρ1 ∧ ∃ y st', te ρ1 st = .ok y st' ∧ P (k + i + 1) (acc ++ [y]) st') →
    ∀ st, P k acc st → ∃ ys st', compGo chk t tYesD te ρ xs st = .ok ys st' ∧ P (k + xs.length) (acc ++ ys) st'
  | [], k, acc, hc, _, st, p => ⟨[], st, by simp [compGo, hc _ _ _ p], by simpa using p⟩
  | x :: r, k, acc, hc, hs, st, p => by
    obtain ⟨ρ1, e1, y, st2, e2, p2⟩ := hs 0 x rfl acc st p
    obtain ⟨ys, st3, e3, p3⟩ := compGo_inv P r (k + 1) (acc ++ [y]) hc (fun i y e acc st q => by
      have := hs (i + 1) y (by simpa using e) acc st (by rw [show k + (i + 1) = k + 1 + i by omega]; exact q)
      rw [show k + (i + 1) + 1 = k + 1 + i + 1 by omega] at this
      exact this) st2 p2
    refine ⟨y :: ys, st3, ?_, ?_⟩
    · unfold compGo
      rw [if_pos (hc _ _ _ p), e1]
      dsimp only
      simp [e2, e3]
    · rw [List.length_cons, show k + (r.length + 1) = k + 1 + r.length by omega]
      simpa using p3
theorem compGo_pure {β : Type} {chk : Sto → Prop} {t : CT} {tt : ET} {te : Env → Sto → R β} {ρ : Env} {st : Sto} (b : D → Bool) (y : D → β) (hc : chk st) : ∀ xs : List D, (∀ x ∈ xs, ∃ ρ1, t.set x ρ = some ρ1 ∧ tt ρ1 st = .ok (b x) st ∧ (b x = true → te ρ1 st = .ok (y x) st)) → compGo chk t tt te ρ xs st = .ok ((xs.filter b).map y) st
  | [], _ => by simp [compGo, hc]
  | x :: r, h => by
    obtain ⟨ρ1, e1, e2, e3⟩ := h x List.mem_cons_self
    have ih := compGo_pure b y hc r fun x hx => h x (List.mem_cons_of_mem _ hx)
    unfold compGo
    rw [if_pos hc, e1]
    dsimp only
    rw [e2]
    cases hb : b x with
    | false => rw [List.filter_cons, hb]; simpa using ih
    | true =>
      rw [List.filter_cons, hb]
      simp [e3 hb, ih]
/-- a dict made of pairs whose keys are all different -/
theorem merge_append : ∀ (ps acc : List (Key × D)), ((acc ++ ps).map (·.1)).Nodup → mergeD acc ps = acc ++ ps
  | [], acc, _ => by simp [mergeD]
  | (k, v) :: r, acc, h => by
    have e : putD acc k v = acc ++ [(k, v)] := by
      unfold putD
      rw [if_neg]
      intro z
      obtain ⟨p, hp, e⟩ := List.any_eq_true.mp z
      have e := of_decide_eq_true e
      rw [List.map_append, List.nodup_append] at h
      exact h.2.2 p.1 (List.mem_map_of_mem hp) k (by simp) e
    show mergeD (putD acc k v) r = _
    rw [e, merge_append r (acc ++ [(k, v)]) (by simpa using h)]
    simp
theorem merge_nodup {ps : List (Key × D)} (h : (ps.map (·.1)).Nodup) : mergeD [] ps = ps := merge_append ps [] h
end PM

set_option Elab.async false
set_option linter.all false
set_option maxRecDepth 100000
set_option maxHeartbeats 4000000
/-! PM15: append, extend, sorted of tuples, str, repr. -/
namespace PM
open PySem PySem.Spec PyProof.Rows L2
section
variable {X : Cx} {ca : Nat → Addr} {W : WX} {a b c o : Expr} {ea eb ec eo : E} {pos : Pos} {es : List Expr} {x : Str} {p0 apos cpos : Pos}
theorem lstD_ok {K : Frag} {α α0 : Nat → Addr} {st : Sto} {N0 : Nat} {H H0 : Hp} {d : D} {v : V} {β γ : Type} {rel : Rel β γ} {W : XK} {Q : γ → Hp → Prop} {f : List D → Sto → R β} (L : Lk K ca α st H) (r : RV K α st.length H d v) (p : Post K ca rel α0 N0 H0 W Q ((lstD d st).bind f)) :
    ∃ n xs vs, d = .loc n ∧ st[n]? = some (.lst xs) ∧ v = .ref (α n) ∧ H (α n) = some (.lst vs) ∧ RVs K α st.length H xs vs ∧ Post K ca rel α0 N0 H0 W Q (f xs st) := by
  cases r <;> try exact False.elim p
  simp only [lstD] at p
  split at p <;> try exact p.elim
  rename_i xs q1
  obtain ⟨vs, h1, r1⟩ := lk_lst L q1
  exact ⟨_, _, _, rfl, q1, rfl, h1, r1, p⟩
def appD (x : D) (ys : List D) (st : Sto) : R D := match x, ys with
  | .loc n, [y] => match st[n]? with
    | some (.lst xs) => if xs.length < sizeLine then .ok .non (st.set n (.lst (xs ++ [y]))) else .bad
    | _ => .bad
  | _, _ => .bad
def cApp (o e : E) : E := fun ρ st => (o ρ st).bind fun x st => (lstD x st).bind fun _ st => (cArgs [e] ρ st).bind fun ys st => appD x ys st
theorem qe_app (ho : QE X ca W o eo) (ha : QE X ca W a ea)
    (hbase : attributeBase o "append" X.env (eval o X.env) = eval o X.env := by rfl)
    (hfew : ((backTo cpos (starEach [a] X.env)).all (fun x => !x.1) && (backToKw cpos (keywordEach [] X.env)).all (fun x => x.1.isSome)
      && decide ([a].length + ([] : List Keyword).length + (if ([] : List Keyword).isEmpty then 0 else 1) < 30)) = true := by rfl)
    (hline : (apos.endLine == cpos.line) = true := by rfl) (hs : starEach [a] X.env = (false, eval a X.env) :: starEach [] X.env := by rfl) (hplain : (backTo cpos (starEach [] X.env)).any (·.1) = false := by rfl) :
    QE X ca W (.Call (.Attribute o "append" apos) [a] [] cpos) (cApp eo ea) :=
  peW (pe_bm PySem.F.plainAttrs_list PySem.F.slot_list_append PySem.F.type_list_append mt_append ho (qa_cons ha qa_nil hs) hbase hfew hline hs hplain) fun σ H Q ⟨α, st, ρ, at0, p⟩ => tG_next (rel := relV X.K) at0 .refl p fun α1 st1 d v H1 a1 _ x1 r1 p1 => by
    obtain ⟨n, xs, vs, rfl, h, rfl, h1, r, p2⟩ := lstD_ok a1.lk r1 p1
    refine ⟨.inl ⟨rfl, vs, .inl (.inl h1)⟩, tG_next (rel := relVs X.K) a1 x1 p2 fun α2 st2 ys us H2 a2 x2 xb r2 p3 => ?_⟩
    have hn := Lk.lt_of h
    match ys, us, r2, p3 with
    | [], _, _, p3 => exact p3.elim
    | [y], _, .cons ry .nil, p3 =>
      have p3 : Post X.K ca (relV X.K) α st.length H (fun c d H' => W c d σ H') Q (match st2[n]? with
        | some (.lst xs) => if xs.length < sizeLine then .ok .non (st2.set n (.lst (xs ++ [y]))) else .bad
        | _ => .bad) := p3
      split at p3 <;> try exact p3.elim
      rename_i xs' q1
      split at p3 <;> try exact p3.elim
      rename_i hz
      obtain ⟨vs', h2, r3⟩ := lk_lst a2.lk q1
      have L2' := a2.lk.write (o' := .lst (xs' ++ [y])) q1 h2 (fun _ z => by cases z) (fun _ _ z => by cases z) (.lst (r3.append (.cons ry .nil)))
      exact ⟨α1 n, vs', _, rfl, rfl, by rw [← x2.ag n hn]; exact h2, by rw [← r3.length]; exact hz, by rw [← x2.ag n hn]; exact p3 α2 _ _ (xb.trans L2'.2) L2'.1 .non⟩
    | _ :: _ :: _, _, _, p3 => exact p3.elim
/-- extend by a list in passing -/
def extD (x : D) (ys : List D) (st : Sto) : R D := match x with
  | .loc n => match st[n]? with
    | some (.lst xs) => if xs.length + ys.length ≤ sizeLine then .ok .non (st.set n (.lst (xs ++ ys))) else .bad
    | _ => .bad
  | _ => .bad
def cExt (o : E) (e : EL) : E := fun ρ st => (o ρ st).bind fun x st => (lstD x st).bind fun _ st => (e ρ st).bind fun ys st => extD x ys st
theorem qe_ext {e : EL} (ho : QE X ca W o eo) (ha : QM X ca W a e)
    (hbase : attributeBase o "extend" X.env (eval o X.env) = eval o X.env := by rfl)
    (hfew : ((backTo cpos (starEach [a] X.env)).all (fun x => !x.1) && (backToKw cpos (keywordEach [] X.env)).all (fun x => x.1.isSome)
      && decide ([a].length + ([] : List Keyword).length + (if ([] : List Keyword).isEmpty then 0 else 1) < 30)) = true := by rfl)
    (hline : (apos.endLine == cpos.line) = true := by rfl) (hs : starEach [a] X.env = (false, eval a X.env) :: starEach [] X.env := by rfl) (hplain : (backTo cpos (starEach [] X.env)).any (·.1) = false := by rfl) :
    QE X ca W (.Call (.Attribute o "extend" apos) [a] [] cpos) (cExt eo e) :=
  peW (pe_bm PySem.F.plainAttrs_list PySem.F.slot_list_extend PySem.F.type_list_extend mt_extend ho (pa1 ha hs) hbase hfew hline hs hplain) fun σ H Q ⟨α, st, ρ, at0, p⟩ => tG_next (rel := relV X.K) at0 .refl p fun α1 st1 d v H1 a1 _ x1 r1 p1 => by
    obtain ⟨n, xs, vs, rfl, h, rfl, h1, r, p2⟩ := lstD_ok a1.lk r1 p1
    refine ⟨.inl ⟨rfl, vs, .inl (.inl h1)⟩, tG_next (rel := relM X.K) a1 x1 p2 fun α2 st2 ys u H2 a2 x2 xb ⟨q, us, e, hq, r2⟩ p3 => ?_⟩
    subst e
    have hn := Lk.lt_of h
    have p3 : Post X.K ca (relV X.K) α st.length H (fun c d H' => W c d σ H') Q (match st2[n]? with
      | some (.lst xs) => if xs.length + ys.length ≤ sizeLine then .ok .non (st2.set n (.lst (xs ++ ys))) else .bad
      | _ => .bad) := p3
    split at p3 <;> try exact p3.elim
    rename_i xs' q1
    split at p3 <;> try exact p3.elim
    rename_i hz
    obtain ⟨vs', h2, r3⟩ := lk_lst a2.lk q1
    have L2' := a2.lk.write (o' := .lst (xs' ++ ys)) q1 h2 (fun _ z => by cases z) (fun _ _ z => by cases z) (.lst (r3.append r2))
    exact ⟨α1 n, q, vs', us, rfl, rfl, by rw [← x2.ag n hn]; exact h2, hq, by rw [← r3.length, ← r2.length]; exact hz, by rw [← x2.ag n hn]; exact p3 α2 _ _ (xb.trans L2'.2) L2'.1 .non⟩
/-- str of an int or a text -/
def strD : D → Sto → R D
  | .int i, st => if i.natAbs.log2 < 1920 then .ok (.str (toString i)) st else .bad
  | .str x, st => .ok (.str x) st
  | _, _ => .bad
theorem rule_str : ruleD X.K ca (relV X.K) strD (fun xs H Q => (∃ i, xs = [.int i] ∧ i.natAbs.log2 < 1920 ∧ Q (.str (toString i)) H) ∨ ∃ x, xs = [.str x] ∧ Q (.str x) H) := by
  intro α st α0 N0 H0 H W d v Q L xt r p
  cases r <;> try exact False.elim p
  · simp only [strD] at p
    split at p
    · rename_i h
      exact .inl ⟨_, rfl, h, p α H _ xt L (.str _)⟩
    · exact p.elim
  · exact .inr ⟨_, rfl, p α H _ xt L (.str _)⟩
theorem call_str2 : CallR X (.type "str") (fun xs H Q => (∃ i, xs = [.int i] ∧ i.natAbs.log2 < 1920 ∧ Q (.str (toString i)) H) ∨ ∃ x, xs = [.str x] ∧ Q (.str x) H) := by
  intro pins s σ H xs us Q I r h
  rcases h with h | h
  · exact call_str_int pins s σ H xs us Q I r h
  · exact SkE.call_str_str pins s σ H xs us Q I r h
theorem qe_str2 (ha : QE X ca W a ea) (hg : Gl X "str") (hm : X.mg "str" = none) (hs : starEach [a] X.env = (false, eval a X.env) :: starEach [] X.env := by rfl) : QE X ca W (.Call (.Name "str" p0) [a] [] pos) (cB1 strD ea) :=
  qt1 rule_str call_str2 ha hg hm (by decide +kernel) (by decide) (by decide) hs
/-- repr of a truth value, None, an int -/
def reprD : D → Sto → R D
  | .bl k, st => .ok (.str (if k then "True" else "False")) st
  | .non, st => .ok (.str "None") st
  | .int i, st => if i.natAbs.log2 < 1920 then .ok (.str (toString i)) st else .bad
  | _, _ => .bad
abbrev rRepr : List V → Hp → VK → Prop := fun xs H Q => (∃ k : Bool, xs = [.bl k] ∧ Q (.str (if k then "True" else "False")) H) ∨ (xs = [.non] ∧ Q (.str "None") H) ∨ ∃ i, xs = [.int i] ∧ i.natAbs.log2 < 1920 ∧ Q (.str (toString i)) H
theorem rule_repr : ruleD X.K ca (relV X.K) reprD rRepr := by
  intro α st α0 N0 H0 H W d v Q L xt r p
  cases r <;> try exact False.elim p
  · exact .inr (.inl ⟨rfl, p α H _ xt L (.str _)⟩)
  · exact .inl ⟨_, rfl, p α H _ xt L (.str _)⟩
  · simp only [reprD] at p
    split at p
    · rename_i h
      exact .inr (.inr ⟨_, rfl, h, p α H _ xt L (.str _)⟩)
    · exact p.elim
theorem call_repr3 : CallR X (.builtin "repr") rRepr := by
  intro pins s σ H xs us Q I r h
  rcases h with ⟨k, rfl, q⟩ | ⟨rfl, q⟩ | h
  · obtain ⟨u, rfl, r1⟩ := vals1 r
    cases r1
    exact PySem.P.repr_of_bool ⟨.str _, H, I.tok _, ⟨_, rfl⟩, q⟩
  · obtain ⟨u, rfl, r1⟩ := vals1 r
    cases r1
    exact PySem.P.repr_of_none ⟨.str _, H, I.tok _, ⟨_, rfl⟩, q⟩
  · exact SkE.call_repr_int pins s σ H xs us Q I r h
theorem qe_repr (ha : QE X ca W a ea) (hg : Gl X "repr") (hm : X.mg "repr" = none) (hs : starEach [a] X.env = (false, eval a X.env) :: starEach [] X.env := by rfl) : QE X ca W (.Call (.Name "repr" p0) [a] [] pos) (cB1 reprD ea) :=
  qb1 rule_repr call_repr3 ha hg hm (by decide +kernel) (by decide) (by decide) hs
end

/-! ### sorted of tuples of ints and texts -/
abbrev Ik := Int ⊕ List Nat
def ikD : D → Option Ik
  | .int i => some (.inl i)
  | .str x => some (.inr x.cps.toList)
  | _ => none
def ikL (sh : Nat → Bool) : Nat → List D → Option (List Ik)
  | _, [] => some []
  | i, .int n :: r => if sh i = true then none else (ikL sh (i + 1) r).map (.inl n :: ·)
  | i, .str x :: r => if sh i = true then (ikL sh (i + 1) r).map (.inr x.cps.toList :: ·) else none
  | _, _ :: _ => none
def tkD (sh : Nat → Bool) : D → Option (List Ik)
  | .tup (x :: r) => ikL sh 0 (x :: r)
  | _ => none
def shOf : List D → Nat → Bool
  | .tup xs :: _, i => (match xs[i]? with | some (.str _) => true | _ => false)
  | _, _ => false
def keysT (sh : Nat → Bool) : List D → Option (List (List Ik))
  | [] => some []
  | x :: r => (tkD sh x).bind fun k => (keysT sh r).map (k :: ·)
def leT (sh : Nat → Bool) (x y : D) : Bool := !lexLt itemOrd ((tkD sh y).getD []) ((tkD sh x).getD [])
def sortT (sh : Nat → Bool) (xs : List D) : List D := xs.mergeSort (leT sh)
theorem ikL_inj {sh : Nat → Bool} : ∀ {xs ys : List D} {i : Nat} {k : List Ik}, ikL sh i xs = some k → ikL sh i ys = some k → xs = ys
  | [], ys, i, k, h1, h2 => by
    simp only [ikL, Option.some.injEq] at h1
    subst h1
    cases ys with
    | nil => rfl
    | cons y r => cases y <;> simp [ikL] at h2
  | x :: r, ys, i, k, h1, h2 => by
    cases ys with
    | nil =>
      simp only [ikL, Option.some.injEq] at h2
      subst h2
      cases x <;> simp [ikL] at h1
    | cons y t =>
      cases x <;> first | (simp [ikL] at h1; done) | skip
      all_goals (cases y <;> first | (simp [ikL] at h2; done) | skip)
      · simp only [ikL] at h1 h2
        by_cases hs : sh i = true
        · rw [if_pos hs] at h1; cases h1
        · rw [if_neg hs] at h1 h2
          obtain ⟨k1, e1, e2⟩ := Option.map_eq_some_iff.mp h1
          obtain ⟨k2, e3, e4⟩ := Option.map_eq_some_iff.mp h2
          have e5 := e2.trans e4.symm
          rw [List.cons.injEq] at e5
          have e6 := Sum.inl.inj e5.1
          rw [e6, ikL_inj e1 (by rw [e3, e5.2])]
      · simp only [ikL] at h1 h2
        by_cases hs : sh i = true
        · rw [if_pos hs] at h1; cases h1
        · rw [if_neg hs] at h2; cases h2
      · simp only [ikL] at h1 h2
        by_cases hs : sh i = true
        · rw [if_pos hs] at h2; cases h2
        · rw [if_neg hs] at h1; cases h1
      · simp only [ikL] at h1 h2
        by_cases hs : sh i = true
        · rw [if_pos hs] at h1 h2
          obtain ⟨k1, e1, e2⟩ := Option.map_eq_some_iff.mp h1
          obtain ⟨k2, e3, e4⟩ := Option.map_eq_some_iff.mp h2
          have e5 := e2.trans e4.symm
          rw [List.cons.injEq] at e5
          have e6 := Sum.inr.inj e5.1
          rename_i m1 m2
          have e7 : m1 = m2 := by
            cases m1; cases m2
            simp only [Str.mk.injEq]
            exact Array.toList_inj.mp e6
          rw [e7, ikL_inj e1 (by rw [e3, e5.2])]
        · rw [if_neg hs] at h1; cases h1
theorem tkD_some {sh : Nat → Bool} {d : D} {k : List Ik} (h : tkD sh d = some k) : ∃ x r, d = .tup (x :: r) ∧ ikL sh 0 (x :: r) = some k := by
  unfold tkD at h
  split at h
  · exact ⟨_, _, rfl, h⟩
  · cases h
theorem tkD_inj {sh : Nat → Bool} {d e : D} {k : List Ik} (h : tkD sh d = some k) (h' : tkD sh e = some k) : d = e := by
  obtain ⟨x, r, rfl, h1⟩ := tkD_some h
  obtain ⟨y, t, rfl, h2⟩ := tkD_some h'
  rw [ikL_inj h1 h2]
theorem keysT_mem {sh : Nat → Bool} : ∀ {xs : List D} {ks : List (List Ik)}, keysT sh xs = some ks → ∀ x ∈ xs, ∃ k, tkD sh x = some k
  | [], _, _, x, h => by cases h
  | y :: r, ks, e, x, h => by
    unfold keysT at e
    cases e1 : tkD sh y with
    | none => rw [e1] at e; cases e
    | some k =>
      rw [e1] at e
      obtain ⟨ks', e2, _⟩ := Option.map_eq_some_iff.mp (show (keysT sh r).map _ = some ks from e)
      rcases List.mem_cons.mp h with z | z
      · exact ⟨k, by rw [z, e1]⟩
      · exact keysT_mem e2 x z
theorem keysT_of {sh : Nat → Bool} : ∀ {xs : List D}, (∀ x ∈ xs, ∃ k, tkD sh x = some k) → ∃ ks, keysT sh xs = some ks
  | [], _ => ⟨[], rfl⟩
  | x :: r, h => by
    obtain ⟨k, e⟩ := h x List.mem_cons_self
    obtain ⟨ks, e2⟩ := keysT_of (xs := r) fun y hy => h y (List.mem_cons_of_mem _ hy)
    exact ⟨k :: ks, by unfold keysT; rw [e, e2]; rfl⟩
theorem leT_trans {sh : Nat → Bool} (a b c : D) (h1 : leT sh a b = true) (h2 : leT sh b c = true) : leT sh a c = true := by
  unfold leT at *
  rw [Bool.not_eq_true'] at *
  cases e : lexLt itemOrd ((tkD sh c).getD []) ((tkD sh a).getD []) with
  | false => rfl
  | true =>
    rcases lex_negTrans (O := itemOrd) _ ((tkD sh b).getD []) _ e with z | z
    · rw [h2] at z; cases z
    · rw [h1] at z; cases z
theorem leT_total {sh : Nat → Bool} (a b : D) : (leT sh a b || leT sh b a) = true := by
  unfold leT
  cases e : lexLt itemOrd ((tkD sh b).getD []) ((tkD sh a).getD []) with
  | false => rfl
  | true =>
    cases e2 : lexLt itemOrd ((tkD sh a).getD []) ((tkD sh b).getD []) with
    | false => rfl
    | true =>
      have := lex_trans (O := itemOrd) _ _ _ e e2
      rw [lex_irrefl (O := itemOrd)] at this
      cases this
theorem leT_anti {sh : Nat → Bool} {a b : D} {k l : List Ik} (ha : tkD sh a = some k) (hb : tkD sh b = some l) (h1 : leT sh a b = true) (h2 : leT sh b a = true) : a = b := by
  unfold leT at *
  rw [ha, hb] at h1 h2
  rw [Bool.not_eq_true'] at h1 h2
  have e := lex_total (O := itemOrd) _ _ h1 h2
  have e : l = k := e
  exact tkD_inj ha (by rw [hb, e])
theorem sortT_uniq {sh : Nat → Bool} {xs ys : List D} (hk : ∀ x ∈ xs, ∃ k, tkD sh x = some k) (hp : ys.Perm xs) (hs : ys.Pairwise fun a b => leT sh a b = true) : ys = sortT sh xs := by
  have h2 : (sortT sh xs).Pairwise fun a b => leT sh a b = true := List.pairwise_mergeSort (le := leT sh) leT_trans leT_total xs
  have p2 : ys.Perm (sortT sh xs) := hp.trans (List.mergeSort_perm xs _).symm
  exact p2.eq_of_pairwise (le := fun a b => leT sh a b = true) (fun a b ha hb h3 h4 => by
    obtain ⟨k, e⟩ := hk a (hp.mem_iff.mp ha)
    obtain ⟨l, e'⟩ := hk b ((List.mergeSort_perm xs (leT sh)).mem_iff.mp hb)
    exact leT_anti e e' h3 h4) hs h2
theorem RVs.perm {K : Frag} {α : Nat → Addr} {N : Nat} {H : Hp} {vs ws : List V} (p : vs.Perm ws) : ∀ {xs : List D}, RVs K α N H xs vs → ∃ ys, RVs K α N H ys ws ∧ ys.Perm xs := by
  induction p with
  | nil => exact fun r => ⟨_, r, List.Perm.refl _⟩
  | cons v _ ih =>
    intro xs r
    cases r with
    | cons r1 r2 =>
      obtain ⟨ys, h1, h2⟩ := ih r2
      exact ⟨_, .cons r1 h1, h2.cons _⟩
  | swap v w l =>
    intro xs r
    cases r with
    | cons r1 r2 =>
      cases r2 with
      | cons r2 r3 => exact ⟨_, .cons r2 (.cons r1 r3), List.Perm.swap _ _ _⟩
  | trans _ _ ih1 ih2 =>
    intro xs r
    obtain ⟨ys, h1, h2⟩ := ih1 r
    obtain ⟨zs, h3, h4⟩ := ih2 h1
    exact ⟨zs, h3, h4.trans h2⟩
/-- a value of the machine that is such a tuple -/
def IsTk (h : Heap) (sh : Nat → Bool) (v : Value) (k : List Ik) : Prop := ∃ a o xs n f, v = .ref a ∧ h.get? a = some o ∧ o.cls = .type "tuple" ∧ o.data = .seq xs n ∧ tupItems sh 0 xs.toList = some k ∧ xs[0]? = some f
theorem IsTk.keeps {h h' : Heap} {sh : Nat → Bool} {v : Value} {k : List Ik} (p : IsTk h sh v k) (q : ∀ b o, h.get? b = some o → o.cls = .type "tuple" → h'.get? b = some o) : IsTk h' sh v k := by
  obtain ⟨a, o, xs, n, f, e, ho, hc, hd, hi, hf⟩ := p
  exact ⟨a, o, xs, n, f, e, q _ _ ho hc, hc, hd, hi, hf⟩
theorem IsTk.key {h : Heap} {sh : Nat → Bool} {v : Value} {k : List Ik} (p : IsTk h sh v k) : tupKey h sh v = some k := by
  obtain ⟨a, o, xs, n, f, rfl, ho, hc, hd, hi, hf⟩ := p
  simp only [tupKey, ho, hd]
  exact hi
theorem IsTk.of {h : Heap} {sh : Nat → Bool} {v : Value} {k : List Ik} (p : IsTk h sh v k) : ∃ f, TupOf h sh v f := by
  obtain ⟨a, o, xs, n, f, rfl, ho, hc, hd, hi, hf⟩ := p
  refine ⟨f, a, o, xs, n, rfl, ho, hc, hd, hf, fun e => ?_, fun e => ?_⟩
  all_goals
    have hl : ∃ r, xs.toList = f :: r := by
      cases hx : xs.toList with
      | nil =>
        rw [← Array.getElem?_toList, hx] at hf
        cases hf
      | cons g r =>
        rw [← Array.getElem?_toList, hx] at hf
        cases hf
        exact ⟨r, rfl⟩
    obtain ⟨r, hl⟩ := hl
    rw [hl] at hi
    cases f <;> simp [tupItems, e] at hi
    exact ⟨_, _, rfl⟩
theorem tupsOf {h : Heap} {sh : Nat → Bool} : ∀ {vs : List Value}, (∀ v ∈ vs, ∃ k, IsTk h sh v k) → ∃ fs, TupsOf h sh vs fs ∧ fs.length = vs.length
  | [], _ => ⟨[], .nil, rfl⟩
  | v :: vs, q => by
    obtain ⟨k, e⟩ := q v List.mem_cons_self
    obtain ⟨f, hf⟩ := e.of
    obtain ⟨fs, h1, h2⟩ := tupsOf (vs := vs) fun u hu => q u (List.mem_cons_of_mem _ hu)
    exact ⟨f :: fs, .cons hf h1, by rw [List.length_cons, List.length_cons, h2]⟩
section
variable {prog : Program} {w : World} {A : Around} {E : Value → Shared → Prop} {s : Shared}
theorem swo_key (k : Value → List Ik) : SrtO.Swo fun v u => lexLt itemOrd (k v) (k u) := by
  refine ⟨fun x y h => ?_, fun x y z h1 h2 => ?_⟩
  · cases e : lexLt itemOrd (k y) (k x) with
    | false => rfl
    | true =>
      have := lex_trans (O := itemOrd) _ _ _ h e
      rw [lex_irrefl (O := itemOrd)] at this
      cases this
  · cases e : lexLt itemOrd (k z) (k x) with
    | false => rfl
    | true =>
      rcases lex_negTrans (O := itemOrd) _ (k y) _ e with z | z
      · rw [h2] at z; cases z
      · rw [h1] at z; cases z
theorem tups_sortable {a : Addr} {vs : List Value} {sh : Nat → Bool} {k : Value → List Ik} (h0 : 0 < vs.length) (hp : ∀ v ∈ vs, IsTk s.heap sh v (k v)) (ha : ∀ o, s.heap.get? a = some o → o.cls ≠ .type "tuple") : SrtO.SortableO prog w A s a vs fun v u => lexLt itemOrd (k v) (k u) := by
  intro h' keep
  have hp' : ∀ v ∈ vs, IsTk h' sh v (k v) := fun v hm => (hp v hm).keeps fun b o e c => keep b o (fun z => by subst z; exact ha o e c) e
  obtain ⟨fs, h1, h2⟩ := tupsOf fun v hm => ⟨_, hp' v hm⟩
  refine ⟨tuples' true, fun Q E hq => tup_kind (s := { s with heap := h' }) (by omega) h1 hq, fun p q hm hm' => ?_⟩
  exact tup_ltAt (s := { s with heap := h' }) true A _ p.1 q.1 (k p.1) (k q.1) (hp' _ hm).key (hp' _ hm').key ⟨rfl, rfl⟩
end
/-- the rule: sorted of a list of such tuples -/
def HasK (K : Frag) (H : Hp) (sh : Nat → Bool) (x : V) (k : List Ik) : Prop := ∃ t ws, x = V.ref t ∧ SqT K H t ws ∧ ws ≠ [] ∧ ∀ us, Vals ws us → tupItems sh 0 us = some k
def rSortK (X : Cx) : List V → Hp → VK → Prop := fun vs H Q => ∃ (a : Addr) (xs : List V) (sh : Nat → Bool), vs = [V.ref a] ∧ SqL X.K H a xs ∧ (∀ x ∈ xs, ∃ k, HasK X.K H sh x k) ∧
  ∀ ys p, ys.Perm xs → ys.Pairwise (fun x y => ∀ kx ky, HasK X.K H sh x kx → HasK X.K H sh y ky → lexLt itemOrd ky kx = false) → H p = none → Q (.ref p) (upd H p (.lst ys))
theorem hasK_tk {X : Cx} {pins : List (Addr × Obj)} {σ : L2.St} {H : Hp} {s : Shared} (I : Inv X pins σ H s) {sh : Nat → Bool} {v : Value} {k : List Ik} (h : HasK X.K H sh (backV v) k) (hv : ∃ a, v = Value.ref a) : IsTk s.heap sh v k := by
  obtain ⟨t, rfl⟩ := hv
  obtain ⟨t', ws, e, ht, hne, hk⟩ := h
  cases e
  obtain ⟨ws', r2, ⟨o, ho, hc, n, hd⟩, _⟩ := I.tuple ht
  have hk' := hk ws' r2
  cases r2 with
  | nil => exact absurd rfl hne
  | cons r3 r4 => exact ⟨t, o, _, n, _, rfl, ho, hc, hd, hk', rfl⟩
theorem cr_sortK {X : Cx} : CallR X (.builtin "sorted") (rSortK X) := by
  intro pins s σ H vs us Q I r h
  obtain ⟨a, xs, sh, rfl, hs, hx, q⟩ := h
  obtain ⟨its, rv, hl, hz⟩ := I.list hs
  obtain ⟨u, rfl, ru⟩ := vals1 r
  obtain rfl : u = Value.ref a := ru
  obtain ⟨e1, e2⟩ := refs_back rv fun x m => by
    obtain ⟨_, t, _, e, _⟩ := hx x m
    exact ⟨t, e⟩
  have hp : ∀ v ∈ its, IsTk s.heap sh v ((tupKey s.heap sh v).getD []) := fun v hv => by
    have hm : backV v ∈ xs := by rw [e1]; exact List.mem_map.mpr ⟨_, hv, rfl⟩
    obtain ⟨k, hk⟩ := hx _ hm
    have h := hasK_tk I hk (e2 v hv)
    rw [h.key]
    exact h
  refine SrtO.sorted_ord (swo_key fun v => (tupKey s.heap sh v).getD []) hl.isList (by rw [← rv.length]; exact hz) (fun h2 h₁ a' ha kk => ?_) fun out hs' hb => ?_
  · refine tups_sortable (s := { s with heap := h₁ }) (k := fun v => (tupKey s.heap sh v).getD []) (by omega) (fun v hm => (hp v hm).keeps fun b o e _ => (kk b o e).2) fun o e => ?_
    have e' : some o = some (seqObj "list" its.toArray 0) := e.symm.trans ha
    cases e'
    intro c
    exact absurd (Value.type.inj c) (by decide)
  · have h3 : ∀ u ∈ out, ∃ a, u = Value.ref a := fun u hu => e2 u (hb.perm.mem_iff.mp hu)
    obtain ⟨n, hn⟩ := PyProof.Rows.sortedAll_at s.heap its out.toArray
    have hb2 : (out.map backV).Perm xs := by rw [e1]; exact hb.perm.map _
    have hs2 : (out.map backV).Pairwise fun x y => ∀ kx ky, HasK X.K H sh x kx → HasK X.K H sh y ky → lexLt itemOrd ky kx = false := by
      refine List.pairwise_map.mpr (List.Pairwise.imp_of_mem (fun {x y} hx hy h kx ky h1 h2 => ?_) hs')
      have t1 := (hasK_tk I h1 (h3 x hx)).key
      have t2 := (hasK_tk I h2 (h3 y hy)).key
      have h : lexLt itemOrd ((tupKey s.heap sh y).getD []) ((tupKey s.heap sh x).getD []) = false := h
      rw [t1, t2] at h
      exact h
    refine ⟨.ref _, upd H (s.heap.objs.size + 1) (.lst (out.map backV)), I.laid (t' := s.toks) (fun _ _ => PyProof.Rows.sortedAll_old) (Nat.le_succ _) ⟨?_, out, n, vals_back h3, hn⟩, rfl, q _ _ hb2 hs2 (I.hok.fresh (Nat.le_succ _))⟩
    rw [hb2.length_eq]
    exact hz
theorem items_of {K : Frag} {α : Nat → Addr} {N : Nat} {H : Hp} {sh : Nat → Bool} : ∀ {ds : List D} {ws : List V} {us : List Value} {i : Nat} {k : List Ik}, RVs K α N H ds ws → Vals ws us → ikL sh i ds = some k → tupItems sh i us = some k
  | [], _, _, _, _, .nil, .nil, e => e
  | .int n :: r, _, _, i, k, .cons (.int _) r1, .cons ⟨t, e⟩ r2, h => by
    subst e
    unfold ikL at h
    unfold tupItems
    split at h
    · cases h
    · rename_i hs
      rw [if_neg hs]
      obtain ⟨k', e1, e2⟩ := Option.map_eq_some_iff.mp h
      rw [items_of r1 r2 e1, ← e2]
      rfl
  | .str n :: r, _, _, i, k, .cons (.str _) r1, .cons ⟨t, e⟩ r2, h => by
    subst e
    unfold ikL at h
    unfold tupItems
    split at h
    · rename_i hs
      rw [if_pos hs]
      obtain ⟨k', e1, e2⟩ := Option.map_eq_some_iff.mp h
      rw [items_of r1 r2 e1, ← e2]
      rfl
    · cases h
  | .non :: _, _, _, _, _, _, _, h => by simp [ikL] at h
  | .bl _ :: _, _, _, _, _, _, _, h => by simp [ikL] at h
  | .tup _ :: _, _, _, _, _, _, _, h => by simp [ikL] at h
  | .con _ :: _, _, _, _, _, _, _, h => by simp [ikL] at h
  | .loc _ :: _, _, _, _, _, _, _, h => by simp [ikL] at h
theorem rvs_pairwise {K : Frag} {α : Nat → Addr} {N : Nat} {H : Hp} {R : V → V → Prop} {S : D → D → Prop} : ∀ {xs : List D} {ys : List V}, RVs K α N H xs ys → ys.Pairwise R → (∀ d v e u, RV K α N H d v → RV K α N H e u → d ∈ xs → e ∈ xs → R v u → S d e) → xs.Pairwise S
  | [], _, .nil, _, _ => .nil
  | d :: xs, _, .cons r1 r2, h, f => by
    obtain ⟨h1, h2⟩ := List.pairwise_cons.mp h
    refine List.pairwise_cons.mpr ⟨fun e he => ?_, rvs_pairwise r2 h2 fun d v e u a b m n => f d v e u a b (List.mem_cons_of_mem _ m) (List.mem_cons_of_mem _ n)⟩
    obtain ⟨i, hi⟩ := List.mem_iff_getElem?.mp he
    obtain ⟨u, g1, g2⟩ := r2.get hi
    exact f d _ e u r1 g2 List.mem_cons_self (List.mem_cons_of_mem _ he) (h1 u (List.mem_of_getElem? g1))
/-- sorted(xs): ints, or tuples of ints and texts of one shape -/
def sortedAS : List D → Sto → R (List D) := fun xs st => match intsD xs with
  | some ns => .ok ((sortI ns).map D.int) st
  | none => match keysT (shOf xs) xs with
    | some _ => .ok (sortT (shOf xs) xs) st
    | none => .bad
open Classical in
theorem rule_sortT {X : Cx} {ca : Nat → Addr} : ruleM X.K ca (relL X.K) sortedAS (fun vs H Q => rSortedI X.K vs H Q ∨ rSortK X vs H Q) := by
  intro α st α0 N0 H0 H W xs p vs Q L xt h r q
  unfold sortedAS at q
  cases e : intsD xs with
  | some ns =>
    rw [e] at q
    have ev := intsD_ok r e
    subst ev
    refine .inl ⟨p, ns, rfl, .inl (.inl h), fun ms l hp hs hl => ?_⟩
    rw [sortI_uniq hp hs]
    exact fin_new q xt L (ints_rvs _) hl
  | none =>
    rw [e] at q
    cases e2 : keysT (shOf xs) xs with
    | none => rw [e2] at q; exact q.elim
    | some ks =>
      rw [e2] at q
      have hk := keysT_mem e2
      have kd : ∀ {d : D} {v : V} {k : List Ik}, RV X.K α st.length H d v → tkD (shOf xs) d = some k → HasK X.K H (shOf xs) v k := fun {d v k} h1 h2 => by
        obtain ⟨x, t, rfl, e3⟩ := tkD_some h2
        cases h1 with
        | tup h4 h5 => exact ⟨_, _, rfl, h4, (fun z => by rw [z] at h5; cases h5), fun us hu => items_of h5 hu e3⟩
      refine .inr ⟨p, vs, shOf xs, rfl, .inl (.inl h), fun v hv => ?_, fun ys l hp hs hl => ?_⟩
      · obtain ⟨i, hi⟩ := List.mem_iff_getElem?.mp hv
        obtain ⟨d, h1, h2⟩ := r.getV hi
        obtain ⟨k, e⟩ := hk d (List.mem_of_getElem? h1)
        exact ⟨k, kd h2 e⟩
      · obtain ⟨zs, h1, h2⟩ := RVs.perm hp.symm r
        have h3 : zs.Pairwise fun a b => leT (shOf xs) a b = true := by
          refine rvs_pairwise h1 hs fun d v e u r1 r2 m1 m2 h4 => ?_
          obtain ⟨k1, t1⟩ := hk d (h2.mem_iff.mp m1)
          obtain ⟨k2, t2⟩ := hk e (h2.mem_iff.mp m2)
          have := h4 k1 k2 (kd r1 t1) (kd r2 t2)
          unfold leT
          rw [t1, t2]
          show (!lexLt itemOrd k2 k1) = true
          rw [this]; rfl
        have h4 := sortT_uniq hk h2 h3
        subst h4
        exact fin_new q xt L h1 hl
theorem cr_sortAny {X : Cx} : CallR X (.builtin "sorted") (fun vs H Q => rSortedI X.K vs H Q ∨ rSortK X vs H Q) := by
  intro pins s σ H vs us Q I r h
  rcases h with h | h
  · exact cr_sortedI pins s σ H vs us Q I r h
  · exact cr_sortK pins s σ H vs us Q I r h
section
variable {X : Cx} {ca : Nat → Addr} {W : WX} {a : Expr} {pos p0 : Pos}
theorem ql_sortedA {e : EL} (ha : QM X ca W a e) (hg : Gl X "sorted") (hm : X.mg "sorted" = none) (hs : starEach [a] X.env = (false, eval a X.env) :: starEach [] X.env := by rfl) : QL X ca W (.Call (.Name "sorted" p0) [a] [] pos) (cS1 sortedAS e) :=
  qbM rule_sortT cr_sortAny ha hg hm (by decide +kernel) (by decide) (by decide) hs
end
@[simp] theorem cApp_ap (o e : E) (ρ : Env) (st : Sto) : cApp o e ρ st = (o ρ st).bind fun x st => (lstD x st).bind fun _ st => (cArgs [e] ρ st).bind fun ys st => appD x ys st := rfl
@[simp] theorem cExt_ap (o : E) (e : EL) (ρ : Env) (st : Sto) : cExt o e ρ st = (o ρ st).bind fun x st => (lstD x st).bind fun _ st => (e ρ st).bind fun ys st => extD x ys st := rfl
end PM

set_option Elab.async false
set_option linter.all false
set_option maxRecDepth 100000
set_option maxHeartbeats 4000000
/-! PM16: constants of the module. -/
namespace PM
open PySem PySem.Spec PyProof.Rows L2
mutual
inductive CV (K : Frag) : D → Value → Prop
  | non : CV K .non .none
  | bl {b : Bool} : CV K (.bl b) (.bool b)
  | int {i : Int} {t : Tok} : CV K (.int i) (.int i t)
  | str {x : Str} {t : Tok} : CV K (.str x) (.str x t)
  | tup {a : Addr} {o : Obj} {its : Array Value} {n : Nat} {xs : List D} : K.lookup a = some o → o.cls = .type "tuple" → o.data = .seq its n → its.size ≤ sizeLine → CVs K xs its.toList → CV K (.tup xs) (.ref a)
inductive CVs (K : Frag) : List D → List Value → Prop
  | nil : CVs K [] []
  | cons {d : D} {v : Value} {ds : List D} {vs : List Value} : CV K d v → CVs K ds vs → CVs K (d :: ds) (v :: vs)
end
mutual
theorem CV.rv {K : Frag} : ∀ {d : D} {u : Value}, CV K d u → ∃ v, RelV v u ∧ ∀ α N H, RV K α N H d v
  | _, _, .non => ⟨.non, rfl, fun _ _ _ => .non⟩
  | _, _, .bl => ⟨.bl _, rfl, fun _ _ _ => .bl _⟩
  | _, _, .int => ⟨.int _, ⟨_, rfl⟩, fun _ _ _ => .int _⟩
  | _, _, .str => ⟨.str _, ⟨_, rfl⟩, fun _ _ _ => .str _⟩
  | _, _, .tup h1 h2 h3 h4 h5 => by
    obtain ⟨vs, r, q⟩ := CVs.rv h5
    exact ⟨.ref _, rfl, fun α N H => .tup (.inr ⟨_, _, _, h1, h2, h3, h4, r⟩) (q α N H)⟩
theorem CVs.rv {K : Frag} : ∀ {d : List D} {u : List Value}, CVs K d u → ∃ v, Vals v u ∧ ∀ α N H, RVs K α N H d v
  | _, _, .nil => ⟨[], .nil, fun _ _ _ => .nil⟩
  | _, _, .cons h t => by
    obtain ⟨v, r, q⟩ := CV.rv h
    obtain ⟨vs, rs, qs⟩ := CVs.rv t
    exact ⟨v :: vs, .cons r rs, fun α N H => .cons (q α N H) (qs α N H)⟩
end
def CstF (K : Frag) (mg : Str → Option Value) (x : Str) (d : D) : Prop := ∃ u, mg x = some u ∧ CV K d u
theorem qe_cst {X : Cx} {ca : Nat → Addr} {W : WX} {x : Str} {d : D} {pos : Pos} (c : CstF X.K X.mg x d) (hg : Gl X x) (hdb : (x == ("__debug__" : Str)) = false := by decide) : QE X ca W (.Name x pos) (cC d) := by
  obtain ⟨u, hm, h⟩ := c
  obtain ⟨v, r, q⟩ := h.rv
  exact qe_glob hg hm r q hdb
end PM

set_option Elab.async false
set_option linter.all false
set_option maxRecDepth 100000
set_option maxHeartbeats 1000000
/-! PM17: clean data: ints, texts, None and tuples of such; == and in are equality. -/
namespace PM
open PySem L2
mutual
def cl : D → Bool
  | .non => true | .bl _ => false | .int _ => true
  | .str x => PyData.canLay0 (.str x)
  | .tup xs => clAll xs
  | .con _ => false | .loc _ => false
def clAll : List D → Bool
  | [] => true
  | x :: xs => cl x && clAll xs
end
mutual
def depD : D → Nat
  | .tup xs => depAll xs + 1
  | .con xs => depAll xs + 1
  | .non => 1 | .bl _ => 1 | .int _ => 1 | .str _ => 1 | .loc _ => 1
def depAll : List D → Nat
  | [] => 0
  | x :: xs => max (depD x) (depAll xs)
end
mutual
theorem cl_pd : ∀ {d : D}, cl d = true → ∃ a, pd d = some a ∧ PyData.canLay0 a = true ∧ a.depth ≤ depD d
  | .non, _ => ⟨.none, rfl, rfl, by simp [PyData.depth, depD]⟩
  | .int i, _ => ⟨.int i, rfl, rfl, by simp [PyData.depth, depD]⟩
  | .str x, h => ⟨.str x, rfl, by simpa [cl] using h, by simp [PyData.depth, depD]⟩
  | .tup xs, h => by
    obtain ⟨as, e, h1, h2⟩ := clAll_pd (d := xs) (by simpa [cl] using h)
    refine ⟨.tuple as, by simp [pd, e], by simpa [PyData.canLay0] using h1, ?_⟩
    simp only [PyData.depth, depD]
    omega
  | .bl _, h => by simp [cl] at h
  | .con _, h => by simp [cl] at h
  | .loc _, h => by simp [cl] at h
theorem clAll_pd : ∀ {d : List D}, clAll d = true → ∃ a, pdAll d = some a ∧ PyData.canLayAll0 a = true ∧ PyData.depthAll a ≤ depAll d
  | [], _ => ⟨[], rfl, rfl, by simp [PyData.depthAll, depAll]⟩
  | x :: xs, h => by
    simp only [clAll, Bool.and_eq_true] at h
    obtain ⟨a, e, h1, h2⟩ := cl_pd h.1
    obtain ⟨as, es, h3, h4⟩ := clAll_pd h.2
    refine ⟨a :: as, by simp [pdAll, e, es], by simp [PyData.canLayAll0, h1, h3], ?_⟩
    simp only [PyData.depthAll, depAll]
    omega
end
open Classical
mutual
theorem cl_eqv : ∀ {d e : D} {a b : PyData}, cl d = true → cl e = true → pd d = some a → pd e = some b → PyData.eqv a b = decide (d = e)
  | .non, e, a, b, h1, h2, h3, h4 => by
    simp only [pd, Option.some.injEq] at h3
    subst h3
    cases e <;> simp [pd, cl] at h4 h2 <;> first
      | (subst h4; simp [PyData.eqv]; done)
      | (obtain ⟨_, _, rfl⟩ := h4; simp [PyData.eqv])
  | .int i, e, a, b, h1, h2, h3, h4 => by
    simp only [pd, Option.some.injEq] at h3
    subst h3
    cases e <;> simp [pd, cl] at h4 h2 <;> first
      | (subst h4; simp [PyData.eqv]; done)
      | (subst h4; by_cases q : i = ‹Int› <;> simp [PyData.eqv, q]; done)
      | (obtain ⟨_, _, rfl⟩ := h4; simp [PyData.eqv])
  | .str x, e, a, b, h1, h2, h3, h4 => by
    simp only [pd, Option.some.injEq] at h3
    subst h3
    cases e <;> simp [pd, cl] at h4 h2 <;> first
      | (subst h4; simp [PyData.eqv]; done)
      | (subst h4; by_cases q : x = ‹Str› <;> simp [PyData.eqv, q]; done)
      | (obtain ⟨_, _, rfl⟩ := h4; simp [PyData.eqv])
  | .tup xs, e, a, b, h1, h2, h3, h4 => by
    simp only [cl] at h1
    obtain ⟨as, q1, _⟩ := clAll_pd h1
    simp only [pd, q1, Option.map_some, Option.some.injEq] at h3
    subst h3
    cases e with
    | tup ys =>
      simp only [cl] at h2
      obtain ⟨bs, q2, _⟩ := clAll_pd h2
      simp only [pd, q2, Option.map_some, Option.some.injEq] at h4
      subst h4
      have := clAll_eqv h1 h2 q1 q2
      simp only [PyData.eqv, this, D.tup.injEq]
    | non => simp only [pd, Option.some.injEq] at h4; subst h4; simp [PyData.eqv]
    | int _ => simp only [pd, Option.some.injEq] at h4; subst h4; simp [PyData.eqv]
    | str _ => simp only [pd, Option.some.injEq] at h4; subst h4; simp [PyData.eqv]
    | bl _ => simp [cl] at h2
    | con _ => simp [cl] at h2
    | loc _ => simp [cl] at h2
  | .bl _, _, _, _, h, _, _, _ => by simp [cl] at h
  | .con _, _, _, _, h, _, _, _ => by simp [cl] at h
  | .loc _, _, _, _, h, _, _, _ => by simp [cl] at h
theorem clAll_eqv : ∀ {d e : List D} {a b : List PyData}, clAll d = true → clAll e = true → pdAll d = some a → pdAll e = some b → PyData.eqvAll a b = decide (d = e)
  | [], e, a, b, h1, h2, h3, h4 => by
    simp only [pdAll, Option.some.injEq] at h3
    subst h3
    cases e with
    | nil => simp only [pdAll, Option.some.injEq] at h4; subst h4; simp [PyData.eqvAll]
    | cons y ys =>
      simp only [clAll, Bool.and_eq_true] at h2
      obtain ⟨_, q1, _⟩ := cl_pd h2.1
      obtain ⟨_, q2, _⟩ := clAll_pd h2.2
      simp only [pdAll, q1, q2, Option.bind_some, Option.map_some, Option.some.injEq] at h4
      subst h4
      simp [PyData.eqvAll]
  | x :: xs, e, a, b, h1, h2, h3, h4 => by
    simp only [clAll, Bool.and_eq_true] at h1
    obtain ⟨a1, q1, _⟩ := cl_pd h1.1
    obtain ⟨as, q2, _⟩ := clAll_pd h1.2
    simp only [pdAll, q1, q2, Option.bind_some, Option.map_some, Option.some.injEq] at h3
    subst h3
    cases e with
    | nil => simp only [pdAll, Option.some.injEq] at h4; subst h4; simp [PyData.eqvAll]
    | cons y ys =>
      simp only [clAll, Bool.and_eq_true] at h2
      obtain ⟨b1, q3, _⟩ := cl_pd h2.1
      obtain ⟨bs, q4, _⟩ := clAll_pd h2.2
      simp only [pdAll, q3, q4, Option.bind_some, Option.map_some, Option.some.injEq] at h4
      subst h4
      have r1 := cl_eqv h1.1 h2.1 q1 q3
      have r2 := clAll_eqv h1.2 h2.2 q2 q4
      simp only [PyData.eqvAll, r1, r2, List.cons.injEq, Bool.decide_and]
end
theorem clAll_iff {xs : List D} : clAll xs = true ↔ ∀ x ∈ xs, cl x = true := by
  induction xs with
  | nil => simp [clAll]
  | cons x xs ih => simp [clAll, ih]
theorem clAll_map {α : Type} {f : α → D} {l : List α} (h : ∀ x, cl (f x) = true) : clAll (l.map f) = true := clAll_iff.mpr fun x hx => by
  obtain ⟨y, _, rfl⟩ := List.mem_map.mp hx
  exact h y
theorem shaped_of {d : D} {a : PyData} (h : cl d = true) (hd : depD d ≤ 64) (e : pd d = some a) : SeqAt.shaped a = true := by
  obtain ⟨a', e', h1, h2⟩ := cl_pd h
  rw [e'] at e
  cases e
  show (PyData.canLay0 a && decide (PyData.depth a ≤ 64)) = true
  rw [h1, decide_eq_true (Nat.le_trans h2 hd)]; rfl
theorem any_eqv {x : D} {a : PyData} (h : cl x = true) (e : pd x = some a) : ∀ {xs : List D} {as : List PyData}, clAll xs = true → pdAll xs = some as → (as.any fun z => PyData.eqv z a) = decide (x ∈ xs)
  | [], as, _, h2 => by simp only [pdAll, Option.some.injEq] at h2; subst h2; simp
  | y :: ys, as, h1, h2 => by
    simp only [clAll, Bool.and_eq_true] at h1
    obtain ⟨b, q1, _⟩ := cl_pd h1.1
    obtain ⟨bs, q2, _⟩ := clAll_pd h1.2
    simp only [pdAll, q1, q2, Option.bind_some, Option.map_some, Option.some.injEq] at h2
    subst h2
    rw [List.any_cons, cl_eqv h1.1 h q1 e, any_eqv h e h1.2 q2]
    by_cases q : x = y
    · simp [q]
    · simp [q, Ne.symm q]
theorem eqF_cl {x y : D} (h1 : cl x = true) (h2 : cl y = true) (f1 : flatD x = true) (f2 : flatD y = true) : eqF x y = decide (x = y) := by
  cases x <;> simp [cl, flatD] at h1 f1 <;> cases y <;> simp [cl, flatD] at h2 f2 <;> simp [eqF]
  all_goals (rename_i a b; by_cases q : a = b <;> simp [q])
theorem inSeq_cl {x : D} {xs : List D} (h : cl x = true) (hd : depD x ≤ 64) (hs : clAll xs = true) : inSeq x xs = some (decide (x ∈ xs)) := by
  unfold inSeq
  split
  · rename_i hf
    simp only [Bool.and_eq_true, List.all_eq_true] at hf
    congr 1
    have e : ∀ y ∈ xs, eqF y x = decide (y = x) := fun y hy => eqF_cl (clAll_iff.mp hs y hy) h (hf.2 y hy) hf.1
    rw [Bool.eq_iff_iff, List.any_eq_true, decide_eq_true_iff]
    constructor
    · rintro ⟨y, hy, q⟩
      rw [e y hy, decide_eq_true_iff] at q
      exact q ▸ hy
    · exact fun hx => ⟨x, hx, by rw [e x hx]; simp⟩
  · obtain ⟨a, e, _⟩ := cl_pd h
    obtain ⟨as, e2, h2, _⟩ := clAll_pd hs
    rw [e, e2]
    dsimp only
    rw [if_pos ⟨shaped_of h hd e, h2⟩, any_eqv h e hs e2]
theorem eqO_cl {x y : D} {st : Sto} (h1 : cl x = true) (h2 : cl y = true) (d1 : depD x ≤ 64) (d2 : depD y ≤ 64) : eqO x y st = some (decide (x = y)) := by
  have ps : ∀ {d : D}, cl d = true → pdS st d = pd d := fun {d} h => by
    cases d <;> first | rfl | (simp [cl] at h)
  unfold eqO
  split
  · rename_i hs
    congr 1
    cases x <;> simp [cl] at h1 <;> cases y <;> simp [cl] at h2 <;> simp [scalD] at hs <;> simp [eqS]
  · obtain ⟨a, e1, _⟩ := cl_pd h1
    obtain ⟨b, e2, _⟩ := cl_pd h2
    rw [ps h1, ps h2, e1, e2]
    dsimp only
    rw [if_pos ⟨shaped_of h1 d1 e1, shaped_of h2 d2 e2⟩, cl_eqv h1 h2 e1 e2]
theorem eqD_cl {x y : D} {st : Sto} (h1 : cl x = true) (h2 : cl y = true) (d1 : depD x ≤ 64) (d2 : depD y ≤ 64) : eqD x y st = .ok (.bl (decide (x = y))) st := by
  unfold eqD; rw [eqO_cl h1 h2 d1 d2]
theorem neD_cl {x y : D} {st : Sto} (h1 : cl x = true) (h2 : cl y = true) (d1 : depD x ≤ 64) (d2 : depD y ≤ 64) : neD x y st = .ok (.bl (!decide (x = y))) st := by
  unfold neD; rw [eqO_cl h1 h2 d1 d2]
theorem inD_lst {x : D} {xs : List D} {n : Nat} {st : Sto} (hn : st[n]? = some (.lst xs)) (h : cl x = true) (hd : depD x ≤ 64) (hs : clAll xs = true) : inD x (.loc n) st = .ok (.bl (decide (x ∈ xs))) st := by
  simp only [inD, inO, hn, inSeq_cl h hd hs]
theorem notInD_lst {x : D} {xs : List D} {n : Nat} {st : Sto} (hn : st[n]? = some (.lst xs)) (h : cl x = true) (hd : depD x ≤ 64) (hs : clAll xs = true) : notInD x (.loc n) st = .ok (.bl (!decide (x ∈ xs))) st := by
  simp only [notInD, inO, hn, inSeq_cl h hd hs]
theorem inD_tup {x : D} {xs : List D} {st : Sto} (h : cl x = true) (hd : depD x ≤ 64) (hs : clAll xs = true) : inD x (.tup xs) st = .ok (.bl (decide (x ∈ xs))) st := by
  simp only [inD, inO, inSeq_cl h hd hs]
theorem notInD_tup {x : D} {xs : List D} {st : Sto} (h : cl x = true) (hd : depD x ≤ 64) (hs : clAll xs = true) : notInD x (.tup xs) st = .ok (.bl (!decide (x ∈ xs))) st := by
  simp only [notInD, inO, inSeq_cl h hd hs]
end PM

set_option Elab.async false
set_option linter.all false
set_option maxRecDepth 100000
set_option maxHeartbeats 1000000
/-! PM18: written texts. -/
namespace PM
open PySem L2
theorem map_inj {α β : Type} {f : α → β} (hf : ∀ x y, f x = f y → x = y) : ∀ {l m : List α}, l.map f = m.map f → l = m
  | [], [], _ => rfl
  | [], _ :: _, h => by cases h
  | _ :: _, [], h => by cases h
  | x :: l, y :: m, h => by
    rw [List.map_cons, List.map_cons, List.cons.injEq] at h
    rw [hf x y h.1, map_inj hf h.2]
theorem toNat_inj (x y : Char) (h : x.toNat = y.toNat) : x = y := by
  apply Char.ext
  exact UInt32.toNat_inj.mp h
@[simp] theorem ofStr_inj {a b : String} : (Str.ofString a = Str.ofString b) ↔ a = b := by
  constructor
  · intro h
    rw [Str.ofString_eq_toList, Str.ofString_eq_toList] at h
    have h1 : (a.toList.map Char.toNat) = (b.toList.map Char.toNat) := by
      have := congrArg (fun x : Str => x.cps.toList) h
      simpa using this
    exact String.toList_inj.mp (map_inj toNat_inj h1)
  · intro h; rw [h]
@[simp] theorem getD_tup (xs : List D) (y : D) (st : Sto) : getD (.tup xs) y st = atD xs y st := rfl
theorem atD_nat {xs : List D} {i : Nat} {x : D} (st : Sto) (h : xs[i]? = some x) : atD xs (.int (i : Int)) st = .ok x st := by
  show (match atI xs (i : Int) with | some d => R.ok d st | none => R.bad) = _
  rw [atI_nat h]
@[simp] theorem atD_0 (x0 : D) (r : List D) (st : Sto) : atD (x0 :: r) (.int 0) st = .ok x0 st := atD_nat (i := 0) st rfl
@[simp] theorem atD_1 (x0 x1 : D) (r : List D) (st : Sto) : atD (x0 :: x1 :: r) (.int 1) st = .ok x1 st := atD_nat (i := 1) st rfl
@[simp] theorem atD_2 (x0 x1 x2 : D) (r : List D) (st : Sto) : atD (x0 :: x1 :: x2 :: r) (.int 2) st = .ok x2 st := atD_nat (i := 2) st rfl
@[simp] theorem atD_3 (x0 x1 x2 x3 : D) (r : List D) (st : Sto) : atD (x0 :: x1 :: x2 :: x3 :: r) (.int 3) st = .ok x3 st := atD_nat (i := 3) st rfl
@[simp] theorem atD_4 (x0 x1 x2 x3 x4 : D) (r : List D) (st : Sto) : atD (x0 :: x1 :: x2 :: x3 :: x4 :: r) (.int 4) st = .ok x4 st := atD_nat (i := 4) st rfl
@[simp] theorem atD_5 (x0 x1 x2 x3 x4 x5 : D) (r : List D) (st : Sto) : atD (x0 :: x1 :: x2 :: x3 :: x4 :: x5 :: r) (.int 5) st = .ok x5 st := atD_nat (i := 5) st rfl
@[simp] theorem atD_6 (x0 x1 x2 x3 x4 x5 x6 : D) (r : List D) (st : Sto) : atD (x0 :: x1 :: x2 :: x3 :: x4 :: x5 :: x6 :: r) (.int 6) st = .ok x6 st := atD_nat (i := 6) st rfl
@[simp] theorem atD_7 (x0 x1 x2 x3 x4 x5 x6 x7 : D) (r : List D) (st : Sto) : atD (x0 :: x1 :: x2 :: x3 :: x4 :: x5 :: x6 :: x7 :: r) (.int 7) st = .ok x7 st := atD_nat (i := 7) st rfl
@[simp] theorem atD_8 (x0 x1 x2 x3 x4 x5 x6 x7 x8 : D) (r : List D) (st : Sto) : atD (x0 :: x1 :: x2 :: x3 :: x4 :: x5 :: x6 :: x7 :: x8 :: r) (.int 8) st = .ok x8 st := atD_nat (i := 8) st rfl
@[simp] theorem atD_9 (x0 x1 x2 x3 x4 x5 x6 x7 x8 x9 : D) (r : List D) (st : Sto) : atD (x0 :: x1 :: x2 :: x3 :: x4 :: x5 :: x6 :: x7 :: x8 :: x9 :: r) (.int 9) st = .ok x9 st := atD_nat (i := 9) st rfl
/-! loops, one turn after another -/
theorem forGo_cons {chk : Sto → Prop} {g : G} {body : S} {x : D} {r : List D} {ρ ρ1 ρ2 : PM.Env} {st st2 : Sto} (h : chk st) (hg : g x ρ = some ρ1) (hb : body ρ1 st = .nx ρ2 st2 ∨ body ρ1 st = .ct ρ2 st2) : forGo chk g body (x :: r) ρ st = forGo chk g body r ρ2 st2 := by
  rw [forGo, if_pos h, hg]
  dsimp only
  rcases hb with hb | hb <;> rw [hb]
theorem forGo_rt {chk : Sto → Prop} {g : G} {body : S} {x : D} {r : List D} {ρ ρ1 : PM.Env} {st st2 : Sto} {d : D} (h : chk st) (hg : g x ρ = some ρ1) (hb : body ρ1 st = .rt d st2) : forGo chk g body (x :: r) ρ st = .rt d st2 := by
  rw [forGo, if_pos h, hg]
  dsimp only
  rw [hb]
theorem forGo_nil {chk : Sto → Prop} {g : G} {body : S} {ρ : PM.Env} {st : Sto} (h : chk st) : forGo chk g body [] ρ st = .nx ρ st := by rw [forGo, if_pos h]
theorem compGo_cons {β : Type} {chk : Sto → Prop} {t : CT} {tt : ET} {te : PM.Env → Sto → R β} {ρ ρ1 : PM.Env} {x : D} {r : List D} {st st2 : Sto} {y : β} (h : chk st) (hg : t.set x ρ = some ρ1) (ht : tt ρ1 st = .ok true st) (he : te ρ1 st = .ok y st2) : compGo chk t tt te ρ (x :: r) st = (compGo chk t tt te ρ r st2).bind fun ys st => .ok (y :: ys) st := by
  rw [compGo, if_pos h, hg]
  dsimp only
  simp [ht, he]
theorem compGo_nil {β : Type} {chk : Sto → Prop} {t : CT} {tt : ET} {te : PM.Env → Sto → R β} {ρ : PM.Env} {st : Sto} (h : chk st) : compGo chk t tt te ρ [] st = .ok [] st := by rw [compGo, if_pos h]
theorem rngD_zero (lo : Int) : rngD lo 0 = [] := rfl
theorem rngD_succ (lo : Int) (n : Nat) : rngD lo (n + 1) = .int lo :: rngD (lo + 1) n := by
  simp only [rngD, List.range_succ_eq_map, List.map_cons, List.map_map]
  congr 1
  · simp
  · apply List.map_congr_left
    intro i _
    simp
    omega
theorem rngD_len (lo : Int) (n : Nat) : (rngD lo n).length = n := by simp [rngD]
theorem rngD_nat (n : Nat) : rngD 0 n = (List.range n).map fun (i : Nat) => D.int (i : Int) := by simp [rngD]
theorem rng1_nat {n : Nat} {st : Sto} (h : n ≤ 1000000000) : rng1D (.int (n : Int)) st = .ok ⟨fun _ => True, rngD 0 n⟩ st := by
  unfold rng1D
  dsimp only
  rw [if_pos ⟨by omega, by omega⟩]
  simp
theorem cRng1_ok {e : E} {ρ : PM.Env} {st st' : Sto} {n : Nat} (h : e ρ st = .ok (.int (n : Int)) st') (hn : n ≤ 1000000000) : cRng1 e ρ st = .ok ⟨fun _ => True, rngD 0 n⟩ st' := by
  rw [cRng1_ap, h, R.bind_ok, rng1_nat hn]
theorem cItr_tup {e : E} {ρ : PM.Env} {st st' : Sto} {xs : List D} (h : e ρ st = .ok (.tup xs) st') : cItr e ρ st = .ok ⟨fun _ => True, xs⟩ st' := by
  rw [cItr_ap, h]; rfl
@[simp] theorem intD_bl (b : Bool) (st : Sto) : intD (.bl b) st = .ok (.int (if b then 1 else 0)) st := rfl
@[simp] theorem truD_bl (b : Bool) (st : Sto) : truD (.bl b) st = .ok b st := rfl
@[simp] theorem isi_tuple_tup (xs : List D) (st : Sto) : isiD .tuple (.tup xs) st = .ok (.bl true) st := rfl
@[simp] theorem isi_tuple_str (x : Str) (st : Sto) : isiD .tuple (.str x) st = .ok (.bl false) st := rfl
@[simp] theorem isi_tuple_int (i : Int) (st : Sto) : isiD .tuple (.int i) st = .ok (.bl false) st := rfl
@[simp] theorem isi_tuple_bl (b : Bool) (st : Sto) : isiD .tuple (.bl b) st = .ok (.bl false) st := rfl
@[simp] theorem isi_tuple_non  (st : Sto) : isiD .tuple .non st = .ok (.bl false) st := rfl
@[simp] theorem isi_str_tup (xs : List D) (st : Sto) : isiD .str (.tup xs) st = .ok (.bl false) st := rfl
@[simp] theorem isi_str_str (x : Str) (st : Sto) : isiD .str (.str x) st = .ok (.bl true) st := rfl
@[simp] theorem isi_str_int (i : Int) (st : Sto) : isiD .str (.int i) st = .ok (.bl false) st := rfl
@[simp] theorem isi_str_bl (b : Bool) (st : Sto) : isiD .str (.bl b) st = .ok (.bl false) st := rfl
@[simp] theorem isi_str_non  (st : Sto) : isiD .str .non st = .ok (.bl false) st := rfl
@[simp] theorem isi_int_tup (xs : List D) (st : Sto) : isiD .int (.tup xs) st = .ok (.bl false) st := rfl
@[simp] theorem isi_int_str (x : Str) (st : Sto) : isiD .int (.str x) st = .ok (.bl false) st := rfl
@[simp] theorem isi_int_int (i : Int) (st : Sto) : isiD .int (.int i) st = .ok (.bl true) st := rfl
@[simp] theorem isi_int_bl (b : Bool) (st : Sto) : isiD .int (.bl b) st = .ok (.bl true) st := rfl
@[simp] theorem isi_int_non  (st : Sto) : isiD .int .non st = .ok (.bl false) st := rfl
@[simp] theorem isi_bool_tup (xs : List D) (st : Sto) : isiD .bool (.tup xs) st = .ok (.bl false) st := rfl
@[simp] theorem isi_bool_str (x : Str) (st : Sto) : isiD .bool (.str x) st = .ok (.bl false) st := rfl
@[simp] theorem isi_bool_int (i : Int) (st : Sto) : isiD .bool (.int i) st = .ok (.bl false) st := rfl
@[simp] theorem isi_bool_bl (b : Bool) (st : Sto) : isiD .bool (.bl b) st = .ok (.bl true) st := rfl
@[simp] theorem isi_bool_non  (st : Sto) : isiD .bool .non st = .ok (.bl false) st := rfl
theorem app_ok {o e : E} {ρ : PM.Env} {st st1 st2 : Sto} {n : Nat} {xs : List D} {y : D} (h1 : o ρ st = .ok (.loc n) st) (h2 : st[n]? = some (.lst xs)) (h3 : e ρ st = .ok y st1) (h4 : appD (.loc n) [y] st1 = .ok .non st2) : cApp o e ρ st = .ok .non st2 := by
  rw [cApp_ap, h1, R.bind_ok]
  simp only [lstD, h2, R.bind_ok, cArgs_cons, cArgs_nil, h3, h4]
theorem cAnd_true {a b : E} {ρ : PM.Env} {st st1 : Sto} {r : R D} (h : a ρ st = .ok (.bl true) st1) (q : b ρ st1 = r) : cAnd a b ρ st = r := by rw [cAnd_ap, h]; exact q
theorem cAnd_false {a b : E} {ρ : PM.Env} {st st1 : Sto} (h : a ρ st = .ok (.bl false) st1) : cAnd a b ρ st = .ok (.bl false) st1 := by rw [cAnd_ap, h]; rfl
theorem cOr_false {a b : E} {ρ : PM.Env} {st st1 : Sto} {r : R D} (h : a ρ st = .ok (.bl false) st1) (q : b ρ st1 = r) : cOr a b ρ st = r := by rw [cOr_ap, h]; exact q
theorem cOr_true {a b : E} {ρ : PM.Env} {st st1 : Sto} (h : a ρ st = .ok (.bl true) st1) : cOr a b ρ st = .ok (.bl true) st1 := by rw [cOr_ap, h]; rfl
theorem cInL_ok {neg k : Bool} {a : E} {b : EL} {ρ : PM.Env} {st st1 st2 : Sto} {x : D} {ys : List D} (ha : a ρ st = .ok x st1) (hb : b ρ st1 = .ok ys st2) (h : inSeq x ys = some k) : cInL neg a b ρ st = .ok (.bl (neg ^^ k)) st2 := by
  rw [cInL_ap, ha, R.bind_ok, hb, R.bind_ok, h]
/-! statements, one after another -/
theorem sSeq_nx {a b : S} {ρ ρ' : PM.Env} {st st' : Sto} {f : F} (h : a ρ st = .nx ρ' st') (q : b ρ' st' = f) : sSeq a b ρ st = f := by
  rw [sSeq_ap, h]; exact q
theorem sSeq_rt {a b : S} {ρ : PM.Env} {st st' : Sto} {d : D} (h : a ρ st = .rt d st') : sSeq a b ρ st = .rt d st' := by
  rw [sSeq_ap, h]
theorem sSeq_exc {a b : S} {ρ ρ' : PM.Env} {st st' : Sto} {c : Nat} {fs : List (Str × D)} (h : a ρ st = .exc c fs ρ' st') : sSeq a b ρ st = .exc c fs ρ' st' := by
  rw [sSeq_ap, h]
theorem sIf_true {t : ET} {a b : S} {ρ : PM.Env} {st st' : Sto} {f : F} (h : t ρ st = .ok true st') (q : a ρ st' = f) : sIf t a b ρ st = f := by
  rw [sIf_ap, h]; exact q
theorem sIf_false {t : ET} {a b : S} {ρ : PM.Env} {st st' : Sto} {f : F} (h : t ρ st = .ok false st') (q : b ρ st' = f) : sIf t a b ρ st = f := by
  rw [sIf_ap, h]; exact q
theorem sSet_ok {i : Nat} {e : E} {ρ ρ' : PM.Env} {st st' : Sto} {d : D} (h : e ρ st = .ok d st') (q : ρ.set i (some d) = ρ') : sSet i e ρ st = .nx ρ' st' := by
  rw [sSet_ap, h]; subst q; rfl
theorem sExp_ok {e : E} {ρ : PM.Env} {st st' : Sto} {d : D} (h : e ρ st = .ok d st') : sExp e ρ st = .nx ρ st' := by
  rw [sExp_ap, h]; rfl
theorem sRet_ok {e : E} {ρ : PM.Env} {st st' : Sto} {d : D} (h : e ρ st = .ok d st') : sRet e ρ st = .rt d st' := by
  rw [sRet_ap, h]; rfl
theorem sFor_ok {e : EI} {g : G} {body : S} {ρ : PM.Env} {st st' : Sto} {b : Itb} {f : F} (h : e ρ st = .ok b st') (q : forGo b.chk g body b.xs ρ st' = f) : sFor e g body ρ st = f := by
  rw [sFor_ap, h]; exact q
example (st : Sto) : eqD (.str "count") (.str "value") st = .ok (.bl false) st := by simp
example (st : Sto) : eqD (.str "count") (.str "count") st = .ok (.bl true) st := by simp
end PM

set_option Elab.async false
set_option linter.all false
set_option maxRecDepth 100000
set_option maxHeartbeats 4000000
/-! PM19: code that is never run; zip; dicts of the module; tuple.index; bit_length; [::-1]; aug-assignments. -/
namespace PM
open PySem PySem.Spec PyProof.Rows L2

section
variable {X : Cx} {ca : Nat → Addr} {W : WX} {a b c o : Expr} {ea eb ec eo : E} {pos : Pos} {tg : Expr} {p0 p1 p2 p3 apos cpos : Pos}
/-! ### never run -/
def cBad {β : Type} : Env → Sto → R β := fun _ _ => .bad
def sBad : S := fun _ _ => .bad
theorem qe_bad : QE X ca W a cBad := ⟨fun pins s σ H Q I h => by obtain ⟨α, st, ρ, at0, p⟩ := h; exact False.elim p⟩
theorem qt_bad : QT X ca W a cBad := ⟨fun pins s σ H Q I h => by obtain ⟨α, st, ρ, at0, p⟩ := h; exact False.elim p⟩
theorem qf_bad {st : Stmt} : QF X ca W st sBad := ⟨fun pins s σ H E I h => by obtain ⟨α, st, ρ, at0, p⟩ := h; exact False.elim p⟩
theorem qfs_bad {sts : List Stmt} : QFs X ca W sts sBad := ⟨fun pins s σ H E I h => by obtain ⟨α, st, ρ, at0, p⟩ := h; exact False.elim p⟩

/-! ### zip -/
def pairs2 (xs ys : List D) : List D := List.zipWith (fun x y => D.tup [x, y]) xs ys
theorem pairs2_len {xs ys : List D} : xs.length ≤ (pairs2 xs ys).length ∨ ys.length ≤ (pairs2 xs ys).length := by
  unfold pairs2; rw [List.length_zipWith]; omega
theorem pairs2_get {xs ys : List D} {i : Nat} {d : D} (h : (pairs2 xs ys)[i]? = some d) : ∃ x y, xs[i]? = some x ∧ ys[i]? = some y ∧ d = .tup [x, y] := by
  unfold pairs2 at h
  rw [List.getElem?_zipWith] at h
  cases h1 : xs[i]? <;> cases h2 : ys[i]? <;> rw [h1, h2] at h <;> simp at h
  exact ⟨_, _, rfl, rfl, h.symm⟩
def zipD : List D → Sto → R Itb
  | [.tup xs, .tup ys], st => .ok ⟨fun _ => True, pairs2 xs ys⟩ st
  | [.loc m, .loc n], st => match st[m]?, st[n]? with
    | some (.lst xs), some (.lst ys) => .ok ⟨fun st => st[m]? = some (.lst xs) ∧ st[n]? = some (.lst ys), pairs2 xs ys⟩ st
    | _, _ => .bad
  | _, _ => .bad
theorem zipD_1 {x : D} {st : Sto} : zipD [x] st = .bad := by cases x <;> rfl
theorem zipD_3 {x y z : D} {l : List D} {st : Sto} : zipD (x :: y :: z :: l) st = .bad := by cases x <;> cases y <;> rfl
def cZip (es : List E) : EI := fun ρ st => (cArgs es ρ st).bind zipD
theorem pair_new {K : Frag} {α : Nat → Addr} {st : Sto} {H : Hp} {T : Addr} {dx dy : D} {x y : V} (L : Lk K ca α st H) (hT : H T = none) (r1 : RV K α st.length H dx x) (r2 : RV K α st.length H dy y) :
    Xt K α st.length H α st.length (upd H T (.tup [x, y])) ∧ Lk K ca α st (upd H T (.tup [x, y])) ∧ RV K α st.length (upd H T (.tup [x, y])) (.tup [dx, dy]) (.ref T) :=
  ⟨xt_new hT, L.temp hT, .tup (.inl (.inl upd_same)) (.cons (r1.mono (xt_new hT).toGr) (.cons (r2.mono (xt_new hT).toGr) .nil))⟩
theorem qi_zip {elts : List Expr} {kk : Nat} {tpos : Pos} {es : List E} (hg : Gl X "zip") (hm : X.mg "zip" = none) (ha : QA X ca W [a, b] (cArgs es))
    (hs : starEach [a, b] X.env = (false, eval a X.env) :: starEach [b] X.env := by rfl) (hpl : (backTo pos (starEach [b] X.env)).any (·.1) = false := by rfl) :
    QI X ca W (.Tuple elts kk tpos) (.Call (.Name "zip" p0) [a, b] [] pos) (cZip es) :=
  piW (RZ.pi_zipA hg hm ha hs hpl) fun σ H Q ⟨α, st, ρ, at0, p⟩ => tG_next (rel := relVs X.K) at0 .refl p fun α1 st1 ds vs H1 a1 _ x1 r1 p1 => by
    have r1 : RVs X.K α1 st1.length H1 ds vs := r1
    match ds, vs, r1, p1 with
    | [], _, _, p1 => exact False.elim p1
    | [d], _, _, p1 =>
      have p1 : Post X.K ca (relI X.K ca) _ _ _ _ _ (zipD [d] st1) := p1
      rw [zipD_1] at p1
      exact False.elim p1
    | d :: e :: f :: g, _, _, p1 =>
      have p1 : Post X.K ca (relI X.K ca) _ _ _ _ _ (zipD (d :: e :: f :: g) st1) := p1
      rw [zipD_3] at p1
      exact False.elim p1
    | [d, e], [v, u], .cons rd (.cons re .nil), p1 =>
      cases rd <;> try (unfold zipD at p1; exact False.elim p1)
      · cases re <;> try (unfold zipD at p1; exact False.elim p1)
        rename_i A vs xs h1 q1 B ws ys h2 q2
        refine ⟨A, B, vs, ws, rfl, .inr ⟨h1, h2, p1 α1 H1 _ x1 a1.lk fun α2 st2 H2 x2 L2 _ => ⟨⟨vs, ws, x2.tup _ _ h1, x2.tup _ _ h2, ?_⟩, fun i z ez => ?_⟩⟩⟩
        · rw [← q1.length, ← q2.length]; exact pairs2_len
        · obtain ⟨x, y, ex, ey, rfl⟩ := pairs2_get ez
          obtain ⟨x', e1, r1⟩ := (q1.mono x2.toGr).get ex
          obtain ⟨y', e2, r2⟩ := (q2.mono x2.toGr).get ey
          refine ⟨⟨vs, ws, x', y', x2.tup _ _ h1, x2.tup _ _ h2, e1, e2⟩, ?_⟩
          rintro x0 H3 ⟨T, x'', y'', rfl, hT, rfl, f1, f2⟩
          have g1 := f1 vs (x2.tup _ _ h1)
          have g2 := f2 ws (x2.tup _ _ h2)
          rw [e1] at g1; rw [e2] at g2
          cases g1; cases g2
          exact pair_new L2 hT r1 r2
      · cases re <;> try (unfold zipD at p1; exact False.elim p1)
        rename_i m hm' n hn'
        simp only [zipD] at p1
        split at p1 <;> try exact False.elim p1
        rename_i xs ys k1 k2
        obtain ⟨vs, h1, q1⟩ := lk_lst a1.lk k1
        obtain ⟨ws, h2, q2⟩ := lk_lst a1.lk k2
        refine ⟨_, _, vs, ws, rfl, .inl ⟨.inl (.inl h1), .inl (.inl h2), p1 α1 H1 _ x1 a1.lk fun α2 st2 H2 x2 L2 ck => ?_⟩⟩
        obtain ⟨vs, h1, q1⟩ := lk_lst L2 ck.1
        obtain ⟨ws, h2, q2⟩ := lk_lst L2 ck.2
        rw [x2.ag _ hm'] at h1
        rw [x2.ag _ hn'] at h2
        have s1 : SqL X.K H2 (α1 m) vs := .inl (.inl h1)
        have s2 : SqL X.K H2 (α1 n) ws := .inl (.inl h2)
        refine ⟨⟨vs, ws, s1, s2, ?_⟩, fun i z ez => ?_⟩
        · rw [← q1.length, ← q2.length]; exact pairs2_len
        · obtain ⟨x, y, ex, ey, rfl⟩ := pairs2_get ez
          obtain ⟨x', e1, r1⟩ := q1.get ex
          obtain ⟨y', e2, r2⟩ := q2.get ey
          refine ⟨⟨vs, ws, x', y', s1, s2, e1, e2⟩, ?_⟩
          rintro x0 H3 ⟨T, x'', y'', rfl, hT, rfl, f1, f2⟩
          have g1 := f1 vs s1
          have g2 := f2 ws s2
          rw [e1] at g1; rw [e2] at g2
          cases g1; cases g2
          exact pair_new L2 hT r1 r2

/-! ### dicts of the module, read by name -/
/-- the entries -/
inductive Ents (K : Frag) (P : Params) : List (Str × D) → List DictEntry → Prop
  | nil : Ents K P [] []
  | cons {x : Str} {t : Tok} {d : D} {u : Value} {hs : Int} {kvs : List (Str × D)} {es : List DictEntry} : hs = PyData.keyHash P x → CV K d u → Ents K P kvs es → Ents K P ((x, d) :: kvs) (⟨hs, .str x t, u⟩ :: es)
theorem Ents.lit {K : Frag} {P : Params} {kvs : List (Str × D)} {es : List DictEntry} (h : Ents K P kvs es) : PySem.W.KeysLit P es := by
  induction h with
  | nil => trivial
  | cons h1 _ _ ih => exact ⟨⟨_, _, rfl, h1⟩, ih⟩
theorem Ents.noref {K : Frag} {P : Params} {kvs : List (Str × D)} {es : List DictEntry} (h : Ents K P kvs es) : es.any (·.refKey) = false := by
  induction h with
  | nil => rfl
  | cons h1 _ _ ih => rw [List.any_cons, ih]; rfl
theorem Ents.find {K : Frag} {P : Params} {kvs : List (Str × D)} {es : List DictEntry} (h : Ents K P kvs es) (z : Str) :
    (kvs.lookup z = none ∧ es.find? (·.key.isStr z) = none) ∨ ∃ d e, kvs.lookup z = some d ∧ es.find? (·.key.isStr z) = some e ∧ CV K d e.val := by
  induction h with
  | nil => exact .inl ⟨rfl, rfl⟩
  | @cons x t d u hs kvs es h1 h2 h3 ih =>
    by_cases e : x = z
    · subst e
      refine .inr ⟨d, ⟨hs, .str x t, u⟩, by simp, ?_, h2⟩
      rw [List.find?_cons_of_pos]
      rw [PySem.W.isStr_of]
      show (x == x) = true
      simp
    · have e1 : ((x, d) :: kvs).lookup z = kvs.lookup z := by
        rw [List.lookup_cons]
        have : (z == x) = false := by simp; exact fun h => e h.symm
        rw [this]
      have e2 : (⟨hs, .str x t, u⟩ :: es).find? (·.key.isStr z) = es.find? (·.key.isStr z) := by
        rw [List.find?_cons_of_neg]
        rw [PySem.W.isStr_of]
        show ¬ (x == z) = true
        simp [e]
      rw [e1, e2]
      exact ih
structure TabF (K : Frag) (w : World) (mg : Str → Option Value) (x : Str) (kvs : List (Str × D)) : Prop where
  ex : ∃ (p : Addr) (es : List DictEntry) (n : Nat), mg x = some (.ref p) ∧ K.lookup p = some ⟨.type "dict", none, .dict es.toArray n, #[]⟩ ∧ (p == sysModules) = false ∧ Ents K w.params kvs es
theorem TabF.of {K : Frag} {w : World} {mg : Str → Option Value} {x : Str} {kvs : List (Str × D)} (T : TabF K w mg x kvs) : ∃ (p : Addr) (es : Array DictEntry) (n : Nat), mg x = some (.ref p) ∧ KDict K w p es n ∧
    ∀ z, (kvs.lookup z = none ∧ PySem.W.nsIn K p z = some none) ∨ ∃ d u, kvs.lookup z = some d ∧ PySem.W.nsIn K p z = some (some u) ∧ CV K d u := by
  obtain ⟨p, es, n, h1, h2, h3, h4⟩ := T.ex
  refine ⟨p, es.toArray, n, h1, ⟨h2, h4.lit, h3⟩, fun z => ?_⟩
  unfold PySem.W.nsIn
  rw [h2]
  dsimp only
  rcases h4.find z with ⟨e1, e2⟩ | ⟨d, e, e1, e2, e3⟩
  · refine .inl ⟨e1, ?_⟩
    rw [e2, h4.noref]
    rfl
  · refine .inr ⟨d, e.val, e1, ?_, e3⟩
    rw [e2]
/-- X[e] -/
def tabD (kvs : List (Str × D)) (y : D) (st : Sto) : R D := match y with
  | .str z => match kvs.lookup z with
    | some d => .ok d st
    | none => .bad
  | _ => .bad
def cTab (kvs : List (Str × D)) (e : E) : E := fun ρ st => (e ρ st).bind (tabD kvs)
theorem qe_tab {x : Str} {kvs : List (Str × D)} (T : TabF X.K X.w X.mg x kvs) (ha : QE X ca W a ea) (hg : Gl X x) (hs : PlainIx a := by intro _ _; rfl) (hdb : (x == ("__debug__" : Str)) = false := by decide) :
    QE X ca W (.Subscript (.Name x p0) a pos) (cTab kvs ea) := by
  obtain ⟨p, es, n, h1, h2, h3⟩ := T.of
  refine peW (pe_ix ix_kdict (pe_glob (v := .ref p) hg h1 rfl hdb) ha hs) fun σ H Q h => ?_
  obtain ⟨α, st, ρ, at0, q⟩ := h
  refine tG_next at0 .refl q fun α1 st1 d v H1 a1 _ x1 r1 p1 => ?_
  cases r1 <;> try exact False.elim p1
  rename_i z
  simp only [tabD] at p1
  rcases h3 z with ⟨e1, e2⟩ | ⟨d, u, e1, e2, e3⟩
  · rw [e1] at p1; exact False.elim p1
  · rw [e1] at p1
    obtain ⟨v, rv, q⟩ := e3.rv
    exact ⟨p, z, v, rfl, rfl, ⟨es, n, u, h2.at_, h2.lit, e2, rv⟩, p1 α1 H1 _ x1 a1.lk (q _ _ _)⟩
/-- e in X, e not in X -/
def tabIn (neg : Bool) (kvs : List (Str × D)) (y : D) (st : Sto) : R D := match y with
  | .str z => .ok (.bl (neg ^^ (kvs.lookup z).isSome)) st
  | _ => .bad
def cTabIn (neg : Bool) (kvs : List (Str × D)) (e : E) : E := fun ρ st => (e ρ st).bind (tabIn neg kvs)
theorem tabIn_ok {kvs : List (Str × D)} {neg : Bool} {σ : L2.St} {H : Hp} {Q : VK} {p : Addr}
    (h3 : ∀ z, (kvs.lookup z = none ∧ PySem.W.nsIn X.K p z = some none) ∨ ∃ d u, kvs.lookup z = some d ∧ PySem.W.nsIn X.K p z = some (some u) ∧ CV X.K d u)
    (h : tG X.K ca (relV X.K) W (cTabIn neg kvs ea) σ H Q) :
    tOp (fun x y H Q => ∃ (z : Str) (r : Option Value), x = .str z ∧ y = .ref p ∧ PySem.W.nsIn X.K p z = some r ∧ Q (.bl (neg ^^ r.isSome)) H) (tG X.K ca (relV X.K) W ea) (tC (.ref p)) σ H Q := by
  obtain ⟨α, st, ρ, at0, q⟩ := h
  refine tG_next at0 .refl q fun α1 st1 d v H1 a1 _ x1 r1 p1 => ?_
  cases r1 <;> try exact False.elim p1
  rename_i z
  simp only [tabIn] at p1
  rcases h3 z with ⟨e1, e2⟩ | ⟨d, u, e1, e2, e3⟩
  · rw [e1] at p1
    exact ⟨z, none, rfl, rfl, e2, p1 α1 H1 _ x1 a1.lk (.bl _)⟩
  · rw [e1] at p1
    exact ⟨z, some u, rfl, rfl, e2, p1 α1 H1 _ x1 a1.lk (.bl _)⟩
theorem qe_tabIn {x : Str} {kvs : List (Str × D)} (T : TabF X.K X.w X.mg x kvs) (ha : QE X ca W a ea) (hg : Gl X x) (hm : behindInMarks .In (.Name x p0) = false := by rfl) (hdb : (x == ("__debug__" : Str)) = false := by decide) :
    QE X ca W (.Compare a [.In] [.Name x p0] pos) (cTabIn false kvs ea) := by
  obtain ⟨p, es, n, h1, h2, h3⟩ := T.of
  exact peW (pe_cmpR (op_in_kd h2) ha (pe_glob (v := .ref p) hg h1 rfl hdb) hm) fun σ H Q h => by
    have h := tabIn_ok h3 h
    simpa using h
theorem qe_tabNotIn {x : Str} {kvs : List (Str × D)} (T : TabF X.K X.w X.mg x kvs) (ha : QE X ca W a ea) (hg : Gl X x) (hm : behindInMarks .NotIn (.Name x p0) = false := by rfl) (hdb : (x == ("__debug__" : Str)) = false := by decide) :
    QE X ca W (.Compare a [.NotIn] [.Name x p0] pos) (cTabIn true kvs ea) := by
  obtain ⟨p, es, n, h1, h2, h3⟩ := T.of
  exact peW (pe_cmpR (op_notIn_kd h2) ha (pe_glob (v := .ref p) hg h1 rfl hdb) hm) fun σ H Q h => by
    have h := tabIn_ok h3 h
    simpa using h
theorem qt_tabIn {x : Str} {kvs : List (Str × D)} (T : TabF X.K X.w X.mg x kvs) (ha : QE X ca W a ea) (hg : Gl X x) (hm : behindInMarks .In (.Name x p0) = false := by rfl) (hdb : (x == ("__debug__" : Str)) = false := by decide) :
    QT X ca W (.Compare a [.In] [.Name x p0] pos) (cTst (cTabIn false kvs ea)) := by
  obtain ⟨p, es, n, h1, h2, h3⟩ := T.of
  exact ptW (pt_cmpR (op_in_kd h2) ha (pe_glob (v := .ref p) hg h1 rfl hdb) hm) fun σ H Q h => by
    have h := tabIn_ok h3 (tG_tst h)
    simp only [Bool.false_xor] at h; exact h
theorem qt_tabNotIn {x : Str} {kvs : List (Str × D)} (T : TabF X.K X.w X.mg x kvs) (ha : QE X ca W a ea) (hg : Gl X x) (hm : behindInMarks .NotIn (.Name x p0) = false := by rfl) (hdb : (x == ("__debug__" : Str)) = false := by decide) :
    QT X ca W (.Compare a [.NotIn] [.Name x p0] pos) (cTst (cTabIn true kvs ea)) := by
  obtain ⟨p, es, n, h1, h2, h3⟩ := T.of
  exact ptW (pt_cmpR (op_notIn_kd h2) ha (pe_glob (v := .ref p) hg h1 rfl hdb) hm) fun σ H Q h => by
    have h := tabIn_ok h3 (tG_tst h)
    simp only [Bool.true_xor] at h; exact h

/-! ### T.index(e): T a tuple of texts of the module -/
def TxtF (K : Frag) (mg : Str → Option Value) (x : Str) (ys : List Str) : Prop := ∃ (p : Addr) (o : Obj) (its : Array Value) (n : Nat), mg x = some (.ref p) ∧ K.lookup p = some o ∧ o.cls = .type "tuple" ∧ o.dict = none ∧ o.data = .seq its n ∧ its.size ≤ sizeLine ∧ Vals (ys.map V.str) its.toList
def idxD (ys : List Str) (zs : List D) (st : Sto) : R D := match zs with
  | [.str z] => match ys.findIdx? (fun y => decide (y = z)) with
    | some j => .ok (.int j) st
    | none => .bad
  | _ => .bad
theorem idxD_inv {K : Frag} {α : Nat → Addr} {N : Nat} {H : Hp} {W : XK} {Q : VK} {ys : List Str} {zs : List D} {st : Sto} (p : Post K ca (relV K) α N H W Q (idxD ys zs st)) :
    ∃ z j, zs = [.str z] ∧ ys.findIdx? (fun y => decide (y = z)) = some j ∧ Post K ca (relV K) α N H W Q (.ok (.int j) st) := by
  unfold idxD at p
  split at p
  · split at p
    · exact ⟨_, _, rfl, by assumption, p⟩
    · exact False.elim p
  · exact False.elim p
def cIdx (ys : List Str) (e : E) : E := fun ρ st => (cArgs [e] ρ st).bind (idxD ys)
theorem qe_idx {x : Str} {ys : List Str} (T : TxtF X.K X.mg x ys) (ha : QE X ca W a ea) (hg : Gl X x) (hdb : (x == ("__debug__" : Str)) = false := by decide)
    (hbase : attributeBase (.Name x p0) "index" X.env (eval (.Name x p0) X.env) = eval (.Name x p0) X.env := by rfl)
    (hfew : ((backTo cpos (starEach [a] X.env)).all (fun x => !x.1) && (backToKw cpos (keywordEach [] X.env)).all (fun x => x.1.isSome)
      && decide ([a].length + ([] : List Keyword).length + (if ([] : List Keyword).isEmpty then 0 else 1) < 30)) = true := by rfl)
    (hline : (apos.endLine == cpos.line) = true := by rfl) (hs : starEach [a] X.env = (false, eval a X.env) :: starEach [] X.env := by rfl) (hplain : (backTo cpos (starEach [] X.env)).any (·.1) = false := by rfl) :
    QE X ca W (.Call (.Attribute (.Name x p0) "index" apos) [a] [] cpos) (cIdx ys ea) := by
  obtain ⟨p, ob, its, n, h1, h2, h3, h4, h5, h6, h7⟩ := T
  refine peW (pe_bm PySem.F.plainAttrs_tuple PySem.F.slot_tuple_index PySem.F.type_tuple_index mt_tup_index (pe_glob (v := .ref p) hg h1 rfl hdb) (qa_cons ha qa_nil hs) hbase hfew hline hs hplain) fun σ H Q ⟨α, st, ρ, at0, p0⟩ => ?_
  refine ⟨.inr (.inl ⟨rfl, ob, h2, h3, h4⟩), tG_next (rel := relVs X.K) at0 .refl p0 fun α1 st1 ds vs H1 a1 _ x1 r1 p1 => ?_⟩
  have r1 : RVs X.K α1 st1.length H1 ds vs := r1
  obtain ⟨z, j, rfl, hj, p1⟩ := idxD_inv p1
  match vs, r1 with
  | [v], .cons rz .nil =>
    cases rz
    obtain ⟨hlt, hy, hno⟩ := List.findIdx?_eq_some_iff_getElem.mp hj
    refine ⟨p, ys, z, j, rfl, rfl, .inr ⟨ob, its, n, h2, h3, h5, h6, h7⟩, ?_, fun m hm e => ?_, p1 α1 H1 _ x1 a1.lk (.int _)⟩
    · rw [List.getElem?_eq_getElem hlt]; simpa using hy
    · have hml : m < ys.length := Nat.lt_trans hm hlt
      have h8 := hno m hm
      rw [List.getElem?_eq_getElem hml] at e
      simp at h8 e
      exact h8 e

/-! ### e.bit_length() -/
def bitD : D → Sto → R D
  | .int i, st => .ok (.int (Builtin.Int.intBits i : Nat)) st
  | _, _ => .bad
theorem qe_bits (ha : QE X ca W a ea) (hbase : attributeBase a "bit_length" X.env (eval a X.env) = eval a X.env := by rfl) (hline : (apos.endLine == pos.line) = true := by rfl) :
    QE X ca W (.Call (.Attribute a "bit_length" apos) [] [] pos) (cB1 bitD ea) :=
  peW (pe_bits ha hbase hline) fun σ H Q ⟨α, st, ρ, at0, p⟩ => tG_next at0 .refl p fun α1 st1 d v H1 a1 _ x1 r1 p1 => by
    cases r1 <;> try exact False.elim p1
    exact ⟨_, rfl, p1 α1 H1 _ x1 a1.lk (.int _)⟩

/-! ### e[::-1], a list -/
def cRevL (e : E) : EL := fun ρ st => (e ρ st).bind fun x st => (lstD x st).bind fun xs st => .ok xs.reverse st
theorem ql_rev {k : Nat} {q1 q2 q3 : Pos} (ha : QE X ca W a ea) : QL X ca W (.Subscript a (.Slice none none (some (.UnaryOp .USub (.Constant (.int 1) k q1) q2)) q3) pos) (cRevL ea) :=
  peW (pe_revL ha) fun σ H Q ⟨α, st, ρ, at0, p⟩ => tG_next (rel := relV X.K) at0 .refl p fun α1 st1 d v H1 a1 _ x1 r1 p1 => by
    obtain ⟨n, xs, vs, rfl, h, rfl, h1, r, p2⟩ := lstD_ok a1.lk r1 p1
    exact ⟨_, vs, rfl, .inl (.inl h1), fun q hq => fin_new p2 x1 a1.lk r.reverse hq⟩

/-! ### x //= y, x *= y -/
def ifdivD : D → D → Sto → R D := fdivD
def imulD : D → D → Sto → R D := mulD
theorem iop_fdivA : OpR X (inplaceOp .FloorDiv) (rI (fun _ j => j ≠ 0 ∧ j.natAbs.log2 < 9000) fun i j => .int (i.fdiv j)) := opI fun _ _ _ _ _ _ _ hc q => ifloordiv_int hc.1 q (.inl (PyProof.noPylong_of_log2 hc.2))
theorem d_ifdiv : OpR X (inplaceOp .FloorDiv) (rD2 X.K ca ifdivD) := by
  intro pins s σ H x y v u Q I rx ry ⟨α, st, α0, N0, H0, dx, dy, W, L, xt, r1, r2, p⟩
  cases r1 <;> cases r2 <;> try exact False.elim p
  simp only [ifdivD, fdivD, int2] at p
  split at p
  · rename_i q
    have := Bool.and_eq_true _ _ |>.mp q
    exact iop_fdivA pins s σ H _ _ v u Q I rx ry ⟨_, _, rfl, rfl, ⟨of_decide_eq_true this.1, of_decide_eq_true this.2⟩, p α H _ xt L (.int _)⟩
  · exact p.elim
end
end PM

set_option Elab.async false
set_option linter.all false
set_option maxRecDepth 100000
set_option maxHeartbeats 4000000
/-! PM20: defs with defaults. -/
namespace PM
open PySem PySem.Spec PyProof.Rows L2

/-- the defaults' values -/
def Dfs (K : Frag) (ds : List D) (vs : List V) : Prop := ∀ α N H, RVs K α N H ds vs
section
variable {P : Program} {w : World} {K : Frag} {mg : Str → Option Value} {base : Heap} {ca : Nat → Addr}
theorem fn_okD {x qual : Str} {st : Stmt} {dvs : List V} {f : Addr} {fd : FuncData} {N ps : List Str} {n p : Nat} {k : Nat} {s : S} (Fx : FunD K x qual (defArgs st) (defBody st) (defScope st) dvs [] f fd) (sc : FnScope N ps (defScope st)) (hn : N.length = n) (hp : ps.length = p)
    (hb : ∀ (cdv : Value) (A : Around) (outer : List PySem.Env) (s0 : Shared) (H : Hp) (E : XK), Room k (A.deeper (envOfC qual (defScope st) s0.heap.objs.size f cdv)) →
      Ok (cxOf (L2.CX P w) P w K mg base N qual (defScope st) f cdv A outer s0 H E) (fun c d _ H => E c d H) →
      QFs (cxOf (L2.CX P w) P w K mg base N qual (defScope st) f cdv A outer s0 H E) ca (fun c d _ H => E c d H) (defBody st) s) :
    FnOk P w K mg base (L2.CX P w) (k + 1) f fd ps (spOf K ca p (mDef n s)) := by
  subst hn hp
  refine Fx.ok sc (fun vs H Q E h => h.1) fun cdv A outer s0 H vs Q E hr h => ?_
  obtain ⟨hl, α, st, ds, L, r, p⟩ := h
  refine ⟨_, hb cdv A outer s0 H E hr ⟨takes_of rfl rfl rfl rfl, passes_of (K := fun e s' => L2.CX P w outer H s0 E e s') rfl, rfl⟩, ?_⟩
  have hds : ds.length = vs.length := r.length
  refine ⟨α, st, ds.map some ++ List.replicate (N.length - ds.length) none, ⟨L, ?_⟩, ?_⟩
  · unfold L2.start
    rw [hds]
    exact RE.start r _
  · unfold mDef at p
    revert p
    cases s (ds.map some ++ List.replicate (N.length - ds.length) none) st with
    | nx ρ st' =>
      intro p α' H' σ' x a
      simp only [outR, gcR] at p
      split at p
      · rename_i h
        obtain ⟨x2, L2⟩ := gc_ok L x a.lk h.1
        exact p α' H' .non x2 L2 .non
      · exact p α' H' .non x a.lk .non
    | rt d st' =>
      intro p α' H' v x L' rv
      simp only [outR, gcR] at p
      split at p
      · rename_i h
        obtain ⟨x2, L2⟩ := gc_ok L x L' h.1
        exact p α' H' v x2 L2 (rv.low h.2)
      · exact p α' H' v x L' rv
    | exc c fs ρ st' =>
      intro p α' H' σ' dd x a xd
      simp only [outR, gcR] at p
      split at p
      · rename_i h
        obtain ⟨x2, L2⟩ := gc_ok L x a.lk h.1
        refine p α' H' dd x2 L2 ?_
        obtain ⟨_, rfl⟩ := h
        rcases xd with ⟨_, e⟩ | ⟨d, gs, e1, e2, r⟩
        · exact .inl ⟨rfl, e⟩
        · cases r
          exact .inr ⟨d, _, e1, e2, .nil⟩
      · exact p α' H' dd x a.lk xd
    | bk _ _ => exact fun p => False.elim p
    | ct _ _ => exact fun p => False.elim p
    | bad => exact fun p => False.elim p
/-- a def of the module with defaults dfs, of which the last are filled in: a call without its last dfs.length arguments -/
def FnD (P : Program) (w : World) (K : Frag) (mg : Str → Option Value) (base : Heap) (ca : Nat → Addr) (k : Nat) (x : Str) (ps : List Str) (m : M) (dfs : List D) : Prop :=
  ∃ f fd ds dvs, mg x = some (.ref f) ∧ PySem.W.keepIn K (.ref f) = true ∧ Binds K fd ps ds ∧ Vals dvs ds ∧ Dfs K dfs dvs ∧ FnOk P w K mg base (L2.CX P w) k f fd ps (spOf K ca ps.length m)
def CmD (P : Program) (w : World) (K : Frag) (mg : Str → Option Value) (base : Heap) (ca : Nat → Addr) (k : Nat) (c : Nat) (x : Str) (ps : List Str) (m : M) (dfs : List D) : Prop :=
  ∃ f fd ds dvs, mg x = some (.ref (ca c)) ∧ Mk K (ca c) f ∧ Binds K fd ps ds ∧ Vals dvs ds ∧ Dfs K dfs dvs ∧ FnOk P w K mg base (L2.CX P w) k f fd ps (spOf K ca ps.length m)
/-- what stands behind the top -/
def TopD (K : Frag) (mg : Str → Option Value) (x : Str) (st : Stmt) (dfs : List D) : Prop := ∃ f fd dvs, mg x = some (.ref f) ∧ PySem.W.keepIn K (.ref f) = true ∧ Dfs K dfs dvs ∧ FunD K x x (defArgs st) (defBody st) (defScope st) dvs [] f fd
def MkD (K : Frag) (mg : Str → Option Value) (C : Addr) (c qual : Str) (st : Stmt) (dfs : List D) : Prop := ∃ f fd dvs, mg c = some (.ref C) ∧ Mk K C f ∧ Dfs K dfs dvs ∧ FunD K "__init__" qual (defArgs st) (defBody st) (defScope st) dvs [] f fd
theorem Dfs.drop {K : Frag} {ds : List D} {vs : List V} (h : Dfs K ds vs) (j : Nat) : Dfs K (ds.drop j) (vs.drop j) := fun α N H => (h α N H).drop j
theorem Dfs.length {K : Frag} {ds : List D} {vs : List V} (h : Dfs K ds vs) : ds.length = vs.length := (h (fun _ => 0) 0 (fun _ => none)).length
variable {k : Nat} {x qual : Str} {st : Stmt} {ps : List Str} {m : M} {dfs : List D}
/-- the call with j of the defaults' parameters given -/
theorem CmD.of {c : Nat} (T : MkD K mg (ca c) x qual st dfs) (j : Nat) (h0 : dfs ≠ []) (hj : j ≤ dfs.length) (hl : dfs.length ≤ ps.length)
    (hB : ∀ (T : Addr) (kV doc pm : Value) (an : Option Addr) (cdv ct : Value) (us its : List Value), us.length = ps.length - (dfs.length - j) → its.length = dfs.length →
      ∃ k, bindArgs (PySem.W.fnOf "__init__" qual (defArgs st) (defBody st) (defScope st) (.ref T) kV doc pm an cdv ct) ⟨us, []⟩ = seqItems? (.ref T) >>= k ∧ k (some its.toArray) = pure (ps.zip (us ++ its.drop j)))
    (h : ∀ f fd dvs, FunD K "__init__" qual (defArgs st) (defBody st) (defScope st) dvs [] f fd → FnOk P w K mg base (L2.CX P w) k f fd ps (spOf K ca ps.length m)) : CmD P w K mg base ca k c x ps m (dfs.drop j) := by
  obtain ⟨f, fd, dvs, h1, h2, h3, F⟩ := T
  have e := h3.length
  have hd : dvs ≠ [] := fun q => by subst q; exact h0 (List.length_eq_zero_iff.mp e)
  obtain ⟨ds, q1, q2⟩ := F.binds1 (ps := ps) (ps.length - (dfs.length - j)) j hd (by rw [← e]; omega) (by rw [← e]; exact hB)
  exact ⟨f, fd, ds, _, h1, h2, q2, q1, h3.drop j, h f fd dvs F⟩
theorem Cm.ofD {c : Nat} (T : MkD K mg (ca c) x qual st dfs) (h0 : dfs ≠ []) (hl : dfs.length ≤ ps.length)
    (hB : ∀ (T : Addr) (kV doc pm : Value) (an : Option Addr) (cdv ct : Value) (us its : List Value), us.length = ps.length → its.length = dfs.length →
      ∃ k, bindArgs (PySem.W.fnOf "__init__" qual (defArgs st) (defBody st) (defScope st) (.ref T) kV doc pm an cdv ct) ⟨us, []⟩ = seqItems? (.ref T) >>= k ∧ k (some its.toArray) = pure (ps.zip us))
    (h : ∀ f fd dvs, FunD K "__init__" qual (defArgs st) (defBody st) (defScope st) dvs [] f fd → FnOk P w K mg base (L2.CX P w) k f fd ps (spOf K ca ps.length m)) : Cm P w K mg base ca k c x ps m := by
  obtain ⟨f, fd, ds, dvs, h1, h2, h3, h4, h5, h6⟩ := CmD.of (P := P) (w := w) (base := base) (k := k) (m := m) T dfs.length h0 (Nat.le_refl _) hl (fun T kV doc pm an cdv ct us its l1 l2 => by
    obtain ⟨k, e1, e2⟩ := hB T kV doc pm an cdv ct us its (by rw [l1]; omega) l2
    exact ⟨k, e1, by rw [e2, ← l2, List.drop_length, List.append_nil]⟩) h
  have e : dvs = [] := by
    have := h5.length
    rw [List.drop_length] at this
    exact List.length_eq_zero_iff.mp this.symm
  subst e
  cases h4
  exact ⟨f, fd, h1, h2, h3, h6⟩
theorem FnD.of (T : TopD K mg x st dfs) (j : Nat) (h0 : dfs ≠ []) (hj : j ≤ dfs.length) (hl : dfs.length ≤ ps.length)
    (hB : ∀ (T : Addr) (kV doc pm : Value) (an : Option Addr) (cdv ct : Value) (us its : List Value), us.length = ps.length - (dfs.length - j) → its.length = dfs.length →
      ∃ k, bindArgs (PySem.W.fnOf x x (defArgs st) (defBody st) (defScope st) (.ref T) kV doc pm an cdv ct) ⟨us, []⟩ = seqItems? (.ref T) >>= k ∧ k (some its.toArray) = pure (ps.zip (us ++ its.drop j)))
    (h : ∀ f fd dvs, FunD K x x (defArgs st) (defBody st) (defScope st) dvs [] f fd → FnOk P w K mg base (L2.CX P w) k f fd ps (spOf K ca ps.length m)) : FnD P w K mg base ca k x ps m (dfs.drop j) := by
  obtain ⟨f, fd, dvs, h1, h2, h3, F⟩ := T
  have e := h3.length
  have hd : dvs ≠ [] := fun q => by subst q; exact h0 (List.length_eq_zero_iff.mp e)
  obtain ⟨ds, q1, q2⟩ := F.binds1 (ps := ps) (ps.length - (dfs.length - j)) j hd (by rw [← e]; omega) (by rw [← e]; exact hB)
  exact ⟨f, fd, ds, _, h1, h2, q2, q1, h3.drop j, h f fd dvs F⟩
theorem Fn.ofD (T : TopD K mg x st dfs) (h0 : dfs ≠ []) (hl : dfs.length ≤ ps.length)
    (hB : ∀ (T : Addr) (kV doc pm : Value) (an : Option Addr) (cdv ct : Value) (us its : List Value), us.length = ps.length → its.length = dfs.length →
      ∃ k, bindArgs (PySem.W.fnOf x x (defArgs st) (defBody st) (defScope st) (.ref T) kV doc pm an cdv ct) ⟨us, []⟩ = seqItems? (.ref T) >>= k ∧ k (some its.toArray) = pure (ps.zip us))
    (h : ∀ f fd dvs, FunD K x x (defArgs st) (defBody st) (defScope st) dvs [] f fd → FnOk P w K mg base (L2.CX P w) k f fd ps (spOf K ca ps.length m)) : Fn P w K mg base ca k x ps m := by
  obtain ⟨f, fd, ds, dvs, h1, h2, h3, h4, h5, h6⟩ := FnD.of (P := P) (w := w) (base := base) (k := k) (m := m) T dfs.length h0 (Nat.le_refl _) hl (fun T kV doc pm an cdv ct us its l1 l2 => by
    obtain ⟨k, e1, e2⟩ := hB T kV doc pm an cdv ct us its (by rw [l1]; omega) l2
    exact ⟨k, e1, by rw [e2, ← l2, List.drop_length, List.append_nil]⟩) h
  have e : dvs = [] := by
    have := h5.length
    rw [List.drop_length] at this
    exact List.length_eq_zero_iff.mp this.symm
  subst e
  cases h4
  exact ⟨f, fd, h1, h2, h3, h6⟩
/-- the defaults behind the top -/
theorem dfs_mk {f : Addr} {oc : Value} {od an : Option Addr} {osl : Array (Option Value)} {kV doc pm cdv ct : Value} {T : Addr} {o : Obj} {its : List Value} {n : Nat} {ds : List D} {nm : Str}
    (l : K.lookup f = some ⟨oc, od, .func (PySem.W.fnOf nm qual (defArgs st) (defBody st) (defScope st) (.ref T) kV doc pm an cdv ct), osl⟩) (c : PySem.W.codeIn K cdv qual = true) (k : PySem.W.keepIn K (.ref f) = true)
    (lT : K.lookup T = some o) (hd : o.data = .seq its.toArray n) (h0 : its ≠ []) (cv : CVs K ds its) :
    ∃ dvs, Dfs K ds dvs ∧ FunD K nm qual (defArgs st) (defBody st) (defScope st) dvs [] f (PySem.W.fnOf nm qual (defArgs st) (defBody st) (defScope st) (.ref T) kV doc pm an cdv ct) := by
  obtain ⟨dvs, r, q⟩ := cv.rv
  refine ⟨dvs, q, ⟨⟨oc, od, .ref T, kV, doc, pm, an, cdv, ct, osl, rfl, l, c, .inr ⟨fun e => ?_, T, o, its, n, rfl, lT, hd, r⟩, .inl rfl⟩, k⟩⟩
  subst e
  cases r
  exact h0 rfl
end

section
variable {X : Cx} {ca : Nat → Addr} {W : WX} {a b c o : Expr} {ea eb ec eo : E} {pos : Pos} {es : List Expr} {ees : List E} {x : Str} {p0 apos cpos : Pos} {k : Nat} {ps : List Str} {m : M} {dfs : List D}
theorem run_makeD {CX : CXT} {f C : Addr} {fd : FuncData} {sp : Sp} {E : XK} {pins : List (Addr × Obj)} {σ : L2.St} {H : Hp} {s : Shared} {Q : VK} {us ds : List Value} {vs dvs : List V} (M : Mk X.K C f) (F : FnOk X.prog X.w X.K X.mg X.base CX k f fd ps sp) (hr : Room (k + 1) X.A) (hb : Binds X.K fd ps ds) (hd : Vals dvs ds)
    (hx : PassesAt CX X σ E) (I : Inv X pins σ H s) (r : Vals vs us)
    (h : ∀ x dx, H x = none → H dx = none → dx ≠ x → sp (.ref x :: (vs ++ dvs)) (upd (upd H dx (.own x)) x (.ins C dx [])) (fun v H2 => v = .non ∧ Q (.ref x) H2) E) :
    wpAny (model X.prog X.w) X.A (call (.ref C) us) (EP X pins σ Q) X.xe s := by
  have hq := h (s.heap.objs.size + 1) s.heap.objs.size (I.hok.fresh (Nat.le_succ _)) (I.hok.fresh (Nat.le_refl _)) (Nat.ne_of_lt (Nat.lt_succ_self _))
  have I2 := Inv.made (C := C) I
  have r2 : Vals (V.ref (s.heap.objs.size + 1) :: (vs ++ dvs)) (Value.ref (s.heap.objs.size + 1) :: (us ++ ds)) := .cons rfl (r.append hd)
  have hl : ((Value.ref (s.heap.objs.size + 1) :: us) ++ ds).length = ps.length := by
    have e := r2.length
    rw [F.len _ _ _ _ hq] at e
    exact e.symm
  have b := hb _ (Value.ref (s.heap.objs.size + 1) :: us) I2.kIn hl
  refine wpAny_call (make_map (f := f) I.kIn M.makes M.init (beq_iff_eq.mp M.fn) (codeAny_mono (F.run _ X.stack _ _ ⟨Value.ref (s.heap.objs.size + 1) :: us, []⟩ (Value.ref (s.heap.objs.size + 1) :: us ++ ds) _ _ E (hr.make C us [])
    (I2.env0.make C us []) b r2 hq) fun r s' hq' => ?_))
  cases r with
  | error e => exact hx pins _ _ e s' I2 hq'
  | ok fl =>
    cases fl with
    | ret u =>
      obtain ⟨v, H', I3, rv, ev, q3⟩ := I2.after hq'
      subst ev
      exact ⟨rv, ⟨V.ref (s.heap.objs.size + 1), H', I3, rfl, q3⟩⟩
    | next => exact False.elim hq'
    | brk => exact False.elim hq'
    | cont => exact False.elim hq'
theorem pe_makeD {CX : CXT} {f C : Addr} {fd : FuncData} {sp : Sp} {E : L2.St → XK} {t : TA} {ds : List Value} {dvs : List V} (M : Mk X.K C f) (F : FnOk X.prog X.w X.K X.mg X.base CX k f fd ps sp) (hr : Room (k + 1) X.A) (hg : Gl X x) (hm : X.mg x = some (.ref C)) (hb : Binds X.K fd ps ds) (hd : Vals dvs ds) (hx : ∀ σ, PassesAt CX X σ (E σ))
    (ha : PA X (a :: es) t) (hdb : (x == ("__debug__" : Str)) = false := by decide) (he : starEach (a :: es) X.env = (false, eval a X.env) :: starEach es X.env := by rfl) (hpl : (backTo pos (starEach es X.env)).any (·.1) = false := by rfl) :
    PE X (.Call (.Name x p0) (a :: es) [] pos) (fun σ H Q => t σ H fun vs H1 => ∀ x dx, H1 x = none → H1 dx = none → dx ≠ x → sp (.ref x :: (vs ++ dvs)) (upd (upd H1 dx (.own x)) x (.ins C dx [])) (fun v H2 => v = .non ∧ Q (.ref x) H2) (E σ)) := by
  refine ⟨fun pins s σ H Q I h => ?_⟩
  refine wpAny_Call_Name_kw (ld_glob I hg hm ?_ hdb)
  refine PySem.W.callWith_K (h₀ := X.base) I.ok.mod.kin M.kp (thn (ha.run pos pins s σ H _ I h) fun us s1 ⟨vs, H1, I1, r, q⟩ => ⟨I1.kIn, ?_⟩) he hpl
  exact run_makeD M F hr hb hd (hx σ) I1 r q
def cMakeD (c : Nat) (m : M) (dfs : List D) (es : List E) : E := cMake c (fun ds st => m (ds ++ dfs) st) es
theorem qe_makeD {c : Nat} (F : CmD X.prog X.w X.K X.mg X.base ca k c x ps m dfs) (hr : Room (k + 1) X.A) (ok : Ok X W) (ha : QA X ca W (a :: es) (cArgs ees)) (hg : Gl X x) (hn : ees.length + dfs.length + 1 = ps.length := by rfl) (hdb : (x == ("__debug__" : Str)) = false := by decide)
    (he : starEach (a :: es) X.env = (false, eval a X.env) :: starEach es X.env := by rfl) (hpl : (backTo pos (starEach es X.env)).any (·.1) = false := by rfl) : QE X ca W (.Call (.Name x p0) (a :: es) [] pos) (cMakeD c m dfs ees) := by
  obtain ⟨f, fd, ds, dvs, h1, h2, h3, hd, hf, h4⟩ := F
  exact peW (pe_makeD (E := WE W) h2 h4 hr hg h1 h3 hd (fun σ => passAt ok.tk σ) ha hdb he hpl) fun σ H Q ⟨α, st, ρ, at0, p⟩ => tG_next2 at0 .refl p fun α1 st1 xs vs H1 q a1 x1 r1 p1 =>
    make_ok (ds := xs ++ dfs) a1.lk x1 (RVs.append r1 (hf _ _ _)) (by rw [List.length_append, cArgs_length q]; exact hn) p1
theorem run_fnD {CX : CXT} {f : Addr} {fd : FuncData} {sp : Sp} {E : XK} {pins : List (Addr × Obj)} {σ : L2.St} {H : Hp} {s : Shared} {Q : VK} {us ds : List Value} {vs dvs : List V} (F : FnOk X.prog X.w X.K X.mg X.base CX k f fd ps sp) (hr : Room k X.A) (hb : Binds X.K fd ps ds) (hd : Vals dvs ds) (hx : PassesAt CX X σ E)
    (I : Inv X pins σ H s) (r : Vals vs us) (h : sp (vs ++ dvs) H Q E) : wpAny (model X.prog X.w) X.A (call (.ref f) us) (EP X pins σ Q) X.xe s := by
  have r2 : Vals (vs ++ dvs) (us ++ ds) := r.append hd
  have hl : (us ++ ds).length = ps.length := by rw [← r2.length]; exact F.len _ _ _ _ h
  refine wpAny_call (codeAny_mono (F.run X.A X.stack s H ⟨us, []⟩ (us ++ ds) (vs ++ dvs) Q E hr I.env0 (hb s us I.kIn hl) r2 h) fun r s' hq => ?_)
  cases r with
  | error e => exact hx pins H s e s' I hq
  | ok fl =>
    cases fl with
    | ret u => exact I.after hq
    | next => exact False.elim hq
    | brk => exact False.elim hq
    | cont => exact False.elim hq
theorem pe_callD {CX : CXT} {f : Addr} {fd : FuncData} {sp : Sp} {E : L2.St → XK} {t : TA} {ds : List Value} {dvs : List V} (F : FnOk X.prog X.w X.K X.mg X.base CX k f fd ps sp) (hr : Room k X.A) (hg : Gl X x) (hm : X.mg x = some (.ref f)) (hk : PySem.W.keepIn X.K (.ref f) = true) (hb : Binds X.K fd ps ds) (hd : Vals dvs ds) (hx : ∀ σ, PassesAt CX X σ (E σ))
    (ha : PA X (a :: es) t) (hdb : (x == ("__debug__" : Str)) = false := by decide) (he : starEach (a :: es) X.env = (false, eval a X.env) :: starEach es X.env := by rfl) (hpl : (backTo pos (starEach es X.env)).any (·.1) = false := by rfl) :
    PE X (.Call (.Name x p0) (a :: es) [] pos) (fun σ H Q => t σ H fun vs H1 => sp (vs ++ dvs) H1 Q (E σ)) := by
  refine ⟨fun pins s σ H Q I h => ?_⟩
  refine wpAny_Call_Name_kw (ld_glob I hg hm ?_ hdb)
  refine PySem.W.callWith_K (h₀ := X.base) I.ok.mod.kin hk (thn (ha.run pos pins s σ H _ I h) fun us s1 ⟨vs, H1, I1, r, q⟩ => ⟨I1.kIn, ?_⟩) he hpl
  exact run_fnD F hr hb hd (hx σ) I1 r q
def cCallD (m : M) (dfs : List D) (es : List E) : E := cCall (fun ds st => m (ds ++ dfs) st) es
theorem qe_callD (F : FnD X.prog X.w X.K X.mg X.base ca k x ps m dfs) (hr : Room k X.A) (ok : Ok X W) (ha : QA X ca W (a :: es) (cArgs ees)) (hg : Gl X x) (hn : ees.length + dfs.length = ps.length := by rfl) (hdb : (x == ("__debug__" : Str)) = false := by decide)
    (he : starEach (a :: es) X.env = (false, eval a X.env) :: starEach es X.env := by rfl) (hpl : (backTo pos (starEach es X.env)).any (·.1) = false := by rfl) : QE X ca W (.Call (.Name x p0) (a :: es) [] pos) (cCallD m dfs ees) := by
  obtain ⟨f, fd, ds, dvs, h1, h2, h3, hd, hf, h4⟩ := F
  exact peW (pe_callD (E := WE W) h4 hr hg h1 h2 h3 hd (fun σ => passAt ok.tk σ) ha hdb he hpl) fun σ H Q ⟨α, st, ρ, at0, p⟩ => tG_next2 at0 .refl p fun α1 st1 xs vs H1 q a1 x1 r1 p1 =>
    sp_of (ds := xs ++ dfs) a1.lk x1 (RVs.append r1 (hf _ _ _)) (by rw [List.length_append, cArgs_length q]; exact hn) p1
end
end PM

set_option Elab.async false
set_option linter.all false
set_option maxRecDepth 100000
set_option maxHeartbeats 2000000
/-! PM21: ends of defs; bags of draws; ints without sign. -/
namespace PM
open PySem L2
theorem set_self {st : Sto} {n : Nat} {o : O} (h : st[n]? = some o) : st.set n o = st := by
  apply List.ext_getElem?
  intro i
  by_cases e : i = n
  · subst e; rw [List.getElem?_set_self (lt_get h), h]
  · rw [List.getElem?_set_ne (Ne.symm e)]
theorem set_last {st : Sto} {o o' : O} : (st ++ [o]).set st.length o' = st ++ [o'] := by
  rw [List.set_append_right _ _ (Nat.le_refl _), Nat.sub_self]; rfl
theorem gcR_loc {st st' : Sto} {n : Nat} (h : st.length ≤ n) : gcR st (.ok (.loc n) st') = .ok (.loc n) st' := by
  simp only [gcR]
  rw [if_neg]
  rintro ⟨_, h2⟩
  simp [below] at h2
  omega
/-! ### ends of defs -/
theorem def_nx {n : Nat} {s : S} {ds : List D} {ρ0 ρ : PM.Env} {st st' : Sto} (h0 : ds.map some ++ List.replicate (n - ds.length) none = ρ0) (h : s ρ0 st = .nx ρ st') (hl : st'.length = st.length) : mDef n s ds st = .ok .non st' := by
  show gcR st (outR (s (ds.map some ++ List.replicate (n - ds.length) none) st)) = _
  rw [h0, h]
  exact gcR_same hl
theorem def_rt {n : Nat} {s : S} {ds : List D} {ρ0 : PM.Env} {st st' : Sto} {d : D} (h0 : ds.map some ++ List.replicate (n - ds.length) none = ρ0) (h : s ρ0 st = .rt d st') (hl : st'.length = st.length) : mDef n s ds st = .ok d st' := by
  show gcR st (outR (s (ds.map some ++ List.replicate (n - ds.length) none) st)) = _
  rw [h0, h]
  exact gcR_same hl
theorem def_pure {n : Nat} {s : S} {ds : List D} {ρ0 : PM.Env} {st g : Sto} {d : D} (h0 : ds.map some ++ List.replicate (n - ds.length) none = ρ0) (h : s ρ0 st = .rt d (st ++ g)) (hb : below st.length d = true) : mDef n s ds st = .ok d st := by
  show gcR st (outR (s (ds.map some ++ List.replicate (n - ds.length) none) st)) = _
  rw [h0, h]
  exact gcR_pure hb
theorem def_purn {n : Nat} {s : S} {ds : List D} {ρ0 ρ : PM.Env} {st g : Sto} (h0 : ds.map some ++ List.replicate (n - ds.length) none = ρ0) (h : s ρ0 st = .nx ρ (st ++ g)) : mDef n s ds st = .ok .non st := by
  show gcR st (outR (s (ds.map some ++ List.replicate (n - ds.length) none) st)) = _
  rw [h0, h]
  exact gcR_pure rfl
theorem def_loc {n m : Nat} {s : S} {ds : List D} {ρ0 : PM.Env} {st st' : Sto} (h0 : ds.map some ++ List.replicate (n - ds.length) none = ρ0) (h : s ρ0 st = .rt (.loc m) st') (hm : st.length ≤ m) : mDef n s ds st = .ok (.loc m) st' := by
  show gcR st (outR (s (ds.map some ++ List.replicate (n - ds.length) none) st)) = _
  rw [h0, h]
  exact gcR_loc hm
/-- behind a def, whatever is thrown away: the store or what stands behind -/
theorem def_gc {n : Nat} {s : S} {ds : List D} {ρ0 : PM.Env} {st st' : Sto} {d : D} (h0 : ds.map some ++ List.replicate (n - ds.length) none = ρ0) (h : s ρ0 st = .rt d st') : mDef n s ds st = .ok d st' ∨ (mDef n s ds st = .ok d st ∧ st <+: st' ∧ below st.length d = true) := by
  by_cases hc : st <+: st' ∧ below st.length d = true
  · refine .inr ⟨?_, hc⟩
    show gcR st (outR (s (ds.map some ++ List.replicate (n - ds.length) none) st)) = _
    rw [h0, h]
    simp only [gcR, outR]; rw [if_pos hc]
  · refine .inl ?_
    show gcR st (outR (s (ds.map some ++ List.replicate (n - ds.length) none) st)) = _
    rw [h0, h]
    simp only [gcR, outR]; rw [if_neg hc]
/-! ### a bag: a list of w ints, from which is drawn -/
def Bg (w b : Nat) (st : Sto) : Prop := ∃ l : List Int, l.length = w ∧ st[b]? = some (.lst (l.map .int))
/-- the store goes on: all stays but the bag b -/
structure Kp (w b : Nat) (st st' : Sto) : Prop where
  le : st.length ≤ st'.length
  eq : ∀ n o, st[n]? = some o → n ≠ b → st'[n]? = some o
  bag : Bg w b st'
section
variable {w b : Nat}
theorem Bg.lt {st : Sto} (h : Bg w b st) : b < st.length := by obtain ⟨l, _, e⟩ := h; exact lt_get e
theorem Kp.refl {st : Sto} (h : Bg w b st) : Kp w b st st := ⟨Nat.le_refl _, fun _ _ h _ => h, h⟩
theorem Kp.trans {s t u : Sto} (h : Kp w b s t) (k : Kp w b t u) : Kp w b s u := ⟨Nat.le_trans h.le k.le, fun n o e hn => k.eq n o (h.eq n o e hn) hn, k.bag⟩
theorem Kp.app {st g : Sto} (h : Bg w b st) : Kp w b st (st ++ g) := ⟨by simp, fun n o e _ => get_app e, by
  obtain ⟨l, hl, e⟩ := h
  exact ⟨l, hl, get_app e⟩⟩
theorem Kp.app' {s st g : Sto} (h : Kp w b s st) : Kp w b s (st ++ g) := h.trans (Kp.app h.bag)
theorem Kp.pre {st st' : Sto} (h : Bg w b st) (p : st <+: st') : Kp w b st st' := by
  obtain ⟨g, rfl⟩ := p
  exact Kp.app h
theorem Kp.setB {st : Sto} {l : List Int} (h : Bg w b st) (hl : l.length = w) : Kp w b st (st.set b (.lst (l.map .int))) := by
  obtain ⟨l', hl', e⟩ := h
  exact ⟨by simp, fun n o e hn => by rw [get_set_ne hn]; exact e, l, hl, get_set_eq e⟩
/-- an object that is new is written -/
theorem Kp.new {s t : Sto} {n : Nat} {o : O} (h : Kp w b s t) (hn : s.length ≤ n) (hb : n ≠ b) : Kp w b s (t.set n o) := ⟨by rw [List.length_set]; exact h.le, fun m o' e hm => by
  rw [get_set_ne (by have := lt_get e; omega)]
  exact h.eq m o' e hm, by
  obtain ⟨l, hl, e⟩ := h.bag
  exact ⟨l, hl, by rw [get_set_ne (Ne.symm hb)]; exact e⟩⟩
/-- an object that is no longer asked for is written: all stays but the bag and what is written -/
theorem gcR_kp {st st' : Sto} {d : D} (hb : Bg w b st) (h : Kp w b st st') : ∃ st2, gcR st (.ok d st') = .ok d st2 ∧ Kp w b st st2 := by
  by_cases hc : st <+: st' ∧ below st.length d = true
  · exact ⟨st, by simp only [gcR]; rw [if_pos hc], Kp.refl hb⟩
  · exact ⟨st', by simp only [gcR]; rw [if_neg hc], h⟩
theorem def_kp {n : Nat} {s : S} {ds : List D} {ρ0 : PM.Env} {st st' : Sto} {d : D} (h0 : ds.map some ++ List.replicate (n - ds.length) none = ρ0) (h : s ρ0 st = .rt d st') (hb : Bg w b st) (k : Kp w b st st') : ∃ st2, mDef n s ds st = .ok d st2 ∧ Kp w b st st2 := by
  obtain ⟨st2, e, k2⟩ := gcR_kp (d := d) hb k
  refine ⟨st2, ?_, k2⟩
  show gcR st (outR (s (ds.map some ++ List.replicate (n - ds.length) none) st)) = _
  rw [h0, h]
  exact e
theorem atD_in {xs : List D} {i : Int} (st : Sto) (h0 : 0 ≤ i) (h1 : i < xs.length) : ∃ x, x ∈ xs ∧ atD xs (.int i) st = .ok x st := by
  obtain ⟨n, rfl⟩ : ∃ n : Nat, i = n := ⟨i.toNat, by omega⟩
  have hn : n < xs.length := by omega
  exact ⟨xs[n], List.getElem_mem hn, atD_nat st (List.getElem?_eq_getElem hn)⟩
/-- a draw: a value of the form P; the store goes on -/
def Drw (w b : Nat) (st : Sto) (r : R D) (P : D → Prop) : Prop := ∃ v st', r = .ok v st' ∧ Kp w b st st' ∧ P v
theorem drw_of {n : Nat} {s : S} {ds : List D} {ρ0 : PM.Env} {st st' : Sto} {d : D} {P : D → Prop} (h0 : ds.map some ++ List.replicate (n - ds.length) none = ρ0) (hb : Bg w b st) (k : Kp w b st st') (p : P d) (h : s ρ0 st = .rt d st') : Drw w b st (mDef n s ds st) P := by
  obtain ⟨st2, e, k2⟩ := def_kp h0 h hb k
  exact ⟨d, st2, e, k2, p⟩
theorem mem_rng {a : Int} {n : Nat} {x : D} (h : x ∈ rngD a n) : ∃ k : Int, x = .int k ∧ a ≤ k ∧ k < a + n := by
  obtain ⟨i, hi, rfl⟩ := List.mem_map.mp h
  have := List.mem_range.mp hi
  exact ⟨a + i, rfl, by omega, by omega⟩
theorem comp_drw {i : Nat} {te : E} {ρ : PM.Env} {Q : D → Prop} {s0 : Sto} : ∀ (xs : List D) (st : Sto), Kp w b s0 st → (∀ x ∈ xs, ∀ st, Kp w b s0 st → Drw w b st (te (ρ.set i (some x)) st) Q) →
    ∃ ys st', compGo (fun _ => True) (.one i) tYesD te ρ xs st = .ok ys st' ∧ Kp w b s0 st' ∧ ys.length = xs.length ∧ ∀ y ∈ ys, Q y
  | [], st, k, _ => ⟨[], st, compGo_nil trivial, k, rfl, by simp⟩
  | x :: r, st, k, h => by
    obtain ⟨y, st1, e1, k1, q1⟩ := h x List.mem_cons_self st k
    obtain ⟨ys, st2, e2, k2, l2, q2⟩ := comp_drw (i := i) (te := te) (ρ := ρ) (Q := Q) r st1 (k.trans k1) fun z hz => h z (List.mem_cons_of_mem _ hz)
    refine ⟨y :: ys, st2, ?_, k2, by simp [l2], ?_⟩
    · rw [compGo_cons (ρ1 := ρ.set i (some x)) trivial rfl rfl e1, e2]; rfl
    · intro z hz
      rcases List.mem_cons.mp hz with h | h
      · subst h; exact q1
      · exact q2 z h
/-- a comprehension that draws -/
theorem ccomp_drw {i : Nat} {it : EI} {te : E} {ρ : PM.Env} {Q : D → Prop} {xs : List D} {s0 st : Sto} (hi : it ρ s0 = .ok ⟨fun _ => True, xs⟩ st) (k : Kp w b s0 st) (hz : xs.length ≤ 10000) (h : ∀ x ∈ xs, ∀ s, Kp w b s0 s → Drw w b s (te ((ρ.set i none).set i (some x)) s) Q) :
    ∃ ys st', cComp it (.one i) tYesD te [i] ρ s0 = .ok ys st' ∧ Kp w b s0 st' ∧ ys.length = xs.length ∧ ∀ y ∈ ys, Q y := by
  obtain ⟨ys, st', e, r⟩ := comp_drw (i := i) (te := te) (ρ := ρ.set i none) (Q := Q) xs st k h
  exact ⟨ys, st', by rw [cComp_ap, hi, R.bind_ok, if_pos (Nat.le_trans hz (by decide))]; exact e, r⟩
theorem appD_at {q : Nat} {l : List D} {y : D} {st : Sto} (h : st[q]? = some (.lst l)) (hz : l.length < 1000000) : appD (.loc q) [y] st = .ok .non (st.set q (.lst (l ++ [y]))) := by
  simp only [appD, h]
  rw [if_pos (Nat.lt_of_lt_of_le hz (by decide))]
end
theorem ifdiv_ok : ∀ x y st, (∃ z, ifdivD x y st = .ok z st) ∨ ifdivD x y st = .bad := by
  intro x y st
  cases x <;> cases y <;> try exact .inr rfl
  rename_i i j
  show (∃ z, (if fdivC i j = true then R.ok (D.int (i.fdiv j)) st else .bad) = .ok z st) ∨ (if fdivC i j = true then R.ok (D.int (i.fdiv j)) st else .bad) = .bad
  split
  · exact .inl ⟨_, rfl⟩
  · exact .inr rfl
/-! ### ints without sign -/
theorem nat_and (a b : Nat) : Builtin.bitAnd (a : Int) (b : Int) = ((a &&& b : Nat) : Int) := by
  rw [PyProof.Rows.bitAnd_pp (by omega) (by omega)]; simp
theorem bits_id : ∀ (n a b : Nat), a ≤ n → a + b = (a ||| b) + (a &&& b) ∧ a + b = (a ^^^ b) + 2 * (a &&& b)
  | 0, a, b, h => by
    have : a = 0 := by omega
    subst this
    simp
  | n + 1, a, b, h => by
    by_cases h0 : a = 0
    · subst h0; simp
    obtain ⟨i1, i2⟩ := bits_id n (a / 2) (b / 2) (by omega)
    have o1 := Nat.div_add_mod (a ||| b) 2
    have o2 := Nat.div_add_mod (a &&& b) 2
    have o3 := Nat.div_add_mod (a ^^^ b) 2
    rw [Nat.or_div_two] at o1
    rw [Nat.and_div_two] at o2
    rw [Nat.xor_div_two] at o3
    have p1 : (a ||| b) % 2 = a % 2 ||| b % 2 := Nat.or_mod_two_pow (n := 1)
    have p2 : (a &&& b) % 2 = a % 2 &&& b % 2 := Nat.and_mod_two_pow (n := 1)
    have p3 : (a ^^^ b) % 2 = a % 2 ^^^ b % 2 := Nat.xor_mod_two_pow (n := 1)
    have q1 := Nat.div_add_mod a 2
    have q2 := Nat.div_add_mod b 2
    rcases Nat.mod_two_eq_zero_or_one a with ha | ha <;> rcases Nat.mod_two_eq_zero_or_one b with hb | hb <;> rw [ha, hb] at p1 p2 p3 <;> simp only [Nat.zero_or, Nat.or_zero, Nat.zero_and, Nat.and_zero, Nat.zero_xor, Nat.xor_zero, Nat.or_self, Nat.and_self, Nat.xor_self] at p1 p2 p3 <;> omega
theorem nat_or (a b : Nat) : Builtin.bitOr (a : Int) (b : Int) = ((a ||| b : Nat) : Int) := by
  rw [PyProof.Rows.bitOr_and, nat_and]
  have h := (bits_id a a b (Nat.le_refl _)).1
  omega
theorem nat_xor (a b : Nat) : Builtin.bitXor (a : Int) (b : Int) = ((a ^^^ b : Nat) : Int) := by
  rw [PyProof.Rows.bitXor_and, nat_and]
  have h := (bits_id a a b (Nat.le_refl _)).2
  omega
@[simp] theorem andD_nat (a b : Nat) (st : Sto) : andD (.int (a : Int)) (.int (b : Int)) st = .ok (.int ((a &&& b : Nat) : Int)) st := by
  show R.ok (D.int (Builtin.bitAnd a b)) st = _
  rw [nat_and]
@[simp] theorem orD_nat (a b : Nat) (st : Sto) : orD (.int (a : Int)) (.int (b : Int)) st = .ok (.int ((a ||| b : Nat) : Int)) st := by
  show R.ok (D.int (Builtin.bitOr a b)) st = _
  rw [nat_or]
@[simp] theorem xorD_nat (a b : Nat) (st : Sto) : xorD (.int (a : Int)) (.int (b : Int)) st = .ok (.int ((a ^^^ b : Nat) : Int)) st := by
  show R.ok (D.int (Builtin.bitXor a b)) st = _
  rw [nat_xor]
theorem shlD_nat {a n : Nat} (st : Sto) (h : a < 2 ^ 64) (hn : n ≤ 1000000) : shlD (.int (a : Int)) (.int (n : Int)) st = .ok (.int ((a * 2 ^ n : Nat) : Int)) st := by
  show (if shC a n = true then R.ok (D.int ((a : Int) * 2 ^ (n : Int).toNat)) st else .bad) = _
  rw [if_pos (by unfold shC; simp; omega)]
  simp
theorem shrD_nat {a n : Nat} (st : Sto) : shrD (.int (a : Int)) (.int (n : Int)) st = .ok (.int ((a / 2 ^ n : Nat) : Int)) st := by
  show (if decide (0 ≤ (n : Int)) = true then R.ok (D.int ((a : Int) / 2 ^ (n : Int).toNat)) st else .bad) = _
  rw [if_pos (by simp)]
  simp
theorem modD_nat {a n : Nat} (st : Sto) (h : n ≠ 0) : modD (.int (a : Int)) (.int (n : Int)) st = .ok (.int ((a % n : Nat) : Int)) st := by
  rw [modD_int st (by omega), Int.fmod_eq_emod_of_nonneg _ (by omega)]
  rfl
theorem fdivD_nat {a n : Nat} (st : Sto) (h : n ≠ 0) (h2 : n < 2 ^ 64) : fdivD (.int (a : Int)) (.int (n : Int)) st = .ok (.int ((a / n : Nat) : Int)) st := by
  rw [fdivD_int st (by omega) (small_log (by omega)), Int.fdiv_eq_ediv_of_nonneg _ (by omega)]
  rfl
theorem mulD_nat {a n : Nat} (st : Sto) (h2 : n < 2 ^ 64) : mulD (.int (a : Int)) (.int (n : Int)) st = .ok (.int ((a * n : Nat) : Int)) st := by
  rw [mulD_int st (by omega)]
  simp
theorem addD_nat (a n : Nat) (st : Sto) : addD (.int (a : Int)) (.int (n : Int)) st = .ok (.int ((a + n : Nat) : Int)) st := by
  rw [addD_int]
  simp
end PM

set_option Elab.async false
set_option linter.all false
set_option maxRecDepth 100000
set_option maxHeartbeats 4000000
/-! the mirrors of k54 (printed by gen.py) -/
namespace PMl
open PySem PM
def mt_BadBits : Nat → Option Bool
  | 8 => some false
  | _ => none
def mt_BadLetter : Nat → Option Bool
  | 8 => some false
  | _ => none
def mt_TooFar : Nat → Option Bool
  | 8 => some true
  | _ => none
def k_FORMS : D := (.tup [(.str "moves"), (.str "have"), (.str "got"), (.str "stamps"), (.str "pace"), (.str "join"), (.str "leave"), (.str "save"), (.str "mark"), (.str "which"), (.str "parts"), (.str "sums"), (.str "part"), (.str "leaf"), (.str "view"), (.str "seen")])
def k_GREATEST_SUM : D := (.int 2305843009213693950)
def k_LIFE : D := (.int 16777216)
def k_MOST_BODY : D := (.int 480)
def k_MOST_COUNT : D := (.int 4294967295)
def k_MOST_LETTER : D := (.int 492)
def k_MOST_PARTS : D := (.int 121)
def k_MOST_TICK : D := (.int 1073741823)
def k_PRIME : D := (.int 18446744073709550147)
def k_WINDOW : D := (.int 64)
def k_WORDS : D := (.int 18446744073709551616)
def k_LAYOUT : List (Str × D) := [("moves", (.tup [(.str "seat"), (.str "tick"), (.str "row")])), ("have", (.tup [(.str "seat"), (.str "tick"), (.str "tick")])), ("got", (.tup [(.str "seat"), (.str "tick")])), ("stamps", (.tup [(.str "tick"), (.str "rows")])), ("pace", (.tup [(.str "tick")])), ("join", (.tup [(.str "seat")])), ("leave", (.tup [(.str "seat")])), ("save", (.tup [(.str "tick"), (.str "saves"), (.str "index"), (.str "bytes")])), ("mark", (.tup [(.str "seat"), (.str "tick"), (.str "sum")])), ("which", (.tup [(.str "seat"), (.str "tick")])), ("parts", (.tup [(.str "seat"), (.str "tick")])), ("sums", (.tup [(.str "seat"), (.str "tick"), (.str "sum"), (.str "groups"), (.str "index"), (.str "sums")])), ("part", (.tup [(.str "seat"), (.str "tick"), (.str "number")])), ("leaf", (.tup [(.str "seat"), (.str "tick"), (.str "number"), (.str "leaves"), (.str "index"), (.str "bytes")])), ("view", (.tup [(.str "tick"), (.str "base"), (.str "views"), (.str "index"), (.str "bytes")])), ("seen", (.tup [(.str "tick")]))]
def k_MANY : List (Str × D) := [("saves", (.int 86)), ("groups", (.int 8)), ("leaves", (.int 2)), ("views", (.int 128))]
def t_FORMS : List Str := ["moves", "have", "got", "stamps", "pace", "join", "leave", "save", "mark", "which", "parts", "sums", "part", "leaf", "view", "seen"]
noncomputable def b__law_is_same (m : M) : S := (sSeq (sIf (cTru (cB1 (isiD .tuple) (cVar 1))) (sSeq (sIf (tOrD (tNotD (cTru (cB1 (isiD .tuple) (cVar 0)))) (cTst (cOp2 neD (cB1 lenD (cVar 0)) (cB1 lenD (cVar 1))))) (sRet (cC (.bl false))) sNext)
  (sRet (cS1 allS (cComp (cRng1 (cB1 lenD (cVar 1))) (.one 2) tYesD (cCall m [(cOp2 getD (cVar 0) (cVar 2)), (cOp2 getD (cVar 1) (cVar 2))]) [2])))) sNext)
  (sSeq (sIf (cTru (cB1 (isiD .str) (cVar 1))) (sRet (cAnd (cB1 (isiD .str) (cVar 0)) (cOp2 eqD (cVar 0) (cVar 1)))) sNext)
  (sSeq (sIf (cTst (cOp2 isND (cVar 1) (cC .non))) (sRet (cOp2 isND (cVar 0) (cC .non))) sNext)
  (sRet (cAnd (cB1 (isiD .int) (cVar 0)) (cAnd (cNot (cB1 (isiD .bool) (cVar 0))) (cOp2 eqD (cVar 0) (cVar 1))))))))
noncomputable def m__law_is_same : Nat → M
  | 0 => fun _ _ => .bad
  | n + 1 => mDef 3 (b__law_is_same (m__law_is_same n))
noncomputable def b_is_integer : S := (sRet (cAnd (cB1 (isiD .int) (cVar 0)) (cAnd (cNot (cB1 (isiD .bool) (cVar 0))) (cChain leD leD (cVar 1) (cVar 0) (cVar 2)))))
noncomputable def m_is_integer : M := mDef 3 b_is_integer
noncomputable def b_fits : S := (sSeq (sIf (cTst (cOp2 eqD (cVar 1) (cC (.str "seat")))) (sRet (cCall m_is_integer [(cVar 2), (cC (.int 0)), (cOp2 subD (cOp2 getD (cVar 0) (cC (.int 2))) (cC (.int 1)))])) sNext)
  (sSeq (sIf (cTst (cOp2 eqD (cVar 1) (cC (.str "tick")))) (sRet (cCall m_is_integer [(cVar 2), (cC (.int 0)), (cC k_MOST_TICK)])) sNext)
  (sSeq (sIf (cTst (cOp2 eqD (cVar 1) (cC (.str "base")))) (sRet (cCall m_is_integer [(cVar 2), (cOp1 negD (cC (.int 1))), (cC k_MOST_TICK)])) sNext)
  (sSeq (sIf (cTst (cOp2 eqD (cVar 1) (cC (.str "sum")))) (sRet (cCall m_is_integer [(cVar 2), (cC (.int 0)), (cC k_GREATEST_SUM)])) sNext)
  (sSeq (sIf (cTst (cOp2 eqD (cVar 1) (cC (.str "number")))) (sRet (cCall m_is_integer [(cVar 2), (cC (.int 0)), (cOp2 subD (cC k_MOST_PARTS) (cC (.int 1)))])) sNext)
  (sSeq (sIf (cTst (cOp2 eqD (cVar 1) (cC (.str "bytes")))) (sRet cBad) sNext)
  (sSeq (sIf (cTst (cOp2 eqD (cVar 1) (cC (.str "sums")))) (sRet cBad) sNext)
  (sSeq (sIf (cTst (cOp2 eqD (cVar 1) (cC (.str "row")))) (sRet cBad) sNext)
  (sRet cBad)))))))))
noncomputable def m_fits : M := mDef 3 b_fits
noncomputable def b_is_letter : S := (sSeq (sIf (tOrD (tNotD (cTru (cB1 (isiD .tuple) (cVar 1)))) (tOrD (cTst (cOp2 eqD (cB1 lenD (cVar 1)) (cC (.int 0)))) (tNotD (cTru (cB1 (isiD .str) (cOp2 getD (cVar 1) (cC (.int 0)))))))) (sRet (cC (.bl false))) sNext)
  (sSeq (sIf (tOrD (cTst (cTabIn true k_LAYOUT (cOp2 getD (cVar 1) (cC (.int 0))))) (cTst (cOp2 neD (cB1 lenD (cVar 1)) (cOp2 addD (cB1 lenD (cTab k_LAYOUT (cOp2 getD (cVar 1) (cC (.int 0))))) (cC (.int 1)))))) (sRet (cC (.bl false))) sNext)
  (sSeq (sSet 2 (cC (.int 1)))
  (sSeq (sFor (cZip [(cTab k_LAYOUT (cOp2 getD (cVar 1) (cC (.int 0)))), (cSlice (cVar 1) (cPart (cC (.int 1))) cNoPart)]) (gT 2 (gsCons (gN 3) (gsCons (gN 4) gsNil))) (sIf (cTst (cTabIn false k_MANY (cVar 3))) (sSeq (sIf (tNotD (cTru (cCall m_is_integer [(cVar 4), (cC (.int 1)), (cTab k_MANY (cVar 3))]))) (sRet (cC (.bl false))) sNext)
  (sSet 2 (cVar 4))) (sIf (cTst (cOp2 eqD (cVar 3) (cC (.str "index")))) (sIf (tNotD (cTru (cCall m_is_integer [(cVar 4), (cC (.int 0)), (cOp2 subD (cVar 2) (cC (.int 1)))]))) (sRet (cC (.bl false))) sNext) (sIf (tNotD (cTru (cCall m_fits [(cVar 0), (cVar 3), (cVar 4)]))) (sRet (cC (.bl false))) sNext))))
  (sRet (cC (.bl true)))))))
noncomputable def m_is_letter : M := mDef 5 b_is_letter
noncomputable def b_Reader__seen : S := (sSeq (sIf (cTst (cOp2 gtD (cOp2 addD (cVar 1) (cVar 2)) (cOp2 mulD (cC (.int 8)) (cB1 lenD (cB1 (fldOf [2, 3] "_row") (cVar 0)))))) sBad sNext)
  (sSeq (sSet 4 (cOp2 fdivD (cOp2 addD (cOp2 addD (cVar 1) (cVar 2)) (cC (.int 7))) (cC (.int 8))))
  (sSeq (sSet 5 (cC (.int 0)))
  (sSeq (sFor (cItr (cSlice (cB1 (fldOf [2, 3] "_row") (cVar 0)) (cPart (cOp2 fdivD (cVar 1) (cC (.int 8)))) (cPart (cVar 4)))) (gN 6) (sSet 5 (cOp2 addD (cOp2 mulD (cVar 5) (cC (.int 256))) (cVar 6))))
  (sRet (cOp2 andD (cOp2 shrD (cVar 5) (cOp2 subD (cOp2 subD (cOp2 mulD (cC (.int 8)) (cVar 4)) (cVar 1)) (cVar 2))) (cOp2 subD (cOp2 shlD (cC (.int 1)) (cVar 2)) (cC (.int 1)))))))))
noncomputable def m_Reader__seen : M := mDef 7 b_Reader__seen
noncomputable def b_Reader_finish : S := (sSeq (sSet 1 (cOp2 subD (cOp2 mulD (cC (.int 8)) (cB1 lenD (cB1 (fldOf [2, 3] "_row") (cVar 0)))) (cB1 (fldOf [3] "_at") (cVar 0))))
  (sIf (tOrD (cTst (cOp2 geD (cVar 1) (cC (.int 8)))) (cTst (cOp2 neD (cMeth 3 "_seen" m_Reader__seen (cVar 0) [(cB1 (fldOf [3] "_at") (cVar 0)), (cVar 1), (cB1 (fldOf [3] "_at") (cVar 0))]) (cC (.int 0))))) sBad sNext))
noncomputable def m_Reader_finish : M := mDef 2 b_Reader_finish
noncomputable def b_Reader_number : S := (sSeq (sSet 1 (cB1 (fldOf [3] "_at") (cVar 0)))
  (sSeq (sSet 2 (cMeth 3 "_seen" m_Reader__seen (cVar 0) [(cVar 1), (cC (.int 5)), (cVar 1)]))
  (sSeq (sIf (cTst (cOp2 eqD (cVar 2) (cC (.int 31)))) sBad sNext)
  (sSeq (sSet 3 (cMeth 3 "_seen" m_Reader__seen (cVar 0) [(cOp2 addD (cVar 1) (cC (.int 5))), (cVar 2), (cVar 1)]))
  (sSeq (sFldD [3] "_at" (cVar 0) (cOp2 addD (cOp2 addD (cVar 1) (cC (.int 5))) (cVar 2)))
  (sRet (cOp2 subD (cOp2 addD (cOp2 shlD (cC (.int 1)) (cVar 2)) (cVar 3)) (cC (.int 1)))))))))
noncomputable def m_Reader_number : M := mDef 4 b_Reader_number
noncomputable def b_Reader_take : S := (sSeq (sSet 2 (cMeth 3 "_seen" m_Reader__seen (cVar 0) [(cB1 (fldOf [3] "_at") (cVar 0)), (cVar 1), (cB1 (fldOf [3] "_at") (cVar 0))]))
  (sSeq (sFldAugD [3] "_at" iaddD (cVar 0) (cVar 1))
  (sRet (cVar 2))))
noncomputable def m_Reader_take : M := mDef 3 b_Reader_take
noncomputable def b_take_field : S := (sSeq (sIf (cTst (cOp2 eqD (cVar 2) (cC (.str "seat")))) (sRet (cMeth 3 "take" m_Reader_take (cVar 0) [(cC (.int 3))])) sNext)
  (sSeq (sIf (cTst (cOp2 eqD (cVar 2) (cC (.str "tick")))) (sRet (cMeth 3 "number" m_Reader_number (cVar 0) [])) sNext)
  sBad))
noncomputable def m_take_field : M := mDef 5 b_take_field
noncomputable def b_taken : S := (sSeq (sSet 2 (cOp2 getD (cC k_FORMS) (cMeth 3 "take" m_Reader_take (cVar 0) [(cC (.int 4))])))
  (sSeq (sSet 3 (cNew (cLst [(cVar 2)])))
  (sSeq (sFor (cItr (cTab k_LAYOUT (cVar 2))) (gN 4) (sExp (cApp (cVar 3) (cCall m_take_field [(cVar 0), (cVar 1), (cVar 4)]))))
  (sSeq (sExp (cMeth 3 "finish" m_Reader_finish (cVar 0) []))
  (sRet (cS1 tupS (cSeq (cVar 3))))))))
noncomputable def m_taken : M := mDef 5 b_taken
noncomputable def b_Reader_init : S := (sSeq (sFldD [2, 3] "_row" (cVar 0) (cVar 1))
  (sFldD [3] "_at" (cVar 0) (cC (.int 0))))
noncomputable def m_Reader_init : M := mDef 2 b_Reader_init
noncomputable def b_is_bytes : S := (sRet (cAnd (cB1 (isiD .tuple) (cVar 0)) (cS1 allS (cComp (cItr (cVar 0)) (.one 1) tYesD (cCall m_is_integer [(cVar 1), (cC (.int 0)), (cC (.int 255))]) [1]))))
noncomputable def m_is_bytes : M := mDef 2 b_is_bytes
noncomputable def b_unpack : S := (sSeq (sIf (tOrD (tNotD (cTru (cCall m_is_bytes [(cVar 1)]))) (cTst (cOp2 gtD (cB1 lenD (cVar 1)) (cC k_MOST_BODY)))) sBad sNext)
  (sSeq (sTry mt_BadBits (sSet 2 (cCall m_taken [(cMake 3 m_Reader_init [(cVar 1)]), (cVar 0)])) sBad)
  (sSeq (sIf (tNotD (cTru (cCall m_is_letter [(cVar 0), (cVar 2)]))) sBad sNext)
  (sRet (cVar 2)))))
noncomputable def m_unpack : M := mDef 3 b_unpack
noncomputable def b_number_of : S := (sSeq (sSet 1 (cC (.int 0)))
  (sSeq (sFor (cItr (cVar 0)) (gN 2) (sSet 1 (cOp2 addD (cOp2 mulD (cVar 1) (cC (.int 256))) (cVar 2))))
  (sRet (cVar 1))))
noncomputable def m_number_of : M := mDef 3 b_number_of
noncomputable def b_turn : S := (sRet (cOp2 addD (cOp2 modD (cOp2 shlD (cVar 0) (cVar 1)) (cC k_WORDS)) (cOp2 shrD (cVar 0) (cOp2 subD (cC (.int 64)) (cVar 1)))))
noncomputable def m_turn : M := mDef 2 b_turn
noncomputable def b_one_round : S := (sSeq (sSet 0 (cOp2 modD (cOp2 addD (cVar 0) (cVar 1)) (cC k_WORDS)))
  (sSeq (sSet 1 (cOp2 xorD (cCall m_turn [(cVar 1), (cC (.int 13))]) (cVar 0)))
  (sSeq (sSet 0 (cCall m_turn [(cVar 0), (cC (.int 32))]))
  (sSeq (sSet 2 (cOp2 modD (cOp2 addD (cVar 2) (cVar 3)) (cC k_WORDS)))
  (sSeq (sSet 3 (cOp2 xorD (cCall m_turn [(cVar 3), (cC (.int 16))]) (cVar 2)))
  (sSeq (sSet 0 (cOp2 modD (cOp2 addD (cVar 0) (cVar 3)) (cC k_WORDS)))
  (sSeq (sSet 3 (cOp2 xorD (cCall m_turn [(cVar 3), (cC (.int 21))]) (cVar 0)))
  (sSeq (sSet 2 (cOp2 modD (cOp2 addD (cVar 2) (cVar 1)) (cC k_WORDS)))
  (sSeq (sSet 1 (cOp2 xorD (cCall m_turn [(cVar 1), (cC (.int 17))]) (cVar 2)))
  (sSeq (sSet 2 (cCall m_turn [(cVar 2), (cC (.int 32))]))
  (sRet (cTup [(cVar 0), (cVar 1), (cVar 2), (cVar 3)]))))))))))))
noncomputable def m_one_round : M := mDef 4 b_one_round
noncomputable def b_mix : S := (sSeq (sSet 3 (cOp2 xorD (cVar 0) (cC (.int 8317987319222330741))))
  (sSeq (sSet 4 (cOp2 xorD (cVar 1) (cC (.int 7237128888997146477))))
  (sSeq (sSet 5 (cOp2 xorD (cVar 0) (cC (.int 7816392313619706465))))
  (sSeq (sSet 6 (cOp2 xorD (cVar 1) (cC (.int 8387220255154660723))))
  (sSeq (sFor (cItr (cOp2 addD (cS1 tupS (cSeq (cVar 2))) (cTup [(cB1 lenD (cVar 2))]))) (gN 7) (sSeq (sAsg (cCall m_one_round [(cVar 3), (cVar 4), (cVar 5), (cOp2 xorD (cVar 6) (cVar 7))]) (gT 4 (gsCons (gN 3) (gsCons (gN 4) (gsCons (gN 5) (gsCons (gN 6) gsNil))))))
  (sSeq (sAsg (cCall m_one_round [(cVar 3), (cVar 4), (cVar 5), (cVar 6)]) (gT 4 (gsCons (gN 3) (gsCons (gN 4) (gsCons (gN 5) (gsCons (gN 6) gsNil))))))
  (sSet 3 (cOp2 xorD (cVar 3) (cVar 7))))))
  (sSeq (sSet 5 (cOp2 xorD (cVar 5) (cC (.int 255))))
  (sSeq (sFor (cRng1 (cC (.int 4))) (gN 8) (sAsg (cCall m_one_round [(cVar 3), (cVar 4), (cVar 5), (cVar 6)]) (gT 4 (gsCons (gN 3) (gsCons (gN 4) (gsCons (gN 5) (gsCons (gN 6) gsNil)))))))
  (sRet (cOp2 xorD (cOp2 xorD (cOp2 xorD (cVar 3) (cVar 4)) (cVar 5)) (cVar 6))))))))))
noncomputable def m_mix : M := mDef 9 b_mix
noncomputable def b_tag : S := (sSeq (sSet 3 (cC (.int 0)))
  (sSeq (sFor (cItr (cVar 2)) (gN 4) (sSet 3 (cOp2 modD (cOp2 addD (cOp2 addD (cOp2 mulD (cVar 3) (cOp2 getD (cVar 0) (cC (.int 1)))) (cVar 4)) (cC (.int 1))) (cC k_PRIME))))
  (sRet (cOp2 modD (cOp2 addD (cOp2 mulD (cVar 3) (cOp2 getD (cVar 0) (cC (.int 1)))) (cCall m_mix [(cOp2 getD (cVar 0) (cC (.int 2))), (cOp2 getD (cVar 0) (cC (.int 3))), (cTup [(cVar 1)])])) (cC k_PRIME)))))
noncomputable def m_tag : M := mDef 5 b_tag
noncomputable def b_unsealed : S := (sSeq (sIf (tOrD (tNotD (cTru (cCall m_is_bytes [(cVar 1)]))) (tOrD (cTst (cOp2 ltD (cB1 lenD (cVar 1)) (cC (.int 13)))) (cTst (cOp2 gtD (cB1 lenD (cVar 1)) (cC k_MOST_LETTER))))) (sRet (cC .non)) sNext)
  (sSeq (sSet 2 (cCall m_number_of [(cSlice (cVar 1) cNoPart (cPart (cC (.int 4))))]))
  (sSeq (sSet 3 (cSlice (cVar 1) (cPart (cC (.int 4))) (cPart (cOp1 negD (cC (.int 8))))))
  (sSeq (sIf (tOrD (cTst (cOp2 eqD (cVar 2) (cC (.int 0)))) (cTst (cOp2 neD (cCall m_number_of [(cSlice (cVar 1) (cPart (cOp1 negD (cC (.int 8)))) cNoPart)]) (cCall m_tag [(cVar 0), (cVar 2), (cVar 3)])))) (sRet (cC .non)) sNext)
  (sRet (cTup [(cVar 2), (cVar 3)]))))))
noncomputable def m_unsealed : M := mDef 4 b_unsealed
noncomputable def b_Opener_opened : S := (sSeq (sSet 2 (cCall m_unsealed [(cB1 (fldOf [0, 1] "_key") (cVar 0)), (cVar 1)]))
  (sSeq (sIf (cTst (cOp2 isND (cVar 2) (cC .non))) (sRet (cC .non)) sNext)
  (sSeq (sAsg (cVar 2) (gT 2 (gsCons (gN 3) (gsCons (gN 4) gsNil))))
  (sSeq (sIf (tOrD (cTst (cOp2 leD (cVar 3) (cOp2 subD (cB1 (fldOf [1] "_greatest") (cVar 0)) (cC k_WINDOW)))) (cTst (cOp2 inD (cVar 3) (cB1 (fldOf [1] "_taken") (cVar 0))))) (sRet (cC .non)) sNext)
  (sSeq (sSub (cB1 (fldOf [1] "_taken") (cVar 0)) (cVar 3) (cC (.bl true)))
  (sSeq (sIf (cTst (cOp2 gtD (cVar 3) (cB1 (fldOf [1] "_greatest") (cVar 0)))) (sSeq (sFldD [1] "_greatest" (cVar 0) (cVar 3))
  (sFldD [1] "_taken" (cVar 0) (cNewD (lockD (cB1 (fldOf [1] "_taken") (cVar 0)) (cDComp (cKeysI (cB1 (fldOf [1] "_taken") (cVar 0))) (.one 5) (cTst (cOp2 gtD (cVar 5) (cOp2 subD (cVar 3) (cC k_WINDOW)))) (cVar 5) (cC (.bl true)) [5]))))) sNext)
  (sRet (cVar 4))))))))
noncomputable def m_Opener_opened : M := mDef 6 b_Opener_opened
noncomputable def b_Link_receive : S := (sSeq (sSet 2 (cMeth 1 "opened" m_Opener_opened (cB1 (fldOf [4] "_opener") (cVar 0)) [(cVar 1)]))
  (sSeq (sIf (cTst (cOp2 isND (cVar 2) (cC .non))) (sRet (cC .non)) sNext)
  (sTry mt_BadLetter (sRet (cCall m_unpack [(cB1 (fldOf [4] "_world") (cVar 0)), (cVar 2)])) (sRet (cC .non)))))
noncomputable def m_Link_receive : M := mDef 3 b_Link_receive
noncomputable def b__law_draw : S := (sSeq (sIf (cTst (cOp2 eqD (cOp2 getD (cVar 0) (cC (.int 0))) (cC (.int 0)))) (sSeq (sSet 2 (cOp2 modD (cB1 intD (cOp2 addD (cOp2 addD (cOp2 mulD (cOp2 getD (cVar 0) (cC (.int 1))) (cC (.int 48271))) (cOp2 mulD (cOp2 getD (cVar 0) (cC (.int 2))) (cC (.int 69621)))) (cC (.int 11)))) (cC (.int 2147483647))))
  (sSeq (sSub (cVar 0) (cC (.int 0)) (cOp2 addD (cOp2 mulD (cVar 2) (cC (.int 2147483629))) (cOp2 modD (cB1 intD (cOp2 addD (cOp2 mulD (cVar 2) (cVar 2)) (cOp2 mulD (cOp2 getD (cVar 0) (cC (.int 2))) (cC (.int 16807))))) (cC (.int 2147483629)))))
  (sSub (cVar 0) (cC (.int 1)) (cVar 2)))) sNext)
  (sSeq (sSet 3 (cOp2 getD (cVar 0) (cC (.int 0))))
  (sSeq (sSub (cVar 0) (cC (.int 0)) (cOp2 fdivD (cVar 3) (cVar 1)))
  (sRet (cOp2 modD (cB1 intD (cVar 3)) (cVar 1))))))
noncomputable def m__law_draw : M := mDef 4 b__law_draw
noncomputable def b_Opener_init : S := (sSeq (sFldD [0, 1] "_key" (cVar 0) (cVar 1))
  (sSeq (sFldD [1] "_greatest" (cVar 0) (cC (.int 0)))
  (sFldD [1] "_taken" (cVar 0) (cNewD cD0))))
noncomputable def m_Opener_init : M := mDef 2 b_Opener_init
noncomputable def b_Sealer_init : S := (sSeq (sFldD [0, 1] "_key" (cVar 0) (cVar 1))
  (sFldD [0] "_number" (cVar 0) (cVar 2)))
noncomputable def m_Sealer_init : M := mDef 3 b_Sealer_init
noncomputable def b_Link_init : S := (sSeq (sFldD [4] "_world" (cVar 0) (cVar 1))
  (sSeq (sFldD [4] "_sealer" (cVar 0) (cMake 0 m_Sealer_init [(cVar 2), (cVar 4)]))
  (sFldD [4] "_opener" (cVar 0) (cMake 1 m_Opener_init [(cVar 3)]))))
noncomputable def m_Link_init : M := mDef 5 b_Link_init
noncomputable def b__law_comes : S := (sSeq (sSet 4 (cMakeD 4 m_Link_init [(.int 0)] [(cVar 1), (cTup [(cC (.str "key")), (cC (.int 5)), (cC (.int 6)), (cC (.int 7))]), (cVar 2)]))
  (sSeq (sSet 5 (cNew (cComp (cItr (cVar 3)) (.one 12) tYesD (cVar 12) [12])))
  (sSeq (sSet 6 (cNew (cLst [])))
  (sSeq (sSet 7 (cC (.int 0)))
  (sSeq (sFor (cRng1 (cOp2 mulD (cC (.int 2)) (cB1 lenD (cVar 3)))) (gN 8) (sSeq (sIf (tAndD (cTst (cOp2 neD (cVar 5) (cNew (cLst [])))) (cTst (cOp2 gtD (cCall m__law_draw [(cVar 0), (cC (.int 4))]) (cC (.int 0))))) (sSeq (sSet 9 (cOp2 min2D (cOp2 subD (cB1 lenD (cVar 5)) (cC (.int 1))) (cIxL (cLst [(cC (.int 0)), (cC (.int 0)), (cCall m__law_draw [(cVar 0), (cB1 lenD (cVar 5))])]) (cCall m__law_draw [(cVar 0), (cC (.int 3))]))))
  (sSeq (sAsg (cOp2 getD (cVar 5) (cVar 9)) (gT 3 (gsCons (gN 10) (gsCons (gN 11) (gsCons (gN 12) gsNil)))))
  (sSet 5 (cOp2 addD (cSlice (cVar 5) cNoPart (cPart (cVar 9))) (cSlice (cVar 5) (cPart (cOp2 addD (cVar 9) (cC (.int 1)))) cNoPart))))) (sAsg (cOp2 getD (cVar 3) (cCall m__law_draw [(cVar 0), (cB1 lenD (cVar 3))])) (gT 3 (gsCons (gN 10) (gsCons (gN 11) (gsCons (gN 12) gsNil))))))
  (sSeq (sSet 13 (cC .non))
  (sSeq (sIf (tAndD (cTst (cOp2 notInD (cVar 10) (cVar 6))) (cTst (cOp2 gtD (cVar 10) (cOp2 subD (cVar 7) (cC (.int 64)))))) (sSeq (sSet 13 (cVar 11))
  (sSeq (sExp (cApp (cVar 6) (cVar 10)))
  (sSet 7 (cOp2 max2D (cVar 7) (cVar 10))))) sNext)
  (sIf (tNotD (cTru (cCall (m__law_is_same 3) [(cMeth 4 "receive" m_Link_receive (cVar 4) [(cVar 12)]), (cVar 13)]))) (sRet (cC (.bl false))) sNext)))))
  (sRet (cC (.bl true))))))))
noncomputable def m__law_comes : M := mDef 14 b__law_comes
noncomputable def b_bytes_of : S := (sSeq (sSet 2 (cNew (cLst [])))
  (sSeq (sFor (cRng1 (cVar 1)) (gN 3) (sSeq (sExp (cApp (cVar 2) (cOp2 modD (cVar 0) (cC (.int 256)))))
  (sAug 0 ifdivD (cC (.int 256)))))
  (sRet (cS1 tupS (cRevL (cVar 2))))))
noncomputable def m_bytes_of : M := mDef 4 b_bytes_of
noncomputable def b_Sealer_seal : S := (sSeq (sIf (cTst (cOp2 eqD (cB1 (fldOf [0] "_number") (cVar 0)) (cC k_MOST_COUNT))) (sRaise 8) sNext)
  (sSeq (sFldAugD [0] "_number" iaddD (cVar 0) (cC (.int 1)))
  (sSeq (sSet 2 (cCall m_bytes_of [(cCall m_tag [(cB1 (fldOf [0, 1] "_key") (cVar 0)), (cB1 (fldOf [0] "_number") (cVar 0)), (cVar 1)]), (cC (.int 8))]))
  (sRet (cOp2 addD (cOp2 addD (cCall m_bytes_of [(cB1 (fldOf [0] "_number") (cVar 0)), (cC (.int 4))]) (cS1 tupS (cSeq (cVar 1)))) (cVar 2))))))
noncomputable def m_Sealer_seal : M := mDef 3 b_Sealer_seal
noncomputable def b__law_split : S := (sRet (cS1 tupS (cComp (cRng1 (cVar 1)) (.one 2) tYesD (cOp2 andD (cOp2 shrD (cVar 0) (cOp2 mulD (cC (.int 8)) (cOp2 subD (cOp2 subD (cVar 1) (cC (.int 1))) (cVar 2)))) (cC (.int 255))) [2])))
noncomputable def m__law_split : M := mDef 3 b__law_split
noncomputable def b__law_turn : S := (sRet (cOp2 orD (cOp2 modD (cOp2 shlD (cVar 0) (cVar 1)) (cC (.int 18446744073709551616))) (cOp2 shrD (cVar 0) (cOp2 subD (cC (.int 64)) (cVar 1)))))
noncomputable def m__law_turn : M := mDef 2 b__law_turn
noncomputable def b__law_round : S := (sSeq (sAsg (cVar 0) (gT 4 (gsCons (gN 1) (gsCons (gN 2) (gsCons (gN 3) (gsCons (gN 4) gsNil))))))
  (sSeq (sSet 1 (cOp2 modD (cOp2 addD (cVar 1) (cVar 2)) (cC (.int 18446744073709551616))))
  (sSeq (sSet 2 (cOp2 xorD (cCall m__law_turn [(cVar 2), (cC (.int 13))]) (cVar 1)))
  (sSeq (sSet 1 (cCall m__law_turn [(cVar 1), (cC (.int 32))]))
  (sSeq (sSet 3 (cOp2 modD (cOp2 addD (cVar 3) (cVar 4)) (cC (.int 18446744073709551616))))
  (sSeq (sSet 4 (cOp2 xorD (cCall m__law_turn [(cVar 4), (cC (.int 16))]) (cVar 3)))
  (sSeq (sSet 1 (cOp2 modD (cOp2 addD (cVar 1) (cVar 4)) (cC (.int 18446744073709551616))))
  (sSeq (sSet 4 (cOp2 xorD (cCall m__law_turn [(cVar 4), (cC (.int 21))]) (cVar 1)))
  (sSeq (sSet 3 (cOp2 modD (cOp2 addD (cVar 3) (cVar 2)) (cC (.int 18446744073709551616))))
  (sSeq (sSet 2 (cOp2 xorD (cCall m__law_turn [(cVar 2), (cC (.int 17))]) (cVar 3)))
  (sRet (cTup [(cVar 1), (cVar 2), (cCall m__law_turn [(cVar 3), (cC (.int 32))]), (cVar 4)]))))))))))))
noncomputable def m__law_round : M := mDef 5 b__law_round
noncomputable def b__law_mix : S := (sSeq (sSet 3 (cTup [(cOp2 xorD (cVar 0) (cC (.int 8317987319222330741))), (cOp2 xorD (cVar 1) (cC (.int 7237128888997146477))), (cOp2 xorD (cVar 0) (cC (.int 7816392313619706465))), (cOp2 xorD (cVar 1) (cC (.int 8387220255154660723)))]))
  (sSeq (sFor (cItl (cCatE (cVar 2) (cLst [(cB1 lenD (cVar 2))]))) (gN 4) (sSeq (sSet 3 (cCall m__law_round [(cCall m__law_round [(cTup [(cOp2 getD (cVar 3) (cC (.int 0))), (cOp2 getD (cVar 3) (cC (.int 1))), (cOp2 getD (cVar 3) (cC (.int 2))), (cOp2 xorD (cOp2 getD (cVar 3) (cC (.int 3))) (cVar 4))])])]))
  (sSet 3 (cTup [(cOp2 xorD (cOp2 getD (cVar 3) (cC (.int 0))) (cVar 4)), (cOp2 getD (cVar 3) (cC (.int 1))), (cOp2 getD (cVar 3) (cC (.int 2))), (cOp2 getD (cVar 3) (cC (.int 3)))]))))
  (sSeq (sSet 3 (cTup [(cOp2 getD (cVar 3) (cC (.int 0))), (cOp2 getD (cVar 3) (cC (.int 1))), (cOp2 xorD (cOp2 getD (cVar 3) (cC (.int 2))) (cC (.int 255))), (cOp2 getD (cVar 3) (cC (.int 3)))]))
  (sSeq (sFor (cRng1 (cC (.int 4))) (gN 5) (sSet 3 (cCall m__law_round [(cVar 3)])))
  (sRet (cOp2 xorD (cOp2 xorD (cOp2 xorD (cOp2 getD (cVar 3) (cC (.int 0))) (cOp2 getD (cVar 3) (cC (.int 1)))) (cOp2 getD (cVar 3) (cC (.int 2)))) (cOp2 getD (cVar 3) (cC (.int 3)))))))))
noncomputable def m__law_mix : M := mDef 6 b__law_mix
noncomputable def b__law_tag : S := (sSeq (sSet 3 (cC (.int 0)))
  (sSeq (sFor (cItr (cVar 2)) (gN 4) (sSet 3 (cOp2 modD (cOp2 addD (cOp2 addD (cOp2 mulD (cVar 3) (cOp2 getD (cVar 0) (cC (.int 1)))) (cVar 4)) (cC (.int 1))) (cC (.int 18446744073709550147)))))
  (sRet (cOp2 modD (cOp2 addD (cOp2 mulD (cVar 3) (cOp2 getD (cVar 0) (cC (.int 1)))) (cCall m__law_mix [(cOp2 getD (cVar 0) (cC (.int 2))), (cOp2 getD (cVar 0) (cC (.int 3))), (cNew (cLst [(cVar 1)]))])) (cC (.int 18446744073709550147))))))
noncomputable def m__law_tag : M := mDef 5 b__law_tag
noncomputable def b__law_sealed : S := (sRet (cOp2 addD (cOp2 addD (cCall m__law_split [(cVar 1), (cC (.int 4))]) (cVar 2)) (cCall m__law_split [(cCall m__law_tag [(cVar 0), (cVar 1), (cVar 2)]), (cC (.int 8))])))
noncomputable def m__law_sealed : M := mDef 3 b__law_sealed
noncomputable def b__law_is_used : S := (sSeq (sTry mt_TooFar (sExp (cMeth 0 "seal" m_Sealer_seal (cVar 0) [(cTup [(cC (.int 9))])])) (sRet (cC (.bl true))))
  (sRet (cC (.bl false))))
noncomputable def m__law_is_used : M := mDef 1 b__law_is_used
noncomputable def b__law_ends : S := (sSeq (sSet 2 (cOp2 subD (cC (.int 4294967295)) (cCall m__law_draw [(cVar 0), (cC (.int 4))])))
  (sSeq (sSet 3 (cMake 0 m_Sealer_init [(cVar 1), (cVar 2)]))
  (sSeq (sFor (cRng2 (cOp2 addD (cVar 2) (cC (.int 1))) (cC (.int 4294967296))) (gN 4) (sIf (tNotD (cTru (cCall (m__law_is_same 3) [(cMeth 0 "seal" m_Sealer_seal (cVar 3) [(cTup [(cC (.int 7)), (cC (.int 8))])]), (cCall m__law_sealed [(cVar 1), (cVar 4), (cTup [(cC (.int 7)), (cC (.int 8))])])]))) (sRet (cC (.bl false))) sNext))
  (sSeq (sIf (tOrD (tNotD (cTru (cCall m__law_is_used [(cVar 3)]))) (tNotD (cTru (cCall m__law_is_used [(cVar 3)])))) (sRet (cC (.bl false))) sNext)
  (sSeq (sSet 5 (cCall m__law_draw [(cVar 0), (cC (.int 4294967295))]))
  (sRet (cCall (m__law_is_same 3) [(cMeth 0 "seal" m_Sealer_seal (cMake 0 m_Sealer_init [(cVar 1), (cVar 5)]) [(cTup [(cC (.int 1))])]), (cCall m__law_sealed [(cVar 1), (cOp2 addD (cVar 5) (cC (.int 1))), (cTup [(cC (.int 1))])])])))))))
noncomputable def m__law_ends : M := mDef 6 b__law_ends
noncomputable def b_Writer_told : S := (sSeq (sIf (cTst (cOp2 eqD (cB1 (fldOf [2] "_held") (cVar 0)) (cC (.int 0)))) (sRet (cS1 tupS (cSeq (cB1 (fldOf [2, 3] "_row") (cVar 0))))) sNext)
  (sRet (cOp2 addD (cS1 tupS (cSeq (cB1 (fldOf [2, 3] "_row") (cVar 0)))) (cTup [(cOp2 shlD (cB1 (fldOf [2] "_rest") (cVar 0)) (cOp2 subD (cC (.int 8)) (cB1 (fldOf [2] "_held") (cVar 0))))]))))
noncomputable def m_Writer_told : M := mDef 1 b_Writer_told
noncomputable def b_Writer_put : S := (sSeq (sFldD [2] "_rest" (cVar 0) (cOp2 addD (cOp2 shlD (cB1 (fldOf [2] "_rest") (cVar 0)) (cVar 2)) (cVar 1)))
  (sSeq (sFldAugD [2] "_held" iaddD (cVar 0) (cVar 2))
  (sWhile (cTst (cOp2 geD (cB1 (fldOf [2] "_held") (cVar 0)) (cC (.int 8)))) (sSeq (sFldAugD [2] "_held" isubD (cVar 0) (cC (.int 8)))
  (sSeq (sExp (cApp (cB1 (fldOf [2, 3] "_row") (cVar 0)) (cOp2 shrD (cB1 (fldOf [2] "_rest") (cVar 0)) (cB1 (fldOf [2] "_held") (cVar 0)))))
  (sFldD [2] "_rest" (cVar 0) (cOp2 andD (cB1 (fldOf [2] "_rest") (cVar 0)) (cOp2 subD (cOp2 shlD (cC (.int 1)) (cB1 (fldOf [2] "_held") (cVar 0))) (cC (.int 1))))))))))
noncomputable def m_Writer_put : M := mDef 3 b_Writer_put
noncomputable def b_width_of : S := (sRet (cB1 bitD (cVar 0)))
noncomputable def m_width_of : M := mDef 1 b_width_of
noncomputable def b_Writer_number : S := (sSeq (sSet 2 (cOp2 subD (cCall m_width_of [(cOp2 addD (cVar 1) (cC (.int 1)))]) (cC (.int 1))))
  (sSeq (sExp (cMeth 2 "put" m_Writer_put (cVar 0) [(cVar 2), (cC (.int 5))]))
  (sExp (cMeth 2 "put" m_Writer_put (cVar 0) [(cOp2 subD (cOp2 addD (cVar 1) (cC (.int 1))) (cOp2 shlD (cC (.int 1)) (cVar 2))), (cVar 2)]))))
noncomputable def m_Writer_number : M := mDef 3 b_Writer_number
noncomputable def b_put_field : S := (sIf (cTst (cOp2 eqD (cVar 2) (cC (.str "seat")))) (sExp (cMeth 2 "put" m_Writer_put (cVar 0) [(cVar 3), (cC (.int 3))])) (sIf (cTst (cOp2 eqD (cVar 2) (cC (.str "tick")))) (sExp (cMeth 2 "number" m_Writer_number (cVar 0) [(cVar 3)])) sBad))
noncomputable def m_put_field : M := mDef 5 b_put_field
noncomputable def b_Writer_init : S := (sSeq (sFldD [2, 3] "_row" (cVar 0) (cNew (cLst [])))
  (sSeq (sFldD [2] "_rest" (cVar 0) (cC (.int 0)))
  (sFldD [2] "_held" (cVar 0) (cC (.int 0)))))
noncomputable def m_Writer_init : M := mDef 1 b_Writer_init
noncomputable def b_body_of : S := (sSeq (sSet 2 (cMake 2 m_Writer_init []))
  (sSeq (sExp (cMeth 2 "put" m_Writer_put (cVar 2) [(cIdx t_FORMS (cOp2 getD (cVar 1) (cC (.int 0)))), (cC (.int 4))]))
  (sSeq (sSet 3 (cTab k_LAYOUT (cOp2 getD (cVar 1) (cC (.int 0)))))
  (sSeq (sFor (cRng1 (cB1 lenD (cVar 3))) (gN 4) (sExp (cCall m_put_field [(cVar 2), (cVar 0), (cOp2 getD (cVar 3) (cVar 4)), (cOp2 getD (cVar 1) (cOp2 addD (cVar 4) (cC (.int 1))))])))
  (sRet (cMeth 2 "told" m_Writer_told (cVar 2) []))))))
noncomputable def m_body_of : M := mDef 5 b_body_of
noncomputable def b_pack : S := (sSeq (sIf (tNotD (cTru (cCall m_is_letter [(cVar 0), (cVar 1)]))) sBad sNext)
  (sSeq (sSet 2 (cCall m_body_of [(cVar 0), (cVar 1)]))
  (sSeq (sIf (cTst (cOp2 gtD (cB1 lenD (cVar 2)) (cC k_MOST_BODY))) sBad sNext)
  (sRet (cVar 2)))))
noncomputable def m_pack : M := mDef 3 b_pack
noncomputable def b_fitted : S := (sSeq (sIf (tNotD (cTru (cCall m_is_letter [(cVar 0), (cVar 1)]))) sBad sNext)
  (sSeq (sSet 2 (cVar 1))
  (sSeq (sWhile (cTst (cOp2 gtD (cB1 lenD (cCall m_body_of [(cVar 0), (cVar 2)])) (cC k_MOST_BODY))) sBad)
  (sRet (cVar 2)))))
noncomputable def m_fitted : M := mDef 3 b_fitted
noncomputable def b_Link_send : S := (sRet (cMeth 0 "seal" m_Sealer_seal (cB1 (fldOf [4] "_sealer") (cVar 0)) [(cCall m_pack [(cB1 (fldOf [4] "_world") (cVar 0)), (cCall m_fitted [(cB1 (fldOf [4] "_world") (cVar 0)), (cVar 1)])])]))
noncomputable def m_Link_send : M := mDef 2 b_Link_send
noncomputable def b__law_rows : S := (sSeq (sSet 4 (cNew (cLst [])))
  (sSeq (sFor (cItr (cVar 3)) (gN 5) (sSeq (sSet 6 (cMake 4 m_Link_init [(cVar 1), (cVar 2), (cTup [(cC (.str "key")), (cC (.int 5)), (cC (.int 6)), (cC (.int 7))]), (cOp2 mulD (cVar 5) (cC (.int 16777216)))]))
  (sFor (cRng1 (cOp2 addD (cC (.int 1)) (cCall m__law_draw [(cVar 0), (cC (.int 6))]))) (gN 7) (sSeq (sSet 8 (cIxL (cLst [(cTup [(cC (.str "pace")), (cCall m__law_draw [(cVar 0), (cC (.int 1000))])]), (cTup [(cC (.str "got")), (cC (.int 0)), (cCall m__law_draw [(cVar 0), (cC (.int 1000))])])]) (cCall m__law_draw [(cVar 0), (cC (.int 2))])))
  (sExp (cApp (cVar 4) (cTup [(cOp2 addD (cOp2 addD (cOp2 mulD (cVar 5) (cC (.int 16777216))) (cVar 7)) (cC (.int 1))), (cVar 8), (cMeth 4 "send" m_Link_send (cVar 6) [(cVar 8)])])))))))
  (sRet (cVar 4))))
noncomputable def m__law_rows : M := mDef 9 b__law_rows
noncomputable def b__law_lives : S := (sSeq (sSet 1 (cNew (cLst [(cCall m__law_draw [(cVar 0), (cC (.int 3))])])))
  (sSeq (sFor (cRng1 (cCall m__law_draw [(cVar 0), (cC (.int 4))])) (gN 2) (sSeq (sSet 3 (cOp2 min2D (cC (.int 254)) (cOp2 addD (cOp2 getD (cVar 1) (cOp1 negD (cC (.int 1)))) (cIxL (cLst [(cC (.int 1)), (cC (.int 1)), (cC (.int 100))]) (cCall m__law_draw [(cVar 0), (cC (.int 3))])))))
  (sIf (cTst (cOp2 gtD (cVar 3) (cOp2 getD (cVar 1) (cOp1 negD (cC (.int 1)))))) (sExp (cApp (cVar 1) (cVar 3))) sNext)))
  (sRet (cVar 1))))
noncomputable def m__law_lives : M := mDef 4 b__law_lives
noncomputable def b__law_wide : S := (sRet (cOp2 modD (cB1 intD (cOp2 addD (cOp2 mulD (cCall m__law_draw [(cVar 0), (cC (.int 4294967296))]) (cC (.int 4294967296))) (cCall m__law_draw [(cVar 0), (cC (.int 4294967296))]))) (cVar 1)))
noncomputable def m__law_wide : M := mDef 2 b__law_wide
noncomputable def b__law_key : S := (sSeq (sSet 1 (cIxL (cLst [(cC (.int 2)), (cC (.int 18446744073709550145)), (cC (.int 18446744073709550144)), (cC (.int 3)), (cOp2 addD (cC (.int 2)) (cCall m__law_wide [(cVar 0), (cC (.int 18446744073709550144))])), (cOp2 addD (cC (.int 2)) (cCall m__law_wide [(cVar 0), (cC (.int 18446744073709550144))]))]) (cCall m__law_draw [(cVar 0), (cC (.int 6))])))
  (sSeq (sSet 2 (cIxL (cLst [(cC (.int 0)), (cC (.int 18446744073709551615)), (cCall m__law_wide [(cVar 0), (cC (.int 18446744073709551616))])]) (cCall m__law_draw [(cVar 0), (cC (.int 3))])))
  (sSeq (sSet 3 (cIxL (cLst [(cC (.int 0)), (cC (.int 18446744073709551615)), (cCall m__law_wide [(cVar 0), (cC (.int 18446744073709551616))])]) (cCall m__law_draw [(cVar 0), (cC (.int 3))])))
  (sRet (cTup [(cC (.str "key")), (cVar 1), (cVar 2), (cVar 3)])))))
noncomputable def m__law_key : M := mDef 4 b__law_key
noncomputable def b__law_bag : S := (sSeq (sSet 2 (cC (.int 0)))
  (sSeq (sIf (cTst (cOp2 ltD (cVar 1) (cB1 lenD (cVar 0)))) (sSet 2 (cB1 intD (cOp2 getD (cVar 0) (cVar 1)))) sNext)
  (sSeq (sIf (cTst (cOp2 geD (cVar 2) (cOp2 powD (cC (.int 10)) (cC (.int 18))))) (sRet (cNew (cLst [(cVar 2), (cVar 2), (cVar 1)]))) sNext)
  (sRet (cNew (cLst [(cC (.int 0)), (cVar 2), (cVar 1)]))))))
noncomputable def m__law_bag : M := mDef 3 b__law_bag
noncomputable def b_law : S := (sSeq (sIf (tOrD (cTst (cOp2 neD (cC k_LIFE) (cC (.int 16777216)))) (cTst (cOp2 neD (cC k_MOST_COUNT) (cC (.int 4294967295))))) (sRet (cC (.bl false))) sNext)
  (sSeq (sSet 1 (cTup [(cC (.str "world")), (cC (.str "w")), (cC (.int 1)), (cTup [(cTup [(cC (.str "k0")), (cC (.int 0)), (cC (.int 1)), (cC (.str "held"))])]), (cTup []), (cTup []), (cTup []), (cTup []), (cTup [])]))
  (sSeq (sFor (cRng1 (cOp2 min2D (cOp2 max2D (cB1 lenD (cVar 0)) (cC (.int 1))) (cC (.int 3)))) (gN 2) (sSeq (sSet 3 (cCall m__law_bag [(cVar 0), (cVar 2)]))
  (sSeq (sSet 4 (cCall m__law_key [(cVar 3)]))
  (sSeq (sSet 5 (cCall m__law_rows [(cVar 3), (cVar 1), (cVar 4), (cCall m__law_lives [(cVar 3)])]))
  (sSeq (sFor (cItr (cVar 5)) (gT 3 (gsCons (gN 6) (gsCons (gN 7) (gsCons (gN 8) gsNil)))) (sIf (tOrD (tNotD (cTru (cB1 (isiD .tuple) (cVar 8)))) (tNotD (cTru (cCall (m__law_is_same 3) [(cVar 8), (cCall m__law_sealed [(cVar 4), (cVar 6), (cSlice (cVar 8) (cPart (cC (.int 4))) (cPart (cOp1 negD (cC (.int 8)))))])])))) (sRet (cC (.bl false))) sNext))
  (sIf (tOrD (tNotD (cTru (cCall m__law_comes [(cVar 3), (cVar 1), (cVar 4), (cVar 5)]))) (tNotD (cTru (cCall m__law_ends [(cVar 3), (cVar 4)])))) (sRet (cC (.bl false))) sNext))))))
  (sRet (cC (.bl true))))))
noncomputable def m_law : M := mDef 9 b_law
end PMl

set_option Elab.async false
set_option linter.all false
set_option maxRecDepth 100000
set_option maxHeartbeats 2000000
/-! the plain law of k54, 1: draws, tags. -/
namespace PMl
open PySem PM L2
theorem draw_ok {st : Sto} {b : Nat} {many : Int} (h : Bg 3 b st) (h1 : 0 < many) (h2 : many ≤ 2 ^ 40) :
    ∃ v st', m__law_draw [.loc b, .int many] st = .ok (.int v) st' ∧ Kp 3 b st st' ∧ 0 ≤ v ∧ v < many := by
  have hbg := h
  obtain ⟨l, hl, h⟩ := h
  match l, hl with
  | [x, y, z], _ =>
  have h : st[b]? = some (.lst [.int x, .int y, .int z]) := h
  have hb := lt_get h
  have q1 : ∀ (o : O), (st.set b o)[b]? = some o := fun o => List.getElem?_set_self hb
  have g0 : ∀ (x y z : Int), getD (.loc b) (.int 0) (st.set b (.lst [.int x, .int y, .int z])) = .ok (.int x) (st.set b (.lst [.int x, .int y, .int z])) := fun x y z => (getD_lst (q1 _)).trans rfl
  have g1 : ∀ (x y z : Int), getD (.loc b) (.int 1) (st.set b (.lst [.int x, .int y, .int z])) = .ok (.int y) (st.set b (.lst [.int x, .int y, .int z])) := fun x y z => (getD_lst (q1 _)).trans rfl
  have g2 : ∀ (x y z : Int), getD (.loc b) (.int 2) (st.set b (.lst [.int x, .int y, .int z])) = .ok (.int z) (st.set b (.lst [.int x, .int y, .int z])) := fun x y z => (getD_lst (q1 _)).trans rfl
  have s0 : ∀ (v x y z : Int), setD (.loc b) (.int 0) (.int v) (st.set b (.lst [.int x, .int y, .int z])) = some (st.set b (.lst [.int v, .int y, .int z])) := fun v x y z => (setD_lst (q1 _)).trans (show some ((st.set b _).set b _) = _ by rw [List.set_set]; rfl)
  have s1 : ∀ (v x y z : Int), setD (.loc b) (.int 1) (.int v) (st.set b (.lst [.int x, .int y, .int z])) = some (st.set b (.lst [.int x, .int v, .int z])) := fun v x y z => (setD_lst (q1 _)).trans (show some ((st.set b _).set b _) = _ by rw [List.set_set]; rfl)
  have hm : many.natAbs.log2 < 9000 := small_log (by omega)
  have e1 : ∀ (i : Int) (s : Sto), modD (.int i) (.int 2147483647) s = .ok (.int (i.fmod 2147483647)) s := fun i s => modD_int s (by decide)
  have e2 : ∀ (i : Int) (s : Sto), modD (.int i) (.int 2147483629) s = .ok (.int (i.fmod 2147483629)) s := fun i s => modD_int s (by decide)
  have e3 : ∀ (i : Int) (s : Sto), modD (.int i) (.int many) s = .ok (.int (i.fmod many)) s := fun i s => modD_int s (by omega)
  have e4 : ∀ (i : Int) (s : Sto), fdivD (.int i) (.int many) s = .ok (.int (i.fdiv many)) s := fun i s => fdivD_int s (by omega) hm
  have m1 : ∀ (i : Int) (s : Sto), mulD (.int i) (.int 48271) s = .ok (.int (i * 48271)) s := fun i s => mulD_int s (by decide)
  have m2 : ∀ (i : Int) (s : Sto), mulD (.int i) (.int 69621) s = .ok (.int (i * 69621)) s := fun i s => mulD_int s (by decide)
  have m3 : ∀ (i : Int) (s : Sto), mulD (.int i) (.int 2147483629) s = .ok (.int (i * 2147483629)) s := fun i s => mulD_int s (by decide)
  have m4 : ∀ (i : Int) (s : Sto), mulD (.int i) (.int 16807) s = .ok (.int (i * 16807)) s := fun i s => mulD_int s (by decide)
  have fin : ∀ (r : Int), 0 ≤ r.fmod many ∧ r.fmod many < many := fun r => ⟨Int.fmod_nonneg_of_pos r h1, Int.fmod_lt_of_pos r h1⟩
  have key : ∀ {v x' y' : Int}, (b__law_draw [some (.loc b), some (.int many), none, none] (st.set b (.lst [.int x, .int y, .int z])) = .rt (.int v) (st.set b (.lst [.int x', .int y', .int z])) ∧ 0 ≤ v ∧ v < many) → ∃ v st', m__law_draw [.loc b, .int many] st = .ok (.int v) st' ∧ Kp 3 b st st' ∧ 0 ≤ v ∧ v < many := fun {v x' y'} ⟨e, h3⟩ => by
    refine ⟨v, st.set b (.lst ([x', y', z].map .int)), ?_, Kp.setB hbg rfl, h3⟩
    show gcR st (outR (b__law_draw [some (.loc b), some (.int many), none, none] st)) = _
    rw [set_self h] at e
    rw [e]
    exact gcR_same List.length_set
  by_cases hx : x = 0
  · subst hx
    generalize hs : (y * 48271 + z * 69621 + 11).fmod 2147483647 = sd
    have m5 : ∀ (s : Sto), mulD (.int sd) (.int sd) s = .ok (.int (sd * sd)) s := fun s => mulD_int s (by
      have := Int.fmod_nonneg_of_pos (y * 48271 + z * 69621 + 11) (show (0 : Int) < 2147483647 by decide)
      have := Int.fmod_lt_of_pos (y * 48271 + z * 69621 + 11) (show (0 : Int) < 2147483647 by decide)
      omega)
    generalize hr : sd * 2147483629 + (sd * sd + z * 16807).fmod 2147483629 = r
    refine key (v := r.fmod many) (x' := r.fdiv many) (y' := sd) ⟨?_, fin r⟩
    unfold b__law_draw
    simp [g0, g1, g2, e1, e2, e3, e4, m1, m2, m3, m4, m5, s0, s1, hs, hr]
  · refine key (v := x.fmod many) (x' := x.fdiv many) (y' := y) ⟨?_, fin x⟩
    unfold b__law_draw
    simp [g0, g1, g2, hx, e1, e2, e3, e4, m1, m2, m3, m4, s0, s1]
/-- a draw as a natural number -/
theorem drawn {st : Sto} {b many : Nat} (h : Bg 3 b st) (h1 : 0 < many) (h2 : many ≤ 2 ^ 40) : ∃ (v : Nat) (st' : Sto), m__law_draw [.loc b, .int (many : Int)] st = .ok (.int (v : Int)) st' ∧ Kp 3 b st st' ∧ v < many := by
  obtain ⟨v, st', e, k, h3, h4⟩ := draw_ok (many := (many : Int)) h (by omega) (by omega)
  exact ⟨v.toNat, st', by rw [e]; congr 2; omega, k, by omega⟩
/-! ### tags -/
def W64 : Nat := 18446744073709551616
def rot (x n : Nat) : Nat := x * 2 ^ n % W64 + x / 2 ^ (64 - n)
theorem rot_lt {x n : Nat} (h : x < W64) (hn : n ≤ 64) : rot x n < W64 := by
  unfold rot
  have e : W64 = 2 ^ (64 - n) * 2 ^ n := by rw [← Nat.pow_add, Nat.sub_add_cancel hn]; rfl
  rw [e, Nat.mul_mod_mul_right]
  have h1 : x % 2 ^ (64 - n) < 2 ^ (64 - n) := Nat.mod_lt _ (Nat.two_pow_pos _)
  have h2 : x / 2 ^ (64 - n) < 2 ^ n := Nat.div_lt_of_lt_mul (by rw [← e]; exact h)
  calc x % 2 ^ (64 - n) * 2 ^ n + x / 2 ^ (64 - n) < x % 2 ^ (64 - n) * 2 ^ n + 2 ^ n := by omega
    _ = (x % 2 ^ (64 - n) + 1) * 2 ^ n := by rw [Nat.add_mul, Nat.one_mul]
    _ ≤ 2 ^ (64 - n) * 2 ^ n := Nat.mul_le_mul_right _ h1
theorem rot_or {x n : Nat} (h : x < W64) (hn : n ≤ 64) : (x * 2 ^ n % W64) ||| (x / 2 ^ (64 - n)) = rot x n := by
  unfold rot
  have e : W64 = 2 ^ (64 - n) * 2 ^ n := by rw [← Nat.pow_add, Nat.sub_add_cancel hn]; rfl
  have h2 : x / 2 ^ (64 - n) < 2 ^ n := Nat.div_lt_of_lt_mul (by rw [← e]; exact h)
  rw [e, Nat.mul_mod_mul_right]
  have := Nat.two_pow_add_eq_or_of_lt h2 (x % 2 ^ (64 - n))
  rw [Nat.mul_comm] at this
  rw [this]
theorem castW : ((W64 : Nat) : Int) = 18446744073709551616 := rfl
theorem modW (n : Nat) (st : Sto) : modD (.int (n : Int)) (.int 18446744073709551616) st = .ok (.int ((n % W64 : Nat) : Int)) st := by
  rw [← castW]
  exact modD_nat st (by decide)
theorem turn_ok {x n : Nat} (st : Sto) (h : x < W64) (hn : n ≤ 64) : m_turn [.int (x : Int), .int (n : Int)] st = .ok (.int (rot x n : Nat)) st := by
  refine def_rt (ρ0 := [some (.int (x : Int)), some (.int (n : Int))]) rfl ?_ rfl
  unfold b_turn
  have e1 : shlD (.int (x : Int)) (.int (n : Int)) st = _ := shlD_nat st (show x < 2 ^ 64 from h) (by omega)
  have e2 : subD (.int 64) (.int (n : Int)) st = .ok (.int ((64 - n : Nat) : Int)) st := by rw [subD_int]; congr 2; omega
  have e3 : modD (.int ((x * 2 ^ n : Nat) : Int)) (.int 18446744073709551616) st = .ok (.int ((x * 2 ^ n % W64 : Nat) : Int)) st := modW _ st
  have e4 : shrD (.int (x : Int)) (.int ((64 - n : Nat) : Int)) st = _ := shrD_nat st
  refine sRet_ok ?_
  simp only [cOp2_ap, cVar_ap, cC_ap, R.bind_ok, k_WORDS, List.getElem?_cons_zero, List.getElem?_cons_succ, e1, e2, e3, e4, addD_nat]
  rfl
theorem lturn_ok {x n : Nat} (st : Sto) (h : x < W64) (hn : n ≤ 64) : m__law_turn [.int (x : Int), .int (n : Int)] st = .ok (.int (rot x n : Nat)) st := by
  refine def_rt (ρ0 := [some (.int (x : Int)), some (.int (n : Int))]) rfl ?_ rfl
  unfold b__law_turn
  have e1 : shlD (.int (x : Int)) (.int (n : Int)) st = _ := shlD_nat st (show x < 2 ^ 64 from h) (by omega)
  have e2 : subD (.int 64) (.int (n : Int)) st = .ok (.int ((64 - n : Nat) : Int)) st := by rw [subD_int]; congr 2; omega
  have e3 : modD (.int ((x * 2 ^ n : Nat) : Int)) (.int 18446744073709551616) st = .ok (.int ((x * 2 ^ n % W64 : Nat) : Int)) st := modW _ st
  have e4 : shrD (.int (x : Int)) (.int ((64 - n : Nat) : Int)) st = _ := shrD_nat st
  refine sRet_ok ?_
  simp only [cOp2_ap, cVar_ap, cC_ap, R.bind_ok, List.getElem?_cons_zero, List.getElem?_cons_succ, e1, e2, e3, e4, orD_nat, rot_or h hn]
theorem xor_lt {a b : Nat} (h : a < W64) (h' : b < W64) : a ^^^ b < W64 := Nat.xor_lt_two_pow (n := 64) h h'
theorem mod_lt {a : Nat} : a % W64 < W64 := Nat.mod_lt _ (by decide)
/-- four words -/
structure Q4 where
  a : Nat
  b : Nat
  c : Nat
  d : Nat
def Q4.ok (q : Q4) : Prop := q.a < W64 ∧ q.b < W64 ∧ q.c < W64 ∧ q.d < W64
def Q4.rnd (q : Q4) : Q4 :=
  let a1 := (q.a + q.b) % W64
  let b1 := rot q.b 13 ^^^ a1
  let a2 := rot a1 32
  let c1 := (q.c + q.d) % W64
  let d1 := rot q.d 16 ^^^ c1
  let a3 := (a2 + d1) % W64
  let d2 := rot d1 21 ^^^ a3
  let c2 := (c1 + b1) % W64
  let b2 := rot b1 17 ^^^ c2
  ⟨a3, b2, rot c2 32, d2⟩
theorem Q4.ok.rnd {q : Q4} (h : q.ok) : q.rnd.ok := by
  obtain ⟨h1, h2, h3, h4⟩ := h
  have hb := xor_lt (rot_lt (n := 13) h2 (by decide)) (mod_lt (a := q.a + q.b))
  have hd := xor_lt (rot_lt (n := 16) h4 (by decide)) (mod_lt (a := q.c + q.d))
  exact ⟨mod_lt, xor_lt (rot_lt hb (by decide)) mod_lt, rot_lt mod_lt (by decide), xor_lt (rot_lt hd (by decide)) mod_lt⟩
def Q4.D (q : Q4) : List D := [.int (q.a : Int), .int (q.b : Int), .int (q.c : Int), .int (q.d : Int)]
theorem turn_lit {x n : Nat} {i : Int} (hi : i = (n : Int)) (st : Sto) (h : x < W64) (hn : n ≤ 64) : m_turn [.int (x : Int), .int i] st = .ok (.int (rot x n : Nat)) st := by
  subst hi
  exact turn_ok st h hn
theorem lturn_lit {x n : Nat} {i : Int} (hi : i = (n : Int)) (st : Sto) (h : x < W64) (hn : n ≤ 64) : m__law_turn [.int (x : Int), .int i] st = .ok (.int (rot x n : Nat)) st := by
  subst hi
  exact lturn_ok st h hn
theorem rnd_a (q : Q4) : q.rnd.a = (rot ((q.a + q.b) % W64) 32 + (rot q.d 16 ^^^ (q.c + q.d) % W64)) % W64 := rfl
theorem rnd_c (q : Q4) : q.rnd.c = rot (((q.c + q.d) % W64 + (rot q.b 13 ^^^ (q.a + q.b) % W64)) % W64) 32 := rfl
theorem rnd_b (q : Q4) : q.rnd.b = rot (rot q.b 13 ^^^ (q.a + q.b) % W64) 17 ^^^ (((q.c + q.d) % W64 + (rot q.b 13 ^^^ (q.a + q.b) % W64)) % W64) := rfl
theorem rnd_d (q : Q4) : q.rnd.d = rot (rot q.d 16 ^^^ (q.c + q.d) % W64) 21 ^^^ ((rot ((q.a + q.b) % W64) 32 + (rot q.d 16 ^^^ (q.c + q.d) % W64)) % W64) := rfl
theorem cVar_at {x : Nat} {d : D} {ρ : PM.Env} {st : Sto} (h : ρ[x]? = some (some d)) : cVar x ρ st = .ok d st := by rw [cVar_ap, h]
theorem s_addmod {i x y : Nat} {a b : Nat} {ρ : PM.Env} {st : Sto} {w : D} (hw : w = .int 18446744073709551616) (hx : ρ[x]? = some (some (.int (a : Int)))) (hy : ρ[y]? = some (some (.int (b : Int)))) :
    sSet i (cOp2 modD (cOp2 addD (cVar x) (cVar y)) (cC w)) ρ st = .nx (ρ.set i (some (.int (((a + b) % W64 : Nat) : Int)))) st := by
  subst hw
  refine sSet_ok ?_ rfl
  simp only [cOp2_ap, cVar_at hx, cVar_at hy, cC_ap, R.bind_ok, addD_nat, modW]
theorem s_trn {i x n : Nat} {k : Int} {a : Nat} {ρ : PM.Env} {st : Sto} {m : M} (hm : m = m_turn ∨ m = m__law_turn) (hk : k = (n : Int)) (hx : ρ[x]? = some (some (.int (a : Int)))) (ha : a < W64) (hn : n ≤ 64) :
    sSet i (cCall m [cVar x, cC (.int k)]) ρ st = .nx (ρ.set i (some (.int (rot a n : Nat)))) st := by
  refine sSet_ok ?_ rfl
  simp only [cCall_ap, cArgs_cons, cArgs_nil, cVar_at hx, cC_ap, R.bind_ok]
  rcases hm with rfl | rfl
  · exact turn_lit hk st ha hn
  · exact lturn_lit hk st ha hn
theorem s_turnx {i x y n : Nat} {k : Int} {a b : Nat} {ρ : PM.Env} {st : Sto} {m : M} (hm : m = m_turn ∨ m = m__law_turn) (hk : k = (n : Int)) (hx : ρ[x]? = some (some (.int (a : Int)))) (hy : ρ[y]? = some (some (.int (b : Int)))) (ha : a < W64) (hn : n ≤ 64) :
    sSet i (cOp2 xorD (cCall m [cVar x, cC (.int k)]) (cVar y)) ρ st = .nx (ρ.set i (some (.int ((rot a n ^^^ b : Nat) : Int)))) st := by
  refine sSet_ok ?_ rfl
  have e : m [.int (a : Int), .int k] st = .ok (.int (rot a n : Nat)) st := by
    rcases hm with rfl | rfl
    · exact turn_lit hk st ha hn
    · exact lturn_lit hk st ha hn
  simp only [cOp2_ap, cCall_ap, cArgs_cons, cArgs_nil, cVar_at hx, cVar_at hy, cC_ap, R.bind_ok, e, xorD_nat]
theorem round_ok {q : Q4} (h : q.ok) (st : Sto) : m_one_round q.D st = .ok (.tup q.rnd.D) st := by
  obtain ⟨h1, h2, h3, h4⟩ := h
  have hb := xor_lt (rot_lt (n := 13) h2 (by decide)) (mod_lt (a := q.a + q.b))
  have hd := xor_lt (rot_lt (n := 16) h4 (by decide)) (mod_lt (a := q.c + q.d))
  obtain ⟨a, b, c, d⟩ := q
  refine def_rt (ρ0 := [some (.int (a : Int)), some (.int (b : Int)), some (.int (c : Int)), some (.int (d : Int))]) rfl ?_ rfl
  unfold b_one_round
  rw [Q4.D, rnd_a, rnd_b, rnd_c, rnd_d]
  dsimp only at h1 h2 h3 h4 hb hd ⊢
  refine sSeq_nx (s_addmod rfl rfl rfl) ?_
  dsimp only [List.set_cons_zero, List.set_cons_succ]
  obtain ⟨a1, ea1⟩ : ∃ a1, (a + b) % W64 = a1 := ⟨_, rfl⟩
  rw [ea1] at hb ⊢
  have ha1 : a1 < W64 := by rw [← ea1]; exact mod_lt
  refine sSeq_nx (s_turnx (n := 13) (.inl rfl) rfl rfl rfl h2 (by decide)) ?_
  dsimp only [List.set_cons_zero, List.set_cons_succ]
  obtain ⟨b1, eb1⟩ : ∃ x, rot b 13 ^^^ a1 = x := ⟨_, rfl⟩
  rw [eb1] at hb ⊢
  refine sSeq_nx (s_trn (n := 32) (.inl rfl) rfl rfl ha1 (by decide)) ?_
  dsimp only [List.set_cons_zero, List.set_cons_succ]
  obtain ⟨a2, ea2⟩ : ∃ x, rot a1 32 = x := ⟨_, rfl⟩
  rw [ea2]
  refine sSeq_nx (s_addmod rfl rfl rfl) ?_
  dsimp only [List.set_cons_zero, List.set_cons_succ]
  obtain ⟨c1, ec1⟩ : ∃ x, (c + d) % W64 = x := ⟨_, rfl⟩
  rw [ec1] at hd ⊢
  refine sSeq_nx (s_turnx (n := 16) (.inl rfl) rfl rfl rfl h4 (by decide)) ?_
  dsimp only [List.set_cons_zero, List.set_cons_succ]
  obtain ⟨d1, ed1⟩ : ∃ x, rot d 16 ^^^ c1 = x := ⟨_, rfl⟩
  rw [ed1] at hd ⊢
  refine sSeq_nx (s_addmod rfl rfl rfl) ?_
  dsimp only [List.set_cons_zero, List.set_cons_succ]
  obtain ⟨a3, ea3⟩ : ∃ x, (a2 + d1) % W64 = x := ⟨_, rfl⟩
  rw [ea3]
  refine sSeq_nx (s_turnx (n := 21) (.inl rfl) rfl rfl rfl hd (by decide)) ?_
  dsimp only [List.set_cons_zero, List.set_cons_succ]
  refine sSeq_nx (s_addmod rfl rfl rfl) ?_
  dsimp only [List.set_cons_zero, List.set_cons_succ]
  obtain ⟨c2, ec2⟩ : ∃ x, (c1 + b1) % W64 = x := ⟨_, rfl⟩
  have hc2 : c2 < W64 := by rw [← ec2]; exact mod_lt
  rw [ec2]
  refine sSeq_nx (s_turnx (n := 17) (.inl rfl) rfl rfl rfl hb (by decide)) ?_
  dsimp only [List.set_cons_zero, List.set_cons_succ]
  refine sSeq_nx (s_trn (n := 32) (.inl rfl) rfl rfl hc2 (by decide)) ?_
  dsimp only [List.set_cons_zero, List.set_cons_succ]
  exact sRet_ok (by simp only [cTup_ap, cArgs_cons, cArgs_nil, cVar_ap, R.bind_ok, List.getElem?_cons_zero, List.getElem?_cons_succ])
theorem sAsg_ok {e : E} {g : G} {ρ ρ' : PM.Env} {st st' : Sto} {d : D} (h : e ρ st = .ok d st') (q : g d ρ = some ρ') : sAsg e g ρ st = .nx ρ' st' := by
  rw [sAsg_ap, h, fE_ok, q]
theorem lround_ok {q : Q4} (h : q.ok) (st : Sto) : m__law_round [.tup q.D] st = .ok (.tup q.rnd.D) st := by
  obtain ⟨h1, h2, h3, h4⟩ := h
  have hb := xor_lt (rot_lt (n := 13) h2 (by decide)) (mod_lt (a := q.a + q.b))
  have hd := xor_lt (rot_lt (n := 16) h4 (by decide)) (mod_lt (a := q.c + q.d))
  obtain ⟨a, b, c, d⟩ := q
  refine def_rt (ρ0 := [some (.tup [.int (a : Int), .int (b : Int), .int (c : Int), .int (d : Int)]), none, none, none, none]) rfl ?_ rfl
  unfold b__law_round
  rw [Q4.D, rnd_a, rnd_b, rnd_c, rnd_d]
  dsimp only at h1 h2 h3 h4 hb hd ⊢
  refine sSeq_nx (sAsg_ok (ρ' := [some (.tup [.int (a : Int), .int (b : Int), .int (c : Int), .int (d : Int)]), some (.int (a : Int)), some (.int (b : Int)), some (.int (c : Int)), some (.int (d : Int))]) (cVar_at rfl) rfl) ?_
  refine sSeq_nx (s_addmod rfl rfl rfl) ?_
  dsimp only [List.set_cons_zero, List.set_cons_succ]
  obtain ⟨a1, ea1⟩ : ∃ a1, (a + b) % W64 = a1 := ⟨_, rfl⟩
  rw [ea1] at hb ⊢
  have ha1 : a1 < W64 := by rw [← ea1]; exact mod_lt
  refine sSeq_nx (s_turnx (n := 13) (.inr rfl) rfl rfl rfl h2 (by decide)) ?_
  dsimp only [List.set_cons_zero, List.set_cons_succ]
  obtain ⟨b1, eb1⟩ : ∃ x, rot b 13 ^^^ a1 = x := ⟨_, rfl⟩
  rw [eb1] at hb ⊢
  refine sSeq_nx (s_trn (n := 32) (.inr rfl) rfl rfl ha1 (by decide)) ?_
  dsimp only [List.set_cons_zero, List.set_cons_succ]
  obtain ⟨a2, ea2⟩ : ∃ x, rot a1 32 = x := ⟨_, rfl⟩
  rw [ea2]
  refine sSeq_nx (s_addmod rfl rfl rfl) ?_
  dsimp only [List.set_cons_zero, List.set_cons_succ]
  obtain ⟨c1, ec1⟩ : ∃ x, (c + d) % W64 = x := ⟨_, rfl⟩
  rw [ec1] at hd ⊢
  refine sSeq_nx (s_turnx (n := 16) (.inr rfl) rfl rfl rfl h4 (by decide)) ?_
  dsimp only [List.set_cons_zero, List.set_cons_succ]
  obtain ⟨d1, ed1⟩ : ∃ x, rot d 16 ^^^ c1 = x := ⟨_, rfl⟩
  rw [ed1] at hd ⊢
  refine sSeq_nx (s_addmod rfl rfl rfl) ?_
  dsimp only [List.set_cons_zero, List.set_cons_succ]
  obtain ⟨a3, ea3⟩ : ∃ x, (a2 + d1) % W64 = x := ⟨_, rfl⟩
  rw [ea3]
  refine sSeq_nx (s_turnx (n := 21) (.inr rfl) rfl rfl rfl hd (by decide)) ?_
  dsimp only [List.set_cons_zero, List.set_cons_succ]
  refine sSeq_nx (s_addmod rfl rfl rfl) ?_
  dsimp only [List.set_cons_zero, List.set_cons_succ]
  obtain ⟨c2, ec2⟩ : ∃ x, (c1 + b1) % W64 = x := ⟨_, rfl⟩
  have hc2 : c2 < W64 := by rw [← ec2]; exact mod_lt
  rw [ec2]
  refine sSeq_nx (s_turnx (n := 17) (.inr rfl) rfl rfl rfl hb (by decide)) ?_
  dsimp only [List.set_cons_zero, List.set_cons_succ]
  have t := lturn_lit (n := 32) (i := 32) rfl st hc2 (by decide)
  exact sRet_ok (by simp only [cTup_ap, cArgs_cons, cArgs_nil, cVar_ap, cCall_ap, cC_ap, R.bind_ok, List.getElem?_cons_zero, List.getElem?_cons_succ, t])
/-- a word is mixed in -/
def Q4.inD (q : Q4) (w : Nat) : Q4 := ⟨q.a, q.b, q.c, q.d ^^^ w⟩
def Q4.inA (q : Q4) (w : Nat) : Q4 := ⟨q.a ^^^ w, q.b, q.c, q.d⟩
def Q4.inC (q : Q4) (w : Nat) : Q4 := ⟨q.a, q.b, q.c ^^^ w, q.d⟩
theorem Q4.ok.inD {q : Q4} (h : q.ok) {w : Nat} (hw : w < W64) : (q.inD w).ok := ⟨h.1, h.2.1, h.2.2.1, xor_lt h.2.2.2 hw⟩
theorem Q4.ok.inA {q : Q4} (h : q.ok) {w : Nat} (hw : w < W64) : (q.inA w).ok := ⟨xor_lt h.1 hw, h.2.1, h.2.2.1, h.2.2.2⟩
theorem Q4.ok.inC {q : Q4} (h : q.ok) {w : Nat} (hw : w < W64) : (q.inC w).ok := ⟨h.1, h.2.1, xor_lt h.2.2.1 hw, h.2.2.2⟩
def Q4.word (q : Q4) (w : Nat) : Q4 := (q.inD w).rnd.rnd.inA w
theorem Q4.ok.word {q : Q4} (h : q.ok) {w : Nat} (hw : w < W64) : (q.word w).ok := (h.inD hw).rnd.rnd.inA hw
def Q4.sum (q : Q4) : Nat := q.a ^^^ q.b ^^^ q.c ^^^ q.d
theorem Q4.ok.sum {q : Q4} (h : q.ok) : q.sum < W64 := xor_lt (xor_lt (xor_lt h.1 h.2.1) h.2.2.1) h.2.2.2
def q0 (f s : Nat) : Q4 := ⟨f ^^^ 8317987319222330741, s ^^^ 7237128888997146477, f ^^^ 7816392313619706465, s ^^^ 8387220255154660723⟩
theorem q0_ok {f s : Nat} (hf : f < W64) (hs : s < W64) : (q0 f s).ok := ⟨xor_lt hf (by decide), xor_lt hs (by decide), xor_lt hf (by decide), xor_lt hs (by decide)⟩
def mixN (f s n : Nat) : Nat := ((((q0 f s).word n).word 1).inC 255).rnd.rnd.rnd.rnd.sum
theorem mixN_lt {f s n : Nat} (hf : f < W64) (hs : s < W64) (hn : n < W64) : mixN f s n < W64 := (((((q0_ok hf hs).word hn).word (by decide)).inC (by decide)).rnd.rnd.rnd.rnd).sum
theorem s_rnd {q : Q4} (h : q.ok) {x y z : Option D} {w u : Option D} (st : Sto) {e : E} (he : e [x, y, z, some (.int (q.a : Int)), some (.int (q.b : Int)), some (.int (q.c : Int)), some (.int (q.d : Int)), w, u] st = .ok (.tup q.rnd.D) st) :
    sAsg e (gT 4 (gsCons (gN 3) (gsCons (gN 4) (gsCons (gN 5) (gsCons (gN 6) gsNil))))) [x, y, z, some (.int (q.a : Int)), some (.int (q.b : Int)), some (.int (q.c : Int)), some (.int (q.d : Int)), w, u] st =
      .nx [x, y, z, some (.int (q.rnd.a : Int)), some (.int (q.rnd.b : Int)), some (.int (q.rnd.c : Int)), some (.int (q.rnd.d : Int)), w, u] st := sAsg_ok he rfl
theorem mix_word {q : Q4} (h : q.ok) {w : Nat} (hw : w < W64) {x y z u : Option D} (st : Sto) :
    (sSeq (sAsg (cCall m_one_round [(cVar 3), (cVar 4), (cVar 5), (cOp2 xorD (cVar 6) (cVar 7))]) (gT 4 (gsCons (gN 3) (gsCons (gN 4) (gsCons (gN 5) (gsCons (gN 6) gsNil))))))
      (sSeq (sAsg (cCall m_one_round [(cVar 3), (cVar 4), (cVar 5), (cVar 6)]) (gT 4 (gsCons (gN 3) (gsCons (gN 4) (gsCons (gN 5) (gsCons (gN 6) gsNil))))))
      (sSet 3 (cOp2 xorD (cVar 3) (cVar 7))))) [x, y, z, some (.int (q.a : Int)), some (.int (q.b : Int)), some (.int (q.c : Int)), some (.int (q.d : Int)), some (.int (w : Int)), u] st =
      .nx [x, y, z, some (.int ((q.word w).a : Int)), some (.int ((q.word w).b : Int)), some (.int ((q.word w).c : Int)), some (.int ((q.word w).d : Int)), some (.int (w : Int)), u] st := by
  have e1 := round_ok (h.inD hw) st
  have e2 := round_ok (h.inD hw).rnd st
  refine sSeq_nx (st' := st) (sAsg_ok (d := .tup (q.inD w).rnd.D) (ρ' := [x, y, z, some (.int ((q.inD w).rnd.a : Int)), some (.int ((q.inD w).rnd.b : Int)), some (.int ((q.inD w).rnd.c : Int)), some (.int ((q.inD w).rnd.d : Int)), some (.int (w : Int)), u]) ?_ rfl) ?_
  · simp only [cCall_ap, cArgs_cons, cArgs_nil, cVar_ap, cOp2_ap, R.bind_ok, List.getElem?_cons_zero, List.getElem?_cons_succ, xorD_nat]
    exact e1
  have hr := (h.inD hw).rnd
  refine sSeq_nx (s_rnd hr st ?_) ?_
  · simp only [cCall_ap, cArgs_cons, cArgs_nil, cVar_ap, R.bind_ok, List.getElem?_cons_zero, List.getElem?_cons_succ]
    exact e2
  · refine sSet_ok (d := .int ((q.word w).a : Int)) ?_ rfl
    simp only [cVar_ap, cOp2_ap, R.bind_ok, List.getElem?_cons_zero, List.getElem?_cons_succ, xorD_nat]
    rfl
theorem add2 (a b : D) (st : Sto) : addD (.tup [a]) (.tup [b]) st = .ok (.tup [a, b]) st := by
  simp only [addD]
  rw [if_pos (by show 2 ≤ sizeLine; decide)]; rfl
theorem for4 {g : G} {body : S} {ρ0 ρ1 ρ2 ρ3 ρ4 : PM.Env} {st : Sto} {e : EI} (h : ∀ (ρ : PM.Env), e ρ st = cRng1 (cC (.int 4)) ρ st) (h0 : ∃ r, g (.int 0) ρ0 = some r ∧ body r st = .nx ρ1 st) (h1 : ∃ r, g (.int 1) ρ1 = some r ∧ body r st = .nx ρ2 st) (h2 : ∃ r, g (.int 2) ρ2 = some r ∧ body r st = .nx ρ3 st) (h3 : ∃ r, g (.int 3) ρ3 = some r ∧ body r st = .nx ρ4 st) :
    sFor e g body ρ0 st = .nx ρ4 st := by
  obtain ⟨r0, g0, b0⟩ := h0
  obtain ⟨r1, g1, b1⟩ := h1
  obtain ⟨r2, g2, b2⟩ := h2
  obtain ⟨r3, g3, b3⟩ := h3
  refine sFor_ok ((h ρ0).trans (cRng1_ok (n := 4) rfl (by decide))) ?_
  show forGo (fun _ => True) g body [.int 0, .int 1, .int 2, .int 3] ρ0 st = _
  rw [forGo_cons trivial g0 (.inl b0), forGo_cons trivial g1 (.inl b1), forGo_cons trivial g2 (.inl b2), forGo_cons trivial g3 (.inl b3), forGo_nil trivial]
theorem s_xorc {i x a c : Nat} {k : Int} {ρ : PM.Env} {st : Sto} (hk : k = (c : Int)) (hx : ρ[x]? = some (some (.int (a : Int)))) :
    sSet i (cOp2 xorD (cVar x) (cC (.int k))) ρ st = .nx (ρ.set i (some (.int ((a ^^^ c : Nat) : Int)))) st := by
  subst hk
  refine sSet_ok ?_ rfl
  simp only [cOp2_ap, cVar_at hx, cC_ap, R.bind_ok, xorD_nat]
theorem cast1 : (8317987319222330741 : Int) = ((8317987319222330741 : Nat) : Int) := rfl
theorem cast2 : (7237128888997146477 : Int) = ((7237128888997146477 : Nat) : Int) := rfl
theorem cast3 : (7816392313619706465 : Int) = ((7816392313619706465 : Nat) : Int) := rfl
theorem cast4 : (8387220255154660723 : Int) = ((8387220255154660723 : Nat) : Int) := rfl
theorem mix_ok {f s n : Nat} (hf : f < W64) (hs : s < W64) (hn : n < W64) (st : Sto) : m_mix [.int (f : Int), .int (s : Int), .tup [.int (n : Int)]] st = .ok (.int (mixN f s n : Nat)) st := by
  refine def_rt (ρ0 := [some (.int (f : Int)), some (.int (s : Int)), some (.tup [.int (n : Int)]), none, none, none, none, none, none]) rfl ?_ rfl
  unfold b_mix
  have hq := q0_ok hf hs
  obtain ⟨a0, ea⟩ : ∃ x, f ^^^ 8317987319222330741 = x := ⟨_, rfl⟩
  obtain ⟨b0, eb⟩ : ∃ x, s ^^^ 7237128888997146477 = x := ⟨_, rfl⟩
  obtain ⟨c0, ec⟩ : ∃ x, f ^^^ 7816392313619706465 = x := ⟨_, rfl⟩
  obtain ⟨d0, ed⟩ : ∃ x, s ^^^ 8387220255154660723 = x := ⟨_, rfl⟩
  have hq0 : q0 f s = ⟨a0, b0, c0, d0⟩ := by rw [q0, ea, eb, ec, ed]
  rw [hq0] at hq
  refine sSeq_nx (s_xorc cast1 rfl) ?_
  rw [ea]
  refine sSeq_nx (s_xorc cast2 rfl) ?_
  rw [eb]
  refine sSeq_nx (s_xorc cast3 rfl) ?_
  rw [ec]
  refine sSeq_nx (s_xorc cast4 rfl) ?_
  rw [ed]
  dsimp only [List.set_cons_zero, List.set_cons_succ]
  obtain ⟨q, eq⟩ : ∃ q : Q4, q = ⟨a0, b0, c0, d0⟩ := ⟨_, rfl⟩
  have e1 : a0 = q.a := by rw [eq]
  have e2 : b0 = q.b := by rw [eq]
  have e3 : c0 = q.c := by rw [eq]
  have e4 : d0 = q.d := by rw [eq]
  rw [← eq] at hq hq0
  rw [e1, e2, e3, e4]
  have h1 : (1 : Nat) < W64 := by decide
  refine sSeq_nx (sFor_ok (b := ⟨fun _ => True, [.int (n : Int), .int ((1 : Nat) : Int)]⟩) (st' := st) ?_ (f := .nx [some (.int (f : Int)), some (.int (s : Int)), some (.tup [.int (n : Int)]), some (.int (((q.word n).word 1).a : Int)), some (.int (((q.word n).word 1).b : Int)), some (.int (((q.word n).word 1).c : Int)), some (.int (((q.word n).word 1).d : Int)), some (.int ((1 : Nat) : Int)), none] st) ?_) ?_
  · refine cItr_tup ?_
    have s1 : seqD (.tup [.int (n : Int)]) st = .ok [.int (n : Int)] st := rfl
    have s2 : ∀ xs, tupS xs st = .ok (.tup xs) st := fun _ => rfl
    have s3 : lenD (.tup [.int (n : Int)]) st = .ok (.int ((1 : Nat) : Int)) st := rfl
    simp only [cOp2_ap, cS1_ap, cSeq_ap, cVar_ap, cTup_ap, cArgs_cons, cArgs_nil, cB1_ap, R.bind_ok, List.getElem?_cons_zero, List.getElem?_cons_succ, s1, s2, s3]
    exact add2 _ _ st
  · rw [forGo_cons trivial rfl (.inl (mix_word hq hn st)), forGo_cons trivial rfl (.inl (mix_word (hq.word hn) h1 st)), forGo_nil trivial]
  have hr := ((hq.word hn).word h1).inC (w := 255) (by decide)
  generalize he : (q.word n).word 1 = r at hr ⊢
  refine sSeq_nx (ρ' := [some (.int (f : Int)), some (.int (s : Int)), some (.tup [.int (n : Int)]), some (.int ((r.inC 255).a : Int)), some (.int ((r.inC 255).b : Int)), some (.int ((r.inC 255).c : Int)), some (.int ((r.inC 255).d : Int)), some (.int ((1 : Nat) : Int)), none]) (s_xorc (c := 255) rfl rfl) ?_
  have em : mixN f s n = (r.inC 255).rnd.rnd.rnd.rnd.sum := by unfold mixN; rw [hq0, he]
  rw [em]
  generalize r.inC 255 = t at hr ⊢
  have step : ∀ (t : Q4) (h : t.ok) {x y z w u : Option D}, (sAsg (cCall m_one_round [(cVar 3), (cVar 4), (cVar 5), (cVar 6)]) (gT 4 (gsCons (gN 3) (gsCons (gN 4) (gsCons (gN 5) (gsCons (gN 6) gsNil)))))) [x, y, z, some (.int (t.a : Int)), some (.int (t.b : Int)), some (.int (t.c : Int)), some (.int (t.d : Int)), w, u] st =
      .nx [x, y, z, some (.int (t.rnd.a : Int)), some (.int (t.rnd.b : Int)), some (.int (t.rnd.c : Int)), some (.int (t.rnd.d : Int)), w, u] st := fun t h {x y z w u} => s_rnd h st (by
    simp only [cCall_ap, cArgs_cons, cArgs_nil, cVar_ap, R.bind_ok, List.getElem?_cons_zero, List.getElem?_cons_succ]
    exact round_ok h st)
  refine sSeq_nx (for4 (fun _ => rfl) ⟨_, rfl, step t hr⟩ ⟨_, rfl, step _ hr.rnd⟩ ⟨_, rfl, step _ hr.rnd.rnd⟩ ⟨_, rfl, step _ hr.rnd.rnd.rnd⟩) ?_
  refine sRet_ok ?_
  rw [Q4.sum]
  simp only [cOp2_ap, cVar_ap, cC_ap, R.bind_ok, List.getElem?_cons_zero, List.getElem?_cons_succ, xorD_nat]
end PMl

set_option Elab.async false
set_option linter.all false
set_option maxRecDepth 100000
set_option maxHeartbeats 2000000
/-! the plain law of k54, 2: tags. -/
namespace PMl
open PySem PM L2
theorem q_a (q : Q4) (st : Sto) : getD (.tup q.D) (.int 0) st = .ok (.int (q.a : Int)) st := by rw [getD_tup, Q4.D, atD_0]
theorem q_b (q : Q4) (st : Sto) : getD (.tup q.D) (.int 1) st = .ok (.int (q.b : Int)) st := by rw [getD_tup, Q4.D, atD_1]
theorem q_c (q : Q4) (st : Sto) : getD (.tup q.D) (.int 2) st = .ok (.int (q.c : Int)) st := by rw [getD_tup, Q4.D, atD_2]
theorem q_d (q : Q4) (st : Sto) : getD (.tup q.D) (.int 3) st = .ok (.int (q.d : Int)) st := by rw [getD_tup, Q4.D, atD_3]
theorem inD_D (q : Q4) (w : Nat) : (q.inD w).D = [.int (q.a : Int), .int (q.b : Int), .int (q.c : Int), .int ((q.d ^^^ w : Nat) : Int)] := by rw [Q4.D, Q4.inD]
theorem inA_D (q : Q4) (w : Nat) : (q.inA w).D = [.int ((q.a ^^^ w : Nat) : Int), .int (q.b : Int), .int (q.c : Int), .int (q.d : Int)] := by rw [Q4.D, Q4.inA]
theorem inC_D (q : Q4) (w : Nat) : (q.inC w).D = [.int (q.a : Int), .int (q.b : Int), .int ((q.c ^^^ w : Nat) : Int), .int (q.d : Int)] := by rw [Q4.D, Q4.inC]
theorem lmix_word {q : Q4} (h : q.ok) {w : Nat} (hw : w < W64) {x y z u : Option D} (st : Sto) :
    (sSeq (sSet 3 (cCall m__law_round [(cCall m__law_round [(cTup [(cOp2 getD (cVar 3) (cC (.int 0))), (cOp2 getD (cVar 3) (cC (.int 1))), (cOp2 getD (cVar 3) (cC (.int 2))), (cOp2 xorD (cOp2 getD (cVar 3) (cC (.int 3))) (cVar 4))])])]))
      (sSet 3 (cTup [(cOp2 xorD (cOp2 getD (cVar 3) (cC (.int 0))) (cVar 4)), (cOp2 getD (cVar 3) (cC (.int 1))), (cOp2 getD (cVar 3) (cC (.int 2))), (cOp2 getD (cVar 3) (cC (.int 3)))]))) [x, y, z, some (.tup q.D), some (.int (w : Int)), u] st =
      .nx [x, y, z, some (.tup (q.word w).D), some (.int (w : Int)), u] st := by
  have e1 := lround_ok (h.inD hw) st
  have e2 := lround_ok (h.inD hw).rnd st
  refine sSeq_nx (ρ' := [x, y, z, some (.tup (q.inD w).rnd.rnd.D), some (.int (w : Int)), u]) (st' := st) (sSet_ok (d := .tup (q.inD w).rnd.rnd.D) ?_ rfl) ?_
  · simp only [cCall_ap, cTup_ap, cArgs_cons, cArgs_nil, cVar_ap, cC_ap, cOp2_ap, R.bind_ok, List.getElem?_cons_zero, List.getElem?_cons_succ, q_a, q_b, q_c, q_d, xorD_nat]
    rw [← inD_D, e1]
    simp only [R.bind_ok]
    exact e2
  · rw [show (q.word w).D = ((q.inD w).rnd.rnd.inA w).D from rfl]
    generalize (q.inD w).rnd.rnd = r
    refine sSet_ok (d := .tup (r.inA w).D) ?_ rfl
    simp only [cCall_ap, cTup_ap, cArgs_cons, cArgs_nil, cVar_ap, cC_ap, cOp2_ap, R.bind_ok, List.getElem?_cons_zero, List.getElem?_cons_succ, q_a, q_b, q_c, q_d, xorD_nat, inA_D]
theorem lmix_ok {f s n m : Nat} (hf : f < W64) (hs : s < W64) (hn : n < W64) {st : Sto} (hm : st[m]? = some (.lst [.int (n : Int)])) : m__law_mix [.int (f : Int), .int (s : Int), .loc m] st = .ok (.int (mixN f s n : Nat)) st := by
  refine def_rt (ρ0 := [some (.int (f : Int)), some (.int (s : Int)), some (.loc m), none, none, none]) rfl ?_ rfl
  unfold b__law_mix
  have hq := q0_ok hf hs
  obtain ⟨a0, ea⟩ : ∃ x, f ^^^ 8317987319222330741 = x := ⟨_, rfl⟩
  obtain ⟨b0, eb⟩ : ∃ x, s ^^^ 7237128888997146477 = x := ⟨_, rfl⟩
  obtain ⟨c0, ec⟩ : ∃ x, f ^^^ 7816392313619706465 = x := ⟨_, rfl⟩
  obtain ⟨d0, ed⟩ : ∃ x, s ^^^ 8387220255154660723 = x := ⟨_, rfl⟩
  have hq0 : q0 f s = ⟨a0, b0, c0, d0⟩ := by rw [q0, ea, eb, ec, ed]
  rw [hq0] at hq
  have x1 : xorD (.int (f : Int)) (.int 8317987319222330741) st = .ok (.int (a0 : Int)) st := by rw [cast1, xorD_nat, ea]
  have x2 : xorD (.int (s : Int)) (.int 7237128888997146477) st = .ok (.int (b0 : Int)) st := by rw [cast2, xorD_nat, eb]
  have x3 : xorD (.int (f : Int)) (.int 7816392313619706465) st = .ok (.int (c0 : Int)) st := by rw [cast3, xorD_nat, ec]
  have x4 : xorD (.int (s : Int)) (.int 8387220255154660723) st = .ok (.int (d0 : Int)) st := by rw [cast4, xorD_nat, ed]
  refine sSeq_nx (ρ' := [some (.int (f : Int)), some (.int (s : Int)), some (.loc m), some (.tup (Q4.D ⟨a0, b0, c0, d0⟩)), none, none]) (st' := st) (sSet_ok (d := .tup (Q4.D ⟨a0, b0, c0, d0⟩)) ?_ rfl) ?_
  · simp only [cTup_ap, cArgs_cons, cArgs_nil, cVar_ap, cC_ap, cOp2_ap, R.bind_ok, List.getElem?_cons_zero, List.getElem?_cons_succ, x1, x2, x3, x4, Q4.D]
  generalize hqq : (⟨a0, b0, c0, d0⟩ : Q4) = q at hq hq0
  have h1 : (1 : Nat) < W64 := by decide
  refine sSeq_nx (st' := st) (ρ' := [some (.int (f : Int)), some (.int (s : Int)), some (.loc m), some (.tup ((q.word n).word 1).D), some (.int ((1 : Nat) : Int)), none]) (sFor_ok (b := ⟨fun _ => True, [.int (n : Int), .int ((1 : Nat) : Int)]⟩) (st' := st) ?_ ?_) ?_
  · have s1 : lstD (.loc m) st = .ok [.int (n : Int)] st := by simp only [lstD, hm]
    have s3 : lenD (.loc m) st = .ok (.int ((1 : Nat) : Int)) st := lenD_lst hm
    have s4 : catL [.int (n : Int)] [.int ((1 : Nat) : Int)] st = .ok [.int (n : Int), .int ((1 : Nat) : Int)] st := by
      unfold catL
      rw [if_pos (by show 2 ≤ sizeLine; decide)]; rfl
    simp only [cItl_ap, cCatE_ap, cVar_ap, cLst_ap, cB1_ap, cArgs_cons, cArgs_nil, R.bind_ok, List.getElem?_cons_zero, List.getElem?_cons_succ, s1, s3, s4]
  · rw [forGo_cons trivial rfl (.inl (lmix_word hq hn st)), forGo_cons trivial rfl (.inl (lmix_word (hq.word hn) h1 st)), forGo_nil trivial]
  have hr := ((hq.word hn).word h1).inC (w := 255) (by decide)
  generalize he : (q.word n).word 1 = r at hr ⊢
  have x5 : ∀ a : Nat, xorD (.int (a : Int)) (.int 255) st = .ok (.int ((a ^^^ 255 : Nat) : Int)) st := fun a => xorD_nat a 255 st
  refine sSeq_nx (ρ' := [some (.int (f : Int)), some (.int (s : Int)), some (.loc m), some (.tup (r.inC 255).D), some (.int ((1 : Nat) : Int)), none]) (st' := st) (sSet_ok (d := .tup (r.inC 255).D) ?_ rfl) ?_
  · simp only [cTup_ap, cArgs_cons, cArgs_nil, cVar_ap, cC_ap, cOp2_ap, R.bind_ok, List.getElem?_cons_zero, List.getElem?_cons_succ, q_a, q_b, q_c, q_d, x5, inC_D]
  have em : mixN f s n = (r.inC 255).rnd.rnd.rnd.rnd.sum := by unfold mixN; rw [hq0, he]
  rw [em]
  generalize r.inC 255 = t at hr ⊢
  have step : ∀ (t : Q4) (h : t.ok) {x y z w u : Option D}, (sSet 3 (cCall m__law_round [(cVar 3)])) [x, y, z, some (.tup t.D), w, u] st = .nx [x, y, z, some (.tup t.rnd.D), w, u] st := fun t h {x y z w u} => sSet_ok (d := .tup t.rnd.D) (by
    simp only [cCall_ap, cArgs_cons, cArgs_nil, cVar_ap, R.bind_ok, List.getElem?_cons_zero, List.getElem?_cons_succ]
    exact lround_ok h st) rfl
  refine sSeq_nx (for4 (fun _ => rfl) ⟨_, rfl, step t hr⟩ ⟨_, rfl, step _ hr.rnd⟩ ⟨_, rfl, step _ hr.rnd.rnd⟩ ⟨_, rfl, step _ hr.rnd.rnd.rnd⟩) ?_
  refine sRet_ok ?_
  rw [Q4.sum]
  simp only [cOp2_ap, cVar_ap, cC_ap, R.bind_ok, List.getElem?_cons_zero, List.getElem?_cons_succ, q_a, q_b, q_c, q_d, xorD_nat]
end PMl

set_option Elab.async false
set_option linter.all false
set_option maxRecDepth 100000
set_option maxHeartbeats 2000000
/-! the plain law of k54, 3: tags of rows; bytes. -/
namespace PMl
open PySem PM L2
def P64 : Nat := 18446744073709550147
theorem castP : ((P64 : Nat) : Int) = 18446744073709550147 := rfl
theorem modP (n : Nat) (st : Sto) : modD (.int (n : Int)) (.int 18446744073709550147) st = .ok (.int ((n % P64 : Nat) : Int)) st := by
  rw [← castP]
  exact modD_nat st (by decide)
theorem modP_lt {n : Nat} : n % P64 < P64 := Nat.mod_lt _ (by decide)
def intN (x : Nat) : D := .int (x : Int)
def rowN (r : List Nat) : D := .tup (r.map intN)
def foldN (k : Nat) : Nat → List Nat → Nat
  | h, [] => h
  | h, x :: r => foldN k ((h * k + x + 1) % P64) r
structure Ky where
  k : Nat
  f : Nat
  s : Nat
def Ky.ok (y : Ky) : Prop := y.k < W64 ∧ y.f < W64 ∧ y.s < W64
def Ky.D (y : Ky) : D := .tup [.str "key", .int (y.k : Int), .int (y.f : Int), .int (y.s : Int)]
theorem k_1 (y : Ky) (st : Sto) : getD y.D (.int 1) st = .ok (.int (y.k : Int)) st := by rw [Ky.D, getD_tup, atD_1]
theorem k_2 (y : Ky) (st : Sto) : getD y.D (.int 2) st = .ok (.int (y.f : Int)) st := by rw [Ky.D, getD_tup, atD_2]
theorem k_3 (y : Ky) (st : Sto) : getD y.D (.int 3) st = .ok (.int (y.s : Int)) st := by rw [Ky.D, getD_tup, atD_3]
def tagN (y : Ky) (n : Nat) (r : List Nat) : Nat := (foldN y.k 0 r * y.k + mixN y.f y.s n) % P64
theorem tagN_lt (y : Ky) (n : Nat) (r : List Nat) : tagN y n r < P64 := modP_lt
theorem add1 (a : Nat) (st : Sto) : addD (.int (a : Int)) (.int 1) st = .ok (.int ((a + 1 : Nat) : Int)) st := addD_nat a 1 st
theorem tag_loop {y : Ky} (hy : y.ok) {w : D} (hw : w = .int 18446744073709550147) (st : Sto) {p q : Option D} : ∀ (r : List Nat) (h : Nat) (u : Option D),
    ∃ u', forGo (fun _ => True) (gN 4) (sSet 3 (cOp2 modD (cOp2 addD (cOp2 addD (cOp2 mulD (cVar 3) (cOp2 getD (cVar 0) (cC (.int 1)))) (cVar 4)) (cC (.int 1))) (cC w))) (r.map intN) [some y.D, p, q, some (.int (h : Int)), u] st =
      .nx [some y.D, p, q, some (.int (foldN y.k h r : Nat)), u'] st
  | [], h, u => ⟨u, by rw [List.map_nil, forGo_nil trivial, foldN]⟩
  | x :: r, h, u => by
    obtain ⟨u', e⟩ := tag_loop hy hw st r ((h * y.k + x + 1) % P64) (some (.int (x : Int)))
    refine ⟨u', ?_⟩
    rw [List.map_cons, forGo_cons (ρ1 := [some y.D, p, q, some (.int (h : Int)), some (.int (x : Int))]) (ρ2 := [some y.D, p, q, some (.int (((h * y.k + x + 1) % P64 : Nat) : Int)), some (.int (x : Int))]) (st2 := st) trivial rfl (.inl ?_), e, foldN]
    subst hw
    refine sSet_ok (d := .int (((h * y.k + x + 1) % P64 : Nat) : Int)) ?_ rfl
    have m1 : mulD (.int (h : Int)) (.int (y.k : Int)) st = .ok (.int ((h * y.k : Nat) : Int)) st := mulD_nat st hy.1
    simp only [cOp2_ap, cVar_ap, cC_ap, R.bind_ok, List.getElem?_cons_zero, List.getElem?_cons_succ, k_1, m1, addD_nat, add1, modP]
theorem tag_ok {y : Ky} (hy : y.ok) {n : Nat} (hn : n < W64) (r : List Nat) (st : Sto) : m_tag [y.D, .int (n : Int), rowN r] st = .ok (.int (tagN y n r : Nat)) st := by
  refine def_rt (ρ0 := [some y.D, some (.int (n : Int)), some (rowN r), none, none]) rfl ?_ rfl
  unfold b_tag
  obtain ⟨u, e⟩ := tag_loop hy (w := k_PRIME) rfl st (p := some (.int (n : Int))) (q := some (rowN r)) r 0 none
  refine sSeq_nx (ρ' := [some y.D, some (.int (n : Int)), some (rowN r), some (.int ((0 : Nat) : Int)), none]) (st' := st) (sSet_ok (cC_ap _ _ _) rfl) ?_
  refine sSeq_nx (sFor_ok (cItr_tup (xs := r.map intN) (cVar_at rfl)) e) ?_
  refine sRet_ok ?_
  have m1 : mulD (.int (foldN y.k 0 r : Nat)) (.int (y.k : Int)) st = .ok (.int ((foldN y.k 0 r * y.k : Nat) : Int)) st := mulD_nat st hy.1
  have m2 := mix_ok hy.2.1 hy.2.2 hn st
  have m3 : cC k_PRIME = cC (.int 18446744073709550147) := rfl
  rw [m3]
  simp only [cOp2_ap, cVar_ap, cC_ap, cCall_ap, cTup_ap, cArgs_cons, cArgs_nil, R.bind_ok, List.getElem?_cons_zero, List.getElem?_cons_succ, k_1, k_2, k_3, m1, m2, addD_nat, modP, tagN]
theorem ltag_ok {y : Ky} (hy : y.ok) {n : Nat} (hn : n < W64) (r : List Nat) (st : Sto) : m__law_tag [y.D, .int (n : Int), rowN r] st = .ok (.int (tagN y n r : Nat)) st := by
  refine def_pure (g := [.lst [.int (n : Int)]]) (ρ0 := [some y.D, some (.int (n : Int)), some (rowN r), none, none]) rfl ?_ rfl
  unfold b__law_tag
  obtain ⟨u, e⟩ := tag_loop hy (w := .int 18446744073709550147) rfl st (p := some (.int (n : Int))) (q := some (rowN r)) r 0 none
  refine sSeq_nx (ρ' := [some y.D, some (.int (n : Int)), some (rowN r), some (.int ((0 : Nat) : Int)), none]) (st' := st) (sSet_ok (cC_ap _ _ _) rfl) ?_
  refine sSeq_nx (sFor_ok (cItr_tup (xs := r.map intN) (cVar_at rfl)) e) ?_
  refine sRet_ok ?_
  have m1 : mulD (.int (foldN y.k 0 r : Nat)) (.int (y.k : Int)) st = .ok (.int ((foldN y.k 0 r * y.k : Nat) : Int)) st := mulD_nat st hy.1
  have m2 := lmix_ok (m := st.length) (st := st ++ [.lst [.int (n : Int)]]) hy.2.1 hy.2.2 hn get_new
  simp only [cOp2_ap, cVar_ap, cC_ap, cCall_ap, cNew_ap, cLst_ap, cArgs_cons, cArgs_nil, R.bind_ok, List.getElem?_cons_zero, List.getElem?_cons_succ, k_1, k_2, k_3, m1, m2, addD_nat, modP, tagN]
end PMl

set_option Elab.async false
set_option linter.all false
set_option maxRecDepth 100000
set_option maxHeartbeats 2000000
/-! the plain law of k54, 4: numbers as bytes. -/
namespace PMl
open PySem PM L2
def lowN : Nat → Nat → List Nat
  | 0, _ => []
  | m + 1, n => n % 256 :: lowN m (n / 256)
def bytesN (m n : Nat) : List Nat := (lowN m n).reverse
theorem bytesN_succ (m n : Nat) : bytesN (m + 1) n = bytesN m (n / 256) ++ [n % 256] := by
  rw [bytesN, lowN, List.reverse_cons]; rfl
theorem bytesN_len : ∀ (m n : Nat), (bytesN m n).length = m
  | 0, _ => rfl
  | m + 1, n => by rw [bytesN_succ, List.length_append, bytesN_len m]; rfl
theorem bytesN_lt : ∀ (m n : Nat), ∀ x ∈ bytesN m n, x < 256
  | 0, _, x, h => by cases h
  | m + 1, n, x, h => by
    rw [bytesN_succ, List.mem_append] at h
    rcases h with h | h
    · exact bytesN_lt m _ x h
    · rw [List.mem_singleton.mp h]; exact Nat.mod_lt _ (by decide)
def numF : Nat → List Nat → Nat
  | h, [] => h
  | h, x :: r => numF (h * 256 + x) r
theorem numF_app : ∀ (l : List Nat) (h x : Nat), numF h (l ++ [x]) = numF h l * 256 + x
  | [], h, x => rfl
  | y :: l, h, x => by rw [List.cons_append, numF, numF_app l, numF]
theorem numF_bytes : ∀ (m n : Nat), numF 0 (bytesN m n) = n % 256 ^ m
  | 0, n => by rw [Nat.pow_zero, Nat.mod_one]; rfl
  | m + 1, n => by
    rw [bytesN_succ, numF_app, numF_bytes m, Nat.pow_succ, Nat.mul_comm (256 ^ m) 256, Nat.mod_mul]
    omega
theorem split_bytes : ∀ (m n : Nat), (List.range m).map (fun k => n / 2 ^ (8 * (m - 1 - k)) &&& 255) = bytesN m n
  | 0, n => rfl
  | m + 1, n => by
    rw [List.range_succ, List.map_append, bytesN_succ, ← split_bytes m (n / 256)]
    congr 1
    · apply List.map_congr_left
      intro k hk
      have hk := List.mem_range.mp hk
      rw [show 8 * (m + 1 - 1 - k) = 8 + 8 * (m - 1 - k) by omega, Nat.pow_add, ← Nat.div_div_eq_div_mul]
    · simp only [List.map_cons, List.map_nil]
      rw [show 8 * (m + 1 - 1 - m) = 0 by omega, Nat.pow_zero, Nat.div_one]
      exact congrArg (fun x => [x]) (Nat.and_two_pow_sub_one_eq_mod n 8)
theorem num_loop (st : Sto) {p : Option D} : ∀ (r : List Nat) (h : Nat) (u : Option D), ∃ u', forGo (fun _ => True) (gN 2) (sSet 1 (cOp2 addD (cOp2 mulD (cVar 1) (cC (.int 256))) (cVar 2))) (r.map intN) [p, some (.int (h : Int)), u] st = .nx [p, some (.int (numF h r : Nat)), u'] st
  | [], h, u => ⟨u, by rw [List.map_nil, forGo_nil trivial, numF]⟩
  | x :: r, h, u => by
    obtain ⟨u', e⟩ := num_loop st (p := p) r (h * 256 + x) (some (.int (x : Int)))
    refine ⟨u', ?_⟩
    rw [List.map_cons, forGo_cons (ρ1 := [p, some (.int (h : Int)), some (.int (x : Int))]) (ρ2 := [p, some (.int ((h * 256 + x : Nat) : Int)), some (.int (x : Int))]) (st2 := st) trivial rfl (.inl ?_), e, numF]
    refine sSet_ok (d := .int ((h * 256 + x : Nat) : Int)) ?_ rfl
    have m1 : mulD (.int (h : Int)) (.int 256) st = .ok (.int ((h * 256 : Nat) : Int)) st := mulD_nat (n := 256) st (by decide)
    simp only [cOp2_ap, cVar_ap, cC_ap, R.bind_ok, List.getElem?_cons_zero, List.getElem?_cons_succ, m1, addD_nat]
theorem number_ok (r : List Nat) (st : Sto) : m_number_of [rowN r] st = .ok (.int (numF 0 r : Nat)) st := by
  refine def_rt (ρ0 := [some (rowN r), none, none]) rfl ?_ rfl
  unfold b_number_of
  obtain ⟨u, e⟩ := num_loop st (p := some (rowN r)) r 0 none
  refine sSeq_nx (ρ' := [some (rowN r), some (.int ((0 : Nat) : Int)), none]) (st' := st) (sSet_ok (cC_ap _ _ _) rfl) ?_
  refine sSeq_nx (sFor_ok (cItr_tup (xs := r.map intN) (cVar_at rfl)) e) ?_
  exact sRet_ok (cVar_at rfl)
theorem lsplit_ok {m : Nat} (n : Nat) (hm : m ≤ 1000) (st : Sto) : m__law_split [.int (n : Int), .int (m : Int)] st = .ok (rowN (bytesN m n)) st := by
  refine def_rt (ρ0 := [some (.int (n : Int)), some (.int (m : Int)), none]) rfl ?_ rfl
  unfold b__law_split
  refine sRet_ok ?_
  have hc := compGo_pure (chk := fun _ => True) (t := .one 2) (tt := tYesD) (te := (cOp2 andD (cOp2 shrD (cVar 0) (cOp2 mulD (cC (.int 8)) (cOp2 subD (cOp2 subD (cVar 1) (cC (.int 1))) (cVar 2)))) (cC (.int 255)))) (ρ := [some (.int (n : Int)), some (.int (m : Int)), none]) (st := st) (fun _ => true)
    (fun x => match x with | .int k => intN (n / 2 ^ (8 * (m - 1 - k.toNat)) &&& 255) | _ => .non) trivial (rngD 0 m) (fun x hx => by
      obtain ⟨k, rfl, h0, h1⟩ := mem_rng hx
      obtain ⟨j, rfl⟩ : ∃ j : Nat, k = j := ⟨k.toNat, by omega⟩
      refine ⟨[some (.int (n : Int)), some (.int (m : Int)), some (.int (j : Int))], rfl, rfl, fun _ => ?_⟩
      have e1 : subD (.int (m : Int)) (.int 1) st = .ok (.int ((m - 1 : Nat) : Int)) st := by rw [subD_int]; congr 2; omega
      have e2 : subD (.int ((m - 1 : Nat) : Int)) (.int (j : Int)) st = .ok (.int ((m - 1 - j : Nat) : Int)) st := by rw [subD_int]; congr 2; omega
      have e3 : mulD (.int 8) (.int ((m - 1 - j : Nat) : Int)) st = .ok (.int ((8 * (m - 1 - j) : Nat) : Int)) st := mulD_nat (a := 8) st (by omega)
      have e4 : ∀ x : Nat, andD (.int (x : Int)) (.int 255) st = .ok (.int ((x &&& 255 : Nat) : Int)) st := fun x => andD_nat x 255 st
      simp only [cOp2_ap, cVar_ap, cC_ap, R.bind_ok, List.getElem?_cons_zero, List.getElem?_cons_succ, e1, e2, e3, shrD_nat, e4]
      rfl)
  have e0 : cComp (cRng1 (cVar 1)) (.one 2) tYesD (cOp2 andD (cOp2 shrD (cVar 0) (cOp2 mulD (cC (.int 8)) (cOp2 subD (cOp2 subD (cVar 1) (cC (.int 1))) (cVar 2)))) (cC (.int 255))) [2] [some (.int (n : Int)), some (.int (m : Int)), none] st = .ok ((bytesN m n).map intN) st := by
    rw [cComp_ap, cRng1_ok (n := m) (cVar_at rfl) (by omega), R.bind_ok, if_pos (by rw [rngD_len]; exact Nat.le_trans hm (by decide))]
    refine Eq.trans hc ?_
    rw [List.filter_eq_self.mpr (fun _ _ => rfl), rngD_nat, List.map_map, ← split_bytes m n, List.map_map]
    rfl
  rw [cS1_ap, e0]
  rfl
theorem bytes_loop {m : Option D} {q : Nat} : ∀ (k : Nat) (lo : Int) (n : Nat) (l : List D) (u : Option D) (st : Sto), st[q]? = some (.lst l) → l.length + k ≤ 1000 →
    ∃ u' n', forGo (fun _ => True) (gN 3) (sSeq (sExp (cApp (cVar 2) (cOp2 modD (cVar 0) (cC (.int 256))))) (sAug 0 ifdivD (cC (.int 256)))) (rngD lo k) [some (.int (n : Int)), m, some (.loc q), u] st =
      .nx [some (.int (n' : Nat)), m, some (.loc q), u'] (st.set q (.lst (l ++ (lowN k n).map intN)))
  | 0, lo, n, l, u, st, h, _ => ⟨u, n, by rw [rngD_zero, forGo_nil trivial, lowN, List.map_nil, List.append_nil, set_self h]⟩
  | k + 1, lo, n, l, u, st, h, hz => by
    obtain ⟨u', n', e⟩ := bytes_loop (m := m) (q := q) k (lo + 1) (n / 256) (l ++ [intN (n % 256)]) (some (.int lo)) (st.set q (.lst (l ++ [intN (n % 256)]))) (get_set_eq h) (by simp; omega)
    refine ⟨u', n', ?_⟩
    rw [rngD_succ, forGo_cons (ρ1 := [some (.int (n : Int)), m, some (.loc q), some (.int lo)]) (ρ2 := [some (.int ((n / 256 : Nat) : Int)), m, some (.loc q), some (.int lo)]) (st2 := st.set q (.lst (l ++ [intN (n % 256)]))) trivial rfl (.inl ?_), e, List.set_set, lowN, List.map_cons, List.append_assoc]
    · rfl
    have e1 : modD (.int (n : Int)) (.int 256) st = .ok (.int ((n % 256 : Nat) : Int)) st := modD_nat (n := 256) st (by decide)
    have e2 : ∀ s : Sto, ifdivD (.int (n : Int)) (.int 256) s = .ok (.int ((n / 256 : Nat) : Int)) s := fun s => fdivD_nat (n := 256) s (by decide) (by decide)
    refine sSeq_nx (sExp_ok (app_ok (y := intN (n % 256)) (st1 := st) (cVar_at rfl) h ?_ (appD_at h (by omega)))) ?_
    · simp only [cOp2_ap, cVar_ap, cC_ap, R.bind_ok, List.getElem?_cons_zero, e1]
      rfl
    · rw [sAug_ap]
      simp only [List.getElem?_cons_zero, cC_ap, fE_ok, e2, List.set_cons_zero]
theorem bytes_ok {m : Nat} (n : Nat) (hm : m ≤ 1000) (st : Sto) : m_bytes_of [.int (n : Int), .int (m : Int)] st = .ok (rowN (bytesN m n)) st := by
  obtain ⟨u, n', e⟩ := bytes_loop (m := some (.int (m : Int))) (q := st.length) m 0 n [] none (st ++ [.lst []]) get_new (by simpa using hm)
  refine def_pure (g := [.lst ((lowN m n).map intN)]) (ρ0 := [some (.int (n : Int)), some (.int (m : Int)), none, none]) rfl ?_ ?_
  · unfold b_bytes_of
    refine sSeq_nx (ρ' := [some (.int (n : Int)), some (.int (m : Int)), some (.loc st.length), none]) (st' := st ++ [.lst []]) (sSet_ok (d := .loc st.length) ?_ rfl) ?_
    · simp only [cNew_ap, cLst_ap, cArgs_nil, R.bind_ok]
    refine sSeq_nx (sFor_ok (cRng1_ok (n := m) (st' := st ++ [.lst []]) (cVar_at rfl) (by omega)) e) ?_
    rw [set_last, List.nil_append]
    refine sRet_ok ?_
    have hl : lstD (.loc st.length) (st ++ [.lst ((lowN m n).map intN)]) = .ok ((lowN m n).map intN) (st ++ [.lst ((lowN m n).map intN)]) := by simp only [lstD, get_new]
    rw [cS1_ap]
    show (((cVar 2 _ _).bind fun x st => (lstD x st).bind fun xs st => R.ok xs.reverse st).bind tupS) = _
    rw [cVar_at rfl, R.bind_ok, hl, R.bind_ok, R.bind_ok, ← List.map_reverse]
    rfl
  · have go : ∀ (l : List Nat), belowAll st.length (l.map intN) = true := by
      intro l
      induction l with
      | nil => rfl
      | cons x r ih => rw [List.map_cons, belowAll, ih]; rfl
    exact go _
end PMl

set_option Elab.async false
set_option linter.all false
set_option maxRecDepth 100000
set_option maxHeartbeats 2000000
/-! the plain law of k54, 5: a Writer. -/
namespace PMl
open PySem PM L2
/-- the store stays but at the places L -/
structure Sm (L : List Nat) (st st' : Sto) : Prop where
  len : st'.length = st.length
  eq : ∀ n, n ∉ L → st'[n]? = st[n]?
theorem Sm.refl {L : List Nat} {st : Sto} : Sm L st st := ⟨rfl, fun _ _ => rfl⟩
theorem Sm.trans {L : List Nat} {a b c : Sto} (h : Sm L a b) (k : Sm L b c) : Sm L a c := ⟨k.len.trans h.len, fun n hn => (k.eq n hn).trans (h.eq n hn)⟩
theorem Sm.set {L : List Nat} {st : Sto} {n : Nat} {o : O} (h : n ∈ L) : Sm L st (st.set n o) := ⟨List.length_set, fun m hm => get_set_ne fun e => hm (e ▸ h)⟩
/-- what a Writer has: bytes, the rest, how many bits are held -/
structure Wr where
  l : List Nat
  rest : Nat
  held : Nat
def Wr.step (s : Wr) : Wr := ⟨s.l ++ [s.rest / 2 ^ (s.held - 8)], s.rest &&& (1 * 2 ^ (s.held - 8) - 1), s.held - 8⟩
def Wr.drain : Nat → Wr → Wr
  | 0, s => s
  | k + 1, s => Wr.drain k s.step
def Wr.put (s : Wr) (v w : Nat) : Wr := Wr.drain ((s.held + w) / 8) ⟨s.l, s.rest * 2 ^ w + v, s.held + w⟩
def wF (r : Nat) (s : Wr) : List (Str × D) := [("_row", .loc r), ("_rest", .int (s.rest : Int)), ("_held", .int (s.held : Int))]
structure WAt (st : Sto) (w r : Nat) (s : Wr) : Prop where
  o : st[w]? = some (.ins 2 (wF r s))
  l : st[r]? = some (.lst (s.l.map intN))
theorem WAt.ne {st : Sto} {w r : Nat} {s : Wr} (h : WAt st w r s) : w ≠ r := fun e => by
  have := h.o
  rw [e, h.l] at this
  cases this
theorem ln1 : (("_rest" : Str) == ("_row" : Str)) = false := by decide +kernel
theorem ln2 : (("_held" : Str) == ("_row" : Str)) = false := by decide +kernel
theorem ln3 : (("_held" : Str) == ("_rest" : Str)) = false := by decide +kernel
theorem f_row {st : Sto} {w r : Nat} {s : Wr} (h : WAt st w r s) : fldOf [2, 3] "_row" (.loc w) st = .ok (.loc r) st := by
  simp [fldOf, h.o, wF]
theorem f_rest {st : Sto} {w r : Nat} {s : Wr} (h : WAt st w r s) : fldOf [2] "_rest" (.loc w) st = .ok (.int (s.rest : Int)) st := by
  simp [fldOf, h.o, wF, List.lookup, ln1]
theorem f_held {st : Sto} {w r : Nat} {s : Wr} (h : WAt st w r s) : fldOf [2] "_held" (.loc w) st = .ok (.int (s.held : Int)) st := by
  simp [fldOf, h.o, wF, List.lookup, ln2, ln3]
theorem put_rest (r : Nat) (s : Wr) (v : Nat) : putFD "_rest" (.int (v : Int)) (wF r s) = wF r ⟨s.l, v, s.held⟩ := by
  have h1 : ¬ (("_row" : Str) = "_rest") := by decide +kernel
  simp [wF, putFD, h1]
theorem put_held (r : Nat) (s : Wr) (v : Nat) : putFD "_held" (.int (v : Int)) (wF r s) = wF r ⟨s.l, s.rest, v⟩ := by
  have h1 : ¬ (("_row" : Str) = "_held") := by decide +kernel
  have h2 : ¬ (("_rest" : Str) = "_held") := by decide +kernel
  simp [wF, putFD, h1, h2]
theorem WAt.setO {st : Sto} {w r : Nat} {s : Wr} (h : WAt st w r s) (a b : Nat) : WAt (st.set w (.ins 2 (wF r ⟨s.l, a, b⟩))) w r ⟨s.l, a, b⟩ := ⟨get_set_eq h.o, by rw [get_set_ne (Ne.symm h.ne)]; exact h.l⟩
theorem WAt.setL {st : Sto} {w r : Nat} {s : Wr} (h : WAt st w r s) (l : List Nat) : WAt (st.set r (.lst (l.map intN))) w r ⟨l, s.rest, s.held⟩ := ⟨by rw [get_set_ne h.ne]; exact h.o, get_set_eq h.l⟩
theorem s_rest {st : Sto} {w r : Nat} {s : Wr} (h : WAt st w r s) {e : E} {ρ : PM.Env} {v : Nat} (he : e ρ st = .ok (.int (v : Int)) st) (h0 : ρ[0]? = some (some (.loc w))) :
    sFldD [2] "_rest" (cVar 0) e ρ st = .nx ρ (st.set w (.ins 2 (wF r ⟨s.l, v, s.held⟩))) := by
  rw [sFldD_ap, he, fE_ok, cVar_at h0, fE_ok]
  simp only [h.o]
  rw [if_pos ⟨by decide, by show 3 < 1000; decide⟩, put_rest]
theorem s_heldaug {st : Sto} {w r : Nat} {s : Wr} (h : WAt st w r s) {e : E} {ρ : PM.Env} {v : Nat} {y : D} {g : D → D → Sto → R D} (he : e ρ st = .ok y st) (hg : g (.int (s.held : Int)) y st = .ok (.int (v : Int)) st) (h0 : ρ[0]? = some (some (.loc w))) :
    sFldAugD [2] "_held" g (cVar 0) e ρ st = .nx ρ (st.set w (.ins 2 (wF r ⟨s.l, s.rest, v⟩))) := by
  rw [sFldAugD_ap, cVar_at h0, fE_ok]
  have hk : List.lookup ("_held" : Str) (wF r s) = some (D.int (s.held : Int)) := by simp [wF, List.lookup, ln2, ln3]
  simp only [h.o]
  rw [if_pos (by decide), hk]
  simp only [he, fE_ok, hg, h.o]
  rw [if_pos ⟨trivial, by show 3 < 1000; decide⟩, put_held]
def wBody : S := (sSeq (sFldAugD [2] "_held" isubD (cVar 0) (cC (.int 8)))
  (sSeq (sExp (cApp (cB1 (fldOf [2, 3] "_row") (cVar 0)) (cOp2 shrD (cB1 (fldOf [2] "_rest") (cVar 0)) (cB1 (fldOf [2] "_held") (cVar 0)))))
  (sFldD [2] "_rest" (cVar 0) (cOp2 andD (cB1 (fldOf [2] "_rest") (cVar 0)) (cOp2 subD (cOp2 shlD (cC (.int 1)) (cB1 (fldOf [2] "_held") (cVar 0))) (cC (.int 1)))))))
theorem w_step {st : Sto} {w r : Nat} {s : Wr} (h : WAt st w r s) {ρ : PM.Env} (h0 : ρ[0]? = some (some (.loc w))) (h8 : 8 ≤ s.held) (hh : s.held ≤ 1000) (hl : s.l.length < 1000) :
    ∃ st', wBody ρ st = .nx ρ st' ∧ Sm [w, r] st st' ∧ WAt st' w r s.step := by
  have a1 := h.setO s.rest (s.held - 8)
  have e1 := s_heldaug h (v := s.held - 8) (g := isubD) (e := cC (.int 8)) (ρ := ρ) (y := .int 8) rfl (by show R.ok (D.int ((s.held : Int) - 8)) st = _; congr 2; omega) h0
  have k1 : Sm [w, r] st (st.set w (.ins 2 (wF r ⟨s.l, s.rest, s.held - 8⟩))) := Sm.set (by simp)
  generalize st.set w (.ins 2 (wF r ⟨s.l, s.rest, s.held - 8⟩)) = st1 at a1 e1 k1
  have v1 : shrD (.int (s.rest : Int)) (.int ((s.held - 8 : Nat) : Int)) st1 = .ok (intN (s.rest / 2 ^ (s.held - 8))) st1 := shrD_nat st1
  have a2 := a1.setL (s.l ++ [s.rest / 2 ^ (s.held - 8)])
  have k2 : Sm [w, r] st1 (st1.set r (.lst ((s.l ++ [s.rest / 2 ^ (s.held - 8)]).map intN))) := Sm.set (by simp)
  have e2 : (sExp (cApp (cB1 (fldOf [2, 3] "_row") (cVar 0)) (cOp2 shrD (cB1 (fldOf [2] "_rest") (cVar 0)) (cB1 (fldOf [2] "_held") (cVar 0))))) ρ st1 = .nx ρ (st1.set r (.lst ((s.l ++ [s.rest / 2 ^ (s.held - 8)]).map intN))) := by
    refine sExp_ok (app_ok (n := r) (xs := s.l.map intN) (y := intN (s.rest / 2 ^ (s.held - 8))) (st1 := st1) ?_ a1.l ?_ ?_)
    · rw [cB1_ap, cVar_at h0, R.bind_ok, f_row a1]
    · simp only [cOp2_ap, cB1_ap, cVar_at h0, R.bind_ok, f_rest a1, f_held a1, v1]
    · rw [appD_at a1.l (by simp; omega), List.map_append]
      rfl
  generalize st1.set r (.lst ((s.l ++ [s.rest / 2 ^ (s.held - 8)]).map intN)) = st2 at a2 k2 e2
  have v2 : shlD (.int 1) (.int ((s.held - 8 : Nat) : Int)) st2 = .ok (.int ((1 * 2 ^ (s.held - 8) : Nat) : Int)) st2 := shlD_nat (a := 1) st2 (by decide) (by omega)
  have v3 : subD (.int ((1 * 2 ^ (s.held - 8) : Nat) : Int)) (.int 1) st2 = .ok (.int ((1 * 2 ^ (s.held - 8) - 1 : Nat) : Int)) st2 := by
    have := Nat.two_pow_pos (s.held - 8)
    rw [subD_int]; congr 2; omega
  have e3 := s_rest a2 (ρ := ρ) (e := cOp2 andD (cB1 (fldOf [2] "_rest") (cVar 0)) (cOp2 subD (cOp2 shlD (cC (.int 1)) (cB1 (fldOf [2] "_held") (cVar 0))) (cC (.int 1)))) (v := s.rest &&& (1 * 2 ^ (s.held - 8) - 1)) (by
    simp only [cOp2_ap, cB1_ap, cVar_at h0, cC_ap, R.bind_ok, f_rest a2, f_held a2, v2, v3, andD_nat]) h0
  have a3 := a2.setO (s.rest &&& (1 * 2 ^ (s.held - 8) - 1)) (s.held - 8)
  exact ⟨_, sSeq_nx e1 (sSeq_nx e2 e3), (k1.trans k2).trans (Sm.set (by simp)), a3⟩
theorem w_while {w r : Nat} {ρ : PM.Env} (h0 : ρ[0]? = some (some (.loc w))) : ∀ (k : Nat) (st : Sto) (s : Wr), WAt st w r s → s.held / 8 = k → s.held ≤ 1000 → s.l.length + k < 1000 →
    ∃ st', whileN (cTst (cOp2 geD (cB1 (fldOf [2] "_held") (cVar 0)) (cC (.int 8)))) wBody (k + 1) ρ st = some (.nx ρ st') ∧ Sm [w, r] st st' ∧ WAt st' w r (Wr.drain k s)
  | 0, st, s, h, hk, _, _ => by
    refine ⟨st, ?_, Sm.refl, h⟩
    have e : cTst (cOp2 geD (cB1 (fldOf [2] "_held") (cVar 0)) (cC (.int 8))) ρ st = .ok false st := by
      simp only [cTst_ap, cOp2_ap, cB1_ap, cVar_at h0, cC_ap, R.bind_ok, f_held h, geD, cmpI_int]
      rw [decide_eq_false (by omega)]; rfl
    rw [whileN, e]
  | k + 1, st, s, h, hk, hh, hl => by
    obtain ⟨st1, e1, k1, a1⟩ := w_step h h0 (by omega) hh (by omega)
    obtain ⟨st2, e2, k2, a2⟩ := w_while h0 k st1 s.step a1 (by show (s.held - 8) / 8 = k; omega) (by show s.held - 8 ≤ 1000; omega) (by show (s.l ++ [_]).length + k < 1000; simp; omega)
    refine ⟨st2, ?_, k1.trans k2, a2⟩
    have e : cTst (cOp2 geD (cB1 (fldOf [2] "_held") (cVar 0)) (cC (.int 8))) ρ st = .ok true st := by
      simp only [cTst_ap, cOp2_ap, cB1_ap, cVar_at h0, cC_ap, R.bind_ok, f_held h, geD, cmpI_int]
      rw [decide_eq_true (by omega)]; rfl
    rw [whileN, e]
    dsimp only
    rw [e1]
    exact e2
theorem put_ok {st : Sto} {w r : Nat} {s : Wr} (h : WAt st w r s) {v n : Nat} (hr : s.rest < 2 ^ 64) (hn : s.held + n ≤ 1000) (hl : s.l.length + (s.held + n) / 8 < 1000) :
    ∃ st', m_Writer_put [.loc w, .int (v : Int), .int (n : Int)] st = .ok .non st' ∧ Sm [w, r] st st' ∧ WAt st' w r (s.put v n) := by
  have v1 : shlD (.int (s.rest : Int)) (.int (n : Int)) st = .ok (.int ((s.rest * 2 ^ n : Nat) : Int)) st := shlD_nat st hr (by omega)
  have e1 := s_rest h (ρ := [some (.loc w), some (.int (v : Int)), some (.int (n : Int))]) (e := cOp2 addD (cOp2 shlD (cB1 (fldOf [2] "_rest") (cVar 0)) (cVar 2)) (cVar 1)) (v := s.rest * 2 ^ n + v) (by
    simp only [cOp2_ap, cB1_ap, cVar_ap, List.getElem?_cons_zero, List.getElem?_cons_succ, R.bind_ok, f_rest h, v1, addD_nat]) rfl
  have a1 := h.setO (s.rest * 2 ^ n + v) s.held
  have k1 : Sm [w, r] st (st.set w (.ins 2 (wF r ⟨s.l, s.rest * 2 ^ n + v, s.held⟩))) := Sm.set (by simp)
  generalize st.set w (.ins 2 (wF r ⟨s.l, s.rest * 2 ^ n + v, s.held⟩)) = st1 at a1 e1 k1
  have e2 := s_heldaug a1 (v := s.held + n) (g := iaddD) (e := cVar 2) (ρ := [some (.loc w), some (.int (v : Int)), some (.int (n : Int))]) (y := .int (n : Int)) rfl (by show R.ok (D.int ((s.held : Int) + n)) st1 = _; congr 2) rfl
  have a2 := a1.setO (s.rest * 2 ^ n + v) (s.held + n)
  have k2 : Sm [w, r] st1 (st1.set w (.ins 2 (wF r ⟨s.l, s.rest * 2 ^ n + v, s.held + n⟩))) := Sm.set (by simp)
  dsimp only at e2 a2
  generalize st1.set w (.ins 2 (wF r ⟨s.l, s.rest * 2 ^ n + v, s.held + n⟩)) = st2 at a2 e2 k2
  obtain ⟨st3, e3, k3, a3⟩ := w_while (ρ := [some (.loc w), some (.int (v : Int)), some (.int (n : Int))]) rfl ((s.held + n) / 8) st2 _ a2 rfl hn hl
  refine ⟨st3, ?_, (k1.trans k2).trans k3, a3⟩
  refine def_nx (ρ0 := [some (.loc w), some (.int (v : Int)), some (.int (n : Int))]) (ρ := [some (.loc w), some (.int (v : Int)), some (.int (n : Int))]) rfl ?_ ((k1.trans k2).trans k3).len
  unfold b_Writer_put
  exact sSeq_nx e1 (sSeq_nx e2 (sWhile_eq e3))
end PMl

set_option Elab.async false
set_option linter.all false
set_option maxRecDepth 100000
set_option maxHeartbeats 2000000
/-! the plain law of k54, 6: bodies of letters, written. -/
namespace PMl
open PySem PM L2
structure Wr.ok (s : Wr) : Prop where
  h8 : s.held < 8
  lt : s.rest < 2 ^ s.held
theorem drain_ok : ∀ (k : Nat) (s : Wr), s.held / 8 = k → s.rest < 2 ^ s.held → (Wr.drain k s).ok ∧ (Wr.drain k s).l.length = s.l.length + k
  | 0, s, h, hr => ⟨⟨by show s.held < 8; omega, hr⟩, rfl⟩
  | k + 1, s, h, hr => by
    obtain ⟨h1, h2⟩ := drain_ok k s.step (by show (s.held - 8) / 8 = k; omega) (by
      show s.rest &&& (1 * 2 ^ (s.held - 8) - 1) < 2 ^ (s.held - 8)
      rw [Nat.one_mul, Nat.and_two_pow_sub_one_eq_mod]
      exact Nat.mod_lt _ (Nat.two_pow_pos _))
    refine ⟨h1, ?_⟩
    show (Wr.drain k s.step).l.length = _
    rw [h2]
    show (s.l ++ [_]).length + k = _
    simp; omega
theorem Wr.ok.put {s : Wr} (h : s.ok) {v n : Nat} (hv : v < 2 ^ n) : (s.put v n).ok ∧ (s.put v n).l.length = s.l.length + (s.held + n) / 8 := by
  refine drain_ok _ _ rfl ?_
  show s.rest * 2 ^ n + v < 2 ^ (s.held + n)
  rw [Nat.pow_add]
  calc s.rest * 2 ^ n + v < s.rest * 2 ^ n + 2 ^ n := by omega
    _ = (s.rest + 1) * 2 ^ n := by rw [Nat.add_mul, Nat.one_mul]
    _ ≤ 2 ^ s.held * 2 ^ n := Nat.mul_le_mul_right _ h.lt
theorem Wr.ok.small {s : Wr} (h : s.ok) : s.rest < 2 ^ 64 := Nat.lt_trans h.lt (Nat.pow_lt_pow_right (by decide) (by have := h.h8; omega))
theorem bits_nat {n : Nat} (h : 0 < n) : Builtin.Int.intBits (n : Int) = n.log2 + 1 := by
  unfold Builtin.Int.intBits
  rw [if_neg (by simp; omega)]
  simp
theorem width_ok {n : Nat} (h : 0 < n) (st : Sto) : m_width_of [.int (n : Int)] st = .ok (.int ((n.log2 + 1 : Nat) : Int)) st := by
  refine def_rt (ρ0 := [some (.int (n : Int))]) rfl ?_ rfl
  unfold b_width_of
  refine sRet_ok ?_
  simp only [cB1_ap, cVar_ap, List.getElem?_cons_zero, R.bind_ok, bitD, bits_nat h]
def Wr.num (s : Wr) (v : Nat) : Wr := (s.put (v + 1).log2 5).put (v + 1 - 2 ^ (v + 1).log2) (v + 1).log2
theorem meth_ok {c n : Nat} {x : Str} {m : M} {o : E} {es : List E} {ρ : PM.Env} {st st1 st2 : Sto} {fs : List (Str × D)} {ds : List D} {r : R D} (ho : o ρ st = .ok (.loc n) st1) (hn : st1[n]? = some (.ins c fs)) (hx : fs.lookup x = none) (ha : cArgs es ρ st1 = .ok ds st2) (hm : m (.loc n :: ds) st2 = r) : cMeth c x m o es ρ st = r := by
  rw [cMeth_ap, ho, R.bind_ok]
  simp only [hn]
  rw [if_pos ⟨trivial, hx⟩, ha, R.bind_ok]
  exact hm
theorem w_no {r : Nat} {s : Wr} {x : Str} (h1 : (x == ("_row" : Str)) = false) (h2 : (x == ("_rest" : Str)) = false) (h3 : (x == ("_held" : Str)) = false) : (wF r s).lookup x = none := by
  simp only [wF, List.lookup, h1, h2, h3]
theorem num_ok {st : Sto} {w r : Nat} {s : Wr} (h : WAt st w r s) (ok : s.ok) {v : Nat} (hv : v < 2 ^ 30) (hl : s.l.length < 500) :
    ∃ st', m_Writer_number [.loc w, .int (v : Int)] st = .ok .non st' ∧ Sm [w, r] st st' ∧ WAt st' w r (s.num v) ∧ (s.num v).ok ∧ (s.num v).l.length < 500 + 10 := by
  have hv1 : v + 1 ≠ 0 := by omega
  have hw : (v + 1).log2 < 31 := by
    have := (Nat.log2_lt hv1 (k := 31)).mpr (by omega)
    exact this
  have hlow : 2 ^ (v + 1).log2 ≤ v + 1 := Nat.log2_self_le hv1
  have hhi : v + 1 < 2 ^ ((v + 1).log2 + 1) := Nat.lt_log2_self
  obtain ⟨wd, ewd⟩ : ∃ x, (v + 1).log2 = x := ⟨_, rfl⟩
  rw [ewd] at hw hlow hhi
  have o1 := ok.put (v := wd) (n := 5) (by show wd < 32; omega)
  have h8 := ok.h8
  have o2 := o1.1.put (v := v + 1 - 2 ^ wd) (n := wd) (by rw [Nat.pow_succ] at hhi; omega)
  have h8' := o1.1.h8
  obtain ⟨st1, e1, k1, a1⟩ := put_ok h (v := wd) (n := 5) ok.small (by omega) (by omega)
  obtain ⟨st2, e2, k2, a2⟩ := put_ok a1 (v := v + 1 - 2 ^ wd) (n := wd) o1.1.small (by omega) (by rw [o1.2]; omega)
  have en : s.num v = (s.put wd 5).put (v + 1 - 2 ^ wd) wd := by unfold Wr.num; rw [ewd]
  rw [en]
  refine ⟨st2, ?_, k1.trans k2, a2, o2.1, by rw [o2.2, o1.2]; omega⟩
  refine def_nx (ρ0 := [some (.loc w), some (.int (v : Int)), none]) (ρ := [some (.loc w), some (.int (v : Int)), some (.int (wd : Int))]) rfl ?_ (k1.trans k2).len
  unfold b_Writer_number
  have q1 : addD (.int (v : Int)) (.int 1) st = .ok (.int ((v + 1 : Nat) : Int)) st := add1 v st
  have q2 := width_ok (n := v + 1) (by omega) st
  rw [ewd] at q2
  have q3 : subD (.int ((wd + 1 : Nat) : Int)) (.int 1) st = .ok (.int (wd : Int)) st := by rw [subD_int]; congr 2; omega
  refine sSeq_nx (ρ' := [some (.loc w), some (.int (v : Int)), some (.int (wd : Int))]) (st' := st) (sSet_ok (d := .int (wd : Int)) ?_ rfl) ?_
  · simp only [cOp2_ap, cCall_ap, cArgs_cons, cArgs_nil, cVar_ap, cC_ap, List.getElem?_cons_zero, List.getElem?_cons_succ, R.bind_ok, q1, q2, q3]
  refine sSeq_nx (ρ' := [some (.loc w), some (.int (v : Int)), some (.int (wd : Int))]) (st' := st1) (sExp_ok (d := .non) (meth_ok (cVar_at rfl) h.o (w_no (by decide +kernel) (by decide +kernel) (by decide +kernel)) (ds := [.int (wd : Int), .int 5]) rfl e1)) ?_
  have q4 : addD (.int (v : Int)) (.int 1) st1 = .ok (.int ((v + 1 : Nat) : Int)) st1 := add1 v st1
  have q5 : shlD (.int 1) (.int (wd : Int)) st1 = .ok (.int ((1 * 2 ^ wd : Nat) : Int)) st1 := shlD_nat (a := 1) st1 (by decide) (by omega)
  have q6 : subD (.int ((v + 1 : Nat) : Int)) (.int ((1 * 2 ^ wd : Nat) : Int)) st1 = .ok (.int ((v + 1 - 2 ^ wd : Nat) : Int)) st1 := by
    rw [Nat.one_mul, subD_int]; congr 2; omega
  refine sExp_ok (d := .non) (meth_ok (cVar_at rfl) a1.o (w_no (by decide +kernel) (by decide +kernel) (by decide +kernel)) (ds := [.int ((v + 1 - 2 ^ wd : Nat) : Int), .int (wd : Int)]) ?_ e2)
  simp only [cOp2_ap, cArgs_cons, cArgs_nil, cVar_ap, cC_ap, List.getElem?_cons_zero, List.getElem?_cons_succ, R.bind_ok, q4, q5, q6]
end PMl

set_option Elab.async false
set_option linter.all false
set_option maxRecDepth 100000
set_option maxHeartbeats 2000000
/-! the plain law of k54, 7: bodies of letters, written, 2. -/
namespace PMl
open PySem PM L2
theorem field_seat {st : Sto} {w r : Nat} {s : Wr} (h : WAt st w r s) (ok : s.ok) {v : Nat} (hv : v < 8) (hl : s.l.length < 500) (wd : D) :
    ∃ st', m_put_field [.loc w, wd, .str "seat", .int (v : Int)] st = .ok .non st' ∧ Sm [w, r] st st' ∧ WAt st' w r (s.put v 3) ∧ (s.put v 3).ok ∧ (s.put v 3).l.length < 500 + 10 := by
  have o1 := ok.put (v := v) (n := 3) hv
  have h8 := ok.h8
  obtain ⟨st1, e1, k1, a1⟩ := put_ok h (v := v) (n := 3) ok.small (by omega) (by omega)
  refine ⟨st1, ?_, k1, a1, o1.1, by rw [o1.2]; omega⟩
  refine def_nx (ρ0 := [some (.loc w), some wd, some (.str "seat"), some (.int (v : Int)), none]) (ρ := [some (.loc w), some wd, some (.str "seat"), some (.int (v : Int)), none]) rfl ?_ k1.len
  unfold b_put_field
  refine sIf_true (st' := st) (by simp) ?_
  exact sExp_ok (d := .non) (meth_ok (cVar_at rfl) h.o (w_no (by decide +kernel) (by decide +kernel) (by decide +kernel)) (ds := [.int (v : Int), .int 3]) rfl e1)
theorem field_tick {st : Sto} {w r : Nat} {s : Wr} (h : WAt st w r s) (ok : s.ok) {v : Nat} (hv : v < 2 ^ 30) (hl : s.l.length < 500) (wd : D) :
    ∃ st', m_put_field [.loc w, wd, .str "tick", .int (v : Int)] st = .ok .non st' ∧ Sm [w, r] st st' ∧ WAt st' w r (s.num v) ∧ (s.num v).ok ∧ (s.num v).l.length < 500 + 10 := by
  obtain ⟨st1, e1, k1, a1, o1, l1⟩ := num_ok h ok hv hl
  refine ⟨st1, ?_, k1, a1, o1, l1⟩
  refine def_nx (ρ0 := [some (.loc w), some wd, some (.str "tick"), some (.int (v : Int)), none]) (ρ := [some (.loc w), some wd, some (.str "tick"), some (.int (v : Int)), none]) rfl ?_ k1.len
  unfold b_put_field
  refine sIf_false (st' := st) (by simp) (sIf_true (st' := st) (by simp) ?_)
  exact sExp_ok (d := .non) (meth_ok (cVar_at rfl) h.o (w_no (by decide +kernel) (by decide +kernel) (by decide +kernel)) (ds := [.int (v : Int)]) rfl e1)
def w0 : Wr := ⟨[], 0, 0⟩
theorem w0_ok : w0.ok := ⟨by decide, by decide⟩
theorem init_ok (st : Sto) : m_Writer_init [.loc st.length] (st ++ [.ins 2 []]) = .ok .non (st ++ [.ins 2 (wF (st.length + 1) w0), .lst []]) := by
  show gcR (st ++ [.ins 2 []]) (outR (b_Writer_init [some (.loc st.length)] (st ++ [.ins 2 []]))) = _
  have e : b_Writer_init [some (.loc st.length)] (st ++ [.ins 2 []]) = .nx [some (.loc st.length)] (st ++ [.ins 2 (wF (st.length + 1) w0), .lst []]) := by
    unfold b_Writer_init
    have g : ∀ o : O, (st ++ [o, .lst []])[st.length]? = some o := fun o => get_new
    have sset : ∀ o o' : O, (st ++ [o, .lst []]).set st.length o' = st ++ [o', .lst []] := fun o o' => by
      rw [List.set_append_right _ _ (Nat.le_refl _), Nat.sub_self]; rfl
    refine sSeq_nx (ρ' := [some (.loc st.length)]) (st' := st ++ [.ins 2 [("_row", .loc (st.length + 1))], .lst []]) ?_ (sSeq_nx (ρ' := [some (.loc st.length)]) (st' := st ++ [.ins 2 [("_row", .loc (st.length + 1)), ("_rest", .int 0)], .lst []]) ?_ ?_)
    · rw [sFldD_ap]
      simp only [cNew_ap, cLst_ap, cArgs_nil, R.bind_ok, fE_ok, cVar_ap, List.getElem?_cons_zero, List.append_assoc, List.cons_append, List.nil_append, g, List.length_append, List.length_cons, List.length_nil]
      rw [if_pos ⟨by decide, by show 0 < 1000; decide⟩, sset]
      rfl
    · rw [sFldD_ap]
      simp only [cC_ap, fE_ok, cVar_ap, List.getElem?_cons_zero, g]
      rw [if_pos ⟨by decide, by show 1 < 1000; decide⟩, sset]
      have h1 : ¬ (("_row" : Str) = "_rest") := by decide +kernel
      simp only [putFD, h1, if_false]
    · rw [sFldD_ap]
      simp only [cC_ap, fE_ok, cVar_ap, List.getElem?_cons_zero, g]
      rw [if_pos ⟨by decide, by show 2 < 1000; decide⟩, sset]
      have h1 : ¬ (("_row" : Str) = "_held") := by decide +kernel
      have h2 : ¬ (("_rest" : Str) = "_held") := by decide +kernel
      simp only [putFD, h1, h2, if_false]
      rfl
  rw [e]
  refine gcR_new (n := st.length) (by simp) ?_
  rw [get_new, get_new]
  intro h
  have h := O.ins.inj (Option.some.inj h)
  cases h.2
theorem writer_ok (ρ : PM.Env) (st : Sto) : cMake 2 m_Writer_init [] ρ st = .ok (.loc st.length) (st ++ [.ins 2 (wF (st.length + 1) w0), .lst []]) := by
  rw [cMake_ap, cArgs_nil, R.bind_ok, init_ok, R.bind_ok]
  rfl
theorem w0_at (st : Sto) : WAt (st ++ [.ins 2 (wF (st.length + 1) w0), .lst []]) st.length (st.length + 1) w0 := ⟨get_new, by
  rw [List.getElem?_append_right (by omega), show st.length + 1 - st.length = 1 by omega]; rfl⟩
end PMl

set_option Elab.async false
set_option linter.all false
set_option maxRecDepth 100000
set_option maxHeartbeats 2000000
/-! the plain law of k54, 8: bodies of letters, written, 3. -/
namespace PMl
open PySem PM L2
def Wr.told (s : Wr) : List Nat := if s.held = 0 then s.l else s.l ++ [s.rest * 2 ^ (8 - s.held)]
theorem told_ok {st : Sto} {w r : Nat} {s : Wr} (h : WAt st w r s) (ok : s.ok) (hl : s.l.length < 1000) : m_Writer_told [.loc w] st = .ok (rowN s.told) st := by
  refine def_rt (ρ0 := [some (.loc w)]) rfl ?_ rfl
  unfold b_Writer_told
  have q1 : seqD (.loc r) st = .ok (s.l.map intN) st := by simp only [seqD, h.l]
  have q2 : ∀ xs, tupS xs st = .ok (.tup xs) st := fun _ => rfl
  by_cases h0 : s.held = 0
  · refine sSeq_rt (sIf_true (st' := st) ?_ (sRet_ok ?_))
    · simp only [cTst_ap, cOp2_ap, cB1_ap, cVar_ap, cC_ap, List.getElem?_cons_zero, R.bind_ok, f_held h, h0]
      rfl
    · simp only [cS1_ap, cSeq_ap, cB1_ap, cVar_ap, List.getElem?_cons_zero, R.bind_ok, f_row h, q1, q2, Wr.told, h0, if_true, rowN]
  · refine sSeq_nx (ρ' := [some (.loc w)]) (st' := st) (sIf_false (st' := st) ?_ rfl) (sRet_ok ?_)
    · simp only [cTst_ap, cOp2_ap, cB1_ap, cVar_ap, cC_ap, List.getElem?_cons_zero, R.bind_ok, f_held h, eqD_int]
      rw [decide_eq_false (by omega)]; rfl
    · have h8 := ok.h8
      have q3 : subD (.int 8) (.int (s.held : Int)) st = .ok (.int ((8 - s.held : Nat) : Int)) st := by rw [subD_int]; congr 2; omega
      have q4 : shlD (.int (s.rest : Int)) (.int ((8 - s.held : Nat) : Int)) st = .ok (intN (s.rest * 2 ^ (8 - s.held))) st := shlD_nat st ok.small (by omega)
      have q5 : ∀ y : D, addD (.tup (s.l.map intN)) (.tup [y]) st = .ok (.tup (s.l.map intN ++ [y])) st := fun y => by
        simp only [addD]
        rw [if_pos (by simp only [List.length_map, List.length_cons, List.length_nil]; exact Nat.le_trans (by omega : s.l.length + 1 ≤ 1000) (by decide))]
      simp only [cOp2_ap, cTup_ap, cArgs_cons, cArgs_nil, cC_ap, cS1_ap, cSeq_ap, cB1_ap, cVar_ap, List.getElem?_cons_zero, R.bind_ok, f_row h, f_rest h, f_held h, q1, q2, q3, q4, q5, Wr.told, if_neg h0, rowN, List.map_append, List.map_cons, List.map_nil]
def paceL (t : Nat) : D := .tup [.str "pace", .int (t : Int)]
def gotL (t : Nat) : D := .tup [.str "got", .int ((0 : Nat) : Int), .int (t : Int)]
def paceB (t : Nat) : List Nat := ((w0.put 4 4).num t).told
def gotB (t : Nat) : List Nat := (((w0.put 2 4).put 0 3).num t).told
theorem lay_pace : List.lookup ("pace" : Str) k_LAYOUT = some (D.tup [D.str "tick"]) := by kernel_rfl
theorem lay_got : List.lookup ("got" : Str) k_LAYOUT = some (D.tup [D.str "seat", D.str "tick"]) := by kernel_rfl
theorem idx_pace : t_FORMS.findIdx? (fun y => decide (y = ("pace" : Str))) = some 4 := by decide +kernel
theorem idx_got : t_FORMS.findIdx? (fun y => decide (y = ("got" : Str))) = some 2 := by decide +kernel
end PMl

set_option Elab.async false
set_option linter.all false
set_option maxRecDepth 100000
set_option maxHeartbeats 2000000
/-! the plain law of k54, 9: bodies of letters, written, 4. -/
namespace PMl
open PySem PM L2
theorem Sm.pre {L : List Nat} {st g st' : Sto} (h : Sm L (st ++ g) st') (hL : ∀ n ∈ L, st.length ≤ n) : ∃ g', st' = st ++ g' := by
  refine ⟨st'.drop st.length, ?_⟩
  have e : st'.take st.length = st := by
    apply List.ext_getElem?
    intro i
    rw [List.getElem?_take]
    by_cases hi : i < st.length
    · rw [if_pos hi, h.eq i (fun hm => by have := hL i hm; omega), List.getElem?_append_left hi]
    · rw [if_neg hi, List.getElem?_eq_none (by omega)]
  conv => lhs; rw [← List.take_append_drop st.length st', e]
theorem idx_ok {ys : List Str} {z : Str} {j : Nat} (h : ys.findIdx? (fun y => decide (y = z)) = some j) {e : E} {ρ : PM.Env} {st : Sto} (he : e ρ st = .ok (.str z) st) : cIdx ys e ρ st = .ok (.int (j : Int)) st := by
  show (cArgs [e] ρ st).bind (idxD ys) = _
  simp only [cArgs_cons, he, cArgs_nil, R.bind_ok, idxD, h]
theorem tab_ok {kvs : List (Str × D)} {z : Str} {d : D} (h : kvs.lookup z = some d) {e : E} {ρ : PM.Env} {st : Sto} (he : e ρ st = .ok (.str z) st) : cTab kvs e ρ st = .ok d st := by
  show (e ρ st).bind (tabD kvs) = _
  rw [he, R.bind_ok]
  simp only [tabD, h]
theorem belowAll_int (N : Nat) : ∀ l : List Nat, belowAll N (l.map intN) = true
  | [] => rfl
  | x :: r => by rw [List.map_cons, belowAll, belowAll_int N r]; rfl
theorem body_pace {t : Nat} (ht : t < 2 ^ 30) (wd : D) (st : Sto) : m_body_of [wd, paceL t] st = .ok (rowN (paceB t)) st := by
  have W0 := w0_at st
  obtain ⟨st1, e1, k1, a1⟩ := put_ok W0 (v := 4) (n := 4) w0_ok.small (by decide) (by decide)
  have o1 := w0_ok.put (v := 4) (n := 4) (by decide)
  have l1 : (w0.put 4 4).l.length < 500 := by rw [o1.2]; decide
  obtain ⟨st2, e2, k2, a2, o2, l2⟩ := field_tick a1 o1.1 ht l1 wd
  have e3 := told_ok a2 o2 (by omega)
  obtain ⟨g, hg⟩ := (k1.trans k2).pre (by intro n hn; simp at hn; omega)
  refine def_pure (g := g) (ρ0 := [some wd, some (paceL t), none, none, none]) rfl ?_ (belowAll_int _ _)
  rw [← hg]
  unfold b_body_of
  refine sSeq_nx (ρ' := [some wd, some (paceL t), some (.loc st.length), none, none]) (st' := st ++ [.ins 2 (wF (st.length + 1) w0), .lst []]) (sSet_ok (writer_ok _ _) rfl) ?_
  have g0 : ∀ s : Sto, getD (paceL t) (.int 0) s = .ok (.str "pace") s := fun s => by rw [paceL, getD_tup, atD_0]
  refine sSeq_nx (ρ' := [some wd, some (paceL t), some (.loc st.length), none, none]) (st' := st1) (sExp_ok (d := .non) (meth_ok (cVar_at rfl) W0.o (w_no (by decide +kernel) (by decide +kernel) (by decide +kernel)) (ds := [.int ((4 : Nat) : Int), .int 4]) ?_ e1)) ?_
  · rw [cArgs_cons, idx_ok idx_pace (by simp only [cOp2_ap, cVar_ap, cC_ap, List.getElem?_cons_zero, List.getElem?_cons_succ, R.bind_ok, g0])]
    simp only [R.bind_ok, cArgs_cons, cArgs_nil, cC_ap]
  refine sSeq_nx (ρ' := [some wd, some (paceL t), some (.loc st.length), some (.tup [.str "tick"]), none]) (st' := st1) (sSet_ok (tab_ok lay_pace (by simp only [cOp2_ap, cVar_ap, cC_ap, List.getElem?_cons_zero, List.getElem?_cons_succ, R.bind_ok, g0])) rfl) ?_
  refine sSeq_nx (ρ' := [some wd, some (paceL t), some (.loc st.length), some (.tup [.str "tick"]), some (.int 0)]) (st' := st2) (sFor_ok (cRng1_ok (n := 1) (st' := st1) rfl (by decide)) ?_) ?_
  · show forGo (fun _ => True) _ _ [.int 0] _ _ = _
    rw [forGo_cons (ρ1 := [some wd, some (paceL t), some (.loc st.length), some (.tup [.str "tick"]), some (.int 0)]) (ρ2 := [some wd, some (paceL t), some (.loc st.length), some (.tup [.str "tick"]), some (.int 0)]) (st2 := st2) trivial rfl (.inl (sExp_ok (d := .non) ?_)), forGo_nil trivial]
    simp only [cCall_ap, cArgs_cons, cArgs_nil, cOp2_ap, cVar_ap, cC_ap, List.getElem?_cons_zero, List.getElem?_cons_succ, R.bind_ok, getD_tup, atD_0, addD_int, paceL]
    rw [show (0 : Int) + 1 = 1 from rfl, atD_1]
    exact e2
  · exact sRet_ok (meth_ok (cVar_at rfl) a2.o (w_no (by decide +kernel) (by decide +kernel) (by decide +kernel)) (ds := []) rfl e3)
end PMl

set_option Elab.async false
set_option linter.all false
set_option maxRecDepth 100000
set_option maxHeartbeats 2000000
/-! the plain law of k54, 10: bodies of letters, written, 5. -/
namespace PMl
open PySem PM L2
theorem body_got {t : Nat} (ht : t < 2 ^ 30) (wd : D) (st : Sto) : m_body_of [wd, gotL t] st = .ok (rowN (gotB t)) st := by
  have W0 := w0_at st
  obtain ⟨st1, e1, k1, a1⟩ := put_ok W0 (v := 2) (n := 4) w0_ok.small (by decide) (by decide)
  have o1 := w0_ok.put (v := 2) (n := 4) (by decide)
  have l1 : (w0.put 2 4).l.length < 490 := by rw [o1.2]; decide
  obtain ⟨st3, e3, k3, a3, o3, l3⟩ := field_seat a1 o1.1 (v := 0) (by decide) (by omega) wd
  have l3' : ((w0.put 2 4).put 0 3).l.length < 500 := by
    have := (o1.1.put (v := 0) (n := 3) (by decide)).2
    have h8 := o1.1.h8
    rw [this]; omega
  obtain ⟨st2, e2, k2, a2, o2, l2⟩ := field_tick a3 o3 ht l3' wd
  have e4 := told_ok a2 o2 (by omega)
  obtain ⟨g, hg⟩ := ((k1.trans k3).trans k2).pre (by intro n hn; simp at hn; omega)
  refine def_pure (g := g) (ρ0 := [some wd, some (gotL t), none, none, none]) rfl ?_ (belowAll_int _ _)
  rw [← hg]
  unfold b_body_of
  refine sSeq_nx (ρ' := [some wd, some (gotL t), some (.loc st.length), none, none]) (st' := st ++ [.ins 2 (wF (st.length + 1) w0), .lst []]) (sSet_ok (writer_ok _ _) rfl) ?_
  have g0 : ∀ s : Sto, getD (gotL t) (.int 0) s = .ok (.str "got") s := fun s => by rw [gotL, getD_tup, atD_0]
  have g1 : ∀ s : Sto, getD (gotL t) (.int 1) s = .ok (.int ((0 : Nat) : Int)) s := fun s => by rw [gotL, getD_tup, atD_1]
  have g2 : ∀ s : Sto, getD (gotL t) (.int 2) s = .ok (.int (t : Int)) s := fun s => by rw [gotL, getD_tup, atD_2]
  refine sSeq_nx (ρ' := [some wd, some (gotL t), some (.loc st.length), none, none]) (st' := st1) (sExp_ok (d := .non) (meth_ok (cVar_at rfl) W0.o (w_no (by decide +kernel) (by decide +kernel) (by decide +kernel)) (ds := [.int ((2 : Nat) : Int), .int 4]) ?_ e1)) ?_
  · rw [cArgs_cons, idx_ok idx_got (by simp only [cOp2_ap, cVar_ap, cC_ap, List.getElem?_cons_zero, List.getElem?_cons_succ, R.bind_ok, g0])]
    simp only [R.bind_ok, cArgs_cons, cArgs_nil, cC_ap]
  refine sSeq_nx (ρ' := [some wd, some (gotL t), some (.loc st.length), some (.tup [.str "seat", .str "tick"]), none]) (st' := st1) (sSet_ok (tab_ok lay_got (by simp only [cOp2_ap, cVar_ap, cC_ap, List.getElem?_cons_zero, List.getElem?_cons_succ, R.bind_ok, g0])) rfl) ?_
  refine sSeq_nx (ρ' := [some wd, some (gotL t), some (.loc st.length), some (.tup [.str "seat", .str "tick"]), some (.int 1)]) (st' := st2) (sFor_ok (cRng1_ok (n := 2) (st' := st1) rfl (by decide)) ?_) ?_
  · show forGo (fun _ => True) _ _ [.int 0, .int 1] _ _ = _
    rw [forGo_cons (ρ1 := [some wd, some (gotL t), some (.loc st.length), some (.tup [.str "seat", .str "tick"]), some (.int 0)]) (ρ2 := [some wd, some (gotL t), some (.loc st.length), some (.tup [.str "seat", .str "tick"]), some (.int 0)]) (st2 := st3) trivial rfl (.inl (sExp_ok (d := .non) ?_)),
      forGo_cons (ρ1 := [some wd, some (gotL t), some (.loc st.length), some (.tup [.str "seat", .str "tick"]), some (.int 1)]) (ρ2 := [some wd, some (gotL t), some (.loc st.length), some (.tup [.str "seat", .str "tick"]), some (.int 1)]) (st2 := st2) trivial rfl (.inl (sExp_ok (d := .non) ?_)), forGo_nil trivial]
    · simp only [cCall_ap, cArgs_cons, cArgs_nil, cOp2_ap, cVar_ap, cC_ap, List.getElem?_cons_zero, List.getElem?_cons_succ, R.bind_ok, addD_int]
      rw [getD_tup, atD_1, R.bind_ok, show (1 : Int) + 1 = 2 from rfl, g2]
      exact e2
    · simp only [cCall_ap, cArgs_cons, cArgs_nil, cOp2_ap, cVar_ap, cC_ap, List.getElem?_cons_zero, List.getElem?_cons_succ, R.bind_ok, addD_int]
      rw [getD_tup, atD_0, R.bind_ok, show (0 : Int) + 1 = 1 from rfl, g1]
      exact e3
  · exact sRet_ok (meth_ok (cVar_at rfl) a2.o (w_no (by decide +kernel) (by decide +kernel) (by decide +kernel)) (ds := []) rfl e4)
end PMl

set_option Elab.async false
set_option linter.all false
set_option maxRecDepth 100000
set_option maxHeartbeats 2000000
/-! the plain law of k54, 11: what is a letter. -/
namespace PMl
open PySem PM L2
theorem isint_ok {v lo hi : Int} (h1 : lo ≤ v) (h2 : v ≤ hi) (st : Sto) : m_is_integer [.int v, .int lo, .int hi] st = .ok (.bl true) st := by
  refine def_rt (ρ0 := [some (.int v), some (.int lo), some (.int hi)]) rfl ?_ rfl
  unfold b_is_integer
  refine sRet_ok (cAnd_true (st1 := st) (by simp) (cAnd_true (st1 := st) (by simp) ?_))
  rw [cChain_ap]
  simp [leD, h1, h2, asB]
def worldD : D := .tup [.str "world", .str "w", .int 1, .tup [.tup [.str "k0", .int 0, .int 1, .str "held"]], .tup [], .tup [], .tup [], .tup [], .tup []]
theorem fits_tick {t : Nat} (ht : t < 2 ^ 30 - 1) (st : Sto) : m_fits [worldD, .str "tick", .int (t : Int)] st = .ok (.bl true) st := by
  refine def_rt (ρ0 := [some worldD, some (.str "tick"), some (.int (t : Int))]) rfl ?_ rfl
  unfold b_fits
  refine sSeq_nx (ρ' := [some worldD, some (.str "tick"), some (.int (t : Int))]) (st' := st) (sIf_false (st' := st) (by simp) rfl) (sSeq_rt (sIf_true (st' := st) (by simp) (sRet_ok ?_)))
  simp only [cCall_ap, cArgs_cons, cArgs_nil, cVar_ap, cC_ap, List.getElem?_cons_zero, List.getElem?_cons_succ, R.bind_ok, k_MOST_TICK]
  exact isint_ok (by omega) (by omega) st
theorem fits_seat (st : Sto) : m_fits [worldD, .str "seat", .int ((0 : Nat) : Int)] st = .ok (.bl true) st := by
  refine def_rt (ρ0 := [some worldD, some (.str "seat"), some (.int ((0 : Nat) : Int))]) rfl ?_ rfl
  unfold b_fits
  refine sSeq_rt (sIf_true (st' := st) (by simp) (sRet_ok ?_))
  have g : getD worldD (.int 2) st = .ok (.int 1) st := by rw [worldD, getD_tup, atD_2]
  simp only [cCall_ap, cArgs_cons, cArgs_nil, cVar_ap, cC_ap, cOp2_ap, List.getElem?_cons_zero, List.getElem?_cons_succ, R.bind_ok, g, subD_int]
  exact isint_ok (by omega) (by omega) st
theorem many_tick : List.lookup ("tick" : Str) k_MANY = none := by kernel_rfl
theorem many_seat : List.lookup ("seat" : Str) k_MANY = none := by kernel_rfl
end PMl

set_option Elab.async false
set_option linter.all false
set_option maxRecDepth 100000
set_option maxHeartbeats 2000000
/-! the plain law of k54, 12: the two letters are letters; pack. -/
namespace PMl
open PySem PM L2
theorem tabIn_has {neg : Bool} {kvs : List (Str × D)} {z : Str} {d : D} (h : kvs.lookup z = some d) {e : E} {ρ : PM.Env} {st : Sto} (he : e ρ st = .ok (.str z) st) : cTabIn neg kvs e ρ st = .ok (.bl (neg ^^ true)) st := by
  show (e ρ st).bind (tabIn neg kvs) = _
  rw [he, R.bind_ok]
  simp only [tabIn, h]
  rfl
theorem tabIn_not {neg : Bool} {kvs : List (Str × D)} {z : Str} (h : kvs.lookup z = none) {e : E} {ρ : PM.Env} {st : Sto} (he : e ρ st = .ok (.str z) st) : cTabIn neg kvs e ρ st = .ok (.bl (neg ^^ false)) st := by
  show (e ρ st).bind (tabIn neg kvs) = _
  rw [he, R.bind_ok]
  simp only [tabIn, h]
  rfl
/-- a field of a letter that fits -/
theorem letter_field {k : Str} {v : D} (hm : List.lookup k k_MANY = none) (hi : k ≠ "index") {ρ : PM.Env} {st : Sto} (h0 : ρ[0]? = some (some worldD)) (h3 : ρ[3]? = some (some (.str k))) (h4 : ρ[4]? = some (some v)) (hf : m_fits [worldD, .str k, v] st = .ok (.bl true) st) :
    (sIf (cTst (cTabIn false k_MANY (cVar 3))) (sSeq (sIf (tNotD (cTru (cCall m_is_integer [(cVar 4), (cC (.int 1)), (cTab k_MANY (cVar 3))]))) (sRet (cC (.bl false))) sNext)
      (sSet 2 (cVar 4))) (sIf (cTst (cOp2 eqD (cVar 3) (cC (.str "index")))) (sIf (tNotD (cTru (cCall m_is_integer [(cVar 4), (cC (.int 0)), (cOp2 subD (cVar 2) (cC (.int 1)))]))) (sRet (cC (.bl false))) sNext) (sIf (tNotD (cTru (cCall m_fits [(cVar 0), (cVar 3), (cVar 4)]))) (sRet (cC (.bl false))) sNext))) ρ st = .nx ρ st := by
  refine sIf_false (st' := st) ?_ (sIf_false (st' := st) ?_ (sIf_false (st' := st) ?_ rfl))
  · rw [cTst_ap, tabIn_not hm (cVar_at h3)]; rfl
  · simp only [cTst_ap, cOp2_ap, cVar_at h3, cC_ap, R.bind_ok, eqD_str]
    rw [decide_eq_false hi]; rfl
  · simp only [tNotD_ap, cTru_ap, cCall_ap, cArgs_cons, cArgs_nil, cVar_at h0, cVar_at h3, cVar_at h4, R.bind_ok, hf, truD_bl]
    rfl
theorem letter_pace {t : Nat} (ht : t < 2 ^ 30 - 1) (st : Sto) : m_is_letter [worldD, paceL t] st = .ok (.bl true) st := by
  refine def_rt (ρ0 := [some worldD, some (paceL t), none, none, none]) rfl ?_ rfl
  unfold b_is_letter
  have g0 : getD (paceL t) (.int 0) st = .ok (.str "pace") st := by rw [paceL, getD_tup, atD_0]
  have gl : lenD (paceL t) st = .ok (.int 2) st := rfl
  have gi : isiD .tuple (paceL t) st = .ok (.bl true) st := rfl
  have e0 : (cOp2 getD (cVar 1) (cC (.int 0))) [some worldD, some (paceL t), none, none, none] st = .ok (.str "pace") st := by simp only [cOp2_ap, cVar_ap, cC_ap, List.getElem?_cons_zero, List.getElem?_cons_succ, R.bind_ok, g0]
  have e0' : (cOp2 getD (cVar 1) (cC (.int 0))) [some worldD, some (paceL t), some (.int 1), none, none] st = .ok (.str "pace") st := by simp only [cOp2_ap, cVar_ap, cC_ap, List.getElem?_cons_zero, List.getElem?_cons_succ, R.bind_ok, g0]
  refine sSeq_nx (ρ' := [some worldD, some (paceL t), none, none, none]) (st' := st) (sIf_false (st' := st) ?_ rfl) ?_
  · simp [gi, gl, g0, truD]
  refine sSeq_nx (ρ' := [some worldD, some (paceL t), none, none, none]) (st' := st) (sIf_false (st' := st) ?_ rfl) ?_
  · have q1 := tabIn_has (neg := true) lay_pace e0
    have q2 := tab_ok lay_pace e0
    rw [tOrD_ap, cTst_ap, q1]
    simp only [asB, Bool.xor_self, R.bind_ok, cTst_ap, cOp2_ap, cB1_ap, q2, cVar_ap, cC_ap, List.getElem?_cons_zero, List.getElem?_cons_succ, gl]
    rfl
  refine sSeq_nx (ρ' := [some worldD, some (paceL t), some (.int 1), none, none]) (st' := st) (sSet_ok (cC_ap _ _ _) rfl) ?_
  refine sSeq_nx (ρ' := [some worldD, some (paceL t), some (.int 1), some (.str "tick"), some (.int (t : Int))]) (st' := st) (sFor_ok (b := ⟨fun _ => True, [.tup [.str "tick", .int (t : Int)]]⟩) (st' := st) ?_ ?_) (sRet_ok (cC_ap _ _ _))
  · have q2 := tab_ok lay_pace e0'
    have hs : cSlice (cVar 1) (cPart (cC (.int 1))) cNoPart [some worldD, some (paceL t), some (.int 1), none, none] st = .ok (.tup [.int (t : Int)]) st := rfl
    show (cArgs _ _ _).bind zipD = _
    simp only [cArgs_cons, cArgs_nil, q2, hs, R.bind_ok]
    rfl
  · rw [forGo_cons (ρ1 := [some worldD, some (paceL t), some (.int 1), some (.str "tick"), some (.int (t : Int))]) (ρ2 := [some worldD, some (paceL t), some (.int 1), some (.str "tick"), some (.int (t : Int))]) (st2 := st) trivial rfl (.inl (letter_field many_tick (by decide +kernel) rfl rfl rfl (fits_tick ht st))), forGo_nil trivial]
theorem letter_got {t : Nat} (ht : t < 2 ^ 30 - 1) (st : Sto) : m_is_letter [worldD, gotL t] st = .ok (.bl true) st := by
  refine def_rt (ρ0 := [some worldD, some (gotL t), none, none, none]) rfl ?_ rfl
  unfold b_is_letter
  have g0 : getD (gotL t) (.int 0) st = .ok (.str "got") st := by rw [gotL, getD_tup, atD_0]
  have gl : lenD (gotL t) st = .ok (.int 3) st := rfl
  have gi : isiD .tuple (gotL t) st = .ok (.bl true) st := rfl
  have e0 : (cOp2 getD (cVar 1) (cC (.int 0))) [some worldD, some (gotL t), none, none, none] st = .ok (.str "got") st := by simp only [cOp2_ap, cVar_ap, cC_ap, List.getElem?_cons_zero, List.getElem?_cons_succ, R.bind_ok, g0]
  have e0' : (cOp2 getD (cVar 1) (cC (.int 0))) [some worldD, some (gotL t), some (.int 1), none, none] st = .ok (.str "got") st := by simp only [cOp2_ap, cVar_ap, cC_ap, List.getElem?_cons_zero, List.getElem?_cons_succ, R.bind_ok, g0]
  refine sSeq_nx (ρ' := [some worldD, some (gotL t), none, none, none]) (st' := st) (sIf_false (st' := st) ?_ rfl) ?_
  · simp [gi, gl, g0, truD]
  refine sSeq_nx (ρ' := [some worldD, some (gotL t), none, none, none]) (st' := st) (sIf_false (st' := st) ?_ rfl) ?_
  · have q1 := tabIn_has (neg := true) lay_got e0
    have q2 := tab_ok lay_got e0
    rw [tOrD_ap, cTst_ap, q1]
    simp only [asB, Bool.xor_self, R.bind_ok, cTst_ap, cOp2_ap, cB1_ap, q2, cVar_ap, cC_ap, List.getElem?_cons_zero, List.getElem?_cons_succ, gl]
    rfl
  refine sSeq_nx (ρ' := [some worldD, some (gotL t), some (.int 1), none, none]) (st' := st) (sSet_ok (cC_ap _ _ _) rfl) ?_
  refine sSeq_nx (ρ' := [some worldD, some (gotL t), some (.int 1), some (.str "tick"), some (.int (t : Int))]) (st' := st) (sFor_ok (b := ⟨fun _ => True, [.tup [.str "seat", .int ((0 : Nat) : Int)], .tup [.str "tick", .int (t : Int)]]⟩) (st' := st) ?_ ?_) (sRet_ok (cC_ap _ _ _))
  · have q2 := tab_ok lay_got e0'
    have hs : cSlice (cVar 1) (cPart (cC (.int 1))) cNoPart [some worldD, some (gotL t), some (.int 1), none, none] st = .ok (.tup [.int ((0 : Nat) : Int), .int (t : Int)]) st := rfl
    show (cArgs _ _ _).bind zipD = _
    simp only [cArgs_cons, cArgs_nil, q2, hs, R.bind_ok]
    rfl
  · rw [forGo_cons (ρ1 := [some worldD, some (gotL t), some (.int 1), some (.str "seat"), some (.int ((0 : Nat) : Int))]) (ρ2 := [some worldD, some (gotL t), some (.int 1), some (.str "seat"), some (.int ((0 : Nat) : Int))]) (st2 := st) trivial rfl (.inl (letter_field many_seat (by decide +kernel) rfl rfl rfl (fits_seat st))),
      forGo_cons (ρ1 := [some worldD, some (gotL t), some (.int 1), some (.str "tick"), some (.int (t : Int))]) (ρ2 := [some worldD, some (gotL t), some (.int 1), some (.str "tick"), some (.int (t : Int))]) (st2 := st) trivial rfl (.inl (letter_field many_tick (by decide +kernel) rfl rfl rfl (fits_tick ht st))), forGo_nil trivial]
/-- a letter with its body -/
structure LB (L : D) (B : List Nat) : Prop where
  is : ∀ st : Sto, m_is_letter [worldD, L] st = .ok (.bl true) st
  body : ∀ st : Sto, m_body_of [worldD, L] st = .ok (rowN B) st
  len : B.length ≤ 480
theorem LB.fitted {L : D} {B : List Nat} (h : LB L B) (st : Sto) : m_fitted [worldD, L] st = .ok L st := by
  refine def_rt (ρ0 := [some worldD, some L, none]) rfl ?_ rfl
  unfold b_fitted
  refine sSeq_nx (ρ' := [some worldD, some L, none]) (st' := st) (sIf_false (st' := st) ?_ rfl) ?_
  · simp only [tNotD_ap, cTru_ap, cCall_ap, cArgs_cons, cArgs_nil, cVar_ap, List.getElem?_cons_zero, List.getElem?_cons_succ, R.bind_ok, h.is, truD_bl]
    rfl
  refine sSeq_nx (ρ' := [some worldD, some L, some L]) (st' := st) (sSet_ok (cVar_at rfl) rfl) ?_
  refine sSeq_nx (ρ' := [some worldD, some L, some L]) (st' := st) (sWhile_eq (n := 1) ?_) (sRet_ok (cVar_at rfl))
  have e : cTst (cOp2 gtD (cB1 lenD (cCall m_body_of [(cVar 0), (cVar 2)])) (cC k_MOST_BODY)) [some worldD, some L, some L] st = .ok false st := by
    have gl : lenD (rowN B) st = .ok (.int (B.length : Int)) st := by rw [← List.length_map (f := intN) (as := B)]; rfl
    simp only [cTst_ap, cOp2_ap, cB1_ap, cCall_ap, cArgs_cons, cArgs_nil, cVar_ap, cC_ap, List.getElem?_cons_zero, List.getElem?_cons_succ, R.bind_ok, h.body, gl, k_MOST_BODY, gtD, cmpI_int]
    rw [decide_eq_false (by have := h.len; omega)]; rfl
  rw [whileN, e]
theorem LB.pack {L : D} {B : List Nat} (h : LB L B) (st : Sto) : m_pack [worldD, L] st = .ok (rowN B) st := by
  refine def_rt (ρ0 := [some worldD, some L, none]) rfl ?_ rfl
  unfold b_pack
  refine sSeq_nx (ρ' := [some worldD, some L, none]) (st' := st) (sIf_false (st' := st) ?_ rfl) ?_
  · simp only [tNotD_ap, cTru_ap, cCall_ap, cArgs_cons, cArgs_nil, cVar_ap, List.getElem?_cons_zero, List.getElem?_cons_succ, R.bind_ok, h.is, truD_bl]
    rfl
  refine sSeq_nx (ρ' := [some worldD, some L, some (rowN B)]) (st' := st) (sSet_ok ?_ rfl) ?_
  · simp only [cCall_ap, cArgs_cons, cArgs_nil, cVar_ap, List.getElem?_cons_zero, List.getElem?_cons_succ, R.bind_ok, h.body]
  have gl : lenD (rowN B) st = .ok (.int (B.length : Int)) st := by rw [← List.length_map (f := intN) (as := B)]; rfl
  refine sSeq_nx (ρ' := [some worldD, some L, some (rowN B)]) (st' := st) (sIf_false (st' := st) ?_ rfl) (sRet_ok (cVar_at rfl))
  simp only [cTst_ap, cOp2_ap, cB1_ap, cVar_ap, cC_ap, List.getElem?_cons_zero, List.getElem?_cons_succ, R.bind_ok, gl, k_MOST_BODY, gtD, cmpI_int]
  rw [decide_eq_false (by have := h.len; omega)]; rfl
end PMl

set_option Elab.async false
set_option linter.all false
set_option maxRecDepth 100000
set_option maxHeartbeats 2000000
/-! the plain law of k54, 13: sealed rows. -/
namespace PMl
open PySem PM L2
theorem fld_at {cs : List Nat} {x : Str} {n c : Nat} {fs : List (Str × D)} {d : D} {st : Sto} (h : st[n]? = some (.ins c fs)) (hc : c ∈ cs) (hl : fs.lookup x = some d) : fldOf cs x (.loc n) st = .ok d st := by
  simp only [fldOf, h, if_pos hc, hl]
theorem sFld_ok {cs : List Nat} {x : Str} {o e : E} {ρ : PM.Env} {st st1 : Sto} {n c : Nat} {fs : List (Str × D)} {d : D} (he : e ρ st = .ok d st1) (ho : o ρ st1 = .ok (.loc n) st1) (h : st1[n]? = some (.ins c fs)) (hc : c ∈ cs) (hz : fs.length < 1000) :
    sFldD cs x o e ρ st = .nx ρ (st1.set n (.ins c (putFD x d fs))) := by
  rw [sFldD_ap, he, fE_ok, ho, fE_ok]
  simp only [h]
  rw [if_pos ⟨hc, hz⟩]
theorem sFldAug_ok {cs : List Nat} {x : Str} {g : D → D → Sto → R D} {o e : E} {ρ : PM.Env} {st : Sto} {n c : Nat} {fs : List (Str × D)} {v y z : D} (ho : o ρ st = .ok (.loc n) st) (h : st[n]? = some (.ins c fs)) (hc : c ∈ cs) (hl : fs.lookup x = some v) (he : e ρ st = .ok y st) (hg : g v y st = .ok z st) (hz : fs.length < 1000) :
    sFldAugD cs x g o e ρ st = .nx ρ (st.set n (.ins c (putFD x z fs))) := by
  rw [sFldAugD_ap, ho, fE_ok]
  simp only [h]
  rw [if_pos hc, hl]
  simp only [he, fE_ok, hg, h]
  rw [if_pos ⟨trivial, hz⟩]
theorem set_at {st g : Sto} {o o' : O} : (st ++ o :: g).set st.length o' = st ++ o' :: g := by
  rw [List.set_append_right _ _ (Nat.le_refl _), Nat.sub_self]; rfl
/-- a def without a result, behind which an object is another one -/
theorem def_nxw {n m : Nat} {s : S} {ds : List D} {ρ0 ρ : PM.Env} {st st' : Sto} (h0 : ds.map some ++ List.replicate (n - ds.length) none = ρ0) (h : s ρ0 st = .nx ρ st') (hm : m < st.length) (hd : st'[m]? ≠ st[m]?) : mDef n s ds st = .ok .non st' := by
  show gcR st (outR (s (ds.map some ++ List.replicate (n - ds.length) none) st)) = _
  rw [h0, h]
  exact gcR_new hm hd
theorem addT {xs ys : List D} (st : Sto) (h : xs.length + ys.length ≤ 1000000) : addD (.tup xs) (.tup ys) st = .ok (.tup (xs ++ ys)) st := by
  simp only [addD]
  rw [if_pos (Nat.le_trans h (by decide))]
theorem row_add {a b : List Nat} (st : Sto) (h : a.length + b.length ≤ 1000000) : addD (rowN a) (rowN b) st = .ok (rowN (a ++ b)) st := by
  rw [rowN, rowN, addT st (by simpa using h), rowN, List.map_append]
def slF (y : Ky) (n : Nat) : List (Str × D) := [("_key", y.D), ("_number", .int (n : Int))]
theorem ln4 : (("_number" : Str) == ("_key" : Str)) = false := by decide +kernel
theorem sl_key (y : Ky) (n : Nat) : List.lookup ("_key" : Str) (slF y n) = some y.D := by simp [slF]
theorem sl_number (y : Ky) (n : Nat) : List.lookup ("_number" : Str) (slF y n) = some (.int (n : Int)) := by simp only [slF, List.lookup, ln4, beq_self_eq_true]
theorem sl_put (y : Ky) (n m : Nat) : putFD "_number" (.int (m : Int)) (slF y n) = slF y m := by
  have h1 : ¬ (("_key" : Str) = "_number") := by decide +kernel
  simp [slF, putFD, h1]
/-- a row sealed -/
def sealN (y : Ky) (n : Nat) (B : List Nat) : List Nat := bytesN 4 n ++ B ++ bytesN 8 (tagN y n B)
theorem sealN_len (y : Ky) (n : Nat) (B : List Nat) : (sealN y n B).length = B.length + 12 := by
  simp only [sealN, List.length_append, bytesN_len]; omega
theorem seal_ok {y : Ky} (hy : y.ok) {st : Sto} {q n : Nat} {B : List Nat} (h : st[q]? = some (.ins 0 (slF y n))) (hn : n < 4294967295) (hB : B.length ≤ 1000) :
    m_Sealer_seal [.loc q, rowN B] st = .ok (rowN (sealN y (n + 1) B)) (st.set q (.ins 0 (slF y (n + 1)))) := by
  refine def_rt (ρ0 := [some (.loc q), some (rowN B), none]) rfl ?_ List.length_set
  unfold b_Sealer_seal
  refine sSeq_nx (ρ' := [some (.loc q), some (rowN B), none]) (st' := st) (sIf_false (st' := st) ?_ rfl) ?_
  · have e := fld_at (cs := [0]) h (by decide) (sl_number y n)
    simp only [cTst_ap, cOp2_ap, cB1_ap, cVar_ap, cC_ap, List.getElem?_cons_zero, R.bind_ok, e, k_MOST_COUNT, eqD_int]
    rw [decide_eq_false (by omega)]; rfl
  refine sSeq_nx (ρ' := [some (.loc q), some (rowN B), none]) (st' := st.set q (.ins 0 (slF y (n + 1)))) ?_ ?_
  · have e := sFldAug_ok (cs := [0]) (x := "_number") (g := iaddD) (o := cVar 0) (e := cC (.int 1)) (ρ := [some (.loc q), some (rowN B), none]) (st := st) (z := .int ((n + 1 : Nat) : Int)) (cVar_at rfl) h (by decide) (sl_number y n) (cC_ap _ _ _) rfl (by show 2 < 1000; decide)
    rw [sl_put] at e
    exact e
  have h1 := get_set_eq (o := .ins 0 (slF y (n + 1))) h
  generalize st.set q (.ins 0 (slF y (n + 1))) = s at h1 ⊢
  have f1 := fld_at (cs := [0, 1]) h1 (by decide) (sl_key y (n + 1))
  have f2 := fld_at (cs := [0]) h1 (by decide) (sl_number y (n + 1))
  have t1 := tag_ok hy (n := n + 1) (show n + 1 < 18446744073709551616 by omega) B s
  have t2 : m_bytes_of [.int (tagN y (n + 1) B : Nat), .int 8] s = _ := bytes_ok (m := 8) (tagN y (n + 1) B) (by decide) s
  have t3 : m_bytes_of [.int ((n + 1 : Nat) : Int), .int 4] s = _ := bytes_ok (m := 4) (n + 1) (by decide) s
  refine sSeq_nx (ρ' := [some (.loc q), some (rowN B), some (rowN (bytesN 8 (tagN y (n + 1) B)))]) (st' := s) (sSet_ok ?_ rfl) ?_
  · simp only [cCall_ap, cArgs_cons, cArgs_nil, cB1_ap, cVar_ap, cC_ap, List.getElem?_cons_zero, List.getElem?_cons_succ, R.bind_ok, f1, f2, t1, t2]
  refine sRet_ok ?_
  have q1 : seqD (rowN B) s = .ok (B.map intN) s := rfl
  have q2 : tupS (B.map intN) s = .ok (rowN B) s := rfl
  have a1 := row_add (a := bytesN 4 (n + 1)) (b := B) s (by rw [bytesN_len]; omega)
  have a2 := row_add (a := bytesN 4 (n + 1) ++ B) (b := bytesN 8 (tagN y (n + 1) B)) s (by rw [List.length_append, bytesN_len, bytesN_len]; omega)
  simp only [cOp2_ap, cCall_ap, cArgs_cons, cArgs_nil, cB1_ap, cVar_ap, cC_ap, cS1_ap, cSeq_ap, List.getElem?_cons_zero, List.getElem?_cons_succ, R.bind_ok, f2, t3, q1, q2, a1, a2]
  rfl
theorem seal_far {y : Ky} {st : Sto} {q : Nat} {B : List Nat} (h : st[q]? = some (.ins 0 (slF y 4294967295))) : m_Sealer_seal [.loc q, rowN B] st = .exc 8 [] st := by
  show gcR st (outR (b_Sealer_seal [some (.loc q), some (rowN B), none] st)) = _
  have e : b_Sealer_seal [some (.loc q), some (rowN B), none] st = .exc 8 [] [some (.loc q), some (rowN B), none] st := by
    unfold b_Sealer_seal
    refine sSeq_exc (sIf_true (st' := st) ?_ rfl)
    have e := fld_at (cs := [0]) h (by decide) (sl_number y 4294967295)
    simp only [cTst_ap, cOp2_ap, cB1_ap, cVar_ap, cC_ap, List.getElem?_cons_zero, R.bind_ok, e, k_MOST_COUNT, eqD_int]
    rfl
  rw [e]
  exact gcR_exc rfl
theorem lsealed_ok {y : Ky} (hy : y.ok) {n : Nat} {B : List Nat} (hn : n < 18446744073709551616) (hB : B.length ≤ 1000) (s : Sto) : m__law_sealed [y.D, .int (n : Int), rowN B] s = .ok (rowN (sealN y n B)) s := by
  refine def_rt (ρ0 := [some y.D, some (.int (n : Int)), some (rowN B)]) rfl ?_ rfl
  unfold b__law_sealed
  refine sRet_ok ?_
  have t1 := ltag_ok hy (n := n) hn B s
  have t2 : m__law_split [.int (tagN y n B : Nat), .int 8] s = _ := lsplit_ok (m := 8) (tagN y n B) (by decide) s
  have t3 : m__law_split [.int (n : Int), .int 4] s = _ := lsplit_ok (m := 4) n (by decide) s
  have a1 := row_add (a := bytesN 4 n) (b := B) s (by rw [bytesN_len]; omega)
  have a2 := row_add (a := bytesN 4 n ++ B) (b := bytesN 8 (tagN y n B)) s (by rw [List.length_append, bytesN_len, bytesN_len]; omega)
  simp only [cOp2_ap, cCall_ap, cArgs_cons, cArgs_nil, cVar_ap, cC_ap, List.getElem?_cons_zero, List.getElem?_cons_succ, R.bind_ok, t1, t2, t3, a1, a2]
  rfl
end PMl

set_option Elab.async false
set_option linter.all false
set_option maxRecDepth 100000
set_option maxHeartbeats 2000000
/-! the plain law of k54, 14: Sealer, Opener, Link; sending. -/
namespace PMl
open PySem PM L2
theorem ln5 : (("_greatest" : Str) == ("_key" : Str)) = false := by decide +kernel
theorem ln6 : (("_taken" : Str) == ("_key" : Str)) = false := by decide +kernel
theorem ln7 : (("_taken" : Str) == ("_greatest" : Str)) = false := by decide +kernel
theorem ln8 : (("_sealer" : Str) == ("_world" : Str)) = false := by decide +kernel
theorem ln9 : (("_opener" : Str) == ("_world" : Str)) = false := by decide +kernel
theorem ln10 : (("_opener" : Str) == ("_sealer" : Str)) = false := by decide +kernel
theorem putFD_ne {x z : Str} {v w : D} {r : List (Str × D)} (h : (x == z) = false) : putFD x v ((z, w) :: r) = (z, w) :: putFD x v r := by
  have h1 : ¬ (z = x) := by intro e; subst e; simp at h
  rw [putFD, if_neg h1]
theorem putFD_eq {x : Str} {v w : D} {r : List (Str × D)} : putFD x v ((x, w) :: r) = (x, v) :: r := by rw [putFD, if_pos rfl]
theorem putFD_nil {x : Str} {v : D} : putFD x v [] = [(x, v)] := rfl
def opF (z : Ky) (g : Int) (t : Nat) : List (Str × D) := [("_key", z.D), ("_greatest", .int g), ("_taken", .loc t)]
theorem op_key (z : Ky) (g : Int) (t : Nat) : List.lookup ("_key" : Str) (opF z g t) = some z.D := by simp [opF]
theorem op_greatest (z : Ky) (g : Int) (t : Nat) : List.lookup ("_greatest" : Str) (opF z g t) = some (.int g) := by simp only [opF, List.lookup, ln5, beq_self_eq_true]
theorem op_taken (z : Ky) (g : Int) (t : Nat) : List.lookup ("_taken" : Str) (opF z g t) = some (.loc t) := by simp only [opF, List.lookup, ln6, ln7, beq_self_eq_true]
theorem op_putg (z : Ky) (g g' : Int) (t : Nat) : putFD "_greatest" (.int g') (opF z g t) = opF z g' t := by rw [opF, putFD_ne ln5, putFD_eq]; rfl
theorem op_putt (z : Ky) (g : Int) (t t' : Nat) : putFD "_taken" (.loc t') (opF z g t) = opF z g t' := by rw [opF, putFD_ne ln6, putFD_ne ln7, putFD_eq]; rfl
def lkF (s o : Nat) : List (Str × D) := [("_world", worldD), ("_sealer", .loc s), ("_opener", .loc o)]
theorem lk_world (s o : Nat) : List.lookup ("_world" : Str) (lkF s o) = some worldD := by simp [lkF]
theorem lk_sealer (s o : Nat) : List.lookup ("_sealer" : Str) (lkF s o) = some (.loc s) := by simp only [lkF, List.lookup, ln8, beq_self_eq_true]
theorem lk_opener (s o : Nat) : List.lookup ("_opener" : Str) (lkF s o) = some (.loc o) := by simp only [lkF, List.lookup, ln9, ln10, beq_self_eq_true]
theorem sealer_init (y : Ky) (n : Nat) (st : Sto) : m_Sealer_init [.loc st.length, y.D, .int (n : Int)] (st ++ [.ins 0 []]) = .ok .non (st ++ [.ins 0 (slF y n)]) := by
  refine def_nx (ρ0 := [some (.loc st.length), some y.D, some (.int (n : Int))]) (ρ := [some (.loc st.length), some y.D, some (.int (n : Int))]) rfl ?_ (by simp)
  unfold b_Sealer_init
  refine sSeq_nx (ρ' := [some (.loc st.length), some y.D, some (.int (n : Int))]) (st' := st ++ [.ins 0 [("_key", y.D)]]) ?_ ?_
  · have e := sFld_ok (cs := [0, 1]) (x := "_key") (o := cVar 0) (e := cVar 1) (ρ := [some (.loc st.length), some y.D, some (.int (n : Int))]) (st := st ++ [.ins 0 []]) (fs := []) (cVar_at rfl) (cVar_at rfl) get_new (by decide) (by decide)
    rw [set_at] at e; exact e
  · have e := sFld_ok (cs := [0]) (x := "_number") (o := cVar 0) (e := cVar 2) (ρ := [some (.loc st.length), some y.D, some (.int (n : Int))]) (st := st ++ [.ins 0 [("_key", y.D)]]) (fs := [("_key", y.D)]) (cVar_at rfl) (cVar_at rfl) get_new (by decide) (by show 1 < 1000; decide)
    rw [set_at, putFD_ne ln4, putFD_nil] at e; exact e
theorem sealer_make {y : Ky} {n : Nat} {es : List E} {ρ : PM.Env} {st st1 : Sto} (h : cArgs es ρ st = .ok [y.D, .int (n : Int)] st1) : cMake 0 m_Sealer_init es ρ st = .ok (.loc st1.length) (st1 ++ [.ins 0 (slF y n)]) := by
  rw [cMake_ap, h, R.bind_ok, sealer_init, R.bind_ok]
  rfl
theorem opener_init (z : Ky) (st : Sto) : m_Opener_init [.loc st.length, z.D] (st ++ [.ins 1 []]) = .ok .non (st ++ [.ins 1 (opF z 0 (st.length + 1)), .dct []]) := by
  refine def_nxw (m := st.length) (ρ0 := [some (.loc st.length), some z.D]) (ρ := [some (.loc st.length), some z.D]) rfl ?_ (by simp) ?_
  · unfold b_Opener_init
    refine sSeq_nx (ρ' := [some (.loc st.length), some z.D]) (st' := st ++ [.ins 1 [("_key", z.D)]]) ?_ (sSeq_nx (ρ' := [some (.loc st.length), some z.D]) (st' := st ++ [.ins 1 [("_key", z.D), ("_greatest", .int 0)]]) ?_ ?_)
    · have e := sFld_ok (cs := [0, 1]) (x := "_key") (o := cVar 0) (e := cVar 1) (ρ := [some (.loc st.length), some z.D]) (st := st ++ [.ins 1 []]) (fs := []) (cVar_at rfl) (cVar_at rfl) get_new (by decide) (by decide)
      rw [set_at] at e; exact e
    · have e := sFld_ok (cs := [1]) (x := "_greatest") (o := cVar 0) (e := cC (.int 0)) (ρ := [some (.loc st.length), some z.D]) (st := st ++ [.ins 1 [("_key", z.D)]]) (fs := [("_key", z.D)]) (cC_ap _ _ _) (cVar_at rfl) get_new (by decide) (by show 1 < 1000; decide)
      rw [set_at, putFD_ne ln5, putFD_nil] at e; exact e
    · have e0 : cNewD cD0 [some (.loc st.length), some z.D] (st ++ [.ins 1 [("_key", z.D), ("_greatest", .int 0)]]) = .ok (.loc (st.length + 1)) (st ++ .ins 1 [("_key", z.D), ("_greatest", .int 0)] :: [.dct []]) := by
        rw [cNewD_ap, cD0_ap, R.bind_ok, List.append_assoc, List.length_append]; rfl
      have e := sFld_ok (cs := [1]) (x := "_taken") (o := cVar 0) (e := cNewD cD0) (ρ := [some (.loc st.length), some z.D]) (fs := [("_key", z.D), ("_greatest", .int 0)]) e0 (cVar_at rfl) get_new (by decide) (by show 2 < 1000; decide)
      rw [set_at, putFD_ne ln6, putFD_ne ln7, putFD_nil] at e; exact e
  · rw [get_new, get_new]
    intro h
    have h := O.ins.inj (Option.some.inj h)
    cases h.2
theorem opener_make {z : Ky} {es : List E} {ρ : PM.Env} {st st1 : Sto} (h : cArgs es ρ st = .ok [z.D] st1) : cMake 1 m_Opener_init es ρ st = .ok (.loc st1.length) (st1 ++ [.ins 1 (opF z 0 (st1.length + 1)), .dct []]) := by
  rw [cMake_ap, h, R.bind_ok, opener_init, R.bind_ok]
  rfl
theorem link_init (y z : Ky) (n : Nat) (st : Sto) : m_Link_init [.loc st.length, worldD, y.D, z.D, .int (n : Int)] (st ++ [.ins 4 []]) =
    .ok .non (st ++ [.ins 4 (lkF (st.length + 1) (st.length + 2)), .ins 0 (slF y n), .ins 1 (opF z 0 (st.length + 3)), .dct []]) := by
  refine def_nxw (m := st.length) (ρ0 := [some (.loc st.length), some worldD, some y.D, some z.D, some (.int (n : Int))]) (ρ := [some (.loc st.length), some worldD, some y.D, some z.D, some (.int (n : Int))]) rfl ?_ (by simp) ?_
  · unfold b_Link_init
    obtain ⟨ρ, hρ⟩ : ∃ ρ : PM.Env, ρ = [some (.loc st.length), some worldD, some y.D, some z.D, some (.int (n : Int))] := ⟨_, rfl⟩
    rw [← hρ]
    have v0 : ∀ s : Sto, cVar 0 ρ s = .ok (.loc st.length) s := fun s => cVar_at (by rw [hρ]; rfl)
    refine sSeq_nx (ρ' := ρ) (st' := st ++ [.ins 4 [("_world", worldD)]]) ?_ (sSeq_nx (ρ' := ρ) (st' := st ++ [.ins 4 [("_world", worldD), ("_sealer", .loc (st.length + 1))], .ins 0 (slF y n)]) ?_ ?_)
    · have e := sFld_ok (cs := [4]) (x := "_world") (o := cVar 0) (e := cVar 1) (ρ := ρ) (st := st ++ [.ins 4 []]) (fs := []) (d := worldD) (cVar_at (by rw [hρ]; rfl)) (v0 _) get_new (by decide) (by decide)
      rw [set_at] at e; exact e
    · have e0 := sealer_make (y := y) (n := n) (es := [(cVar 2), (cVar 4)]) (ρ := ρ) (st := st ++ [.ins 4 [("_world", worldD)]]) (st1 := st ++ [.ins 4 [("_world", worldD)]]) (by rw [hρ]; rfl)
      rw [List.length_append, List.append_assoc] at e0
      have e := sFld_ok (cs := [4]) (x := "_sealer") (o := cVar 0) (fs := [("_world", worldD)]) e0 (v0 _) get_new (by decide) (by show 1 < 1000; decide)
      rw [List.singleton_append, set_at, putFD_ne ln8, putFD_nil] at e; exact e
    · have e0 := opener_make (z := z) (es := [(cVar 3)]) (ρ := ρ) (st := st ++ [.ins 4 [("_world", worldD), ("_sealer", .loc (st.length + 1))], .ins 0 (slF y n)]) (st1 := st ++ [.ins 4 [("_world", worldD), ("_sealer", .loc (st.length + 1))], .ins 0 (slF y n)]) (by rw [hρ]; rfl)
      rw [List.length_append, List.append_assoc] at e0
      have e := sFld_ok (cs := [4]) (x := "_opener") (o := cVar 0) (fs := [("_world", worldD), ("_sealer", .loc (st.length + 1))]) e0 (v0 _) get_new (by decide) (by show 2 < 1000; decide)
      rw [List.cons_append, set_at, putFD_ne ln9, putFD_ne ln10, putFD_nil] at e; exact e
  · rw [get_new, get_new]
    intro h
    have h := O.ins.inj (Option.some.inj h)
    cases h.2
theorem link_make {y z : Ky} {n : Nat} {es : List E} {ρ : PM.Env} {st st1 : Sto} (h : cArgs es ρ st = .ok [worldD, y.D, z.D, .int (n : Int)] st1) : cMake 4 m_Link_init es ρ st =
    .ok (.loc st1.length) (st1 ++ [.ins 4 (lkF (st1.length + 1) (st1.length + 2)), .ins 0 (slF y n), .ins 1 (opF z 0 (st1.length + 3)), .dct []]) := by
  rw [cMake_ap, h, R.bind_ok, link_init, R.bind_ok]
  rfl
theorem link_makeD {y z : Ky} {es : List E} {ρ : PM.Env} {st st1 : Sto} (h : cArgs es ρ st = .ok [worldD, y.D, z.D] st1) : cMakeD 4 m_Link_init [(.int 0)] es ρ st =
    .ok (.loc st1.length) (st1 ++ [.ins 4 (lkF (st1.length + 1) (st1.length + 2)), .ins 0 (slF y 0), .ins 1 (opF z 0 (st1.length + 3)), .dct []]) := by
  rw [cMakeD, cMake_ap, h, R.bind_ok]
  have e := link_init y z 0 st1
  rw [show [D.loc st1.length, worldD, y.D, z.D, .int ((0 : Nat) : Int)] = (D.loc st1.length :: [worldD, y.D, z.D]) ++ [.int 0] from rfl] at e
  rw [e, R.bind_ok]
  rfl
theorem send_ok {y : Ky} (hy : y.ok) {st : Sto} {l s o n : Nat} {L : D} {B : List Nat} (hL : LB L B) (h1 : st[l]? = some (.ins 4 (lkF s o))) (h2 : st[s]? = some (.ins 0 (slF y n))) (hn : n < 4294967295) :
    m_Link_send [.loc l, L] st = .ok (rowN (sealN y (n + 1) B)) (st.set s (.ins 0 (slF y (n + 1)))) := by
  refine def_rt (ρ0 := [some (.loc l), some L]) rfl ?_ List.length_set
  unfold b_Link_send
  have f1 := fld_at (cs := [4]) h1 (by decide) (lk_sealer s o)
  have f2 := fld_at (cs := [4]) h1 (by decide) (lk_world s o)
  refine sRet_ok (meth_ok (n := s) (st1 := st) (st2 := st) (ds := [rowN B]) ?_ h2 ?_ ?_ (seal_ok hy h2 hn (by have := hL.len; omega)))
  · simp only [cB1_ap, cVar_ap, List.getElem?_cons_zero, R.bind_ok, f1]
  · have a1 : (("seal" : Str) == ("_key" : Str)) = false := by decide +kernel
    have a2 : (("seal" : Str) == ("_number" : Str)) = false := by decide +kernel
    simp only [slF, List.lookup, a1, a2]
  · simp only [cCall_ap, cArgs_cons, cArgs_nil, cB1_ap, cVar_ap, List.getElem?_cons_zero, List.getElem?_cons_succ, R.bind_ok, f2, hL.fitted, hL.pack]
end PMl

set_option Elab.async false
set_option linter.all false
set_option maxRecDepth 100000
set_option maxHeartbeats 2000000
/-! the plain law of k54, 15: a Reader. -/
namespace PMl
open PySem PM L2
theorem sIx_neg (n d k : Nat) (h : 0 < k) : HT.sIx n d (some (-(k : Int))) = n - k := by
  show (if (-(k : Int)) < 0 then ((-(k : Int)) + (n : Int)).toNat else min (-(k : Int)).toNat n) = n - k
  rw [if_pos (by omega)]
  omega
theorem drop_min {α : Type} (xs : List α) (n : Nat) : xs.drop (min n xs.length) = xs.drop n := by
  by_cases h : n ≤ xs.length
  · rw [Nat.min_eq_left h]
  · rw [Nat.min_eq_right (by omega), List.drop_eq_nil_of_le (Nat.le_refl _), List.drop_eq_nil_of_le (by omega)]
theorem cut_nn (xs : List D) (lo hi : Nat) : cutD xs (some (lo : Int)) (some (hi : Int)) = (xs.drop lo).take (hi - lo) := by
  unfold cutD
  rw [HT.sIx_nat, HT.sIx_nat, drop_min]
  apply List.ext_getElem?
  intro i
  rw [List.getElem?_take, List.getElem?_take, List.getElem?_drop]
  by_cases h : lo + i < xs.length
  · by_cases h2 : i < hi - lo
    · rw [if_pos (by omega), if_pos h2]
    · rw [if_neg (by omega), if_neg h2]
  · rw [List.getElem?_eq_none (by omega)]
    split <;> split <;> rfl
theorem cut_n (xs : List D) (lo : Nat) : cutD xs (some (lo : Int)) none = xs.drop lo := by
  unfold cutD
  rw [HT.sIx_nat, HT.sIx_none, drop_min, List.take_of_length_le (by rw [List.length_drop]; omega)]
theorem cut_p (xs : List D) (hi : Nat) : cutD xs none (some (hi : Int)) = xs.take hi := by
  unfold cutD
  rw [HT.sIx_nat, HT.sIx_none, List.drop_zero, Nat.sub_zero]
  by_cases h : hi ≤ xs.length
  · rw [Nat.min_eq_left h]
  · rw [Nat.min_eq_right (by omega), List.take_of_length_le (Nat.le_refl _), List.take_of_length_le (by omega)]
theorem cut_m (xs : List D) (k : Nat) (h : 0 < k) : cutD xs (some (-(k : Int))) none = xs.drop (xs.length - k) := by
  unfold cutD
  rw [sIx_neg _ _ _ h, HT.sIx_none, List.take_of_length_le (by rw [List.length_drop]; omega)]
theorem cut_nm (xs : List D) (lo k : Nat) (h : 0 < k) : cutD xs (some (lo : Int)) (some (-(k : Int))) = (xs.drop lo).take (xs.length - k - lo) := by
  unfold cutD
  rw [sIx_neg _ _ _ h, HT.sIx_nat, drop_min]
  apply List.ext_getElem?
  intro i
  rw [List.getElem?_take, List.getElem?_take, List.getElem?_drop]
  by_cases h : lo + i < xs.length
  · by_cases h2 : i < xs.length - k - lo
    · rw [if_pos (by omega), if_pos h2]
    · rw [if_neg (by omega), if_neg h2]
  · rw [List.getElem?_eq_none (by omega)]
    split <;> split <;> rfl
/-- what a Reader sees -/
def lastN (at_ w : Nat) : Nat := (at_ + w + 7) / 8
def sumN (B : List Nat) (at_ w : Nat) : Nat := numF 0 ((B.drop (at_ / 8)).take (lastN at_ w - at_ / 8))
def seenN (B : List Nat) (at_ w : Nat) : Nat := (sumN B at_ w / 2 ^ (8 * lastN at_ w - at_ - w)) &&& (1 * 2 ^ w - 1)
def rdF (B : List Nat) (a : Nat) : List (Str × D) := [("_row", rowN B), ("_at", .int (a : Int))]
theorem ln11 : (("_at" : Str) == ("_row" : Str)) = false := by decide +kernel
theorem rd_row (B : List Nat) (a : Nat) : List.lookup ("_row" : Str) (rdF B a) = some (rowN B) := by simp [rdF]
theorem rd_at (B : List Nat) (a : Nat) : List.lookup ("_at" : Str) (rdF B a) = some (.int (a : Int)) := by simp only [rdF, List.lookup, ln11, beq_self_eq_true]
theorem rd_put (B : List Nat) (a b : Nat) : putFD "_at" (.int (b : Int)) (rdF B a) = rdF B b := by rw [rdF, putFD_ne ln11, putFD_eq]; rfl
theorem rd_no {B : List Nat} {a : Nat} {x : Str} (h1 : (x == ("_row" : Str)) = false) (h2 : (x == ("_at" : Str)) = false) : (rdF B a).lookup x = none := by
  simp only [rdF, List.lookup, h1, h2]
theorem see_loop (st : Sto) {p q u v w : Option D} : ∀ (r : List Nat) (h : Nat) (z : Option D), ∃ z', forGo (fun _ => True) (gN 6) (sSet 5 (cOp2 addD (cOp2 mulD (cVar 5) (cC (.int 256))) (cVar 6))) (r.map intN) [p, q, u, v, w, some (.int (h : Int)), z] st = .nx [p, q, u, v, w, some (.int (numF h r : Nat)), z'] st
  | [], h, z => ⟨z, by rw [List.map_nil, forGo_nil trivial, numF]⟩
  | x :: r, h, z => by
    obtain ⟨z', e⟩ := see_loop st (p := p) (q := q) (u := u) (v := v) (w := w) r (h * 256 + x) (some (.int (x : Int)))
    refine ⟨z', ?_⟩
    rw [List.map_cons, forGo_cons (ρ1 := [p, q, u, v, w, some (.int (h : Int)), some (.int (x : Int))]) (ρ2 := [p, q, u, v, w, some (.int ((h * 256 + x : Nat) : Int)), some (.int (x : Int))]) (st2 := st) trivial rfl (.inl ?_), e, numF]
    refine sSet_ok (d := .int ((h * 256 + x : Nat) : Int)) ?_ rfl
    have m1 : mulD (.int (h : Int)) (.int 256) st = .ok (.int ((h * 256 : Nat) : Int)) st := mulD_nat (n := 256) st (by decide)
    simp only [cOp2_ap, cVar_ap, cC_ap, R.bind_ok, List.getElem?_cons_zero, List.getElem?_cons_succ, m1, addD_nat]
theorem row_len (B : List Nat) (st : Sto) : lenD (rowN B) st = .ok (.int (B.length : Int)) st := by
  rw [← List.length_map (f := intN) (as := B)]; rfl
theorem row_slice {B : List Nat} (lo hi : Nat) (st : Sto) : sliceD (rowN B) (some (lo : Int)) (some (hi : Int)) st = .ok (rowN ((B.drop lo).take (hi - lo))) st := by
  show R.ok (D.tup (cutD (B.map intN) _ _)) st = _
  rw [cut_nn, ← List.map_drop, ← List.map_take]; rfl
theorem seen_ok {st : Sto} {q a at_ w : Nat} {f : D} {B : List Nat} (h : st[q]? = some (.ins 3 (rdF B a))) (hw : at_ + w ≤ 8 * B.length) (hB : B.length ≤ 1000) (hw2 : w ≤ 60) :
    m_Reader__seen [.loc q, .int (at_ : Int), .int (w : Int), f] st = .ok (.int (seenN B at_ w : Nat)) st := by
  obtain ⟨x4, x5, x6⟩ : ∃ a b c : Nat, True := ⟨0, 0, 0, trivial⟩
  refine def_rt (ρ0 := [some (.loc q), some (.int (at_ : Int)), some (.int (w : Int)), some f, none, none, none]) rfl ?_ rfl
  unfold b_Reader__seen
  have f1 := fld_at (cs := [2, 3]) h (by decide) (rd_row B a)
  have m1 : mulD (.int 8) (.int (B.length : Int)) st = .ok (.int ((8 * B.length : Nat) : Int)) st := mulD_nat (a := 8) st (by omega)
  refine sSeq_nx (ρ' := [some (.loc q), some (.int (at_ : Int)), some (.int (w : Int)), some f, none, none, none]) (st' := st) (sIf_false (st' := st) ?_ rfl) ?_
  · simp only [cTst_ap, cOp2_ap, cB1_ap, cVar_ap, cC_ap, List.getElem?_cons_zero, List.getElem?_cons_succ, R.bind_ok, f1, row_len, m1, addD_nat, gtD, cmpI_int]
    rw [decide_eq_false (by omega)]; rfl
  refine sSeq_nx (ρ' := [some (.loc q), some (.int (at_ : Int)), some (.int (w : Int)), some f, some (.int (lastN at_ w : Int)), none, none]) (st' := st) (sSet_ok ?_ rfl) ?_
  · have a7 : addD (.int ((at_ + w : Nat) : Int)) (.int 7) st = .ok (.int ((at_ + w + 7 : Nat) : Int)) st := addD_nat _ 7 st
    have d8 : fdivD (.int ((at_ + w + 7 : Nat) : Int)) (.int 8) st = .ok (.int (((at_ + w + 7) / 8 : Nat) : Int)) st := fdivD_nat (n := 8) st (by decide) (by decide)
    simp only [cOp2_ap, cVar_ap, cC_ap, List.getElem?_cons_zero, List.getElem?_cons_succ, R.bind_ok, addD_nat, a7, d8]
    rfl
  refine sSeq_nx (ρ' := [some (.loc q), some (.int (at_ : Int)), some (.int (w : Int)), some f, some (.int (lastN at_ w : Int)), some (.int ((0 : Nat) : Int)), none]) (st' := st) (sSet_ok (cC_ap _ _ _) rfl) ?_
  obtain ⟨z, e⟩ := see_loop st (p := some (.loc q)) (q := some (.int (at_ : Int))) (u := some (.int (w : Int))) (v := some f) (w := some (.int (lastN at_ w : Int))) ((B.drop (at_ / 8)).take (lastN at_ w - at_ / 8)) 0 none
  refine sSeq_nx (sFor_ok (cItr_tup (xs := ((B.drop (at_ / 8)).take (lastN at_ w - at_ / 8)).map intN) ?_) e) ?_
  · have d8 : fdivD (.int (at_ : Int)) (.int 8) st = .ok (.int ((at_ / 8 : Nat) : Int)) st := fdivD_nat (n := 8) st (by decide) (by decide)
    have s1 := row_slice (B := B) (at_ / 8) (lastN at_ w) st
    have p1 : cPart (cOp2 fdivD (cVar 1) (cC (.int 8))) [some (.loc q), some (.int (at_ : Int)), some (.int (w : Int)), some f, some (.int (lastN at_ w : Int)), some (.int ((0 : Nat) : Int)), none] st = .ok (some ((at_ / 8 : Nat) : Int)) st := by
      unfold cPart
      simp only [cOp2_ap, cVar_ap, cC_ap, List.getElem?_cons_zero, List.getElem?_cons_succ, R.bind_ok, d8]
    have p2 : cPart (cVar 4) [some (.loc q), some (.int (at_ : Int)), some (.int (w : Int)), some f, some (.int (lastN at_ w : Int)), some (.int ((0 : Nat) : Int)), none] st = .ok (some (lastN at_ w : Int)) st := rfl
    simp only [cSlice_ap, cB1_ap, cVar_ap, List.getElem?_cons_zero, R.bind_ok, f1, p1, p2, s1]
    rfl
  rw [← sumN]
  have hl : at_ + w ≤ 8 * lastN at_ w ∧ 8 * lastN at_ w ≤ at_ + w + 7 := by unfold lastN; omega
  rw [seenN]
  generalize lastN at_ w = l at hl ⊢
  generalize sumN B at_ w = y
  have s8 : mulD (.int 8) (.int (l : Int)) st = .ok (.int ((8 * l : Nat) : Int)) st := mulD_nat (a := 8) st (by omega)
  have s9 : subD (.int ((8 * l : Nat) : Int)) (.int (at_ : Int)) st = .ok (.int ((8 * l - at_ : Nat) : Int)) st := by rw [subD_int]; congr 2; omega
  have s10 : subD (.int ((8 * l - at_ : Nat) : Int)) (.int (w : Int)) st = .ok (.int ((8 * l - at_ - w : Nat) : Int)) st := by rw [subD_int]; congr 2; omega
  have s11 : shlD (.int 1) (.int (w : Int)) st = .ok (.int ((1 * 2 ^ w : Nat) : Int)) st := shlD_nat (a := 1) st (by decide) (by omega)
  have s12 : subD (.int ((1 * 2 ^ w : Nat) : Int)) (.int 1) st = .ok (.int ((1 * 2 ^ w - 1 : Nat) : Int)) st := by
    have := Nat.two_pow_pos w
    rw [subD_int]; congr 2; omega
  refine sRet_ok ?_
  simp only [cOp2_ap, cVar_ap, cC_ap, List.getElem?_cons_zero, List.getElem?_cons_succ, R.bind_ok, s8, s9, s10, s11, s12, shrD_nat, andD_nat]
end PMl

set_option Elab.async false
set_option linter.all false
set_option maxRecDepth 100000
set_option maxHeartbeats 2000000
/-! the plain law of k54, 16: a Reader, 2. -/
namespace PMl
open PySem PM L2
theorem take_ok {st : Sto} {q a w : Nat} {B : List Nat} (h : st[q]? = some (.ins 3 (rdF B a))) (hw : a + w ≤ 8 * B.length) (hB : B.length ≤ 1000) (hw2 : w ≤ 60) :
    m_Reader_take [.loc q, .int (w : Int)] st = .ok (.int (seenN B a w : Nat)) (st.set q (.ins 3 (rdF B (a + w)))) := by
  refine def_rt (ρ0 := [some (.loc q), some (.int (w : Int)), none]) rfl ?_ List.length_set
  unfold b_Reader_take
  have f2 := fld_at (cs := [3]) h (by decide) (rd_at B a)
  refine sSeq_nx (ρ' := [some (.loc q), some (.int (w : Int)), some (.int (seenN B a w : Nat))]) (st' := st) (sSet_ok ?_ rfl) ?_
  · refine meth_ok (cVar_at rfl) h (rd_no (by decide +kernel) (by decide +kernel)) (ds := [.int (a : Int), .int (w : Int), .int (a : Int)]) (st2 := st) ?_ (seen_ok h hw hB hw2)
    simp only [cArgs_cons, cArgs_nil, cB1_ap, cVar_ap, List.getElem?_cons_zero, List.getElem?_cons_succ, R.bind_ok, f2]
  have e := sFldAug_ok (cs := [3]) (x := "_at") (g := iaddD) (o := cVar 0) (e := cVar 1) (ρ := [some (.loc q), some (.int (w : Int)), some (.int (seenN B a w : Nat))]) (st := st) (z := .int ((a + w : Nat) : Int)) (cVar_at rfl) h (by decide) (rd_at B a) (cVar_at rfl) rfl (by show 2 < 1000; decide)
  rw [rd_put] at e
  exact sSeq_nx e (sRet_ok (cVar_at rfl))
theorem rnum_ok {st : Sto} {q a w v : Nat} {B : List Nat} (h : st[q]? = some (.ins 3 (rdF B a))) (hB : B.length ≤ 1000) (e1 : seenN B a 5 = w) (hw : w < 31) (hl : a + 5 + w ≤ 8 * B.length) (hv : 2 ^ w + seenN B (a + 5) w = v + 1) :
    m_Reader_number [.loc q] st = .ok (.int (v : Int)) (st.set q (.ins 3 (rdF B (a + 5 + w)))) := by
  refine def_rt (ρ0 := [some (.loc q), none, none, none]) rfl ?_ List.length_set
  unfold b_Reader_number
  have f2 := fld_at (cs := [3]) h (by decide) (rd_at B a)
  have q1 : m_Reader__seen [.loc q, .int (a : Int), .int 5, .int (a : Int)] st = _ := seen_ok (w := 5) (f := .int (a : Int)) h (by omega) hB (by decide)
  rw [e1] at q1
  have q2 := seen_ok (at_ := a + 5) (w := w) (f := .int (a : Int)) h (by omega) hB (by omega)
  refine sSeq_nx (ρ' := [some (.loc q), some (.int (a : Int)), none, none]) (st' := st) (sSet_ok ?_ rfl) ?_
  · simp only [cB1_ap, cVar_ap, List.getElem?_cons_zero, R.bind_ok, f2]
  refine sSeq_nx (ρ' := [some (.loc q), some (.int (a : Int)), some (.int (w : Int)), none]) (st' := st) (sSet_ok ?_ rfl) ?_
  · exact meth_ok (cVar_at rfl) h (rd_no (by decide +kernel) (by decide +kernel)) (ds := [.int (a : Int), .int 5, .int (a : Int)]) (st2 := st) rfl q1
  refine sSeq_nx (ρ' := [some (.loc q), some (.int (a : Int)), some (.int (w : Int)), none]) (st' := st) (sIf_false (st' := st) ?_ rfl) ?_
  · simp only [cTst_ap, cOp2_ap, cVar_ap, cC_ap, List.getElem?_cons_zero, List.getElem?_cons_succ, R.bind_ok, eqD_int]
    rw [decide_eq_false (by omega)]; rfl
  have a5 : ∀ s : Sto, addD (.int (a : Int)) (.int 5) s = .ok (.int ((a + 5 : Nat) : Int)) s := fun s => addD_nat a 5 s
  refine sSeq_nx (ρ' := [some (.loc q), some (.int (a : Int)), some (.int (w : Int)), some (.int (seenN B (a + 5) w : Nat))]) (st' := st) (sSet_ok ?_ rfl) ?_
  · refine meth_ok (cVar_at rfl) h (rd_no (by decide +kernel) (by decide +kernel)) (ds := [.int ((a + 5 : Nat) : Int), .int (w : Int), .int (a : Int)]) (st2 := st) ?_ q2
    simp only [cArgs_cons, cArgs_nil, cOp2_ap, cVar_ap, cC_ap, List.getElem?_cons_zero, List.getElem?_cons_succ, R.bind_ok, a5]
  generalize seenN B (a + 5) w = r at hv ⊢
  have e := sFld_ok (cs := [3]) (x := "_at") (o := cVar 0) (e := cOp2 addD (cOp2 addD (cVar 1) (cC (.int 5))) (cVar 2)) (ρ := [some (.loc q), some (.int (a : Int)), some (.int (w : Int)), some (.int (r : Int))]) (st := st) (st1 := st) (d := .int ((a + 5 + w : Nat) : Int)) (by
    simp only [cOp2_ap, cVar_ap, cC_ap, List.getElem?_cons_zero, List.getElem?_cons_succ, R.bind_ok, a5, addD_nat]) (cVar_at rfl) h (by decide) (by show 2 < 1000; decide)
  rw [rd_put] at e
  refine sSeq_nx e (sRet_ok ?_)
  generalize st.set q (.ins 3 (rdF B (a + 5 + w))) = s
  have s11 : shlD (.int 1) (.int (w : Int)) s = .ok (.int ((1 * 2 ^ w : Nat) : Int)) s := shlD_nat (a := 1) s (by decide) (by omega)
  have s12 : subD (.int ((1 * 2 ^ w + r : Nat) : Int)) (.int 1) s = .ok (.int (v : Int)) s := by
    rw [Nat.one_mul, hv, subD_int]; congr 2; omega
  simp only [cOp2_ap, cVar_ap, cC_ap, List.getElem?_cons_zero, List.getElem?_cons_succ, R.bind_ok, s11, addD_nat, s12]
theorem fin_ok {st : Sto} {q a : Nat} {B : List Nat} (h : st[q]? = some (.ins 3 (rdF B a))) (hB : B.length ≤ 1000) (ha : a ≤ 8 * B.length) (h8 : 8 * B.length - a < 8) (h0 : seenN B a (8 * B.length - a) = 0) :
    m_Reader_finish [.loc q] st = .ok .non st := by
  refine def_nx (ρ0 := [some (.loc q), none]) (ρ := [some (.loc q), some (.int ((8 * B.length - a : Nat) : Int))]) rfl ?_ rfl
  unfold b_Reader_finish
  have f1 := fld_at (cs := [2, 3]) h (by decide) (rd_row B a)
  have f2 := fld_at (cs := [3]) h (by decide) (rd_at B a)
  have q1 := seen_ok (at_ := a) (w := 8 * B.length - a) (f := .int (a : Int)) h (by omega) hB (by omega)
  rw [h0] at q1
  have m1 : mulD (.int 8) (.int (B.length : Int)) st = .ok (.int ((8 * B.length : Nat) : Int)) st := mulD_nat (a := 8) st (by omega)
  have s1 : subD (.int ((8 * B.length : Nat) : Int)) (.int (a : Int)) st = .ok (.int ((8 * B.length - a : Nat) : Int)) st := by rw [subD_int]; congr 2; omega
  refine sSeq_nx (ρ' := [some (.loc q), some (.int ((8 * B.length - a : Nat) : Int))]) (st' := st) (sSet_ok ?_ rfl) ?_
  · simp only [cOp2_ap, cB1_ap, cVar_ap, cC_ap, List.getElem?_cons_zero, R.bind_ok, f1, f2, row_len, m1, s1]
  refine sIf_false (st' := st) ?_ rfl
  have g1 : cTst (cOp2 geD (cVar 1) (cC (.int 8))) [some (.loc q), some (.int ((8 * B.length - a : Nat) : Int))] st = .ok false st := by
    simp only [cTst_ap, cOp2_ap, cVar_ap, cC_ap, List.getElem?_cons_zero, List.getElem?_cons_succ, R.bind_ok, geD, cmpI_int]
    rw [decide_eq_false (by omega)]; rfl
  have g2 : cMeth 3 "_seen" m_Reader__seen (cVar 0) [(cB1 (fldOf [3] "_at") (cVar 0)), (cVar 1), (cB1 (fldOf [3] "_at") (cVar 0))] [some (.loc q), some (.int ((8 * B.length - a : Nat) : Int))] st = .ok (.int ((0 : Nat) : Int)) st := by
    refine meth_ok (cVar_at rfl) h (rd_no (by decide +kernel) (by decide +kernel)) (ds := [.int (a : Int), .int ((8 * B.length - a : Nat) : Int), .int (a : Int)]) (st2 := st) ?_ q1
    simp only [cArgs_cons, cArgs_nil, cB1_ap, cVar_ap, List.getElem?_cons_zero, List.getElem?_cons_succ, R.bind_ok, f2]
  rw [tOrD_ap, g1]
  simp only [R.bind_ok, cTst_ap, cOp2_ap, g2, cC_ap, neD_int]
  rfl
theorem reader_make {B : List Nat} {es : List E} {ρ : PM.Env} {st st1 : Sto} (h : cArgs es ρ st = .ok [rowN B] st1) : cMake 3 m_Reader_init es ρ st = .ok (.loc st1.length) (st1 ++ [.ins 3 (rdF B 0)]) := by
  have e : m_Reader_init [.loc st1.length, rowN B] (st1 ++ [.ins 3 []]) = .ok .non (st1 ++ [.ins 3 (rdF B 0)]) := by
    refine def_nx (ρ0 := [some (.loc st1.length), some (rowN B)]) (ρ := [some (.loc st1.length), some (rowN B)]) rfl ?_ (by simp)
    unfold b_Reader_init
    refine sSeq_nx (ρ' := [some (.loc st1.length), some (rowN B)]) (st' := st1 ++ [.ins 3 [("_row", rowN B)]]) ?_ ?_
    · have e := sFld_ok (cs := [2, 3]) (x := "_row") (o := cVar 0) (e := cVar 1) (ρ := [some (.loc st1.length), some (rowN B)]) (st := st1 ++ [.ins 3 []]) (fs := []) (cVar_at rfl) (cVar_at rfl) get_new (by decide) (by decide)
      rw [set_at] at e; exact e
    · have e := sFld_ok (cs := [3]) (x := "_at") (o := cVar 0) (e := cC (.int 0)) (ρ := [some (.loc st1.length), some (rowN B)]) (st := st1 ++ [.ins 3 [("_row", rowN B)]]) (fs := [("_row", rowN B)]) (cC_ap _ _ _) (cVar_at rfl) get_new (by decide) (by show 1 < 1000; decide)
      rw [set_at, putFD_ne ln11, putFD_nil] at e; exact e
  rw [cMake_ap, h, R.bind_ok, e, R.bind_ok]
  rfl
theorem isbytes_ok {B : List Nat} (hb : ∀ x ∈ B, x < 256) (hB : B.length ≤ 10000) (st : Sto) : m_is_bytes [rowN B] st = .ok (.bl true) st := by
  refine def_rt (ρ0 := [some (rowN B), none]) rfl ?_ rfl
  unfold b_is_bytes
  refine sRet_ok (cAnd_true (st1 := st) ?_ ?_)
  · rfl
  have hc := compGo_pure (chk := fun _ => True) (t := .one 1) (tt := tYesD) (te := (cCall m_is_integer [(cVar 1), (cC (.int 0)), (cC (.int 255))])) (ρ := [some (rowN B), none]) (st := st) (fun _ => true) (fun _ => .bl true) trivial (B.map intN) (fun x hx => by
    obtain ⟨b, hb1, rfl⟩ := List.mem_map.mp hx
    refine ⟨[some (rowN B), some (intN b)], rfl, rfl, fun _ => ?_⟩
    have := hb b hb1
    simp only [cCall_ap, cArgs_cons, cArgs_nil, cVar_ap, cC_ap, List.getElem?_cons_zero, List.getElem?_cons_succ, R.bind_ok]
    exact isint_ok (by omega) (by omega) st)
  have e0 : cComp (cItr (cVar 0)) (.one 1) tYesD (cCall m_is_integer [(cVar 1), (cC (.int 0)), (cC (.int 255))]) [1] [some (rowN B), none] st = .ok ((B.map intN).map fun _ => .bl true) st := by
    rw [cComp_ap, cItr_tup (xs := B.map intN) (cVar_at rfl), R.bind_ok, if_pos (by rw [List.length_map]; exact Nat.le_trans hB (by decide))]
    rw [List.filter_eq_self.mpr (fun _ _ => rfl)] at hc
    exact hc
  rw [cS1_ap, e0, R.bind_ok]
  have go : ∀ l : List D, boolsD (l.map fun _ => D.bl true) = some (l.map fun _ => true) := by
    intro l
    induction l with
    | nil => rfl
    | cons x r ih => rw [List.map_cons, List.map_cons, boolsD, ih]; rfl
  simp only [allS, go]
  congr 2
  simp
end PMl

set_option Elab.async false
set_option linter.all false
set_option maxRecDepth 100000
set_option maxHeartbeats 2000000
/-! the plain law of k54, 17: letters read back. -/
namespace PMl
open PySem PM L2
def chk (B : List Nat) (f p t : Nat) : Bool :=
  seenN B 0 4 == f && decide (seenN B p 5 < 31) && decide (p + 5 + seenN B p 5 ≤ 8 * B.length) && 2 ^ seenN B p 5 + seenN B (p + 5) (seenN B p 5) == t + 1 && decide (8 * B.length - (p + 5 + seenN B p 5) < 8) &&
    seenN B (p + 5 + seenN B p 5) (8 * B.length - (p + 5 + seenN B p 5)) == 0 && B.all (fun x => decide (x < 256)) && decide (B.length ≤ 480)
theorem pace_chk : (List.range 1000).all (fun t => chk (paceB t) 4 4 t) = true := by decide +kernel
theorem got_chk : (List.range 1000).all (fun t => chk (gotB t) 2 7 t && seenN (gotB t) 4 3 == 0) = true := by decide +kernel
/-- what is read of a body -/
structure Rd (B : List Nat) (f p t : Nat) : Prop where
  f : seenN B 0 4 = f
  w : seenN B p 5 < 31
  l : p + 5 + seenN B p 5 ≤ 8 * B.length
  v : 2 ^ seenN B p 5 + seenN B (p + 5) (seenN B p 5) = t + 1
  e : 8 * B.length - (p + 5 + seenN B p 5) < 8
  z : seenN B (p + 5 + seenN B p 5) (8 * B.length - (p + 5 + seenN B p 5)) = 0
  b : ∀ x ∈ B, x < 256
  n : B.length ≤ 480
theorem chk_rd {B : List Nat} {f p t : Nat} (h : chk B f p t = true) : Rd B f p t := by
  simp only [chk, Bool.and_eq_true, beq_iff_eq, decide_eq_true_eq, List.all_eq_true] at h
  obtain ⟨⟨⟨⟨⟨⟨⟨h1, h2⟩, h3⟩, h4⟩, h5⟩, h6⟩, h7⟩, h8⟩ := h
  exact ⟨h1, h2, h3, h4, h5, h6, h7, h8⟩
theorem rd_pace {t : Nat} (ht : t < 1000) : Rd (paceB t) 4 4 t := chk_rd (List.all_eq_true.mp pace_chk t (List.mem_range.mpr ht))
theorem rd_got {t : Nat} (ht : t < 1000) : Rd (gotB t) 2 7 t ∧ seenN (gotB t) 4 3 = 0 := by
  have h := List.all_eq_true.mp got_chk t (List.mem_range.mpr ht)
  simp only [Bool.and_eq_true, beq_iff_eq] at h
  exact ⟨chk_rd h.1, h.2⟩
theorem tf_tick {st : Sto} {q a w v : Nat} {B : List Nat} (wd : D) (h : st[q]? = some (.ins 3 (rdF B a))) (hB : B.length ≤ 1000) (e1 : seenN B a 5 = w) (hw : w < 31) (hl : a + 5 + w ≤ 8 * B.length) (hv : 2 ^ w + seenN B (a + 5) w = v + 1) :
    m_take_field [.loc q, wd, .str "tick"] st = .ok (.int (v : Int)) (st.set q (.ins 3 (rdF B (a + 5 + w)))) := by
  refine def_rt (ρ0 := [some (.loc q), some wd, some (.str "tick"), none, none]) rfl ?_ List.length_set
  unfold b_take_field
  refine sSeq_nx (ρ' := [some (.loc q), some wd, some (.str "tick"), none, none]) (st' := st) (sIf_false (st' := st) (by simp) rfl) (sSeq_rt (sIf_true (st' := st) (by simp) (sRet_ok ?_)))
  exact meth_ok (cVar_at rfl) h (rd_no (by decide +kernel) (by decide +kernel)) (ds := []) (st2 := st) rfl (rnum_ok h hB e1 hw hl hv)
theorem tf_seat {st : Sto} {q a : Nat} {B : List Nat} (wd : D) (h : st[q]? = some (.ins 3 (rdF B a))) (hB : B.length ≤ 1000) (hl : a + 3 ≤ 8 * B.length) :
    m_take_field [.loc q, wd, .str "seat"] st = .ok (.int (seenN B a 3 : Nat)) (st.set q (.ins 3 (rdF B (a + 3)))) := by
  refine def_rt (ρ0 := [some (.loc q), some wd, some (.str "seat"), none, none]) rfl ?_ List.length_set
  unfold b_take_field
  refine sSeq_rt (sIf_true (st' := st) (by simp) (sRet_ok ?_))
  exact meth_ok (cVar_at rfl) h (rd_no (by decide +kernel) (by decide +kernel)) (ds := [.int 3]) (st2 := st) rfl (take_ok (w := 3) h hl hB (by decide))
theorem at_forms (st : Sto) : getD k_FORMS (.int ((4 : Nat) : Int)) st = .ok (.str "pace") st ∧ getD k_FORMS (.int ((2 : Nat) : Int)) st = .ok (.str "got") st := by
  unfold k_FORMS
  constructor
  · rw [getD_tup]; exact atD_nat (i := 4) st rfl
  · rw [getD_tup]; exact atD_nat (i := 2) st rfl
theorem take_pace {t : Nat} (ht : t < 1000) (st : Sto) : ∃ g, m_taken [.loc st.length, worldD] (st ++ [.ins 3 (rdF (paceB t) 0)]) = .ok (paceL t) (st ++ g) := by
  obtain ⟨h1, h2, h3, h4, h5, h6, h7, h8⟩ := rd_pace ht
  generalize paceB t = B at *
  generalize hw : seenN B 4 5 = w at *
  have key : b_taken [some (.loc st.length), some worldD, none, none, none] (st ++ [.ins 3 (rdF B 0)]) = .rt (paceL t) (st ++ [.ins 3 (rdF B (4 + 5 + w)), .lst [.str "pace", .int (t : Int)]]) := by
    unfold b_taken
    have g0 : (st ++ [O.ins 3 (rdF B 0)])[st.length]? = some (.ins 3 (rdF B 0)) := get_new
    have e1 : m_Reader_take [.loc st.length, .int 4] (st ++ [.ins 3 (rdF B 0)]) = _ := take_ok (w := 4) g0 (by omega) (by omega) (by decide)
    rw [h1, set_at, Nat.zero_add] at e1
    refine sSeq_nx (ρ' := [some (.loc st.length), some worldD, some (.str "pace"), none, none]) (st' := st ++ [.ins 3 (rdF B 4)]) (sSet_ok ?_ rfl) ?_
    · have e2 := meth_ok (c := 3) (x := "take") (m := m_Reader_take) (o := cVar 0) (es := [(cC (.int 4))]) (ρ := [some (.loc st.length), some worldD, none, none, none]) (cVar_at rfl) g0 (rd_no (by decide +kernel) (by decide +kernel)) (ds := [.int 4]) rfl e1
      simp only [cOp2_ap, cC_ap, R.bind_ok, e2, (at_forms _).1]
    refine sSeq_nx (ρ' := [some (.loc st.length), some worldD, some (.str "pace"), some (.loc (st.length + 1)), none]) (st' := st ++ [.ins 3 (rdF B 4), .lst [.str "pace"]]) (sSet_ok ?_ rfl) ?_
    · rw [cNew_ap]
      simp only [cLst_ap, cArgs_cons, cArgs_nil, cVar_ap, List.getElem?_cons_zero, List.getElem?_cons_succ, R.bind_ok, List.append_assoc, List.length_append, List.length_cons, List.length_nil]
      rfl
    have g1 : (st ++ [O.ins 3 (rdF B 4), .lst [.str "pace"]])[st.length]? = some (.ins 3 (rdF B 4)) := get_new
    have e3 := tf_tick worldD g1 (by omega) hw h2 h3 h4
    rw [set_at] at e3
    have gl : (st ++ [O.ins 3 (rdF B (4 + 5 + w)), .lst [.str "pace"]])[st.length + 1]? = some (.lst [.str "pace"]) := by
      rw [List.getElem?_append_right (by omega), show st.length + 1 - st.length = 1 by omega]; rfl
    refine sSeq_nx (ρ' := [some (.loc st.length), some worldD, some (.str "pace"), some (.loc (st.length + 1)), some (.str "tick")]) (st' := st ++ [.ins 3 (rdF B (4 + 5 + w)), .lst [.str "pace", .int (t : Int)]]) (sFor_ok (cItr_tup (xs := [.str "tick"]) (tab_ok lay_pace (cVar_at rfl))) ?_) ?_
    · rw [forGo_cons (ρ1 := [some (.loc st.length), some worldD, some (.str "pace"), some (.loc (st.length + 1)), some (.str "tick")]) (ρ2 := [some (.loc st.length), some worldD, some (.str "pace"), some (.loc (st.length + 1)), some (.str "tick")]) (st2 := st ++ [.ins 3 (rdF B (4 + 5 + w)), .lst [.str "pace", .int (t : Int)]]) trivial rfl (.inl (sExp_ok (d := .non) ?_)), forGo_nil trivial]
      refine app_ok (n := st.length + 1) (xs := [.str "pace"]) (cVar_at rfl) ?_ (y := .int (t : Int)) (st1 := st ++ [.ins 3 (rdF B (4 + 5 + w)), .lst [.str "pace"]]) ?_ ?_
      · rw [List.getElem?_append_right (by omega), show st.length + 1 - st.length = 1 by omega]; rfl
      · simp only [cCall_ap, cArgs_cons, cArgs_nil, cVar_ap, List.getElem?_cons_zero, List.getElem?_cons_succ, R.bind_ok, e3]
      · rw [appD_at gl (by show 1 < 1000000; decide), List.set_append_right _ _ (by omega), show st.length + 1 - st.length = 1 by omega]; rfl
    have g2 : (st ++ [O.ins 3 (rdF B (4 + 5 + w)), .lst [.str "pace", .int (t : Int)]])[st.length]? = some (.ins 3 (rdF B (4 + 5 + w))) := get_new
    have e4 := fin_ok g2 (by omega) h3 h5 h6
    refine sSeq_nx (sExp_ok (meth_ok (cVar_at rfl) g2 (rd_no (by decide +kernel) (by decide +kernel)) (ds := []) rfl e4)) ?_
    refine sRet_ok ?_
    have g3 : (st ++ [O.ins 3 (rdF B (4 + 5 + w)), .lst [.str "pace", .int (t : Int)]])[st.length + 1]? = some (.lst [.str "pace", .int (t : Int)]) := by
      rw [List.getElem?_append_right (by omega), show st.length + 1 - st.length = 1 by omega]; rfl
    have q1 : seqD (.loc (st.length + 1)) (st ++ [O.ins 3 (rdF B (4 + 5 + w)), .lst [.str "pace", .int (t : Int)]]) = .ok [.str "pace", .int (t : Int)] (st ++ [O.ins 3 (rdF B (4 + 5 + w)), .lst [.str "pace", .int (t : Int)]]) := by simp only [seqD, g3]
    simp only [cS1_ap, cSeq_ap, cVar_ap, List.getElem?_cons_zero, List.getElem?_cons_succ, R.bind_ok, q1]
    rfl
  rcases def_gc (n := 5) (s := b_taken) (ds := [.loc st.length, worldD]) (ρ0 := [some (.loc st.length), some worldD, none, none, none]) rfl key with h | h
  · exact ⟨_, h⟩
  · exact ⟨_, h.1⟩
theorem take_got {t : Nat} (ht : t < 1000) (st : Sto) : ∃ g, m_taken [.loc st.length, worldD] (st ++ [.ins 3 (rdF (gotB t) 0)]) = .ok (gotL t) (st ++ g) := by
  obtain ⟨⟨h1, h2, h3, h4, h5, h6, h7, h8⟩, h9⟩ := rd_got ht
  generalize gotB t = B at *
  generalize hw : seenN B 7 5 = w at *
  have key : b_taken [some (.loc st.length), some worldD, none, none, none] (st ++ [.ins 3 (rdF B 0)]) = .rt (gotL t) (st ++ [.ins 3 (rdF B (7 + 5 + w)), .lst [.str "got", .int ((0 : Nat) : Int), .int (t : Int)]]) := by
    unfold b_taken
    have g0 : (st ++ [O.ins 3 (rdF B 0)])[st.length]? = some (.ins 3 (rdF B 0)) := get_new
    have e1 : m_Reader_take [.loc st.length, .int 4] (st ++ [.ins 3 (rdF B 0)]) = _ := take_ok (w := 4) g0 (by omega) (by omega) (by decide)
    rw [h1, set_at, Nat.zero_add] at e1
    refine sSeq_nx (ρ' := [some (.loc st.length), some worldD, some (.str "got"), none, none]) (st' := st ++ [.ins 3 (rdF B 4)]) (sSet_ok ?_ rfl) ?_
    · have e2 := meth_ok (c := 3) (x := "take") (m := m_Reader_take) (o := cVar 0) (es := [(cC (.int 4))]) (ρ := [some (.loc st.length), some worldD, none, none, none]) (cVar_at rfl) g0 (rd_no (by decide +kernel) (by decide +kernel)) (ds := [.int 4]) rfl e1
      simp only [cOp2_ap, cC_ap, R.bind_ok, e2, (at_forms _).2]
    refine sSeq_nx (ρ' := [some (.loc st.length), some worldD, some (.str "got"), some (.loc (st.length + 1)), none]) (st' := st ++ [.ins 3 (rdF B 4), .lst [.str "got"]]) (sSet_ok ?_ rfl) ?_
    · rw [cNew_ap]
      simp only [cLst_ap, cArgs_cons, cArgs_nil, cVar_ap, List.getElem?_cons_zero, List.getElem?_cons_succ, R.bind_ok, List.append_assoc, List.length_append, List.length_cons, List.length_nil]
      rfl
    have gl : ∀ (o : O) (xs : List D), (st ++ [o, .lst xs])[st.length + 1]? = some (.lst xs) := fun o xs => by
      rw [List.getElem?_append_right (by omega), show st.length + 1 - st.length = 1 by omega]; rfl
    have sl : ∀ (o : O) (xs ys : List D), (st ++ [o, .lst xs]).set (st.length + 1) (.lst ys) = st ++ [o, .lst ys] := fun o xs ys => by
      rw [List.set_append_right _ _ (by omega), show st.length + 1 - st.length = 1 by omega]; rfl
    have g1 : (st ++ [O.ins 3 (rdF B 4), .lst [.str "got"]])[st.length]? = some (.ins 3 (rdF B 4)) := get_new
    have e2 := tf_seat worldD g1 (by omega) (by omega)
    rw [set_at, h9] at e2
    have g2 : (st ++ [O.ins 3 (rdF B 7), .lst [.str "got", .int ((0 : Nat) : Int)]])[st.length]? = some (.ins 3 (rdF B 7)) := get_new
    have e3 := tf_tick worldD g2 (by omega) hw h2 h3 h4
    rw [set_at] at e3
    refine sSeq_nx (ρ' := [some (.loc st.length), some worldD, some (.str "got"), some (.loc (st.length + 1)), some (.str "tick")]) (st' := st ++ [.ins 3 (rdF B (7 + 5 + w)), .lst [.str "got", .int ((0 : Nat) : Int), .int (t : Int)]]) (sFor_ok (cItr_tup (xs := [.str "seat", .str "tick"]) (tab_ok lay_got (cVar_at rfl))) ?_) ?_
    · rw [forGo_cons (ρ1 := [some (.loc st.length), some worldD, some (.str "got"), some (.loc (st.length + 1)), some (.str "seat")]) (ρ2 := [some (.loc st.length), some worldD, some (.str "got"), some (.loc (st.length + 1)), some (.str "seat")]) (st2 := st ++ [.ins 3 (rdF B 7), .lst [.str "got", .int ((0 : Nat) : Int)]]) trivial rfl (.inl (sExp_ok (d := .non) ?_)),
        forGo_cons (ρ1 := [some (.loc st.length), some worldD, some (.str "got"), some (.loc (st.length + 1)), some (.str "tick")]) (ρ2 := [some (.loc st.length), some worldD, some (.str "got"), some (.loc (st.length + 1)), some (.str "tick")]) (st2 := st ++ [.ins 3 (rdF B (7 + 5 + w)), .lst [.str "got", .int ((0 : Nat) : Int), .int (t : Int)]]) trivial rfl (.inl (sExp_ok (d := .non) ?_)), forGo_nil trivial]
      · refine app_ok (n := st.length + 1) (xs := [.str "got", .int ((0 : Nat) : Int)]) (cVar_at rfl) (gl _ _) (y := .int (t : Int)) (st1 := st ++ [.ins 3 (rdF B (7 + 5 + w)), .lst [.str "got", .int ((0 : Nat) : Int)]]) ?_ ?_
        · simp only [cCall_ap, cArgs_cons, cArgs_nil, cVar_ap, List.getElem?_cons_zero, List.getElem?_cons_succ, R.bind_ok, e3]
        · rw [appD_at (gl _ _) (by show 2 < 1000000; decide), sl]; rfl
      · refine app_ok (n := st.length + 1) (xs := [.str "got"]) (cVar_at rfl) (gl _ _) (y := .int ((0 : Nat) : Int)) (st1 := st ++ [.ins 3 (rdF B 7), .lst [.str "got"]]) ?_ ?_
        · simp only [cCall_ap, cArgs_cons, cArgs_nil, cVar_ap, List.getElem?_cons_zero, List.getElem?_cons_succ, R.bind_ok, e2]
        · rw [appD_at (gl _ _) (by show 1 < 1000000; decide), sl]; rfl
    have g2 : (st ++ [O.ins 3 (rdF B (7 + 5 + w)), .lst [.str "got", .int ((0 : Nat) : Int), .int (t : Int)]])[st.length]? = some (.ins 3 (rdF B (7 + 5 + w))) := get_new
    have e4 := fin_ok g2 (by omega) h3 h5 h6
    refine sSeq_nx (sExp_ok (meth_ok (cVar_at rfl) g2 (rd_no (by decide +kernel) (by decide +kernel)) (ds := []) rfl e4)) ?_
    refine sRet_ok ?_
    have q1 : ∀ o xs, seqD (.loc (st.length + 1)) (st ++ [o, .lst xs]) = .ok xs (st ++ [o, .lst xs]) := fun o xs => by simp only [seqD, gl]
    simp only [cS1_ap, cSeq_ap, cVar_ap, List.getElem?_cons_zero, List.getElem?_cons_succ, R.bind_ok, q1]
    rfl
  rcases def_gc (n := 5) (s := b_taken) (ds := [.loc st.length, worldD]) (ρ0 := [some (.loc st.length), some worldD, none, none, none]) rfl key with h | h
  · exact ⟨_, h⟩
  · exact ⟨_, h.1⟩
end PMl

set_option Elab.async false
set_option linter.all false
set_option maxRecDepth 100000
set_option maxHeartbeats 2000000
/-! the plain law of k54, 18: unpack, unsealed. -/
namespace PMl
open PySem PM L2
def isLeaf : D → Prop
  | .int _ => True
  | .str _ => True
  | _ => False
/-- a letter with its body, which is read back -/
structure LU (L : D) (B : List Nat) : Prop extends LB L B where
  tk : ∀ st : Sto, ∃ g, m_taken [.loc st.length, worldD] (st ++ [.ins 3 (rdF B 0)]) = .ok L (st ++ g)
  by_ : ∀ x ∈ B, x < 256
  one : 1 ≤ B.length
  low : ∀ N, below N L = true
  leaf : ∃ xs : List D, L = .tup xs ∧ (∀ x ∈ xs, isLeaf x) ∧ xs.length ≤ 100
  cln : cl L = true ∧ depD L ≤ 10
theorem cl_pace (t : Nat) : cl (paceL t) = true ∧ depD (paceL t) ≤ 10 := by
  have h : PyData.canLay0 (.str ("pace" : Str)) = true := by decide +kernel
  refine ⟨?_, by show 2 ≤ 10; decide⟩
  simp only [paceL, cl, clAll, h]
  rfl
theorem cl_got (t : Nat) : cl (gotL t) = true ∧ depD (gotL t) ≤ 10 := by
  have h : PyData.canLay0 (.str ("got" : Str)) = true := by decide +kernel
  refine ⟨?_, by show 2 ≤ 10; decide⟩
  simp only [gotL, cl, clAll, h]
  rfl
theorem lu_pace {t : Nat} (ht : t < 1000) : LU (paceL t) (paceB t) := by
  have r := rd_pace ht
  exact ⟨⟨letter_pace (by omega), body_pace (by omega) _, r.n⟩, take_pace ht, r.b, by have := r.l; omega, fun _ => rfl, ⟨_, rfl, by intro x hx; simp only [List.mem_cons, List.not_mem_nil, or_false] at hx; rcases hx with rfl | rfl <;> trivial, by show 2 ≤ 100; decide⟩, cl_pace t⟩
theorem lu_got {t : Nat} (ht : t < 1000) : LU (gotL t) (gotB t) := by
  have r := (rd_got ht).1
  exact ⟨⟨letter_got (by omega), body_got (by omega) _, r.n⟩, take_got ht, r.b, by have := r.l; omega, fun _ => rfl, ⟨_, rfl, by intro x hx; simp only [List.mem_cons, List.not_mem_nil, or_false] at hx; rcases hx with rfl | rfl | rfl <;> trivial, by show 3 ≤ 100; decide⟩, cl_got t⟩
theorem LU.unpack {L : D} {B : List Nat} (h : LU L B) (st : Sto) : m_unpack [worldD, rowN B] st = .ok L st := by
  obtain ⟨g, e⟩ := h.tk st
  refine def_pure (g := g) (ρ0 := [some worldD, some (rowN B), none]) rfl ?_ (h.low _)
  unfold b_unpack
  refine sSeq_nx (ρ' := [some worldD, some (rowN B), none]) (st' := st) (sIf_false (st' := st) ?_ rfl) ?_
  · have q1 := isbytes_ok h.by_ (by have := h.len; omega) st
    have g1 : tNotD (cTru (cCall m_is_bytes [(cVar 1)])) [some worldD, some (rowN B), none] st = .ok false st := by
      simp only [tNotD_ap, cTru_ap, cCall_ap, cArgs_cons, cArgs_nil, cVar_ap, List.getElem?_cons_zero, List.getElem?_cons_succ, R.bind_ok, q1, truD_bl]
      rfl
    rw [tOrD_ap, g1]
    simp only [R.bind_ok, cTst_ap, cOp2_ap, cB1_ap, cVar_ap, cC_ap, List.getElem?_cons_zero, List.getElem?_cons_succ, row_len, k_MOST_BODY, gtD, cmpI_int]
    rw [decide_eq_false (by have := h.len; omega)]; rfl
  refine sSeq_nx (ρ' := [some worldD, some (rowN B), some L]) (st' := st ++ g) ?_ ?_
  · have e0 := reader_make (B := B) (es := [(cVar 1)]) (ρ := [some worldD, some (rowN B), none]) (st := st) (st1 := st) rfl
    have e1 : sSet 2 (cCall m_taken [(cMake 3 m_Reader_init [(cVar 1)]), (cVar 0)]) [some worldD, some (rowN B), none] st = .nx [some worldD, some (rowN B), some L] (st ++ g) := by
      refine sSet_ok ?_ rfl
      simp only [cCall_ap, cArgs_cons, cArgs_nil, e0, R.bind_ok, cVar_ap, List.getElem?_cons_zero, e]
    rw [sTry_ap, e1]
  refine sSeq_nx (ρ' := [some worldD, some (rowN B), some L]) (st' := st ++ g) (sIf_false (st' := st ++ g) ?_ rfl) (sRet_ok (cVar_at rfl))
  simp only [tNotD_ap, cTru_ap, cCall_ap, cArgs_cons, cArgs_nil, cVar_ap, List.getElem?_cons_zero, List.getElem?_cons_succ, R.bind_ok, h.is, truD_bl]
  rfl
theorem seal_4 (y : Ky) (n : Nat) (B : List Nat) : (sealN y n B).take 4 = bytesN 4 n := by
  rw [sealN, List.append_assoc, List.take_left' (bytesN_len 4 n)]
theorem seal_b (y : Ky) (n : Nat) (B : List Nat) : ((sealN y n B).drop 4).take ((sealN y n B).length - 8 - 4) = B := by
  rw [sealN_len, sealN, List.append_assoc, List.drop_left' (bytesN_len 4 n), List.take_left' (by omega)]
theorem seal_8 (y : Ky) (n : Nat) (B : List Nat) : (sealN y n B).drop ((sealN y n B).length - 8) = bytesN 8 (tagN y n B) := by
  rw [sealN_len, sealN, List.drop_left' (by rw [List.length_append, bytesN_len]; omega)]
theorem seal_by {y : Ky} {n : Nat} {B : List Nat} (h : ∀ x ∈ B, x < 256) : ∀ x ∈ sealN y n B, x < 256 := by
  intro x hx
  simp only [sealN, List.mem_append] at hx
  rcases hx with (hx | hx) | hx
  · exact bytesN_lt _ _ _ hx
  · exact h _ hx
  · exact bytesN_lt _ _ _ hx
theorem unsealed_ok {y : Ky} (hy : y.ok) {n : Nat} {B : List Nat} (h0 : 0 < n) (hn : n < 4294967296) (hb : ∀ x ∈ B, x < 256) (h1 : 1 ≤ B.length) (h2 : B.length ≤ 480) (st : Sto) :
    m_unsealed [y.D, rowN (sealN y n B)] st = .ok (.tup [.int (n : Int), rowN B]) st := by
  refine def_rt (ρ0 := [some y.D, some (rowN (sealN y n B)), none, none]) rfl ?_ rfl
  unfold b_unsealed
  have hl := sealN_len y n B
  have c4 : sliceD (rowN (sealN y n B)) none (some 4) st = .ok (rowN (bytesN 4 n)) st := by
    show R.ok (D.tup (cutD ((sealN y n B).map intN) none (some ((4 : Nat) : Int)))) st = _
    rw [cut_p, ← List.map_take, seal_4]; rfl
  have cb : sliceD (rowN (sealN y n B)) (some 4) (some (-8)) st = .ok (rowN B) st := by
    show R.ok (D.tup (cutD ((sealN y n B).map intN) (some ((4 : Nat) : Int)) (some (-((8 : Nat) : Int))))) st = _
    rw [cut_nm _ _ _ (by decide), List.length_map, ← List.map_drop, ← List.map_take, seal_b]; rfl
  have c8 : sliceD (rowN (sealN y n B)) (some (-8)) none st = .ok (rowN (bytesN 8 (tagN y n B))) st := by
    show R.ok (D.tup (cutD ((sealN y n B).map intN) (some (-((8 : Nat) : Int))) none)) st = _
    rw [cut_m _ _ (by decide), List.length_map, ← List.map_drop, seal_8]; rfl
  have n4 := number_ok (bytesN 4 n) st
  rw [numF_bytes, Nat.mod_eq_of_lt (by omega)] at n4
  have n8 := number_ok (bytesN 8 (tagN y n B)) st
  rw [numF_bytes, Nat.mod_eq_of_lt (by have := tagN_lt y n B; unfold P64 at this; omega)] at n8
  have tg := tag_ok hy (n := n) (show n < 18446744073709551616 by omega) B st
  generalize tagN y n B = T at *
  refine sSeq_nx (ρ' := [some y.D, some (rowN (sealN y n B)), none, none]) (st' := st) (sIf_false (st' := st) ?_ rfl) ?_
  · have q1 := isbytes_ok (seal_by (y := y) (n := n) hb) (by omega) st
    have g1 : tNotD (cTru (cCall m_is_bytes [(cVar 1)])) [some y.D, some (rowN (sealN y n B)), none, none] st = .ok false st := by
      simp only [tNotD_ap, cTru_ap, cCall_ap, cArgs_cons, cArgs_nil, cVar_ap, List.getElem?_cons_zero, List.getElem?_cons_succ, R.bind_ok, q1, truD_bl]
      rfl
    have g2 : cTst (cOp2 ltD (cB1 lenD (cVar 1)) (cC (.int 13))) [some y.D, some (rowN (sealN y n B)), none, none] st = .ok false st := by
      simp only [R.bind_ok, cTst_ap, cOp2_ap, cB1_ap, cVar_ap, cC_ap, List.getElem?_cons_zero, List.getElem?_cons_succ, row_len, ltD, cmpI_int]
      rw [decide_eq_false (by omega)]; rfl
    have g3 : cTst (cOp2 gtD (cB1 lenD (cVar 1)) (cC k_MOST_LETTER)) [some y.D, some (rowN (sealN y n B)), none, none] st = .ok false st := by
      simp only [R.bind_ok, cTst_ap, cOp2_ap, cB1_ap, cVar_ap, cC_ap, List.getElem?_cons_zero, List.getElem?_cons_succ, row_len, gtD, cmpI_int, k_MOST_LETTER]
      rw [decide_eq_false (by omega)]; rfl
    rw [tOrD_ap, g1]
    simp only [R.bind_ok]
    rw [tOrD_ap, g2]
    simp only [R.bind_ok]
    exact g3
  refine sSeq_nx (ρ' := [some y.D, some (rowN (sealN y n B)), some (.int (n : Int)), none]) (st' := st) (sSet_ok ?_ rfl) ?_
  · have p1 : cPart (cC (.int 4)) [some y.D, some (rowN (sealN y n B)), none, none] st = .ok (some 4) st := rfl
    have p2 : cNoPart [some y.D, some (rowN (sealN y n B)), none, none] st = .ok none st := rfl
    simp only [cCall_ap, cArgs_cons, cArgs_nil, cSlice_ap, cVar_ap, List.getElem?_cons_zero, List.getElem?_cons_succ, R.bind_ok, p1, p2, c4, n4]
  refine sSeq_nx (ρ' := [some y.D, some (rowN (sealN y n B)), some (.int (n : Int)), some (rowN B)]) (st' := st) (sSet_ok ?_ rfl) ?_
  · have p1 : cPart (cC (.int 4)) [some y.D, some (rowN (sealN y n B)), some (.int (n : Int)), none] st = .ok (some 4) st := rfl
    have p2 : cPart (cOp1 negD (cC (.int 8))) [some y.D, some (rowN (sealN y n B)), some (.int (n : Int)), none] st = .ok (some (-8)) st := rfl
    simp only [cSlice_ap, cVar_ap, List.getElem?_cons_zero, List.getElem?_cons_succ, R.bind_ok, p1, p2, cb]
  refine sSeq_nx (ρ' := [some y.D, some (rowN (sealN y n B)), some (.int (n : Int)), some (rowN B)]) (st' := st) (sIf_false (st' := st) ?_ rfl) ?_
  · have p1 : cNoPart [some y.D, some (rowN (sealN y n B)), some (.int (n : Int)), some (rowN B)] st = .ok none st := rfl
    have p2 : cPart (cOp1 negD (cC (.int 8))) [some y.D, some (rowN (sealN y n B)), some (.int (n : Int)), some (rowN B)] st = .ok (some (-8)) st := rfl
    have g1 : cTst (cOp2 eqD (cVar 2) (cC (.int 0))) [some y.D, some (rowN (sealN y n B)), some (.int (n : Int)), some (rowN B)] st = .ok false st := by
      simp only [cTst_ap, cOp2_ap, cVar_ap, cC_ap, List.getElem?_cons_zero, List.getElem?_cons_succ, R.bind_ok, eqD_int]
      rw [decide_eq_false (by omega)]; rfl
    rw [tOrD_ap, g1]
    simp only [R.bind_ok, cTst_ap, cOp2_ap, cCall_ap, cArgs_cons, cArgs_nil, cSlice_ap, cVar_ap, List.getElem?_cons_zero, List.getElem?_cons_succ, p1, p2, c8, n8, tg, neD_int, decide_true]
    rfl
  refine sRet_ok ?_
  simp only [cTup_ap, cArgs_cons, cArgs_nil, cVar_ap, List.getElem?_cons_zero, List.getElem?_cons_succ, R.bind_ok]
end PMl

set_option Elab.async false
set_option linter.all false
set_option maxRecDepth 100000
set_option maxHeartbeats 2000000
/-! the plain law of k54, 19: an Opener. -/
namespace PMl
open PySem PM L2
def kI (k : Nat) : Key := .inl (k : Int)
def kd (ks : List Nat) : List (Key × D) := ks.map fun k => (kI k, D.bl true)
theorem kI_inj {a b : Nat} (h : kI a = kI b) : a = b := by
  have := Sum.inl.inj h
  omega
theorem kd_val (n : Nat) : ∀ ks : List Nat, (valD (kd ks) (kI n)).isSome = decide (n ∈ ks)
  | [] => rfl
  | k :: r => by
    have ih := kd_val n r
    simp only [kd, List.map_cons, valD, List.find?_cons] at ih ⊢
    by_cases e : k = n
    · subst e; simp
    · have e1 : decide (kI k = kI n) = false := decide_eq_false fun h => e (kI_inj h)
      have e2 : ¬ n = k := fun h => e h.symm
      simp only [e1, ih, List.mem_cons, e2, false_or]
theorem kd_put {n : Nat} {ks : List Nat} (h : n ∉ ks) : putD (kd ks) (kI n) (.bl true) = kd (ks ++ [n]) := by
  unfold putD
  rw [if_neg]
  · simp [kd]
  · intro hc
    obtain ⟨x, hx, hd⟩ := List.any_eq_true.mp hc
    obtain ⟨k, hk, rfl⟩ := List.mem_map.mp hx
    exact h (kI_inj (of_decide_eq_true hd) ▸ hk)
theorem kd_len (ks : List Nat) : (kd ks).length = ks.length := List.length_map _
theorem kd_keys (ks : List Nat) : (kd ks).map (fun kv => kD kv.1) = ks.map intN := by
  simp only [kd, List.map_map]
  rfl
/-- the keys behind n - 64 -/
def later (n : Nat) (ks : List Nat) : List Nat := ks.filter fun k => decide ((n : Int) - 64 < (k : Int))
theorem kd_nodup {ks : List Nat} (h : ks.Nodup) : ((kd ks).map (·.1)).Nodup := by
  rw [kd, List.map_map]
  exact List.Pairwise.map _ (fun a b hab h => hab (kI_inj h)) h
theorem op_no {z : Ky} {g : Int} {t : Nat} {x : Str} (h1 : (x == ("_key" : Str)) = false) (h2 : (x == ("_greatest" : Str)) = false) (h3 : (x == ("_taken" : Str)) = false) : List.lookup x (opF z g t) = none := by
  simp only [opF, List.lookup, h1, h2, h3]
structure OA (st : Sto) (z : Ky) (o t : Nat) (g : Nat) (ks : List Nat) : Prop where
  o : st[o]? = some (.ins 1 (opF z (g : Int) t))
  t : st[t]? = some (.dct (kd ks))
theorem OA.ne {st : Sto} {z : Ky} {o t g : Nat} {ks : List Nat} (h : OA st z o t g ks) : o ≠ t := fun e => by
  have := h.o
  rw [e, h.t] at this
  cases this
/-- the beginning of opened -/
theorem open_pre {st : Sto} {z : Ky} {o t g n : Nat} {ks : List Nat} {B : List Nat} {f : F} (h : OA st z o t g ks) (hu : m_unsealed [z.D, rowN (sealN z n B)] st = .ok (.tup [.int (n : Int), rowN B]) st) {rest : S}
    (q : rest [some (.loc o), some (rowN (sealN z n B)), some (.tup [.int (n : Int), rowN B]), some (.int (n : Int)), some (rowN B), none] st = f) :
    (sSeq (sSet 2 (cCall m_unsealed [(cB1 (fldOf [0, 1] "_key") (cVar 0)), (cVar 1)]))
      (sSeq (sIf (cTst (cOp2 isND (cVar 2) (cC .non))) (sRet (cC .non)) sNext)
      (sSeq (sAsg (cVar 2) (gT 2 (gsCons (gN 3) (gsCons (gN 4) gsNil)))) rest))) [some (.loc o), some (rowN (sealN z n B)), none, none, none, none] st = f := by
  have f1 := fld_at (cs := [0, 1]) h.o (by decide) (op_key z g t)
  refine sSeq_nx (ρ' := [some (.loc o), some (rowN (sealN z n B)), some (.tup [.int (n : Int), rowN B]), none, none, none]) (st' := st) (sSet_ok ?_ rfl) ?_
  · simp only [cCall_ap, cArgs_cons, cArgs_nil, cB1_ap, cVar_ap, List.getElem?_cons_zero, List.getElem?_cons_succ, R.bind_ok, f1, hu]
  refine sSeq_nx (ρ' := [some (.loc o), some (rowN (sealN z n B)), some (.tup [.int (n : Int), rowN B]), none, none, none]) (st' := st) (sIf_false (st' := st) rfl rfl) ?_
  exact sSeq_nx (sAsg_ok (cVar_at rfl) rfl) q
theorem open_t1 {st : Sto} {z : Ky} {o t g n : Nat} {ks : List Nat} (h : OA st z o t g ks) {p q r : Option D} :
    cTst (cOp2 leD (cVar 3) (cOp2 subD (cB1 (fldOf [1] "_greatest") (cVar 0)) (cC k_WINDOW))) [some (.loc o), p, q, some (.int (n : Int)), r, none] st = .ok (decide ((n : Int) ≤ (g : Int) - 64)) st := by
  have f2 := fld_at (cs := [1]) h.o (by decide) (op_greatest z g t)
  simp only [cTst_ap, cOp2_ap, cB1_ap, cVar_ap, cC_ap, List.getElem?_cons_zero, List.getElem?_cons_succ, R.bind_ok, f2, k_WINDOW, subD_int, leD, cmpI_int]
  rfl
theorem open_t2 {st : Sto} {z : Ky} {o t g n : Nat} {ks : List Nat} (h : OA st z o t g ks) {p q r : Option D} :
    cTst (cOp2 inD (cVar 3) (cB1 (fldOf [1] "_taken") (cVar 0))) [some (.loc o), p, q, some (.int (n : Int)), r, none] st = .ok (decide (n ∈ ks)) st := by
  have f2 := fld_at (cs := [1]) h.o (by decide) (op_taken z g t)
  have e : inD (.int (n : Int)) (.loc t) st = .ok (.bl (decide (n ∈ ks))) st := by
    have e2 := kd_val n ks
    unfold kI at e2
    simp only [inD, inO, h.t, keyD, Option.map_some, e2]
  simp only [cTst_ap, cOp2_ap, cB1_ap, cVar_ap, List.getElem?_cons_zero, List.getElem?_cons_succ, R.bind_ok, f2, e]
  rfl
theorem opened_no {st : Sto} {z : Ky} {o t g n : Nat} {ks : List Nat} {B : List Nat} (h : OA st z o t g ks) (hu : m_unsealed [z.D, rowN (sealN z n B)] st = .ok (.tup [.int (n : Int), rowN B]) st) (hn : (n : Int) ≤ (g : Int) - 64 ∨ n ∈ ks) :
    m_Opener_opened [.loc o, rowN (sealN z n B)] st = .ok .non st := by
  refine def_rt (ρ0 := [some (.loc o), some (rowN (sealN z n B)), none, none, none, none]) rfl ?_ rfl
  unfold b_Opener_opened
  refine open_pre h hu (sSeq_rt (sIf_true (st' := st) ?_ (sRet_ok (cC_ap _ _ _))))
  rw [tOrD_ap, open_t1 h]
  by_cases hc : (n : Int) ≤ (g : Int) - 64
  · rw [decide_eq_true hc]; rfl
  · rw [decide_eq_false hc, R.bind_ok]
    show cTst (cOp2 inD (cVar 3) (cB1 (fldOf [1] "_taken") (cVar 0))) _ _ = _
    rw [open_t2 h, decide_eq_true (by rcases hn with hn | hn; exact absurd hn hc; exact hn)]
theorem def_np {n : Nat} {s : S} {ds : List D} {ρ0 : PM.Env} {st st' : Sto} {d : D} (h0 : ds.map some ++ List.replicate (n - ds.length) none = ρ0) (h : s ρ0 st = .rt d st') (hp : ¬ st <+: st') : mDef n s ds st = .ok d st' := by
  rcases def_gc h0 h with e | e
  · exact e
  · exact absurd e.2.1 hp
theorem np_at {st st' : Sto} {n : Nat} {o o' : O} (h : st[n]? = some o) (h' : st'[n]? = some o') (hne : o ≠ o') : ¬ st <+: st' := by
  rintro ⟨g, rfl⟩
  rw [get_app h] at h'
  exact hne (Option.some.inj h')
theorem opened_ok {st : Sto} {z : Ky} {o t g n : Nat} {ks : List Nat} {B : List Nat} (h : OA st z o t g ks) (hu : m_unsealed [z.D, rowN (sealN z n B)] st = .ok (.tup [.int (n : Int), rowN B]) st) (h1 : ¬ (n : Int) ≤ (g : Int) - 64) (h2 : n ∉ ks) (hk : ks.length < 1000) (hd : ks.Nodup) :
    ∃ st' t', m_Opener_opened [.loc o, rowN (sealN z n B)] st = .ok (rowN B) st' ∧ OA st' z o t' (max g n) (if g < n then later n (ks ++ [n]) else ks ++ [n]) ∧ (∀ m x, st[m]? = some x → m ≠ o → m ≠ t → st'[m]? = some x) ∧ st.length ≤ st'.length ∧ st'.length ≤ st.length + 1 ∧ ¬ st <+: st' ∧ (t' = t ∨ st.length ≤ t') := by
  have s1 : sSub (cB1 (fldOf [1] "_taken") (cVar 0)) (cVar 3) (cC (.bl true)) [some (.loc o), some (rowN (sealN z n B)), some (.tup [.int (n : Int), rowN B]), some (.int (n : Int)), some (rowN B), none] st =
      .nx [some (.loc o), some (rowN (sealN z n B)), some (.tup [.int (n : Int), rowN B]), some (.int (n : Int)), some (rowN B), none] (st.set t (.dct (kd (ks ++ [n])))) := by
    have f2 := fld_at (cs := [1]) h.o (by decide) (op_taken z g t)
    have e := setD_dct (i := .int (n : Int)) (v := .bl true) h.t (k := kI n) rfl (by rw [kd_len]; exact Nat.lt_of_lt_of_le hk (by decide))
    rw [kd_put h2] at e
    rw [sSub_ap]
    simp only [cC_ap, fE_ok, cB1_ap, cVar_ap, List.getElem?_cons_zero, List.getElem?_cons_succ, R.bind_ok, f2, e]
  have hne := h.ne
  have a1 : OA (st.set t (.dct (kd (ks ++ [n])))) z o t g (ks ++ [n]) := ⟨by rw [get_set_ne hne]; exact h.o, get_set_eq h.t⟩
  have k1 : ∀ m x, st[m]? = some x → m ≠ o → m ≠ t → (st.set t (.dct (kd (ks ++ [n]))))[m]? = some x := fun m x hm _ ht => by rw [get_set_ne ht]; exact hm
  have l1 : (st.set t (.dct (kd (ks ++ [n])))).length = st.length := List.length_set
  have c1 : (tOrD (cTst (cOp2 leD (cVar 3) (cOp2 subD (cB1 (fldOf [1] "_greatest") (cVar 0)) (cC k_WINDOW)))) (cTst (cOp2 inD (cVar 3) (cB1 (fldOf [1] "_taken") (cVar 0))))) [some (.loc o), some (rowN (sealN z n B)), some (.tup [.int (n : Int), rowN B]), some (.int (n : Int)), some (rowN B), none] st = .ok false st := by
    rw [tOrD_ap, open_t1 h, decide_eq_false h1, R.bind_ok]
    show cTst (cOp2 inD (cVar 3) (cB1 (fldOf [1] "_taken") (cVar 0))) _ _ = _
    rw [open_t2 h, decide_eq_false h2]
  generalize hs : st.set t (.dct (kd (ks ++ [n]))) = s at a1 k1 l1 s1
  have g1 : cTst (cOp2 gtD (cVar 3) (cB1 (fldOf [1] "_greatest") (cVar 0))) [some (.loc o), some (rowN (sealN z n B)), some (.tup [.int (n : Int), rowN B]), some (.int (n : Int)), some (rowN B), none] s = .ok (decide (g < n)) s := by
    have f2 := fld_at (cs := [1]) a1.o (by decide) (op_greatest z g t)
    simp only [cTst_ap, cOp2_ap, cB1_ap, cVar_ap, List.getElem?_cons_zero, List.getElem?_cons_succ, R.bind_ok, f2, gtD, cmpI_int]
    show R.ok (decide ((g : Int) < (n : Int))) s = _
    congr 1
    exact decide_eq_decide.mpr (by omega)
  by_cases hg : g < n
  · rw [decide_eq_true hg] at g1
    have hne2 := a1.ne
    -- the greatest
    have e2 := sFld_ok (cs := [1]) (x := "_greatest") (o := cVar 0) (e := cVar 3) (ρ := [some (.loc o), some (rowN (sealN z n B)), some (.tup [.int (n : Int), rowN B]), some (.int (n : Int)), some (rowN B), none]) (st := s) (st1 := s) (cVar_at rfl) (cVar_at rfl) a1.o (by decide) (by show 3 < 1000; decide)
    rw [op_putg] at e2
    have a2 : OA (s.set o (.ins 1 (opF z (n : Int) t))) z o t n (ks ++ [n]) := ⟨get_set_eq a1.o, by rw [get_set_ne hne2.symm]; exact a1.t⟩
    have k2 : ∀ m x, s[m]? = some x → m ≠ o → m ≠ t → (s.set o (.ins 1 (opF z (n : Int) t)))[m]? = some x := fun m x hm ho _ => by rw [get_set_ne ho]; exact hm
    have l2 : (s.set o (.ins 1 (opF z (n : Int) t))).length = s.length := List.length_set
    generalize s.set o (.ins 1 (opF z (n : Int) t)) = u at a2 k2 l2 e2
    -- the new dict
    have f3 := fld_at (cs := [1]) a2.o (by decide) (op_taken z n t)
    have e3 : cNewD (lockD (cB1 (fldOf [1] "_taken") (cVar 0)) (cDComp (cKeysI (cB1 (fldOf [1] "_taken") (cVar 0))) (.one 5) (cTst (cOp2 gtD (cVar 5) (cOp2 subD (cVar 3) (cC k_WINDOW)))) (cVar 5) (cC (.bl true)) [5]))
        [some (.loc o), some (rowN (sealN z n B)), some (.tup [.int (n : Int), rowN B]), some (.int (n : Int)), some (rowN B), none] u = .ok (.loc u.length) (u ++ [.dct (kd (later n (ks ++ [n])))]) := by
      have hl : lockAt (cB1 (fldOf [1] "_taken") (cVar 0)) [some (.loc o), some (rowN (sealN z n B)), some (.tup [.int (n : Int), rowN B]), some (.int (n : Int)), some (rowN B), none] u = some (t, kd (ks ++ [n])) := by
        simp only [lockAt_ap, cB1_ap, cVar_ap, List.getElem?_cons_zero, R.bind_ok, f3, a2.t]
      have a3 : (u.set t (.fdc (kd (ks ++ [n]))))[o]? = some (.ins 1 (opF z (n : Int) t)) := by rw [get_set_ne hne2]; exact a2.o
      have a4 : (u.set t (.fdc (kd (ks ++ [n]))))[t]? = some (.fdc (kd (ks ++ [n]))) := get_set_eq a2.t
      have f4 := fld_at (cs := [1]) a3 (by decide) (op_taken z n t)
      have ck : ∃ l, (u.set t (.fdc (kd (ks ++ [n]))))[t]? = some (.fdc l) ∧ l.map (·.1) = (kd (ks ++ [n])).map (·.1) := ⟨_, a4, rfl⟩
      have hc := compGo_pure (chk := fun st => ∃ l, st[t]? = some (.fdc l) ∧ l.map (·.1) = (kd (ks ++ [n])).map (·.1)) (t := .one 5) (tt := cTst (cOp2 gtD (cVar 5) (cOp2 subD (cVar 3) (cC k_WINDOW)))) (te := pairD (cVar 5) (cC (.bl true)))
        (ρ := [some (.loc o), some (rowN (sealN z n B)), some (.tup [.int (n : Int), rowN B]), some (.int (n : Int)), some (rowN B), none]) (st := u.set t (.fdc (kd (ks ++ [n]))))
        (fun x => match x with | .int k => decide ((n : Int) - 64 < k) | _ => false) (fun x => match x with | .int k => ((.inl k : Key), D.bl true) | _ => (.inl 0, .non)) ck ((ks ++ [n]).map intN) (fun x hx => by
          obtain ⟨k, hk, rfl⟩ := List.mem_map.mp hx
          refine ⟨[some (.loc o), some (rowN (sealN z n B)), some (.tup [.int (n : Int), rowN B]), some (.int (n : Int)), some (rowN B), some (intN k)], rfl, ?_, fun _ => rfl⟩
          simp only [cTst_ap, cOp2_ap, cVar_ap, cC_ap, List.getElem?_cons_zero, List.getElem?_cons_succ, R.bind_ok, k_WINDOW, subD_int, intN, gtD, cmpI_int]
          rfl)
      have hm : ∀ l : List Nat, ((l.map intN).filter (fun x => match x with | .int k => decide ((n : Int) - 64 < k) | _ => false)).map (fun x => match x with | .int k => ((.inl k : Key), D.bl true) | _ => (.inl 0, .non)) = kd (later n l) := by
        intro l
        induction l with
        | nil => rfl
        | cons a r ih =>
          rw [List.map_cons, List.filter_cons]
          unfold later at ih ⊢
          rw [List.filter_cons]
          show (if decide ((n : Int) - 64 < (a : Int)) = true then _ else _ : List D).map _ = _
          split
          · rw [List.map_cons, ih]; rfl
          · exact ih
      rw [hm] at hc
      have hcomp : cDComp (cKeysI (cB1 (fldOf [1] "_taken") (cVar 0))) (.one 5) (cTst (cOp2 gtD (cVar 5) (cOp2 subD (cVar 3) (cC k_WINDOW)))) (cVar 5) (cC (.bl true)) [5]
          [some (.loc o), some (rowN (sealN z n B)), some (.tup [.int (n : Int), rowN B]), some (.int (n : Int)), some (rowN B), none] (u.set t (.fdc (kd (ks ++ [n])))) = .ok (kd (later n (ks ++ [n]))) (u.set t (.fdc (kd (ks ++ [n])))) := by
        have hnd : (later n (ks ++ [n])).Nodup := List.Pairwise.filter _ (by
          refine List.nodup_append.mpr ?_
          exact ⟨hd, by simp, fun a ha b hb e => h2 (by rw [List.mem_singleton] at hb; rw [← hb, ← e]; exact ha)⟩)
        rw [cDComp_ap]
        have hk0 : cKeysI (cB1 (fldOf [1] "_taken") (cVar 0)) [some (.loc o), some (rowN (sealN z n B)), some (.tup [.int (n : Int), rowN B]), some (.int (n : Int)), some (rowN B), none] (u.set t (.fdc (kd (ks ++ [n])))) =
            .ok ⟨fun st => ∃ l, st[t]? = some (.fdc l) ∧ l.map (·.1) = (kd (ks ++ [n])).map (·.1), (ks ++ [n]).map intN⟩ (u.set t (.fdc (kd (ks ++ [n])))) := by
          rw [← kd_keys]
          simp only [cKeysI_ap, cB1_ap, cVar_ap, List.getElem?_cons_zero, R.bind_ok, f4, keysD, a4]
        rw [hk0, R.bind_ok]
        dsimp only
        rw [if_pos (by rw [List.length_map, List.length_append]; exact Nat.le_trans (show ks.length + 1 ≤ 1001 by omega) (by decide))]
        show (compGo _ _ _ _ [some (.loc o), some (rowN (sealN z n B)), some (.tup [.int (n : Int), rowN B]), some (.int (n : Int)), some (rowN B), none] _ _).bind _ = _
        rw [hc, R.bind_ok, merge_nodup (kd_nodup hnd)]
      rw [cNewD_ap, lockD_ap, hl]
      dsimp only
      rw [hcomp]
      simp only [lockGo, a4, List.set_set, set_self a2.t, R.bind_ok]
    have e4 := sFld_ok (cs := [1]) (x := "_taken") (o := cVar 0) e3 (cVar_at rfl) (get_app a2.o) (by decide) (by show 3 < 1000; decide)
    rw [op_putt] at e4
    have hnp : ¬ st <+: (u ++ [O.dct (kd (later n (ks ++ [n])))]).set o (.ins 1 (opF z (n : Int) u.length)) := by
      refine np_at h.o (get_set_eq (get_app a2.o)) fun h3 => ?_
      have h4 := (O.ins.inj h3).2
      have h5 := op_greatest z n u.length
      rw [← h4, op_greatest] at h5
      have h6 := D.int.inj (Option.some.inj h5)
      omega
    refine ⟨(u ++ [O.dct (kd (later n (ks ++ [n])))]).set o (.ins 1 (opF z (n : Int) u.length)), u.length, ?_, ?_, ?_, ?_, ?_, hnp, .inr (by omega)⟩
    · refine def_np (ρ0 := [some (.loc o), some (rowN (sealN z n B)), none, none, none, none]) rfl ?_ hnp
      unfold b_Opener_opened
      exact open_pre h hu (sSeq_nx (sIf_false (st' := st) c1 rfl) (sSeq_nx s1 (sSeq_nx (sIf_true g1 (sSeq_nx e2 e4)) (sRet_ok (cVar_at rfl)))))
    · rw [Nat.max_eq_right (by omega), if_pos hg]
      exact ⟨get_set_eq (get_app a2.o), by rw [get_set_ne (by have := lt_get a2.o; omega)]; exact get_new⟩
    · intro m x hm ho ht
      rw [get_set_ne ho]
      exact get_app (k2 m x (k1 m x hm ho ht) ho ht)
    · rw [List.length_set, List.length_append]; omega
    · rw [List.length_set, List.length_append, l2, l1]; simp
  · rw [decide_eq_false hg] at g1
    have hnp : ¬ st <+: s := np_at h.t a1.t fun h3 => by
      have h4 := congrArg List.length (O.dct.inj h3)
      rw [kd_len, kd_len, List.length_append] at h4
      simp at h4
    refine ⟨s, t, ?_, ?_, k1, by omega, by omega, hnp, .inl rfl⟩
    · refine def_rt (ρ0 := [some (.loc o), some (rowN (sealN z n B)), none, none, none, none]) rfl ?_ l1
      unfold b_Opener_opened
      exact open_pre h hu (sSeq_nx (sIf_false (st' := st) c1 rfl) (sSeq_nx s1 (sSeq_nx (sIf_false g1 rfl) (sRet_ok (cVar_at rfl)))))
    · rw [Nat.max_eq_left (by omega), if_neg hg]
      exact a1
end PMl

set_option Elab.async false
set_option linter.all false
set_option maxRecDepth 100000
set_option maxHeartbeats 2000000
/-! the plain law of k54, 20: a Link receives; what is the same. -/
namespace PMl
open PySem PM L2
theorem recv_no {st : Sto} {z : Ky} (hz : z.ok) {l s o t g n : Nat} {ks : List Nat} {L : D} {B : List Nat} (hl : st[l]? = some (.ins 4 (lkF s o))) (h : OA st z o t g ks) (hL : LU L B) (h0 : 0 < n) (hn : n < 4294967296) (hc : (n : Int) ≤ (g : Int) - 64 ∨ n ∈ ks) :
    m_Link_receive [.loc l, rowN (sealN z n B)] st = .ok .non st := by
  refine def_rt (ρ0 := [some (.loc l), some (rowN (sealN z n B)), none]) rfl ?_ rfl
  unfold b_Link_receive
  have f1 := fld_at (cs := [4]) hl (by decide) (lk_opener s o)
  have e := opened_no h (unsealed_ok hz h0 hn hL.by_ hL.one hL.len st) hc
  refine sSeq_nx (ρ' := [some (.loc l), some (rowN (sealN z n B)), some .non]) (st' := st) (sSet_ok (meth_ok (n := o) (st1 := st) ?_ h.o (op_no (by decide +kernel) (by decide +kernel) (by decide +kernel)) (ds := [rowN (sealN z n B)]) rfl e) rfl) ?_
  · simp only [cB1_ap, cVar_ap, List.getElem?_cons_zero, R.bind_ok, f1]
  exact sSeq_rt (sIf_true (st' := st) rfl (sRet_ok (cC_ap _ _ _)))
theorem recv_ok {st : Sto} {z : Ky} (hz : z.ok) {l s o t g n : Nat} {ks : List Nat} {L : D} {B : List Nat} (hl : st[l]? = some (.ins 4 (lkF s o))) (h : OA st z o t g ks) (hL : LU L B) (h0 : 0 < n) (hn : n < 4294967296) (h1 : ¬ (n : Int) ≤ (g : Int) - 64) (h2 : n ∉ ks) (hk : ks.length < 1000) (hd : ks.Nodup) :
    ∃ st' t', m_Link_receive [.loc l, rowN (sealN z n B)] st = .ok L st' ∧ OA st' z o t' (max g n) (if g < n then later n (ks ++ [n]) else ks ++ [n]) ∧ (∀ m x, st[m]? = some x → m ≠ o → m ≠ t → st'[m]? = some x) ∧ st.length ≤ st'.length ∧ (t' = t ∨ st.length ≤ t') := by
  obtain ⟨st', t', e, a, k, l1, l2, np, tt⟩ := opened_ok h (unsealed_ok hz h0 hn hL.by_ hL.one hL.len st) h1 h2 hk hd
  refine ⟨st', t', ?_, a, k, l1, tt⟩
  refine def_np (ρ0 := [some (.loc l), some (rowN (sealN z n B)), none]) rfl ?_ np
  unfold b_Link_receive
  have f1 := fld_at (cs := [4]) hl (by decide) (lk_opener s o)
  refine sSeq_nx (ρ' := [some (.loc l), some (rowN (sealN z n B)), some (rowN B)]) (st' := st') (sSet_ok (meth_ok (n := o) (st1 := st) ?_ h.o (op_no (by decide +kernel) (by decide +kernel) (by decide +kernel)) (ds := [rowN (sealN z n B)]) rfl e) rfl) ?_
  · simp only [cB1_ap, cVar_ap, List.getElem?_cons_zero, R.bind_ok, f1]
  refine sSeq_nx (ρ' := [some (.loc l), some (rowN (sealN z n B)), some (rowN B)]) (st' := st') (sIf_false (st' := st') rfl rfl) ?_
  have hlo : l ≠ o := fun e => by rw [e, h.o] at hl; cases hl
  have hlt : l ≠ t := fun e => by rw [e, h.t] at hl; cases hl
  have f2 := fld_at (cs := [4]) (k l _ hl hlo hlt) (by decide) (lk_world s o)
  have e2 : (sRet (cCall m_unpack [(cB1 (fldOf [4] "_world") (cVar 0)), (cVar 2)])) [some (.loc l), some (rowN (sealN z n B)), some (rowN B)] st' = .rt L st' := by
    refine sRet_ok ?_
    simp only [cCall_ap, cArgs_cons, cArgs_nil, cB1_ap, cVar_ap, List.getElem?_cons_zero, List.getElem?_cons_succ, R.bind_ok, f2, hL.unpack]
  rw [sTry_ap, e2]
/-! ### the same -/
theorem same_int (m : Nat) (i : Int) (st : Sto) : m__law_is_same (m + 1) [.int i, .int i] st = .ok (.bl true) st := by
  refine def_rt (ρ0 := [some (.int i), some (.int i), none]) rfl ?_ rfl
  unfold b__law_is_same
  refine sSeq_nx (ρ' := [some (.int i), some (.int i), none]) (st' := st) (sIf_false (st' := st) rfl rfl) (sSeq_nx (ρ' := [some (.int i), some (.int i), none]) (st' := st) (sIf_false (st' := st) rfl rfl) (sSeq_nx (ρ' := [some (.int i), some (.int i), none]) (st' := st) (sIf_false (st' := st) rfl rfl) (sRet_ok ?_)))
  refine cAnd_true (st1 := st) rfl (cAnd_true (st1 := st) rfl ?_)
  simp only [cOp2_ap, cVar_ap, List.getElem?_cons_zero, List.getElem?_cons_succ, R.bind_ok, eqD_int, decide_true]
theorem same_str (m : Nat) (i : Str) (st : Sto) : m__law_is_same (m + 1) [.str i, .str i] st = .ok (.bl true) st := by
  refine def_rt (ρ0 := [some (.str i), some (.str i), none]) rfl ?_ rfl
  unfold b__law_is_same
  refine sSeq_nx (ρ' := [some (.str i), some (.str i), none]) (st' := st) (sIf_false (st' := st) rfl rfl) (sSeq_rt (sIf_true (st' := st) rfl (sRet_ok ?_)))
  refine cAnd_true (st1 := st) rfl ?_
  simp only [cOp2_ap, cVar_ap, List.getElem?_cons_zero, List.getElem?_cons_succ, R.bind_ok, eqD_str, decide_true]
theorem same_non (m : Nat) (st : Sto) : m__law_is_same (m + 1) [.non, .non] st = .ok (.bl true) st := by
  refine def_rt (ρ0 := [some .non, some .non, none]) rfl ?_ rfl
  unfold b__law_is_same
  exact sSeq_nx (ρ' := [some .non, some .non, none]) (st' := st) (sIf_false (st' := st) rfl rfl) (sSeq_nx (ρ' := [some .non, some .non, none]) (st' := st) (sIf_false (st' := st) rfl rfl) (sSeq_rt (sIf_true (st' := st) rfl (sRet_ok rfl))))
theorem all_true (l : List D) (st : Sto) : allS (l.map fun _ => D.bl true) st = .ok (.bl true) st := by
  have go : ∀ l : List D, boolsD (l.map fun _ => D.bl true) = some (l.map fun _ => true) := by
    intro l
    induction l with
    | nil => rfl
    | cons x r ih => rw [List.map_cons, List.map_cons, boolsD, ih]; rfl
  simp only [allS, go]
  congr 2
  simp
theorem same_tup {xs : List D} (h : ∀ x ∈ xs, isLeaf x) (hl : xs.length ≤ 10000) (m : Nat) (st : Sto) : m__law_is_same (m + 2) [.tup xs, .tup xs] st = .ok (.bl true) st := by
  refine def_rt (ρ0 := [some (.tup xs), some (.tup xs), none]) rfl ?_ rfl
  unfold b__law_is_same
  refine sSeq_rt (sIf_true (st' := st) rfl (sSeq_nx (ρ' := [some (.tup xs), some (.tup xs), none]) (st' := st) (sIf_false (st' := st) ?_ rfl) (sRet_ok ?_)))
  · have g1 : tNotD (cTru (cB1 (isiD .tuple) (cVar 0))) [some (.tup xs), some (.tup xs), none] st = .ok false st := rfl
    rw [tOrD_ap, g1, R.bind_ok]
    show cTst _ _ _ = _
    have gl : lenD (.tup xs) st = .ok (.int (xs.length : Int)) st := rfl
    simp only [cTst_ap, cOp2_ap, cB1_ap, cVar_ap, List.getElem?_cons_zero, List.getElem?_cons_succ, R.bind_ok, gl, neD_int, decide_true]
    rfl
  · have hc := compGo_pure (chk := fun _ => True) (t := .one 2) (tt := tYesD) (te := (cCall (m__law_is_same (m + 1)) [(cOp2 getD (cVar 0) (cVar 2)), (cOp2 getD (cVar 1) (cVar 2))])) (ρ := [some (.tup xs), some (.tup xs), none]) (st := st) (fun _ => true) (fun _ => .bl true) trivial (rngD 0 xs.length) (fun x hx => by
      obtain ⟨k, rfl, h0, h1⟩ := mem_rng hx
      refine ⟨[some (.tup xs), some (.tup xs), some (.int k)], rfl, rfl, fun _ => ?_⟩
      obtain ⟨y, hy, e⟩ := atD_in (xs := xs) (i := k) st h0 (by omega)
      simp only [cCall_ap, cArgs_cons, cArgs_nil, cOp2_ap, cVar_ap, List.getElem?_cons_zero, List.getElem?_cons_succ, R.bind_ok, getD_tup, e]
      have hq := h y hy
      cases y <;> try exact hq.elim
      · exact same_int m _ st
      · exact same_str m _ st)
    have e0 : cComp (cRng1 (cB1 lenD (cVar 1))) (.one 2) tYesD (cCall (m__law_is_same (m + 1)) [(cOp2 getD (cVar 0) (cVar 2)), (cOp2 getD (cVar 1) (cVar 2))]) [2] [some (.tup xs), some (.tup xs), none] st = .ok ((rngD 0 xs.length).map fun _ => .bl true) st := by
      rw [cComp_ap, cRng1_ok (n := xs.length) (e := cB1 lenD (cVar 1)) rfl (by omega), R.bind_ok, if_pos (by rw [rngD_len]; exact Nat.le_trans hl (by decide))]
      rw [List.filter_eq_self.mpr (fun _ _ => rfl)] at hc
      exact hc
    rw [cS1_ap, e0, R.bind_ok, all_true]
theorem same_row {r : List Nat} (h : r.length ≤ 10000) (m : Nat) (st : Sto) : m__law_is_same (m + 2) [rowN r, rowN r] st = .ok (.bl true) st := same_tup (fun x hx => by
  obtain ⟨k, _, rfl⟩ := List.mem_map.mp hx
  trivial) (by rw [List.length_map]; exact h) m st
end PMl

set_option Elab.async false
set_option linter.all false
set_option maxRecDepth 100000
set_option maxHeartbeats 2000000
/-! the plain law of k54, 21: keys and lives. -/
namespace PMl
open PySem PM L2
theorem wide_ok {st : Sto} {b many : Nat} (h : Bg 3 b st) (h1 : 0 < many) (h2 : many ≤ 2 ^ 64) : ∃ (v : Nat) (st' : Sto), m__law_wide [.loc b, .int (many : Int)] st = .ok (.int (v : Int)) st' ∧ Kp 3 b st st' ∧ v < many := by
  obtain ⟨v1, s1, e1, k1, l1⟩ := drawn (many := 4294967296) h (by decide) (by decide)
  obtain ⟨v2, s2, e2, k2, l2⟩ := drawn (many := 4294967296) k1.bag (by decide) (by decide)
  have e1 : m__law_draw [.loc b, .int 4294967296] st = .ok (.int (v1 : Int)) s1 := e1
  have e2 : m__law_draw [.loc b, .int 4294967296] s1 = .ok (.int (v2 : Int)) s2 := e2
  have m1 : mulD (.int (v1 : Int)) (.int 4294967296) s1 = .ok (.int ((v1 * 4294967296 : Nat) : Int)) s1 := mulD_nat (n := 4294967296) s1 (by decide)
  have m2 : modD (.int ((v1 * 4294967296 + v2 : Nat) : Int)) (.int (many : Int)) s2 = .ok (.int (((v1 * 4294967296 + v2) % many : Nat) : Int)) s2 := modD_nat s2 (by omega)
  obtain ⟨s3, e3, k3⟩ := def_kp (n := 2) (s := b__law_wide) (ds := [.loc b, .int (many : Int)]) (ρ0 := [some (.loc b), some (.int (many : Int))]) (d := .int (((v1 * 4294967296 + v2) % many : Nat) : Int)) (st' := s2) rfl (by
    unfold b__law_wide
    refine sRet_ok ?_
    simp only [cOp2_ap, cB1_ap, cCall_ap, cArgs_cons, cArgs_nil, cVar_ap, cC_ap, List.getElem?_cons_zero, List.getElem?_cons_succ, R.bind_ok, e1, m1, e2, addD_nat, intD_int, m2]) h (k1.trans k2)
  exact ⟨_, s3, e3, k3, Nat.mod_lt _ h1⟩
theorem atD_P {xs : List D} {P : D → Prop} {v : Nat} (st : Sto) (h : v < xs.length) (hp : ∀ x ∈ xs, P x) : ∃ x, atD xs (.int (v : Int)) st = .ok x st ∧ P x := by
  obtain ⟨x, hx, e⟩ := atD_in (xs := xs) (i := (v : Int)) st (by omega) (by omega)
  exact ⟨x, e, hp x hx⟩
theorem word_ok {st : Sto} {b : Nat} (h : Bg 3 b st) (ρ : PM.Env) (h0 : ρ[0]? = some (some (.loc b))) : ∃ (v : Nat) (st' : Sto), cIxL (cLst [(cC (.int 0)), (cC (.int 18446744073709551615)), (cCall m__law_wide [(cVar 0), (cC (.int 18446744073709551616))])]) (cCall m__law_draw [(cVar 0), (cC (.int 3))]) ρ st = .ok (.int (v : Int)) st' ∧ Kp 3 b st st' ∧ v < W64 := by
  obtain ⟨v1, s1, e1, k1, l1⟩ := wide_ok (many := 18446744073709551616) h (by decide) (by decide)
  obtain ⟨v2, s2, e2, k2, l2⟩ := drawn (many := 3) k1.bag (by decide) (by decide)
  have e1 : m__law_wide [.loc b, .int 18446744073709551616] st = .ok (.int (v1 : Int)) s1 := e1
  have e2 : m__law_draw [.loc b, .int 3] s1 = .ok (.int (v2 : Int)) s2 := e2
  obtain ⟨x, ex, v, rfl, hv⟩ := atD_P (xs := [.int 0, .int 18446744073709551615, .int (v1 : Int)]) (P := fun x => ∃ v : Nat, x = .int (v : Int) ∧ v < W64) s2 l2 (by
    intro x hx
    simp only [List.mem_cons, List.not_mem_nil, or_false] at hx
    rcases hx with rfl | rfl | rfl
    · exact ⟨0, rfl, by decide⟩
    · exact ⟨18446744073709551615, rfl, by decide⟩
    · exact ⟨v1, rfl, l1⟩)
  refine ⟨v, s2, ?_, k1.trans k2, hv⟩
  simp only [cIxL_ap, cLst_ap, cCall_ap, cArgs_cons, cArgs_nil, cVar_at h0, cC_ap, R.bind_ok, e1, e2, ex]
theorem key_ok {st : Sto} {b : Nat} (h : Bg 3 b st) : ∃ (y : Ky) (st' : Sto), m__law_key [.loc b] st = .ok y.D st' ∧ Kp 3 b st st' ∧ y.ok := by
  obtain ⟨v1, s1, e1, k1, l1⟩ := wide_ok (many := 18446744073709550144) h (by decide) (by decide)
  obtain ⟨v2, s2, e2, k2, l2⟩ := wide_ok (many := 18446744073709550144) k1.bag (by decide) (by decide)
  obtain ⟨v3, s3, e3, k3, l3⟩ := drawn (many := 6) k2.bag (by decide) (by decide)
  have e1 : m__law_wide [.loc b, .int 18446744073709550144] st = .ok (.int (v1 : Int)) s1 := e1
  have e2 : m__law_wide [.loc b, .int 18446744073709550144] s1 = .ok (.int (v2 : Int)) s2 := e2
  have e3 : m__law_draw [.loc b, .int 6] s2 = .ok (.int (v3 : Int)) s3 := e3
  have a1 : ∀ (v : Nat) (s : Sto), addD (.int 2) (.int (v : Int)) s = .ok (.int ((2 + v : Nat) : Int)) s := fun v s => addD_nat 2 v s
  obtain ⟨x, ex, v, rfl, hv⟩ := atD_P (xs := [.int 2, .int 18446744073709550145, .int 18446744073709550144, .int 3, .int ((2 + v1 : Nat) : Int), .int ((2 + v2 : Nat) : Int)]) (P := fun x => ∃ v : Nat, x = .int (v : Int) ∧ v < W64) s3 l3 (by
    intro x hx
    simp only [List.mem_cons, List.not_mem_nil, or_false] at hx
    rcases hx with rfl | rfl | rfl | rfl | rfl | rfl
    · exact ⟨2, rfl, by decide⟩
    · exact ⟨18446744073709550145, rfl, by decide⟩
    · exact ⟨18446744073709550144, rfl, by decide⟩
    · exact ⟨3, rfl, by decide⟩
    · exact ⟨2 + v1, rfl, by unfold W64; omega⟩
    · exact ⟨2 + v2, rfl, by unfold W64; omega⟩)
  have k13 := (k1.trans k2).trans k3
  obtain ⟨f, s4, e4, k4, l4⟩ := word_ok k13.bag [some (.loc b), some (.int (v : Int)), none, none] rfl
  obtain ⟨g, s5, e5, k5, l5⟩ := word_ok k4.bag [some (.loc b), some (.int (v : Int)), some (.int (f : Int)), none] rfl
  obtain ⟨s6, e6, k6⟩ := def_kp (n := 4) (s := b__law_key) (ds := [.loc b]) (ρ0 := [some (.loc b), none, none, none]) (d := Ky.D ⟨v, f, g⟩) (st' := s5) rfl (by
    unfold b__law_key
    refine sSeq_nx (ρ' := [some (.loc b), some (.int (v : Int)), none, none]) (st' := s3) (sSet_ok ?_ rfl) ?_
    · simp only [cIxL_ap, cLst_ap, cCall_ap, cArgs_cons, cArgs_nil, cVar_ap, cC_ap, cOp2_ap, List.getElem?_cons_zero, R.bind_ok, e1, e2, e3, a1, ex]
    exact sSeq_nx (sSet_ok e4 rfl) (sSeq_nx (sSet_ok e5 rfl) (sRet_ok rfl))) h (k13.trans (k4.trans k5))
  exact ⟨⟨v, f, g⟩, s6, e6, k6, hv, l4, l5⟩
/-! ### lives -/
theorem atD_last {xs : List D} {x : D} (st : Sto) : atD (xs ++ [x]) (.int (-1)) st = .ok x st := by
  have e : L2.atI (xs ++ [x]) (-1) = some x := by
    have e1 : L2.ixN (xs ++ [x]).length (-1) = some xs.length := by
      unfold L2.ixN
      rw [if_neg (by omega), List.length_append, if_pos (by simp; omega)]
      congr 1
      simp; omega
    unfold L2.atI
    rw [e1]
    simp
  simp only [atD, e]
noncomputable abbrev livesB : PM.S := (sSeq (sSet 3 (cOp2 min2D (cC (.int 254)) (cOp2 addD (cOp2 getD (cVar 1) (cOp1 negD (cC (.int 1)))) (cIxL (cLst [(cC (.int 1)), (cC (.int 1)), (cC (.int 100))]) (cCall m__law_draw [(cVar 0), (cC (.int 3))])))))
  (sIf (cTst (cOp2 gtD (cVar 3) (cOp2 getD (cVar 1) (cOp1 negD (cC (.int 1)))))) (sExp (cApp (cVar 1) (cVar 3))) sNext))
structure LvA (s0 s : Sto) (b q i : Nat) : Prop where
  k : Kp 3 b s0 s
  n : s0.length ≤ q
  l : ∃ (ls : List Nat) (x : Nat), s[q]? = some (.lst (ls.map intN ++ [intN x])) ∧ (∀ y ∈ ls, y ≤ 254) ∧ x ≤ 254 ∧ ls.length ≤ i
theorem lives_step {s0 s : Sto} {b q i : Nat} (hb : b < s0.length) (hi : i ≤ 100) (h : LvA s0 s b q i) (x2 x3 : Option D) : ∃ y3 s', livesB [some (.loc b), some (.loc q), x2, x3] s = .nx [some (.loc b), some (.loc q), x2, y3] s' ∧ LvA s0 s' b q (i + 1) := by
  obtain ⟨k, hn, ls, x, hl, h1, h2, h3⟩ := h
  obtain ⟨v, s1, e1, k1, l1⟩ := drawn (many := 3) k.bag (by decide) (by decide)
  have e1 : m__law_draw [.loc b, .int 3] s = .ok (.int (v : Int)) s1 := e1
  have hq : s1[q]? = some (.lst (ls.map intN ++ [intN x])) := k1.eq _ _ hl (by omega)
  obtain ⟨d, ed, w, rfl, hw⟩ := atD_P (xs := [.int 1, .int 1, .int 100]) (P := fun x => ∃ v : Nat, x = .int (v : Int) ∧ 0 < v) s1 l1 (by
    intro x hx
    simp only [List.mem_cons, List.not_mem_nil, or_false] at hx
    rcases hx with rfl | rfl | rfl
    · exact ⟨1, rfl, by decide⟩
    · exact ⟨1, rfl, by decide⟩
    · exact ⟨100, rfl, by decide⟩)
  have g0 : ∀ st : Sto, st[q]? = some (.lst (ls.map intN ++ [intN x])) → getD (.loc q) (.int (-1)) st = .ok (intN x) st := fun st hst => (getD_lst hst).trans (atD_last st)
  have n1 : ∀ st : Sto, negD (.int 1) st = .ok (.int (-1)) st := fun _ => rfl
  have mn : ∀ (u : Nat) (st : Sto), min2D (.int 254) (.int (u : Int)) st = .ok (intN (min 254 u)) st := fun u st => by
    show R.ok (D.int (min (254 : Int) (u : Int))) st = _
    rw [intN]
    congr 2
    omega
  have a1 : sSet 3 (cOp2 min2D (cC (.int 254)) (cOp2 addD (cOp2 getD (cVar 1) (cOp1 negD (cC (.int 1)))) (cIxL (cLst [(cC (.int 1)), (cC (.int 1)), (cC (.int 100))]) (cCall m__law_draw [(cVar 0), (cC (.int 3))])))) [some (.loc b), some (.loc q), x2, x3] s =
      .nx [some (.loc b), some (.loc q), x2, some (intN (min 254 (x + w)))] s1 := by
    refine sSet_ok (d := intN (min 254 (x + w))) ?_ rfl
    simp only [cOp2_ap, cOp1_ap, cIxL_ap, cLst_ap, cCall_ap, cArgs_cons, cArgs_nil, cVar_ap, cC_ap, List.getElem?_cons_zero, List.getElem?_cons_succ, R.bind_ok, n1, g0 _ hl, e1, ed]
    rw [intN, addD_nat, R.bind_ok, mn]
  by_cases hc : x < min 254 (x + w)
  · refine ⟨some (intN (min 254 (x + w))), s1.set q (.lst ((ls ++ [x]).map intN ++ [intN (min 254 (x + w))])), sSeq_nx a1 (sIf_true (st' := s1) ?_ (sExp_ok (d := .non) (app_ok (cVar_at rfl) hq (cVar_at rfl) ?_))), (k.trans k1).new hn (by omega), hn, ls ++ [x], min 254 (x + w), get_set_eq hq, ?_, by omega, by simp; omega⟩
    · simp only [cTst_ap, cOp2_ap, cOp1_ap, cVar_ap, cC_ap, List.getElem?_cons_zero, List.getElem?_cons_succ, R.bind_ok, n1, g0 _ hq, intN, gtD, cmpI_int]
      rw [decide_eq_true (by omega)]; rfl
    · rw [appD_at hq (by simp; omega), List.map_append]; rfl
    · intro y hy
      rcases List.mem_append.mp hy with hy | hy
      · exact h1 y hy
      · rw [List.mem_singleton.mp hy]; exact h2
  · refine ⟨some (intN (min 254 (x + w))), s1, sSeq_nx a1 (sIf_false (st' := s1) ?_ rfl), k.trans k1, hn, ls, x, hq, h1, h2, by omega⟩
    simp only [cTst_ap, cOp2_ap, cOp1_ap, cVar_ap, cC_ap, List.getElem?_cons_zero, List.getElem?_cons_succ, R.bind_ok, n1, g0 _ hq, intN, gtD, cmpI_int]
    rw [decide_eq_false (by omega)]; rfl
theorem rng_nth {lo : Int} {n i : Nat} {d : D} (h : (rngD lo n)[i]? = some d) : i < n ∧ d = .int (lo + i) := by
  rw [rngD, List.getElem?_map] at h
  obtain ⟨j, hj, rfl⟩ := Option.map_eq_some_iff.mp h
  have hi : i < n := by
    have := (List.getElem?_eq_some_iff.mp hj).1
    simpa using this
  rw [List.getElem?_range hi] at hj
  cases hj
  exact ⟨hi, rfl⟩
theorem lives_ok {st : Sto} {b : Nat} (h : Bg 3 b st) : ∃ (q : Nat) (s : Sto) (ls : List Nat), m__law_lives [.loc b] st = .ok (.loc q) s ∧ Kp 3 b st s ∧ st.length ≤ q ∧ s[q]? = some (.lst (ls.map intN)) ∧ ls.length ≤ 5 ∧ (∀ x ∈ ls, x ≤ 254) := by
  obtain ⟨v, s1, e1, k1, l1⟩ := drawn (many := 3) h (by decide) (by decide)
  have e1 : m__law_draw [.loc b, .int 3] st = .ok (.int (v : Int)) s1 := e1
  have k2 : Kp 3 b st (s1 ++ [.lst [intN v]]) := k1.app'
  obtain ⟨c, s2, e2, k3, l2⟩ := drawn (many := 4) k2.bag (by decide) (by decide)
  have e2 : m__law_draw [.loc b, .int 4] (s1 ++ [.lst [intN v]]) = .ok (.int (c : Int)) s2 := e2
  have hb := h.lt
  have hq : s2[s1.length]? = some (.lst [intN v]) := k3.eq _ _ get_new (by have := k1.le; omega)
  obtain ⟨ρ', s3, e3, ⟨y2, y3, rfl, L⟩⟩ := forGo_inv (chk := fun _ => True) (g := gN 2) (body := livesB) (fun i ρ s => ∃ y2 y3, ρ = [some (.loc b), some (.loc s1.length), y2, y3] ∧ LvA st s b s1.length i) (rngD 0 c) 0 (fun _ _ _ _ => trivial) (fun i d hd ρ s ⟨y2, y3, hρ, L⟩ => by
    obtain ⟨hi, rfl⟩ := rng_nth hd
    subst hρ
    rw [Nat.zero_add] at L ⊢
    obtain ⟨z3, s', e, L'⟩ := lives_step hb (by omega) L (some (.int (0 + i))) y3
    exact ⟨_, rfl, _, s', .inl e, _, _, rfl, L'⟩) [some (.loc b), some (.loc s1.length), none, none] s2 ⟨none, none, rfl, k2.trans k3, k1.le, [], v, hq, by simp, by omega, by simp⟩
  obtain ⟨k, hn, ls, x, hl, h1, h2, h3⟩ := L
  rw [rngD_len] at h3
  refine ⟨s1.length, s3, ls ++ [x], def_loc (ρ0 := [some (.loc b), none, none, none]) rfl ?_ k1.le, k, k1.le, by rw [List.map_append]; exact hl, by simp; omega, ?_⟩
  · unfold b__law_lives
    refine sSeq_nx (ρ' := [some (.loc b), some (.loc s1.length), none, none]) (st' := s1 ++ [.lst [intN v]]) (sSet_ok ?_ rfl) ?_
    · simp only [cNew_ap, cLst_ap, cCall_ap, cArgs_cons, cArgs_nil, cVar_ap, cC_ap, List.getElem?_cons_zero, R.bind_ok, e1]
      rfl
    refine sSeq_nx (sFor_ok (cRng1_ok (n := c) (st' := s2) ?_ (by omega)) e3) (sRet_ok (cVar_at rfl))
    simp only [cCall_ap, cArgs_cons, cArgs_nil, cVar_ap, cC_ap, List.getElem?_cons_zero, R.bind_ok, e2]
  · intro y hy
    rcases List.mem_append.mp hy with hy | hy
    · exact h1 y hy
    · rw [List.mem_singleton.mp hy]; exact h2
end PMl

set_option Elab.async false
set_option linter.all false
set_option maxRecDepth 100000
set_option maxHeartbeats 2000000
/-! the plain law of k54, 22: the rows that are sent. -/
namespace PMl
open PySem PM L2
theorem cItr_lst {e : E} {ρ : PM.Env} {st st' : Sto} {n : Nat} {xs : List D} (h : e ρ st = .ok (.loc n) st') (hn : st'[n]? = some (.lst xs)) : cItr e ρ st = .ok ⟨fun st => st[n]? = some (.lst xs), xs⟩ st' := by
  rw [cItr_ap, h, R.bind_ok]
  simp only [itrD, hn]
/-- a row that was sent -/
def RowOk (y : Ky) (x : D) : Prop := ∃ (n : Nat) (L : D) (B : List Nat), x = .tup [.int (n : Int), L, rowN (sealN y n B)] ∧ 0 < n ∧ n < 4294967296 ∧ LU L B
structure RA (y : Ky) (s0 s : Sto) (b r c : Nat) : Prop where
  k : Kp 3 b s0 s
  n : s0.length ≤ r
  r : ∃ xs : List D, s[r]? = some (.lst xs) ∧ (∀ x ∈ xs, RowOk y x) ∧ xs.length ≤ c
noncomputable abbrev sendB : PM.S := (sSeq (sSet 8 (cIxL (cLst [(cTup [(cC (.str "pace")), (cCall m__law_draw [(cVar 0), (cC (.int 1000))])]), (cTup [(cC (.str "got")), (cC (.int 0)), (cCall m__law_draw [(cVar 0), (cC (.int 1000))])])]) (cCall m__law_draw [(cVar 0), (cC (.int 2))])))
  (sExp (cApp (cVar 4) (cTup [(cOp2 addD (cOp2 addD (cOp2 mulD (cVar 5) (cC (.int 16777216))) (cVar 7)) (cC (.int 1))), (cVar 8), (cMeth 4 "send" m_Link_send (cVar 6) [(cVar 8)])]))))
structure SA (y : Ky) (s0 s : Sto) (b r c l life j : Nat) : Prop extends RA y s0 s b r c where
  ln : s0.length ≤ l
  lk : ∃ o, s[l]? = some (.ins 4 (lkF (l + 1) o))
  sl : s[l + 1]? = some (.ins 0 (slF y (life * 16777216 + j)))
theorem lk_no (s o : Nat) : List.lookup ("send" : Str) (lkF s o) = none := by
  have a1 : (("send" : Str) == ("_world" : Str)) = false := by decide +kernel
  have a2 : (("send" : Str) == ("_sealer" : Str)) = false := by decide +kernel
  have a3 : (("send" : Str) == ("_opener" : Str)) = false := by decide +kernel
  simp only [lkF, List.lookup, a1, a2, a3]
theorem send_step {y : Ky} (hy : y.ok) {s0 s : Sto} {b q r c l life j : Nat} (hb : b < s0.length) (hc : c ≤ 1000) (hlf : life ≤ 254) (hj : j ≤ 10) (h : SA y s0 s b r c l life j) {x1 x3 x8 : Option D} :
    ∃ y8 s', sendB [some (.loc b), x1, some y.D, x3, some (.loc r), some (intN life), some (.loc l), some (.int (j : Int)), x8] s = .nx [some (.loc b), x1, some y.D, x3, some (.loc r), some (intN life), some (.loc l), some (.int (j : Int)), y8] s' ∧ SA y s0 s' b r (c + 1) l life (j + 1) := by
  obtain ⟨⟨k, hn, xs, hr, hx, hxl⟩, hln, ⟨o, hlk⟩, hsl⟩ := h
  obtain ⟨t1, s1, e1, k1, l1⟩ := drawn (many := 1000) k.bag (by decide) (by decide)
  obtain ⟨t2, s2, e2, k2, l2⟩ := drawn (many := 1000) k1.bag (by decide) (by decide)
  obtain ⟨v, s3, e3, k3, l3⟩ := drawn (many := 2) k2.bag (by decide) (by decide)
  have e1 : m__law_draw [.loc b, .int 1000] s = .ok (.int (t1 : Int)) s1 := e1
  have e2 : m__law_draw [.loc b, .int 1000] s1 = .ok (.int (t2 : Int)) s2 := e2
  have e3 : m__law_draw [.loc b, .int 2] s2 = .ok (.int (v : Int)) s3 := e3
  obtain ⟨L, eL, B, hL⟩ := atD_P (xs := [.tup [.str "pace", .int (t1 : Int)], .tup [.str "got", .int 0, .int (t2 : Int)]]) (P := fun x => ∃ B, LU x B) s3 l3 (by
    intro x hx
    simp only [List.mem_cons, List.not_mem_nil, or_false] at hx
    rcases hx with rfl | rfl
    · exact ⟨_, lu_pace l1⟩
    · exact ⟨_, lu_got l2⟩)
  have k13 := (k1.trans k2).trans k3
  have hr3 := k13.eq _ _ hr (by omega)
  have hlk3 := k13.eq _ _ hlk (by omega)
  have hsl3 := k13.eq _ _ hsl (by omega)
  have a1 : sSet 8 (cIxL (cLst [(cTup [(cC (.str "pace")), (cCall m__law_draw [(cVar 0), (cC (.int 1000))])]), (cTup [(cC (.str "got")), (cC (.int 0)), (cCall m__law_draw [(cVar 0), (cC (.int 1000))])])]) (cCall m__law_draw [(cVar 0), (cC (.int 2))]))
      [some (.loc b), x1, some y.D, x3, some (.loc r), some (intN life), some (.loc l), some (.int (j : Int)), x8] s = .nx [some (.loc b), x1, some y.D, x3, some (.loc r), some (intN life), some (.loc l), some (.int (j : Int)), some L] s3 := by
    refine sSet_ok (d := L) ?_ rfl
    simp only [cIxL_ap, cLst_ap, cTup_ap, cCall_ap, cArgs_cons, cArgs_nil, cVar_ap, cC_ap, List.getElem?_cons_zero, R.bind_ok, e1, e2, e3, eL]
  have snd := send_ok hy hL.toLB hlk3 hsl3 (by omega)
  have n1 : mulD (intN life) (.int 16777216) s3 = .ok (.int ((life * 16777216 : Nat) : Int)) s3 := mulD_nat (n := 16777216) s3 (by decide)
  have hne1 : r ≠ l + 1 := fun e => by rw [e, hsl3] at hr3; cases hr3
  have hne2 : l + 1 ≠ l := by omega
  have hr4 : (s3.set (l + 1) (.ins 0 (slF y (life * 16777216 + j + 1))))[r]? = some (.lst xs) := by rw [get_set_ne hne1]; exact hr3
  have k4 := ((k.trans k13).new (n := l + 1) (o := .ins 0 (slF y (life * 16777216 + j + 1))) (by omega) (by omega))
  have a2 : (sExp (cApp (cVar 4) (cTup [(cOp2 addD (cOp2 addD (cOp2 mulD (cVar 5) (cC (.int 16777216))) (cVar 7)) (cC (.int 1))), (cVar 8), (cMeth 4 "send" m_Link_send (cVar 6) [(cVar 8)])])))
      [some (.loc b), x1, some y.D, x3, some (.loc r), some (intN life), some (.loc l), some (.int (j : Int)), some L] s3 = .nx [some (.loc b), x1, some y.D, x3, some (.loc r), some (intN life), some (.loc l), some (.int (j : Int)), some L]
        ((s3.set (l + 1) (.ins 0 (slF y (life * 16777216 + j + 1)))).set r (.lst (xs ++ [.tup [.int ((life * 16777216 + j + 1 : Nat) : Int), L, rowN (sealN y (life * 16777216 + j + 1) B)]]))) := by
    refine sExp_ok (d := .non) (app_ok (cVar_at rfl) hr3 (y := .tup [.int ((life * 16777216 + j + 1 : Nat) : Int), L, rowN (sealN y (life * 16777216 + j + 1) B)]) (st1 := s3.set (l + 1) (.ins 0 (slF y (life * 16777216 + j + 1)))) ?_ (appD_at hr4 (by omega)))
    have em := meth_ok (c := 4) (x := "send") (m := m_Link_send) (o := cVar 6) (es := [(cVar 8)]) (ρ := [some (.loc b), x1, some y.D, x3, some (.loc r), some (intN life), some (.loc l), some (.int (j : Int)), some L]) (cVar_at rfl) hlk3 (lk_no _ _) (ds := [L]) (st2 := s3) rfl snd
    simp only [cTup_ap, cArgs_cons, cArgs_nil, cOp2_ap, cVar_ap, cC_ap, List.getElem?_cons_zero, List.getElem?_cons_succ, R.bind_ok, n1, addD_nat, add1, em]
  refine ⟨some L, _, sSeq_nx a1 a2, ⟨k4.new hn (by omega), hn, _, get_set_eq hr4, ?_, by simp; omega⟩, hln, ⟨o, ?_⟩, ?_⟩
  · intro x hx'
    rcases List.mem_append.mp hx' with hx' | hx'
    · exact hx x hx'
    · rw [List.mem_singleton.mp hx']
      have hN : 0 < life * 16777216 + j + 1 ∧ life * 16777216 + j + 1 < 4294967296 := by omega
      generalize life * 16777216 + j + 1 = N at hN ⊢
      exact ⟨N, L, B, rfl, hN.1, hN.2, hL⟩
  · have : l ≠ r := fun e => by rw [← e, hlk3] at hr3; cases hr3
    rw [get_set_ne this, get_set_ne (Ne.symm hne2)]
    exact hlk3
  · rw [get_set_ne hne1.symm, ← Nat.add_assoc]
    exact get_set_eq hsl3
noncomputable abbrev rowsB : PM.S := (sSeq (sSet 6 (cMake 4 m_Link_init [(cVar 1), (cVar 2), (cTup [(cC (.str "key")), (cC (.int 5)), (cC (.int 6)), (cC (.int 7))]), (cOp2 mulD (cVar 5) (cC (.int 16777216)))]))
  (sFor (cRng1 (cOp2 addD (cC (.int 1)) (cCall m__law_draw [(cVar 0), (cC (.int 6))]))) (gN 7) sendB))
theorem rows_step {y : Ky} (hy : y.ok) {s0 s : Sto} {b r c life : Nat} (hb : b < s0.length) (hc : c ≤ 900) (hlf : life ≤ 254) (h : RA y s0 s b r c) {x3 x6 x7 x8 : Option D} :
    ∃ y6 y7 y8 s', rowsB [some (.loc b), some worldD, some y.D, x3, some (.loc r), some (intN life), x6, x7, x8] s = .nx [some (.loc b), some worldD, some y.D, x3, some (.loc r), some (intN life), y6, y7, y8] s' ∧ RA y s0 s' b r (c + 6) := by
  obtain ⟨k, hn, xs, hr, hx, hxl⟩ := h
  have hrl := lt_get hr
  have n1 : mulD (intN life) (.int 16777216) s = .ok (.int ((life * 16777216 : Nat) : Int)) s := mulD_nat (n := 16777216) s (by decide)
  have m1 := link_make (y := y) (z := ⟨5, 6, 7⟩) (n := life * 16777216) (es := [(cVar 1), (cVar 2), (cTup [(cC (.str "key")), (cC (.int 5)), (cC (.int 6)), (cC (.int 7))]), (cOp2 mulD (cVar 5) (cC (.int 16777216)))])
    (ρ := [some (.loc b), some worldD, some y.D, x3, some (.loc r), some (intN life), x6, x7, x8]) (st := s) (st1 := s) (by
      simp only [cTup_ap, cArgs_cons, cArgs_nil, cOp2_ap, cVar_ap, cC_ap, List.getElem?_cons_zero, List.getElem?_cons_succ, R.bind_ok, n1]
      rfl)
  generalize hg : [O.ins 4 (lkF (s.length + 1) (s.length + 2)), .ins 0 (slF y (life * 16777216)), .ins 1 (opF ⟨5, 6, 7⟩ 0 (s.length + 3)), .dct []] = g at m1
  have k1 : Kp 3 b s0 (s ++ g) := k.app'
  obtain ⟨v, s1, e1, k2, l1⟩ := drawn (many := 6) k1.bag (by decide) (by decide)
  have e1 : m__law_draw [.loc b, .int 6] (s ++ g) = .ok (.int (v : Int)) s1 := e1
  have hkl := k.le
  have A : SA y s0 s1 b r c s.length life 0 := ⟨⟨k1.trans k2, hn, xs, k2.eq _ _ (get_app hr) (by omega), hx, hxl⟩, hkl, ⟨s.length + 2, k2.eq _ _ (by rw [← hg]; exact get_new) (by omega)⟩, by
    rw [Nat.add_zero]
    refine k2.eq _ _ ?_ (by omega)
    rw [← hg, List.getElem?_append_right (by omega), show s.length + 1 - s.length = 1 by omega]
    generalize life * 16777216 = N
    rfl⟩
  obtain ⟨ρ', s2, e2, ⟨y7, y8, rfl, A'⟩⟩ := forGo_inv (chk := fun _ => True) (g := gN 7) (body := sendB) (fun i ρ u => ∃ y7 y8, ρ = [some (.loc b), some worldD, some y.D, x3, some (.loc r), some (intN life), some (.loc s.length), y7, y8] ∧ SA y s0 u b r (c + i) s.length life i) (rngD 0 (1 + v)) 0 (fun _ _ _ _ => trivial) (fun i d hd ρ u ⟨y7, y8, hρ, L⟩ => by
    obtain ⟨hi, rfl⟩ := rng_nth hd
    subst hρ
    rw [Nat.zero_add] at L ⊢
    have ei : (0 : Int) + (i : Int) = (i : Int) := by omega
    rw [ei]
    obtain ⟨z8, s', e, L'⟩ := send_step hy (q := 0) hb (by omega) hlf (by omega) L (x1 := some worldD) (x3 := x3) (x8 := y8)
    exact ⟨_, rfl, _, s', .inl e, _, _, rfl, L'⟩) [some (.loc b), some worldD, some y.D, x3, some (.loc r), some (intN life), some (.loc s.length), x7, x8] s1 ⟨x7, x8, rfl, A⟩
  refine ⟨some (.loc s.length), y7, y8, s2, sSeq_nx (sSet_ok m1 rfl) (sFor_ok (cRng1_ok (n := 1 + v) (st' := s1) ?_ (by omega)) e2), A'.k, A'.n, ?_⟩
  · have a1 : addD (.int 1) (.int (v : Int)) s1 = .ok (.int ((1 + v : Nat) : Int)) s1 := addD_nat 1 v s1
    simp only [cOp2_ap, cCall_ap, cArgs_cons, cArgs_nil, cVar_ap, cC_ap, List.set_cons_zero, List.set_cons_succ, List.getElem?_cons_zero, List.getElem?_cons_succ, R.bind_ok, e1, a1]
  · obtain ⟨ys, h1, h2, h3⟩ := A'.r
    rw [rngD_len] at h3
    exact ⟨ys, h1, h2, by omega⟩
theorem rows_ok {y : Ky} (hy : y.ok) {st : Sto} {b q : Nat} {ls : List Nat} (h : Bg 3 b st) (hq : st[q]? = some (.lst (ls.map intN))) (hqb : q ≠ b) (hl : ls.length ≤ 5) (hls : ∀ x ∈ ls, x ≤ 254) :
    ∃ (r : Nat) (s : Sto) (xs : List D), m__law_rows [.loc b, worldD, y.D, .loc q] st = .ok (.loc r) s ∧ Kp 3 b st s ∧ st.length ≤ r ∧ s[r]? = some (.lst xs) ∧ (∀ x ∈ xs, RowOk y x) ∧ xs.length ≤ 30 := by
  have hb := h.lt
  obtain ⟨ρ', s3, e3, ⟨y5, y6, y7, y8, rfl, A⟩⟩ := forGo_inv (chk := fun st => st[q]? = some (.lst (ls.map intN))) (g := gN 5) (body := rowsB) (fun i ρ s => ∃ y5 y6 y7 y8, ρ = [some (.loc b), some worldD, some y.D, some (.loc q), some (.loc st.length), y5, y6, y7, y8] ∧ RA y st s b st.length (6 * i)) (ls.map intN) 0 (fun i ρ s ⟨_, _, _, _, _, A⟩ => A.k.eq _ _ hq hqb) (fun i d hd ρ s ⟨y5, y6, y7, y8, hρ, A⟩ => by
    rw [List.getElem?_map] at hd
    obtain ⟨x, hx, rfl⟩ := Option.map_eq_some_iff.mp hd
    subst hρ
    rw [Nat.zero_add] at A ⊢
    have hi := (List.getElem?_eq_some_iff.mp hx).1
    obtain ⟨z6, z7, z8, s', e, A'⟩ := rows_step hy hb (by omega) (hls x (List.mem_of_getElem? hx)) A (x3 := some (.loc q)) (x6 := y6) (x7 := y7) (x8 := y8)
    exact ⟨_, rfl, _, s', .inl e, _, _, _, _, rfl, by rw [show 6 * (i + 1) = 6 * i + 6 by omega]; exact A'⟩) [some (.loc b), some worldD, some y.D, some (.loc q), some (.loc st.length), none, none, none, none] (st ++ [.lst []]) ⟨none, none, none, none, rfl, Kp.app h, Nat.le_refl _, [], get_new, by simp, by simp⟩
  obtain ⟨xs, h1, h2, h3⟩ := A.r
  rw [List.length_map] at h3
  refine ⟨st.length, s3, xs, def_loc (ρ0 := [some (.loc b), some worldD, some y.D, some (.loc q), none, none, none, none, none]) rfl ?_ (Nat.le_refl _), A.k, Nat.le_refl _, h1, h2, by omega⟩
  unfold b__law_rows
  refine sSeq_nx (ρ' := [some (.loc b), some worldD, some y.D, some (.loc q), some (.loc st.length), none, none, none, none]) (st' := st ++ [.lst []]) (sSet_ok ?_ rfl) ?_
  · simp only [cNew_ap, cLst_ap, cArgs_nil, R.bind_ok]
  exact sSeq_nx (sFor_ok (cItr_lst (cVar_at rfl) (get_app hq)) e3) (sRet_ok (cVar_at rfl))
end PMl

set_option Elab.async false
set_option linter.all false
set_option maxRecDepth 100000
set_option maxHeartbeats 2000000
/-! the plain law of k54, 23: a row is picked. -/
namespace PMl
open PySem PM L2
theorem ne_nil {st : Sto} {m n : Nat} {xs : List D} (hm : st[m]? = some (.lst xs)) (hn : st[n]? = some (.lst [])) (hc : clAll xs = true) (hd : depAll xs ≤ 60) : neD (.loc m) (.loc n) st = .ok (.bl (!decide (xs = []))) st := by
  obtain ⟨as, e, h1, h2⟩ := clAll_pd hc
  have p1 : pdS st (.loc m) = some (.list as) := by simp [pdS, hm, e]
  have p2 : pdS st (.loc n) = some (.list []) := by simp [pdS, hn, pdAll]
  unfold neD eqO
  rw [if_neg (by simp [scalD]), p1, p2]
  dsimp only
  rw [if_pos ⟨show (PyData.canLayAll0 as && decide (PyData.depthAll as + 1 ≤ 64)) = true by rw [h1, decide_eq_true (by omega)]; rfl, rfl⟩]
  cases xs with
  | nil =>
    simp only [pdAll, Option.some.injEq] at e
    subst e
    rfl
  | cons x r =>
    obtain ⟨a, q, _⟩ := cl_pd (d := x) (by simp only [clAll, Bool.and_eq_true] at hc; exact hc.1)
    simp only [pdAll, q, Option.bind_some] at e
    obtain ⟨r', _, rfl⟩ := Option.map_eq_some_iff.mp e
    have : decide (x :: r = []) = false := decide_eq_false (by simp)
    rw [this]
    rfl
theorem dep_row : ∀ r : List Nat, depAll (r.map intN) ≤ 1
  | [] => by show 0 ≤ 1; decide
  | x :: r => by
    have := dep_row r
    show max 1 (depAll (r.map intN)) ≤ 1
    omega
theorem RowOk.cl {y : Ky} {x : D} (h : RowOk y x) : cl x = true ∧ depD x ≤ 20 := by
  obtain ⟨n, L, B, rfl, _, _, hL⟩ := h
  have h1 : clAll ((sealN y n B).map intN) = true := clAll_map (f := intN) fun _ => rfl
  have h2 := dep_row (sealN y n B)
  have h3 := hL.cln
  constructor
  · simp only [PM.cl, clAll, h3.1, rowN, h1]; rfl
  · simp only [depD, depAll, rowN]; omega
theorem rows_cl {y : Ky} {xs : List D} (h : ∀ x ∈ xs, RowOk y x) : clAll xs = true ∧ depAll xs ≤ 60 := by
  induction xs with
  | nil => exact ⟨rfl, by show 0 ≤ 60; decide⟩
  | cons x r ih =>
    obtain ⟨i1, i2⟩ := ih fun z hz => h z (List.mem_cons_of_mem _ hz)
    obtain ⟨h1, h2⟩ := (h x List.mem_cons_self).cl
    simp only [clAll, depAll, h1, i1]
    exact ⟨rfl, by omega⟩
noncomputable abbrev pickB : PM.S := (sIf (tAndD (cTst (cOp2 neD (cVar 5) (cNew (cLst [])))) (cTst (cOp2 gtD (cCall m__law_draw [(cVar 0), (cC (.int 4))]) (cC (.int 0))))) (sSeq (sSet 9 (cOp2 min2D (cOp2 subD (cB1 lenD (cVar 5)) (cC (.int 1))) (cIxL (cLst [(cC (.int 0)), (cC (.int 0)), (cCall m__law_draw [(cVar 0), (cB1 lenD (cVar 5))])]) (cCall m__law_draw [(cVar 0), (cC (.int 3))]))))
  (sSeq (sAsg (cOp2 getD (cVar 5) (cVar 9)) (gT 3 (gsCons (gN 10) (gsCons (gN 11) (gsCons (gN 12) gsNil)))))
  (sSet 5 (cOp2 addD (cSlice (cVar 5) cNoPart (cPart (cVar 9))) (cSlice (cVar 5) (cPart (cOp2 addD (cVar 9) (cC (.int 1)))) cNoPart))))) (sAsg (cOp2 getD (cVar 3) (cCall m__law_draw [(cVar 0), (cB1 lenD (cVar 3))])) (gT 3 (gsCons (gN 10) (gsCons (gN 11) (gsCons (gN 12) gsNil))))))
theorem pick_all {y : Ky} {s : Sto} {b rw : Nat} {rows : List D} (hb : Bg 3 b s) (hr : s[rw]? = some (.lst rows)) (hrb : rw ≠ b) (hR : ∀ x ∈ rows, RowOk y x) (hR0 : rows ≠ []) (hRl : rows.length ≤ 30) {x1 x2 x4 x5 x6 x7 x8 x9 x10 x11 x12 x13 : Option D} :
    ∃ (n : Nat) (L : D) (B : List Nat) (s' : Sto), (sAsg (cOp2 getD (cVar 3) (cCall m__law_draw [(cVar 0), (cB1 lenD (cVar 3))])) (gT 3 (gsCons (gN 10) (gsCons (gN 11) (gsCons (gN 12) gsNil)))))
      [some (.loc b), x1, x2, some (.loc rw), x4, x5, x6, x7, x8, x9, x10, x11, x12, x13] s = .nx [some (.loc b), x1, x2, some (.loc rw), x4, x5, x6, x7, x8, x9, some (.int (n : Int)), some L, some (rowN (sealN y n B)), x13] s' ∧ Kp 3 b s s' ∧ 0 < n ∧ n < 4294967296 ∧ LU L B := by
  have hpos : 0 < rows.length := List.length_pos_iff.mpr hR0
  obtain ⟨v, s1, e1, k1, l1⟩ := drawn (many := rows.length) hb hpos (by omega)
  obtain ⟨x, ex, n, L, B, rfl, h1, h2, h3⟩ := atD_P (P := RowOk y) s1 l1 hR
  have g1 := (getD_lst (y := .int (v : Int)) (k1.eq _ _ hr hrb)).trans ex
  refine ⟨n, L, B, s1, sAsg_ok (d := .tup [.int (n : Int), L, rowN (sealN y n B)]) ?_ rfl, k1, h1, h2, h3⟩
  have gl := lenD_lst hr
  simp only [cOp2_ap, cCall_ap, cArgs_cons, cArgs_nil, cB1_ap, cVar_ap, List.getElem?_cons_zero, List.getElem?_cons_succ, R.bind_ok, gl, e1, g1]
theorem pick_ok {y : Ky} {s : Sto} {b rw lf : Nat} {rows left : List D} (hb : Bg 3 b s) (hr : s[rw]? = some (.lst rows)) (hrb : rw ≠ b) (hl : s[lf]? = some (.lst left)) (hlb : lf ≠ b) (hR : ∀ x ∈ rows, RowOk y x) (hR0 : rows ≠ []) (hRl : rows.length ≤ 30) (hL : ∀ x ∈ left, RowOk y x) (hLl : left.length ≤ 30) {x1 x2 x4 x6 x7 x8 x9 x10 x11 x12 x13 : Option D} :
    ∃ (lf' n : Nat) (L : D) (B : List Nat) (left' : List D) (y9 : Option D) (s' : Sto), pickB [some (.loc b), x1, x2, some (.loc rw), x4, some (.loc lf), x6, x7, x8, x9, x10, x11, x12, x13] s = .nx [some (.loc b), x1, x2, some (.loc rw), x4, some (.loc lf'), x6, x7, x8, y9, some (.int (n : Int)), some L, some (rowN (sealN y n B)), x13] s' ∧
      Kp 3 b s s' ∧ (0 < n ∧ n < 4294967296 ∧ LU L B) ∧ s'[lf']? = some (.lst left') ∧ (∀ x ∈ left', RowOk y x) ∧ left'.length ≤ 30 ∧ (lf' = lf ∨ s.length ≤ lf') := by
  have k0 : Kp 3 b s (s ++ [.lst []]) := Kp.app hb
  have hblt := hb.lt
  have hl0 : (s ++ [O.lst []])[lf]? = some (.lst left) := get_app hl
  obtain ⟨cl1, cl2⟩ := rows_cl hL
  have t0 : cTst (cOp2 neD (cVar 5) (cNew (cLst []))) [some (.loc b), x1, x2, some (.loc rw), x4, some (.loc lf), x6, x7, x8, x9, x10, x11, x12, x13] s = .ok (!decide (left = [])) (s ++ [.lst []]) := by
    have e := ne_nil hl0 (get_new (st := s)) cl1 cl2
    simp only [cTst_ap, cOp2_ap, cNew_ap, cLst_ap, cArgs_nil, cVar_ap, List.getElem?_cons_zero, List.getElem?_cons_succ, R.bind_ok, e]
    rfl
  by_cases he : left = []
  · rw [decide_eq_true he] at t0
    obtain ⟨n, L, B, s', e, k, h⟩ := pick_all (y := y) k0.bag (get_app hr) hrb hR hR0 hRl (x1 := x1) (x2 := x2) (x4 := x4) (x5 := some (.loc lf)) (x6 := x6) (x7 := x7) (x8 := x8) (x9 := x9) (x10 := x10) (x11 := x11) (x12 := x12) (x13 := x13)
    refine ⟨lf, n, L, B, left, x9, s', sIf_false (st' := s ++ [.lst []]) ?_ e, k0.trans k, h, k.eq _ _ hl0 hlb, hL, hLl, .inl rfl⟩
    rw [tAndD_ap, t0]; rfl
  · rw [decide_eq_false he] at t0
    obtain ⟨v, s1, e1, k1, l1⟩ := drawn (many := 4) k0.bag (by decide) (by decide)
    have e1 : m__law_draw [.loc b, .int 4] (s ++ [.lst []]) = .ok (.int (v : Int)) s1 := e1
    have k01 := k0.trans k1
    have t1 : tAndD (cTst (cOp2 neD (cVar 5) (cNew (cLst [])))) (cTst (cOp2 gtD (cCall m__law_draw [(cVar 0), (cC (.int 4))]) (cC (.int 0)))) [some (.loc b), x1, x2, some (.loc rw), x4, some (.loc lf), x6, x7, x8, x9, x10, x11, x12, x13] s = .ok (decide (0 < v)) s1 := by
      rw [tAndD_ap, t0, R.bind_ok]
      show cTst _ _ _ = _
      simp only [cTst_ap, cOp2_ap, cCall_ap, cArgs_cons, cArgs_nil, cVar_ap, cC_ap, List.getElem?_cons_zero, R.bind_ok, e1, gtD, cmpI_int]
      show R.ok (decide ((0 : Int) < (v : Int))) s1 = _
      congr 1
      exact decide_eq_decide.mpr (by omega)
    by_cases hv : 0 < v
    · rw [decide_eq_true hv] at t1
      have hl1 := k01.eq _ _ hl hlb
      have hpos : 0 < left.length := List.length_pos_iff.mpr he
      obtain ⟨w, s2, e2, k2, l2⟩ := drawn (many := left.length) k01.bag hpos (by omega)
      obtain ⟨u, s3, e3, k3, l3⟩ := drawn (many := 3) k2.bag (by decide) (by decide)
      have e3 : m__law_draw [.loc b, .int 3] s2 = .ok (.int (u : Int)) s3 := e3
      have k03 := k01.trans (k2.trans k3)
      have hl3 := k03.eq _ _ hl hlb
      obtain ⟨d, ed, p, rfl⟩ := atD_P (xs := [.int 0, .int 0, .int (w : Int)]) (P := fun x => ∃ v : Nat, x = .int (v : Int)) s3 l3 (by
        intro x hx
        simp only [List.mem_cons, List.not_mem_nil, or_false] at hx
        rcases hx with rfl | rfl | rfl
        · exact ⟨0, rfl⟩
        · exact ⟨0, rfl⟩
        · exact ⟨w, rfl⟩)
      obtain ⟨q, hq⟩ : ∃ q, q = min (left.length - 1) p := ⟨_, rfl⟩
      have hq1 : q < left.length := by omega
      obtain ⟨x, ex, n, L, B, rfl, h1, h2, h3⟩ := atD_P (P := RowOk y) s3 hq1 hL
      have gl : ∀ st : Sto, st[lf]? = some (.lst left) → lenD (.loc lf) st = .ok (.int (left.length : Int)) st := fun st h => lenD_lst h
      have a1 : sSet 9 (cOp2 min2D (cOp2 subD (cB1 lenD (cVar 5)) (cC (.int 1))) (cIxL (cLst [(cC (.int 0)), (cC (.int 0)), (cCall m__law_draw [(cVar 0), (cB1 lenD (cVar 5))])]) (cCall m__law_draw [(cVar 0), (cC (.int 3))])))
          [some (.loc b), x1, x2, some (.loc rw), x4, some (.loc lf), x6, x7, x8, x9, x10, x11, x12, x13] s1 = .nx [some (.loc b), x1, x2, some (.loc rw), x4, some (.loc lf), x6, x7, x8, some (.int (q : Int)), x10, x11, x12, x13] s3 := by
        refine sSet_ok (d := .int (q : Int)) ?_ rfl
        have s1' : subD (.int (left.length : Int)) (.int 1) s1 = .ok (.int ((left.length - 1 : Nat) : Int)) s1 := by rw [subD_int]; congr 2; omega
        simp only [cOp2_ap, cB1_ap, cIxL_ap, cLst_ap, cCall_ap, cArgs_cons, cArgs_nil, cVar_ap, cC_ap, List.getElem?_cons_zero, List.getElem?_cons_succ, R.bind_ok, gl _ hl1, s1', e2, e3, ed]
        show R.ok (D.int (min ((left.length - 1 : Nat) : Int) (p : Int))) s3 = _
        rw [hq]
        congr 2
        omega
      have g1 := (getD_lst (y := .int (q : Int)) hl3).trans ex
      have sl1 : sliceD (.loc lf) none (some (q : Int)) s3 = .ok (.loc s3.length) (s3 ++ [.lst (left.take q)]) := by
        simp only [sliceD, hl3, cut_p]
      have hl4 : (s3 ++ [O.lst (left.take q)])[lf]? = some (.lst left) := get_app hl3
      have sl2 : sliceD (.loc lf) (some ((q + 1 : Nat) : Int)) none (s3 ++ [.lst (left.take q)]) = .ok (.loc (s3.length + 1)) (s3 ++ [.lst (left.take q), .lst (left.drop (q + 1))]) := by
        simp only [sliceD, hl4, cut_n, List.length_append, List.append_assoc, List.length_cons, List.length_nil]
        rfl
      have g2 : (s3 ++ [O.lst (left.take q), .lst (left.drop (q + 1))])[s3.length]? = some (.lst (left.take q)) := get_new
      have g3 : (s3 ++ [O.lst (left.take q), .lst (left.drop (q + 1))])[s3.length + 1]? = some (.lst (left.drop (q + 1))) := by
        rw [List.getElem?_append_right (by omega), show s3.length + 1 - s3.length = 1 by omega]; rfl
      have ad : addD (.loc s3.length) (.loc (s3.length + 1)) (s3 ++ [.lst (left.take q), .lst (left.drop (q + 1))]) = .ok (.loc (s3.length + 2)) (s3 ++ [.lst (left.take q), .lst (left.drop (q + 1)), .lst (left.take q ++ left.drop (q + 1))]) := by
        simp only [addD, g2, g3]
        rw [if_pos (by simp only [List.length_take, List.length_drop]; exact Nat.le_trans (show min q left.length + (left.length - (q + 1)) ≤ 1000 by omega) (by decide)), List.length_append, List.append_assoc]
        rfl
      have a3 : sSet 5 (cOp2 addD (cSlice (cVar 5) cNoPart (cPart (cVar 9))) (cSlice (cVar 5) (cPart (cOp2 addD (cVar 9) (cC (.int 1)))) cNoPart)) [some (.loc b), x1, x2, some (.loc rw), x4, some (.loc lf), x6, x7, x8, some (.int (q : Int)), some (.int (n : Int)), some L, some (rowN (sealN y n B)), x13] s3 =
          .nx [some (.loc b), x1, x2, some (.loc rw), x4, some (.loc (s3.length + 2)), x6, x7, x8, some (.int (q : Int)), some (.int (n : Int)), some L, some (rowN (sealN y n B)), x13] (s3 ++ [.lst (left.take q), .lst (left.drop (q + 1)), .lst (left.take q ++ left.drop (q + 1))]) := by
        refine sSet_ok (d := .loc (s3.length + 2)) ?_ rfl
        have p1 : ∀ st : Sto, cPart (cVar 9) [some (.loc b), x1, x2, some (.loc rw), x4, some (.loc lf), x6, x7, x8, some (.int (q : Int)), some (.int (n : Int)), some L, some (rowN (sealN y n B)), x13] st = .ok (some (q : Int)) st := fun _ => rfl
        have p2 : ∀ st : Sto, cPart (cOp2 addD (cVar 9) (cC (.int 1))) [some (.loc b), x1, x2, some (.loc rw), x4, some (.loc lf), x6, x7, x8, some (.int (q : Int)), some (.int (n : Int)), some L, some (rowN (sealN y n B)), x13] st = .ok (some ((q + 1 : Nat) : Int)) st := fun st => by
          unfold cPart
          simp only [cOp2_ap, cVar_ap, cC_ap, List.getElem?_cons_zero, List.getElem?_cons_succ, R.bind_ok, add1]
        have p3 : ∀ (ρ : PM.Env) (st : Sto), cNoPart ρ st = .ok none st := fun _ _ => rfl
        simp only [cOp2_ap, cSlice_ap, cVar_ap, List.getElem?_cons_zero, List.getElem?_cons_succ, R.bind_ok, p1, p2, p3, sl1, sl2, ad]
      refine ⟨s3.length + 2, n, L, B, left.take q ++ left.drop (q + 1), some (.int (q : Int)), _, sIf_true t1 (sSeq_nx a1 (sSeq_nx (sAsg_ok (d := .tup [.int (n : Int), L, rowN (sealN y n B)]) ?_ rfl) a3)), k03.app', ⟨h1, h2, h3⟩, ?_, ?_, ?_, .inr ?_⟩
      · simp only [cOp2_ap, cVar_ap, List.getElem?_cons_zero, List.getElem?_cons_succ, R.bind_ok, g1]
      · rw [List.getElem?_append_right (by omega), show s3.length + 2 - s3.length = 2 by omega]; rfl
      · intro x hx
        rcases List.mem_append.mp hx with hx | hx
        · exact hL x (List.mem_of_mem_take hx)
        · exact hL x (List.mem_of_mem_drop hx)
      · simp only [List.length_append, List.length_take, List.length_drop]; omega
      · have := k03.le; omega
    · rw [decide_eq_false hv] at t1
      obtain ⟨n, L, B, s', e, k, h⟩ := pick_all (y := y) k01.bag (k01.eq _ _ hr hrb) hrb hR hR0 hRl (x1 := x1) (x2 := x2) (x4 := x4) (x5 := some (.loc lf)) (x6 := x6) (x7 := x7) (x8 := x8) (x9 := x9) (x10 := x10) (x11 := x11) (x12 := x12) (x13 := x13)
      exact ⟨lf, n, L, B, left, x9, s', sIf_false t1 e, k01.trans k, h, (k01.trans k).eq _ _ hl hlb, hL, hLl, .inl rfl⟩
end PMl

set_option Elab.async false
set_option linter.all false
set_option maxRecDepth 100000
set_option maxHeartbeats 2000000
/-! the plain law of k54, 24: the rows that come. -/
namespace PMl
open PySem PM L2
structure CA (y : Ky) (s0 s : Sto) (b l o lf tk g i : Nat) : Prop where
  k : Kp 3 b s0 s
  n1 : s0.length ≤ l
  n2 : s0.length ≤ o
  n3 : s0.length ≤ lf
  n4 : s0.length ≤ tk
  link : ∃ sl, s[l]? = some (.ins 4 (lkF sl o))
  oa : ∃ (t : Nat) (ks tl : List Nat), OA s y o t g ks ∧ s0.length ≤ t ∧ s[tk]? = some (.lst (tl.map intN)) ∧ ks.Nodup ∧ tl.length ≤ i ∧ ks.length ≤ i ∧ (∀ x ∈ ks, x ∈ tl) ∧ ∀ x ∈ tl, (g : Int) - 64 < (x : Int) → x ∈ ks
  left : ∃ left : List D, s[lf]? = some (.lst left) ∧ (∀ x ∈ left, RowOk y x) ∧ left.length ≤ 30
  ne : tk ≠ lf
theorem OA.kp {s s' : Sto} {y : Ky} {o t g b : Nat} {ks : List Nat} (h : OA s y o t g ks) (k : Kp 3 b s s') (h1 : o ≠ b) (h2 : t ≠ b) : OA s' y o t g ks := ⟨k.eq _ _ h.o h1, k.eq _ _ h.t h2⟩
noncomputable abbrev dueB : PM.S := (sIf (tAndD (cTst (cOp2 notInD (cVar 10) (cVar 6))) (cTst (cOp2 gtD (cVar 10) (cOp2 subD (cVar 7) (cC (.int 64)))))) (sSeq (sSet 13 (cVar 11))
  (sSeq (sExp (cApp (cVar 6) (cVar 10)))
  (sSet 7 (cOp2 max2D (cVar 7) (cVar 10))))) sNext)
noncomputable abbrev recvB : PM.S := (sIf (tNotD (cTru (cCall (m__law_is_same 3) [(cMeth 4 "receive" m_Link_receive (cVar 4) [(cVar 12)]), (cVar 13)]))) (sRet (cC (.bl false))) sNext)
noncomputable abbrev comesB : PM.S := (sSeq pickB (sSeq (sSet 13 (cC .non)) (sSeq dueB recvB)))
theorem lk_norecv (s o : Nat) : List.lookup ("receive" : Str) (lkF s o) = none := by
  have a1 : (("receive" : Str) == ("_world" : Str)) = false := by decide +kernel
  have a2 : (("receive" : Str) == ("_sealer" : Str)) = false := by decide +kernel
  have a3 : (("receive" : Str) == ("_opener" : Str)) = false := by decide +kernel
  simp only [lkF, List.lookup, a1, a2, a3]
theorem mem_intN {n : Nat} {tl : List Nat} : D.int (n : Int) ∈ tl.map intN ↔ n ∈ tl := by
  constructor
  · intro h
    obtain ⟨m, hm, e⟩ := List.mem_map.mp h
    have := D.int.inj e
    have : m = n := by omega
    exact this ▸ hm
  · intro h; exact List.mem_map.mpr ⟨n, h, rfl⟩
theorem dec_mem {n : Nat} {tl : List Nat} {i1 : Decidable (D.int (n : Int) ∈ tl.map intN)} : @decide _ i1 = decide (n ∈ tl) := by
  by_cases h : n ∈ tl
  · rw [decide_eq_true h, decide_eq_true (mem_intN.mpr h)]
  · rw [decide_eq_false h, decide_eq_false fun q => h (mem_intN.mp q)]
theorem recvB_ok {s s' : Sto} {l : Nat} {sl o : Nat} {d r : D} {x0 x1 x2 x3 x5 x6 x7 x8 x9 x10 x11 : Option D} (hl : s[l]? = some (.ins 4 (lkF sl o))) (hr : m_Link_receive [.loc l, r] s = .ok d s') (hs : m__law_is_same 3 [d, d] s' = .ok (.bl true) s') :
    recvB [x0, x1, x2, x3, some (.loc l), x5, x6, x7, x8, x9, x10, x11, some r, some d] s = .nx [x0, x1, x2, x3, some (.loc l), x5, x6, x7, x8, x9, x10, x11, some r, some d] s' := by
  have em := meth_ok (c := 4) (x := "receive") (m := m_Link_receive) (o := cVar 4) (es := [(cVar 12)]) (ρ := [x0, x1, x2, x3, some (.loc l), x5, x6, x7, x8, x9, x10, x11, some r, some d]) (cVar_at rfl) hl (lk_norecv _ _) (ds := [r]) (st2 := s) rfl hr
  refine sIf_false (st' := s') ?_ rfl
  simp only [tNotD_ap, cTru_ap, cCall_ap, cArgs_cons, cArgs_nil, cVar_ap, List.getElem?_cons_zero, List.getElem?_cons_succ, R.bind_ok, em, hs, truD_bl]
  rfl
theorem comes_step {y : Ky} (hy : y.ok) {s0 s : Sto} {b rw l o lf tk g i : Nat} {rows : List D} (hb : b < s0.length) (hr : s0[rw]? = some (.lst rows)) (hrb : rw ≠ b) (hR : ∀ x ∈ rows, RowOk y x) (hR0 : rows ≠ []) (hRl : rows.length ≤ 30) (hi : i ≤ 100) (A : CA y s0 s b l o lf tk g i) {x1 x2 x8 x9 x10 x11 x12 x13 : Option D} :
    ∃ (lf' g' : Nat) (y9 y10 y11 y12 y13 : Option D) (s' : Sto), comesB [some (.loc b), x1, x2, some (.loc rw), some (.loc l), some (.loc lf), some (.loc tk), some (intN g), x8, x9, x10, x11, x12, x13] s = .nx [some (.loc b), x1, x2, some (.loc rw), some (.loc l), some (.loc lf'), some (.loc tk), some (intN g'), x8, y9, y10, y11, y12, y13] s' ∧ CA y s0 s' b l o lf' tk g' (i + 1) := by
  obtain ⟨k, n1, n2, n3, n4, ⟨sl, hlk⟩, ⟨t, ks, tl, hoa, n5, htk, hnd, c1, c2, c3, c4⟩, ⟨left, hlf, hL, hLl⟩, hne⟩ := A
  have htkl := lt_get htk
  obtain ⟨lf', n, L, B, left', y9, s1, e1, k1, ⟨h0, hn, hLU⟩, hlf', hL', hLl', hcase⟩ := pick_ok (y := y) k.bag (k.eq _ _ hr hrb) hrb hlf (by omega) hR hR0 hRl hL hLl (x1 := x1) (x2 := x2) (x4 := some (.loc l)) (x6 := some (.loc tk)) (x7 := some (intN g)) (x8 := x8) (x9 := x9) (x10 := x10) (x11 := x11) (x12 := x12) (x13 := x13)
  have k01 := k.trans k1
  have hne' : tk ≠ lf' := by rcases hcase with h | h <;> omega
  have n3' : s0.length ≤ lf' := by have := k.le; rcases hcase with h | h <;> omega
  have hlk1 := k1.eq _ _ hlk (by omega)
  have hoa1 := hoa.kp k1 (by omega) (by omega)
  have htk1 := k1.eq _ _ htk (by omega)
  have a2 : ∀ st, sSet 13 (cC .non) [some (.loc b), x1, x2, some (.loc rw), some (.loc l), some (.loc lf'), some (.loc tk), some (intN g), x8, y9, some (.int (n : Int)), some L, some (rowN (sealN y n B)), x13] st = .nx [some (.loc b), x1, x2, some (.loc rw), some (.loc l), some (.loc lf'), some (.loc tk), some (intN g), x8, y9, some (.int (n : Int)), some L, some (rowN (sealN y n B)), some .non] st := fun st => sSet_ok (cC_ap _ _ _) rfl
  have t1 : cTst (cOp2 notInD (cVar 10) (cVar 6)) [some (.loc b), x1, x2, some (.loc rw), some (.loc l), some (.loc lf'), some (.loc tk), some (intN g), x8, y9, some (.int (n : Int)), some L, some (rowN (sealN y n B)), some .non] s1 = .ok (!decide (n ∈ tl)) s1 := by
    have e := notInD_lst (x := .int (n : Int)) htk1 rfl (by show 1 ≤ 64; decide) (clAll_map (f := intN) fun _ => rfl)
    rw [dec_mem] at e
    simp only [cTst_ap, cOp2_ap, cVar_ap, List.getElem?_cons_zero, List.getElem?_cons_succ, R.bind_ok, e]
    rfl
  have t2 : cTst (cOp2 gtD (cVar 10) (cOp2 subD (cVar 7) (cC (.int 64)))) [some (.loc b), x1, x2, some (.loc rw), some (.loc l), some (.loc lf'), some (.loc tk), some (intN g), x8, y9, some (.int (n : Int)), some L, some (rowN (sealN y n B)), some .non] s1 = .ok (decide ((g : Int) - 64 < (n : Int))) s1 := by
    simp only [cTst_ap, cOp2_ap, cVar_ap, cC_ap, List.getElem?_cons_zero, List.getElem?_cons_succ, R.bind_ok, intN, subD_int, gtD, cmpI_int]
    rfl
  by_cases hc : n ∉ tl ∧ (g : Int) - 64 < (n : Int)
  · obtain ⟨hc1, hc2⟩ := hc
    have t3 : tAndD (cTst (cOp2 notInD (cVar 10) (cVar 6))) (cTst (cOp2 gtD (cVar 10) (cOp2 subD (cVar 7) (cC (.int 64))))) [some (.loc b), x1, x2, some (.loc rw), some (.loc l), some (.loc lf'), some (.loc tk), some (intN g), x8, y9, some (.int (n : Int)), some L, some (rowN (sealN y n B)), some .non] s1 = .ok true s1 := by
      rw [tAndD_ap, t1, decide_eq_false hc1, R.bind_ok]
      show cTst _ _ _ = _
      rw [t2, decide_eq_true hc2]
    have k2 : Kp 3 b s0 (s1.set tk (.lst (tl.map intN ++ [.int (n : Int)]))) := k01.new n4 (by omega)
    have htk2 : (s1.set tk (.lst (tl.map intN ++ [.int (n : Int)])))[tk]? = some (.lst (tl.map intN ++ [.int (n : Int)])) := get_set_eq htk1
    have hot : o ≠ tk := fun e => by have := hoa1.o; rw [e, htk1] at this; cases this
    have htt : t ≠ tk := fun e => by have := hoa1.t; rw [e, htk1] at this; cases this
    have hlt : l ≠ tk := fun e => by rw [e, htk1] at hlk1; cases hlk1
    have hoa2 : OA (s1.set tk (.lst (tl.map intN ++ [.int (n : Int)]))) y o t g ks := ⟨by rw [get_set_ne hot]; exact hoa1.o, by rw [get_set_ne htt]; exact hoa1.t⟩
    have hlk2 : (s1.set tk (.lst (tl.map intN ++ [.int (n : Int)])))[l]? = some (.ins 4 (lkF sl o)) := by rw [get_set_ne hlt]; exact hlk1
    have hlf2 : (s1.set tk (.lst (tl.map intN ++ [.int (n : Int)])))[lf']? = some (.lst left') := by rw [get_set_ne hne'.symm]; exact hlf'
    have ap := appD_at (y := .int (n : Int)) htk1 (by rw [List.length_map]; omega)
    generalize s1.set tk (.lst (tl.map intN ++ [.int (n : Int)])) = s2 at k2 htk2 hoa2 hlk2 hlf2 ap
    have hks : n ∉ ks := fun h => hc1 (c3 _ h)
    obtain ⟨s3, t', er, hoa3, fr, hle, htt'⟩ := recv_ok hy hlk2 hoa2 hLU h0 hn (by omega) hks (by omega) hnd
    have hob : o ≠ b := by omega
    have htb : t ≠ b := by omega
    have fr' : ∀ m x, s2[m]? = some x → m ≠ o → m ≠ t → s3[m]? = some x := fr
    have k3 : Kp 3 b s0 s3 := ⟨by have := k2.le; omega, fun m x hm hmb => fr _ _ (k2.eq _ _ hm hmb) (by have := lt_get hm; omega) (by have := lt_get hm; omega), by
      obtain ⟨bl, hbl, hbb⟩ := k2.bag
      exact ⟨bl, hbl, fr _ _ hbb (Ne.symm hob) (Ne.symm htb)⟩⟩
    obtain ⟨xs, hxs, hleaf, hxl⟩ := hLU.leaf
    have sm : m__law_is_same 3 [L, L] s3 = .ok (.bl true) s3 := by
      rw [hxs]
      exact same_tup hleaf (by omega) 1 s3
    have hs2 := k2.le
    have t5 : s0.length ≤ t' := by rcases htt' with h | h <;> omega
    have hlo : l ≠ o := fun e => by rw [e, hoa2.o] at hlk2; cases hlk2
    have hlt' : l ≠ t := fun e => by rw [e, hoa2.t] at hlk2; cases hlk2
    have mx : max2D (intN g) (.int (n : Int)) s2 = .ok (intN (max g n)) s2 := by
      show R.ok (D.int (max (g : Int) (n : Int))) s2 = _
      rw [intN]
      congr 2
      omega
    refine ⟨lf', max g n, y9, some (.int (n : Int)), some L, some (rowN (sealN y n B)), some L, s3, sSeq_nx e1 (sSeq_nx (a2 s1) (sSeq_nx (sIf_true t3 (sSeq_nx (sSet_ok (cVar_at rfl) rfl) (sSeq_nx (sExp_ok (d := .non) (app_ok (cVar_at rfl) htk1 (cVar_at rfl) ap)) (sSet_ok (d := intN (max g n)) ?_ rfl)))) (recvB_ok hlk2 er sm))),
      k3, n1, n2, n3', n4, ⟨sl, fr _ _ hlk2 hlo hlt'⟩, ⟨t', _, tl ++ [n], hoa3, t5, ?_, ?_, by simp; omega, ?_, ?_, ?_⟩, ⟨left', fr _ _ hlf2 (fun e => by rw [e, hoa2.o] at hlf2; cases hlf2) (fun e => by rw [e, hoa2.t] at hlf2; cases hlf2), hL', hLl'⟩, hne'⟩
    · simp only [cOp2_ap, cVar_ap, List.getElem?_cons_zero, List.getElem?_cons_succ, R.bind_ok]
      exact mx
    · rw [List.map_append]
      exact fr _ _ htk2 hot.symm htt.symm
    · have hnd2 : (ks ++ [n]).Nodup := by
        rw [List.nodup_append]
        exact ⟨hnd, by simp, fun a ha b hb e => hks (by rw [List.mem_singleton] at hb; rw [← hb, ← e]; exact ha)⟩
      split
      · exact List.Pairwise.filter _ hnd2
      · exact hnd2
    · split
      · have := List.length_filter_le (fun k : Nat => decide ((n : Int) - 64 < (k : Int))) (ks ++ [n])
        rw [List.length_append, List.length_singleton] at this
        unfold later
        omega
      · simp; omega
    · have h5 : ∀ x ∈ ks ++ [n], x ∈ tl ++ [n] := fun x hx => by
        rcases List.mem_append.mp hx with hx | hx
        · exact List.mem_append_left _ (c3 x hx)
        · exact List.mem_append_right _ hx
      intro x hx
      split at hx
      · exact h5 x (List.mem_filter.mp hx).1
      · exact h5 x hx
    · intro x hx hgx
      have h6 : (g : Int) - 64 < (x : Int) → x ∈ ks ++ [n] := fun h7 => by
        rcases List.mem_append.mp hx with hx | hx
        · exact List.mem_append_left _ (c4 x hx h7)
        · exact List.mem_append_right _ hx
      split
      · exact List.mem_filter.mpr ⟨h6 (by omega), decide_eq_true (by omega)⟩
      · exact h6 (by omega)
  · have hno : (n : Int) ≤ (g : Int) - 64 ∨ n ∈ ks := by
      by_cases h : (n : Int) ≤ (g : Int) - 64
      · exact .inl h
      · refine .inr (c4 n ?_ (by omega))
        by_cases h2 : n ∈ tl
        · exact h2
        · exact absurd ⟨h2, by omega⟩ hc
    have t3 : tAndD (cTst (cOp2 notInD (cVar 10) (cVar 6))) (cTst (cOp2 gtD (cVar 10) (cOp2 subD (cVar 7) (cC (.int 64))))) [some (.loc b), x1, x2, some (.loc rw), some (.loc l), some (.loc lf'), some (.loc tk), some (intN g), x8, y9, some (.int (n : Int)), some L, some (rowN (sealN y n B)), some .non] s1 = .ok false s1 := by
      rw [tAndD_ap, t1, R.bind_ok]
      by_cases h2 : n ∈ tl
      · rw [decide_eq_true h2]; rfl
      · rw [decide_eq_false h2]
        show cTst _ _ _ = _
        rw [t2, decide_eq_false fun h => hc ⟨h2, h⟩]
    have er := recv_no hy hlk1 hoa1 hLU h0 hn hno
    refine ⟨lf', g, y9, some (.int (n : Int)), some L, some (rowN (sealN y n B)), some .non, s1, sSeq_nx e1 (sSeq_nx (a2 s1) (sSeq_nx (sIf_false t3 rfl) (recvB_ok hlk1 er (same_non 2 s1)))),
      k01, n1, n2, n3', n4, ⟨sl, hlk1⟩, ⟨t, ks, tl, hoa1, n5, htk1, hnd, by omega, by omega, c3, c4⟩, ⟨left', hlf', hL', hLl'⟩, hne'⟩
end PMl

set_option Elab.async false
set_option linter.all false
set_option maxRecDepth 100000
set_option maxHeartbeats 2000000
/-! the plain law of k54, 25: the rows that come, whole. -/
namespace PMl
open PySem PM L2
theorem comp_id {s : Sto} {rw : Nat} {rows : List D} (hr : s[rw]? = some (.lst rows)) (hl : rows.length ≤ 1000) {x0 x1 x2 x4 x5 x6 x7 x8 x9 x10 x11 x12 x13 : Option D} :
    cComp (cItr (cVar 3)) (.one 12) tYesD (cVar 12) [12] [x0, x1, x2, some (.loc rw), x4, x5, x6, x7, x8, x9, x10, x11, x12, x13] s = .ok rows s := by
  have hc := compGo_pure (chk := fun st => st[rw]? = some (.lst rows)) (t := .one 12) (tt := tYesD) (te := cVar 12) (ρ := [x0, x1, x2, some (.loc rw), x4, x5, x6, x7, x8, x9, x10, x11, none, x13]) (st := s) (fun _ => true) (fun x => x) hr rows (fun x hx => ⟨[x0, x1, x2, some (.loc rw), x4, x5, x6, x7, x8, x9, x10, x11, some x, x13], rfl, rfl, fun _ => rfl⟩)
  rw [cComp_ap, cItr_lst (n := rw) (cVar_at rfl) hr, R.bind_ok]
  dsimp only
  rw [if_pos (Nat.le_trans hl (by decide))]
  refine Eq.trans hc ?_
  rw [List.filter_eq_self.mpr (fun _ _ => rfl), List.map_id']
theorem comes_ok {y : Ky} (hy : y.ok) {st : Sto} {b rw : Nat} {rows : List D} (h : Bg 3 b st) (hr : st[rw]? = some (.lst rows)) (hrb : rw ≠ b) (hR : ∀ x ∈ rows, RowOk y x) (hRl : rows.length ≤ 30) :
    ∃ s, m__law_comes [.loc b, worldD, y.D, .loc rw] st = .ok (.bl true) s ∧ Kp 3 b st s := by
  have hb := h.lt
  have m1 := link_makeD (y := ⟨5, 6, 7⟩) (z := y) (es := [(cVar 1), (cTup [(cC (.str "key")), (cC (.int 5)), (cC (.int 6)), (cC (.int 7))]), (cVar 2)])
    (ρ := [some (.loc b), some worldD, some y.D, some (.loc rw), none, none, none, none, none, none, none, none, none, none]) (st := st) (st1 := st) rfl
  generalize hg : [O.ins 4 (lkF (st.length + 1) (st.length + 2)), .ins 0 (slF ⟨5, 6, 7⟩ 0), .ins 1 (opF y 0 (st.length + 3)), .dct []] = g at m1
  have hgl : g.length = 4 := by rw [← hg]; rfl
  have g0 : ∀ g' : Sto, (st ++ (g ++ g'))[st.length]? = some (.ins 4 (lkF (st.length + 1) (st.length + 2))) := fun g' => by rw [← hg]; exact get_new
  have g2 : ∀ g' : Sto, (st ++ (g ++ g'))[st.length + 2]? = some (.ins 1 (opF y 0 (st.length + 3))) := fun g' => by
    rw [← hg, List.getElem?_append_right (by omega), show st.length + 2 - st.length = 2 by omega]; rfl
  have g3 : ∀ g' : Sto, (st ++ (g ++ g'))[st.length + 3]? = some (.dct (kd [])) := fun g' => by
    rw [← hg, List.getElem?_append_right (by omega), show st.length + 3 - st.length = 3 by omega]; rfl
  have g4 : (st ++ (g ++ [.lst rows, .lst []]))[st.length + 4]? = some (.lst rows) := by
    rw [← hg, List.getElem?_append_right (by omega), show st.length + 4 - st.length = 4 by omega]; rfl
  have g5 : (st ++ (g ++ [.lst rows, .lst []]))[st.length + 5]? = some (.lst []) := by
    rw [← hg, List.getElem?_append_right (by omega), show st.length + 5 - st.length = 5 by omega]; rfl
  have A0 : CA y st (st ++ (g ++ [.lst rows, .lst []])) b st.length (st.length + 2) (st.length + 4) (st.length + 5) 0 0 :=
    ⟨Kp.app h, Nat.le_refl _, by omega, by omega, by omega, ⟨_, g0 _⟩, ⟨st.length + 3, [], [], ⟨g2 _, g3 _⟩, by omega, g5, by simp, by simp, by simp, by simp, by simp⟩, ⟨rows, g4, hR, hRl⟩, by omega⟩
  obtain ⟨ρ', s3, e3, ⟨lf, gr, y8, y9, y10, y11, y12, y13, rfl, A⟩⟩ := forGo_inv (chk := fun _ => True) (g := gN 8) (body := comesB) (fun i ρ s => ∃ lf gr y8 y9 y10 y11 y12 y13, ρ = [some (.loc b), some worldD, some y.D, some (.loc rw), some (.loc st.length), some (.loc lf), some (.loc (st.length + 5)), some (intN gr), y8, y9, y10, y11, y12, y13] ∧ CA y st s b st.length (st.length + 2) lf (st.length + 5) gr i)
    (rngD 0 (2 * rows.length)) 0 (fun _ _ _ _ => trivial) (fun i d hd ρ s ⟨lf, gr, y8, y9, y10, y11, y12, y13, hρ, A⟩ => by
    obtain ⟨hi, rfl⟩ := rng_nth hd
    subst hρ
    rw [Nat.zero_add] at A ⊢
    obtain ⟨lf', g', z9, z10, z11, z12, z13, s', e, A'⟩ := comes_step hy hb hr hrb hR (by intro e; rw [e] at hi; simp at hi) hRl (by omega) A (x1 := some worldD) (x2 := some y.D) (x8 := some (.int (0 + i))) (x9 := y9) (x10 := y10) (x11 := y11) (x12 := y12) (x13 := y13)
    exact ⟨_, rfl, _, s', .inl e, _, _, _, _, _, _, _, _, rfl, A'⟩) [some (.loc b), some worldD, some y.D, some (.loc rw), some (.loc st.length), some (.loc (st.length + 4)), some (.loc (st.length + 5)), some (intN 0), none, none, none, none, none, none] (st ++ (g ++ [.lst rows, .lst []])) ⟨_, _, _, _, _, _, _, _, rfl, A0⟩
  obtain ⟨s4, e4, k4⟩ := def_kp (n := 14) (s := b__law_comes) (ds := [.loc b, worldD, y.D, .loc rw]) (ρ0 := [some (.loc b), some worldD, some y.D, some (.loc rw), none, none, none, none, none, none, none, none, none, none]) (d := .bl true) (st' := s3) rfl (by
    unfold b__law_comes
    refine sSeq_nx (sSet_ok m1 rfl) ?_
    dsimp only [List.set_cons_zero, List.set_cons_succ]
    have hr1 : (st ++ g)[rw]? = some (.lst rows) := get_app hr
    refine sSeq_nx (ρ' := [some (.loc b), some worldD, some y.D, some (.loc rw), some (.loc st.length), some (.loc (st.length + 4)), none, none, none, none, none, none, none, none]) (st' := st ++ (g ++ [.lst rows])) (sSet_ok ?_ rfl) ?_
    · rw [cNew_ap, comp_id hr1 (by omega), R.bind_ok, List.length_append, hgl, List.append_assoc]
    refine sSeq_nx (ρ' := [some (.loc b), some worldD, some y.D, some (.loc rw), some (.loc st.length), some (.loc (st.length + 4)), some (.loc (st.length + 5)), none, none, none, none, none, none, none]) (st' := st ++ (g ++ [.lst rows, .lst []])) (sSet_ok ?_ rfl) ?_
    · simp only [cNew_ap, cLst_ap, cArgs_nil, R.bind_ok, List.length_append, hgl, List.append_assoc]
      rfl
    refine sSeq_nx (ρ' := [some (.loc b), some worldD, some y.D, some (.loc rw), some (.loc st.length), some (.loc (st.length + 4)), some (.loc (st.length + 5)), some (intN 0), none, none, none, none, none, none]) (st' := st ++ (g ++ [.lst rows, .lst []])) (sSet_ok (cC_ap _ _ _) rfl) ?_
    refine sSeq_nx (sFor_ok (cRng1_ok (n := 2 * rows.length) (st' := st ++ (g ++ [.lst rows, .lst []])) ?_ (by omega)) e3) (sRet_ok (cC_ap _ _ _))
    have gl := lenD_lst (show (st ++ (g ++ [O.lst rows, .lst []]))[rw]? = some (.lst rows) from get_app hr)
    have m2 : mulD (.int 2) (.int (rows.length : Int)) (st ++ (g ++ [O.lst rows, .lst []])) = .ok (.int ((2 * rows.length : Nat) : Int)) (st ++ (g ++ [O.lst rows, .lst []])) := mulD_nat (a := 2) _ (by omega)
    simp only [cOp2_ap, cB1_ap, cVar_ap, cC_ap, List.set_cons_zero, List.set_cons_succ, List.getElem?_cons_zero, List.getElem?_cons_succ, R.bind_ok, gl, m2]) h A.k
  exact ⟨s4, e4, k4⟩
end PMl

set_option Elab.async false
set_option linter.all false
set_option maxRecDepth 100000
set_option maxHeartbeats 2000000
/-! the plain law of k54, 26: the end of all numbers. -/
namespace PMl
open PySem PM L2
theorem sl_noseal (y : Ky) (n : Nat) : List.lookup ("seal" : Str) (slF y n) = none := by
  have a1 : (("seal" : Str) == ("_key" : Str)) = false := by decide +kernel
  have a2 : (("seal" : Str) == ("_number" : Str)) = false := by decide +kernel
  simp only [slF, List.lookup, a1, a2]
theorem used_ok {y : Ky} {st : Sto} {q : Nat} (h : st[q]? = some (.ins 0 (slF y 4294967295))) : m__law_is_used [.loc q] st = .ok (.bl true) st := by
  refine def_rt (ρ0 := [some (.loc q)]) rfl ?_ rfl
  unfold b__law_is_used
  have e := meth_ok (c := 0) (x := "seal") (m := m_Sealer_seal) (o := cVar 0) (es := [(cTup [(cC (.int 9))])]) (ρ := [some (.loc q)]) (cVar_at rfl) h (sl_noseal _ _) (ds := [rowN [9]]) (st2 := st) rfl (seal_far h)
  refine sSeq_rt ?_
  have e2 : sExp (cMeth 0 "seal" m_Sealer_seal (cVar 0) [(cTup [(cC (.int 9))])]) [some (.loc q)] st = .exc 8 [] [some (.loc q)] st := by
    rw [sExp_ap, e]; rfl
  rw [sTry_ap, e2]
  rfl
theorem rng2_ok {a b : Int} {st : Sto} (h1 : -1000000000000 ≤ a) (h2 : a ≤ 1000000000000) (h3 : -1000000000000 ≤ b) (h4 : b ≤ 1000000000000) : rng2D (.int a) (.int b) st = .ok ⟨fun _ => True, rngD a (b - a).toNat⟩ st := by
  unfold rng2D
  dsimp only
  rw [if_pos ⟨by omega, by omega, by omega, by omega⟩]
theorem cRng2_ok {e f : E} {ρ : PM.Env} {st st1 st2 : Sto} {a b : Int} (he : e ρ st = .ok (.int a) st1) (hf : f ρ st1 = .ok (.int b) st2) (h1 : -1000000000000 ≤ a) (h2 : a ≤ 1000000000000) (h3 : -1000000000000 ≤ b) (h4 : b ≤ 1000000000000) : cRng2 e f ρ st = .ok ⟨fun _ => True, rngD a (b - a).toNat⟩ st2 := by
  rw [cRng2_ap, he, R.bind_ok, hf, R.bind_ok, rng2_ok h1 h2 h3 h4]
noncomputable abbrev endsB : PM.S := (sIf (tNotD (cTru (cCall (m__law_is_same 3) [(cMeth 0 "seal" m_Sealer_seal (cVar 3) [(cTup [(cC (.int 7)), (cC (.int 8))])]), (cCall m__law_sealed [(cVar 1), (cVar 4), (cTup [(cC (.int 7)), (cC (.int 8))])])]))) (sRet (cC (.bl false))) sNext)
theorem ends_step {y : Ky} (hy : y.ok) {s : Sto} {q n : Nat} (hq : s[q]? = some (.ins 0 (slF y n))) (hn : n < 4294967295) {x0 x2 x5 : Option D} :
    endsB [x0, some y.D, x2, some (.loc q), some (.int ((n + 1 : Nat) : Int)), x5] s = .nx [x0, some y.D, x2, some (.loc q), some (.int ((n + 1 : Nat) : Int)), x5] (s.set q (.ins 0 (slF y (n + 1)))) := by
  have e := meth_ok (c := 0) (x := "seal") (m := m_Sealer_seal) (o := cVar 3) (es := [(cTup [(cC (.int 7)), (cC (.int 8))])]) (ρ := [x0, some y.D, x2, some (.loc q), some (.int ((n + 1 : Nat) : Int)), x5]) (cVar_at rfl) hq (sl_noseal _ _) (ds := [rowN [7, 8]]) (st2 := s) rfl (seal_ok hy hq hn (by decide))
  generalize s.set q (.ins 0 (slF y (n + 1))) = u at e ⊢
  have e2 : m__law_sealed [y.D, .int ((n + 1 : Nat) : Int), .tup [.int 7, .int 8]] u = _ := lsealed_ok hy (n := n + 1) (B := [7, 8]) (by omega) (by decide) u
  have e3 : m__law_is_same 3 [rowN (sealN y (n + 1) [7, 8]), rowN (sealN y (n + 1) [7, 8])] u = .ok (.bl true) u := same_row (r := sealN y (n + 1) [7, 8]) (by rw [sealN_len]; decide) 1 u
  refine sIf_false (st' := u) ?_ rfl
  simp only [tNotD_ap, cTru_ap, cCall_ap, cArgs_cons, cArgs_nil, cTup_ap, cVar_ap, cC_ap, List.getElem?_cons_zero, List.getElem?_cons_succ, R.bind_ok, e, e2, e3, truD_bl]
  rfl
theorem ends_ok {y : Ky} (hy : y.ok) {st : Sto} {b : Nat} (h : Bg 3 b st) : ∃ s, m__law_ends [.loc b, y.D] st = .ok (.bl true) s ∧ Kp 3 b st s := by
  have hb := h.lt
  obtain ⟨v, s1, e1, k1, l1⟩ := drawn (many := 4) h (by decide) (by decide)
  have e1 : m__law_draw [.loc b, .int 4] st = .ok (.int (v : Int)) s1 := e1
  obtain ⟨u, hu⟩ : ∃ u, u = 4294967295 - v := ⟨_, rfl⟩
  have b1 : subD (.int 4294967295) (.int (v : Int)) s1 = .ok (.int (u : Int)) s1 := by rw [subD_int]; congr 2; omega
  have m1 := sealer_make (y := y) (n := u) (es := [(cVar 1), (cVar 2)]) (ρ := [some (.loc b), some y.D, some (.int (u : Int)), none, none, none]) (st := s1) (st1 := s1) rfl
  have k2 : Kp 3 b st (s1 ++ [.ins 0 (slF y u)]) := k1.app'
  have hs1 := k1.le
  obtain ⟨ρ', s3, e3, ⟨y4, rfl, k3, h3⟩⟩ := forGo_inv (chk := fun _ => True) (g := gN 4) (body := endsB) (fun i ρ s => ∃ y4, ρ = [some (.loc b), some y.D, some (.int (u : Int)), some (.loc s1.length), y4, none] ∧ Kp 3 b st s ∧ s[s1.length]? = some (.ins 0 (slF y (u + i)))) (rngD (u + 1) v) 0 (fun _ _ _ _ => trivial) (fun i d hd ρ s ⟨y4, hρ, k, hq⟩ => by
    obtain ⟨hi, rfl⟩ := rng_nth hd
    subst hρ
    rw [Nat.zero_add] at hq ⊢
    have e := ends_step hy hq (by omega) (x0 := some (.loc b)) (x2 := some (.int (u : Int))) (x5 := none)
    refine ⟨[some (.loc b), some y.D, some (.int (u : Int)), some (.loc s1.length), some (.int ((u + i + 1 : Nat) : Int)), none], ?_, _, _, .inl e, _, rfl, k.new hs1 (by omega), get_set_eq hq⟩
    have : ((u : Int) + 1 + (i : Int)) = ((u + i + 1 : Nat) : Int) := by omega
    rw [this]
    rfl) [some (.loc b), some y.D, some (.int (u : Int)), some (.loc s1.length), none, none] (s1 ++ [.ins 0 (slF y u)]) ⟨none, rfl, k2, get_new⟩
  rw [rngD_len, show u + (0 + v) = 4294967295 by omega] at h3
  have us := used_ok h3
  obtain ⟨f, s4, e4, k4, l4⟩ := drawn (many := 4294967295) k3.bag (by decide) (by decide)
  have e4 : m__law_draw [.loc b, .int 4294967295] s3 = .ok (.int (f : Int)) s4 := e4
  have k04 := k3.trans k4
  have m2 := sealer_make (y := y) (n := f) (es := [(cVar 1), (cVar 5)]) (ρ := [some (.loc b), some y.D, some (.int (u : Int)), some (.loc s1.length), y4, some (.int (f : Int))]) (st := s4) (st1 := s4) rfl
  have g4 : (s4 ++ [O.ins 0 (slF y f)])[s4.length]? = some (.ins 0 (slF y f)) := get_new
  have e5 := meth_ok (c := 0) (x := "seal") (m := m_Sealer_seal) (o := cMake 0 m_Sealer_init [(cVar 1), (cVar 5)]) (es := [(cTup [(cC (.int 1))])]) (ρ := [some (.loc b), some y.D, some (.int (u : Int)), some (.loc s1.length), y4, some (.int (f : Int))]) m2 g4 (sl_noseal _ _) (ds := [rowN [1]]) (st2 := s4 ++ [.ins 0 (slF y f)]) rfl (seal_ok hy g4 (by omega) (by decide))
  rw [set_at] at e5
  have k5 : Kp 3 b st (s4 ++ [.ins 0 (slF y (f + 1))]) := k04.app'
  generalize hw : s4 ++ [.ins 0 (slF y (f + 1))] = w at e5 k5
  have e6 : m__law_sealed [y.D, .int ((f + 1 : Nat) : Int), .tup [.int 1]] w = _ := lsealed_ok hy (n := f + 1) (B := [1]) (by omega) (by decide) w
  have e7 : m__law_is_same 3 [rowN (sealN y (f + 1) [1]), rowN (sealN y (f + 1) [1])] w = .ok (.bl true) w := same_row (r := sealN y (f + 1) [1]) (by rw [sealN_len]; decide) 1 w
  obtain ⟨s6, e8, k6⟩ := def_kp (n := 6) (s := b__law_ends) (ds := [.loc b, y.D]) (ρ0 := [some (.loc b), some y.D, none, none, none, none]) (d := .bl true) (st' := w) rfl (by
    unfold b__law_ends
    refine sSeq_nx (ρ' := [some (.loc b), some y.D, some (.int (u : Int)), none, none, none]) (st' := s1) (sSet_ok ?_ rfl) ?_
    · simp only [cOp2_ap, cCall_ap, cArgs_cons, cArgs_nil, cVar_ap, cC_ap, List.getElem?_cons_zero, R.bind_ok, e1, b1]
    refine sSeq_nx (ρ' := [some (.loc b), some y.D, some (.int (u : Int)), some (.loc s1.length), none, none]) (st' := s1 ++ [.ins 0 (slF y u)]) (sSet_ok m1 rfl) ?_
    refine sSeq_nx (sFor_ok (b := ⟨fun _ => True, rngD (u + 1) v⟩) (st' := s1 ++ [.ins 0 (slF y u)]) ?_ e3) ?_
    · have hc := cRng2_ok (e := cOp2 addD (cVar 2) (cC (.int 1))) (f := cC (.int 4294967296)) (ρ := [some (.loc b), some y.D, some (.int (u : Int)), some (.loc s1.length), none, none]) (st := s1 ++ [.ins 0 (slF y u)]) (a := (u : Int) + 1) (b := 4294967296) rfl rfl (by omega) (by omega) (by omega) (by omega)
      rw [show ((4294967296 : Int) - ((u : Int) + 1)).toNat = v by omega] at hc
      exact hc
    refine sSeq_nx (ρ' := [some (.loc b), some y.D, some (.int (u : Int)), some (.loc s1.length), y4, none]) (st' := s3) (sIf_false (st' := s3) ?_ rfl) ?_
    · have t1 : tNotD (cTru (cCall m__law_is_used [(cVar 3)])) [some (.loc b), some y.D, some (.int (u : Int)), some (.loc s1.length), y4, none] s3 = .ok false s3 := by
        simp only [tNotD_ap, cTru_ap, cCall_ap, cArgs_cons, cArgs_nil, cVar_ap, List.getElem?_cons_zero, List.getElem?_cons_succ, R.bind_ok, us, truD_bl]
        rfl
      rw [tOrD_ap, t1, R.bind_ok]
      exact t1
    refine sSeq_nx (ρ' := [some (.loc b), some y.D, some (.int (u : Int)), some (.loc s1.length), y4, some (.int (f : Int))]) (st' := s4) (sSet_ok ?_ rfl) (sRet_ok ?_)
    · simp only [cCall_ap, cArgs_cons, cArgs_nil, cVar_ap, cC_ap, List.getElem?_cons_zero, R.bind_ok, e4]
    · simp only [cCall_ap, cArgs_cons, cArgs_nil, cTup_ap, cOp2_ap, cVar_ap, cC_ap, List.getElem?_cons_zero, List.getElem?_cons_succ, R.bind_ok, e5, add1, e6, e7]) h k5
  exact ⟨s6, e8, k6⟩
end PMl

set_option Elab.async false
set_option linter.all false
set_option maxRecDepth 100000
set_option maxHeartbeats 4000000
/-! the plain law of k54, whole. -/
namespace PMl
open PySem PM L2
def bagO (x y z : Int) : O := .lst ([x, y, z].map .int)
theorem pow18 (st : Sto) : powD (.int 10) (.int 18) st = .ok (.int 1000000000000000000) st := by
  show (if shC 10 18 = true then R.ok (D.int ((10 : Int) ^ ((18 : Int).toNat))) st else .bad) = _
  rw [if_pos (by decide)]
  rfl
theorem bag_ok (xs : List Int) (k : Nat) (st : Sto) : ∃ x y z, m__law_bag [.con (xs.map .int), .int (k : Int)] st = .ok (.loc st.length) (st ++ [bagO x y z]) := by
  have fin : ∀ {x y z : Int}, b__law_bag [some (.con (xs.map .int)), some (.int (k : Int)), none] st = .rt (.loc st.length) (st ++ [bagO x y z]) → m__law_bag [.con (xs.map .int), .int (k : Int)] st = .ok (.loc st.length) (st ++ [bagO x y z]) := fun e => by
    show gcR st (outR (b__law_bag [some (.con (xs.map .int)), some (.int (k : Int)), none] st)) = _
    rw [e]
    exact gcR_loc (Nat.le_refl _)
  have ln : lenD (.con (xs.map D.int)) st = .ok (.int xs.length) st := by simp [lenD]
  obtain ⟨c, hc⟩ : ∃ c : Int, sSeq (sSet 2 (cC (.int 0))) (sIf (cTst (cOp2 ltD (cVar 1) (cB1 lenD (cVar 0)))) (sSet 2 (cB1 intD (cOp2 getD (cVar 0) (cVar 1)))) sNext) [some (.con (xs.map .int)), some (.int (k : Int)), none] st = .nx [some (.con (xs.map .int)), some (.int (k : Int)), some (.int c)] st := by
    by_cases h : k < xs.length
    · have g : getD (.con (xs.map D.int)) (.int (k : Int)) st = .ok (.int (xs[k])) st := by
        show atD (xs.map D.int) (.int (k : Int)) st = _
        rw [atD_nat]
        rw [List.getElem?_map, List.getElem?_eq_getElem h]; rfl
      exact ⟨xs[k], by simp [ln, ltD, h, g]⟩
    · exact ⟨0, by simp [ln, ltD, h]⟩
  have hc2 : ∀ rest : PM.S, sSeq (sSet 2 (cC (.int 0))) (sSeq (sIf (cTst (cOp2 ltD (cVar 1) (cB1 lenD (cVar 0)))) (sSet 2 (cB1 intD (cOp2 getD (cVar 0) (cVar 1)))) sNext) rest) [some (.con (xs.map .int)), some (.int (k : Int)), none] st = rest [some (.con (xs.map .int)), some (.int (k : Int)), some (.int c)] st := fun rest => by
    rw [sSeq_ap] at hc ⊢
    revert hc
    cases sSet 2 (cC (.int 0)) [some (.con (xs.map D.int)), some (.int (k : Int)), none] st with
    | nx ρ s =>
      intro hc
      dsimp only at hc ⊢
      rw [sSeq_ap, hc]
    | _ => intro hc; cases hc
  by_cases h : (1000000000000000000 : Int) ≤ c
  · refine ⟨c, c, k, fin ?_⟩
    unfold b__law_bag
    rw [hc2]
    simp [pow18, geD, h, bagO]
  · refine ⟨0, c, k, fin ?_⟩
    unfold b__law_bag
    rw [hc2]
    simp [pow18, geD, h, bagO]
noncomputable abbrev chkB : PM.S := (sIf (tOrD (tNotD (cTru (cB1 (isiD .tuple) (cVar 8)))) (tNotD (cTru (cCall (m__law_is_same 3) [(cVar 8), (cCall m__law_sealed [(cVar 4), (cVar 6), (cSlice (cVar 8) (cPart (cC (.int 4))) (cPart (cOp1 negD (cC (.int 8)))))])])))) (sRet (cC (.bl false))) sNext)
theorem chk_step {y : Ky} (hy : y.ok) {n : Nat} {B : List Nat} (hn : n < 4294967296) (hB : B.length ≤ 480) (s : Sto) {x0 x1 x2 x3 x5 x7 : Option D} :
    chkB [x0, x1, x2, x3, some y.D, x5, some (.int (n : Int)), x7, some (rowN (sealN y n B))] s = .nx [x0, x1, x2, x3, some y.D, x5, some (.int (n : Int)), x7, some (rowN (sealN y n B))] s := by
  have cb : sliceD (rowN (sealN y n B)) (some 4) (some (-8)) s = .ok (rowN B) s := by
    show R.ok (D.tup (cutD ((sealN y n B).map intN) (some ((4 : Nat) : Int)) (some (-((8 : Nat) : Int))))) s = _
    rw [cut_nm _ _ _ (by decide), List.length_map, ← List.map_drop, ← List.map_take, seal_b]; rfl
  have e2 := lsealed_ok hy (n := n) (B := B) (by omega) (by omega) s
  have e3 : m__law_is_same 3 [rowN (sealN y n B), rowN (sealN y n B)] s = .ok (.bl true) s := same_row (by rw [sealN_len]; omega) 1 s
  refine sIf_false (st' := s) ?_ rfl
  have t1 : tNotD (cTru (cB1 (isiD .tuple) (cVar 8))) [x0, x1, x2, x3, some y.D, x5, some (.int (n : Int)), x7, some (rowN (sealN y n B))] s = .ok false s := rfl
  rw [tOrD_ap, t1, R.bind_ok]
  show tNotD _ _ _ = _
  have p1 : cPart (cC (.int 4)) [x0, x1, x2, x3, some y.D, x5, some (.int (n : Int)), x7, some (rowN (sealN y n B))] s = .ok (some 4) s := rfl
  have p2 : cPart (cOp1 negD (cC (.int 8))) [x0, x1, x2, x3, some y.D, x5, some (.int (n : Int)), x7, some (rowN (sealN y n B))] s = .ok (some (-8)) s := rfl
  generalize sealN y n B = rr at *
  simp only [tNotD_ap, cTru_ap, cCall_ap, cArgs_cons, cArgs_nil, cSlice_ap, cVar_ap, List.getElem?_cons_zero, List.getElem?_cons_succ, R.bind_ok, p1, p2, cb, e2, e3, truD_bl]
  rfl
noncomputable abbrev bodyK : PM.S := (sSeq (sSet 3 (cCall m__law_bag [(cVar 0), (cVar 2)]))
  (sSeq (sSet 4 (cCall m__law_key [(cVar 3)]))
  (sSeq (sSet 5 (cCall m__law_rows [(cVar 3), (cVar 1), (cVar 4), (cCall m__law_lives [(cVar 3)])]))
  (sSeq (sFor (cItr (cVar 5)) (gT 3 (gsCons (gN 6) (gsCons (gN 7) (gsCons (gN 8) gsNil)))) chkB)
  (sIf (tOrD (tNotD (cTru (cCall m__law_comes [(cVar 3), (cVar 1), (cVar 4), (cVar 5)]))) (tNotD (cTru (cCall m__law_ends [(cVar 3), (cVar 4)])))) (sRet (cC (.bl false))) sNext)))))
theorem body_ok (xs : List Int) (k : Nat) (s : Sto) (x3 x4 x5 x6 x7 x8 : Option D) :
    ∃ y3 y4 y5 y6 y7 y8 s', bodyK [some (.con (xs.map .int)), some worldD, some (.int (k : Int)), x3, x4, x5, x6, x7, x8] s = .nx [some (.con (xs.map .int)), some worldD, some (.int (k : Int)), y3, y4, y5, y6, y7, y8] s' := by
  obtain ⟨x, y, z, e1⟩ := bag_ok xs k s
  have hb : Bg 3 s.length (s ++ [bagO x y z]) := ⟨[x, y, z], rfl, get_new⟩
  obtain ⟨ky, s1, e2, k1, hk⟩ := key_ok hb
  obtain ⟨q, s2, ls, e3, k2, hq, hls, hll, hlv⟩ := lives_ok k1.bag
  have hlt := k1.bag.lt
  obtain ⟨r, s3, rows, e4, k3, hr, hrw, hR, hRl⟩ := rows_ok hk k2.bag hls (by omega) hll hlv
  have hlt2 := k2.bag.lt
  obtain ⟨s4, e5, k4⟩ := comes_ok hk k3.bag hrw (by omega) hR hRl
  obtain ⟨s5, e6, k5⟩ := ends_ok hk k4.bag
  obtain ⟨ρ', s', e7, ⟨y6, y7, y8, hρ', hs'⟩⟩ := forGo_inv (chk := fun st => st[r]? = some (.lst rows)) (g := gT 3 (gsCons (gN 6) (gsCons (gN 7) (gsCons (gN 8) gsNil)))) (body := chkB) (fun i ρ u => ∃ y6 y7 y8, ρ = [some (.con (xs.map .int)), some worldD, some (.int (k : Int)), some (.loc s.length), some ky.D, some (.loc r), y6, y7, y8] ∧ u = s3) rows 0 (fun i ρ u ⟨_, _, _, _, hu⟩ => by rw [hu]; exact hrw) (fun i d hd ρ u ⟨y6, y7, y8, hρ, hu⟩ => by
    subst hρ
    rw [hu]
    obtain ⟨n, L, B, rfl, h1, h2, h3⟩ := hR d (List.mem_of_getElem? hd)
    exact ⟨[some (.con (xs.map .int)), some worldD, some (.int (k : Int)), some (.loc s.length), some ky.D, some (.loc r), some (.int (n : Int)), some L, some (rowN (sealN ky n B))], rfl, _, _, .inl (chk_step hk h2 h3.len s3), _, _, _, rfl, rfl⟩) [some (.con (xs.map .int)), some worldD, some (.int (k : Int)), some (.loc s.length), some ky.D, some (.loc r), x6, x7, x8] s3 ⟨_, _, _, rfl, rfl⟩
  rw [hρ', hs'] at e7
  refine ⟨some (.loc s.length), some ky.D, some (.loc r), y6, y7, y8, s5, ?_⟩
  refine sSeq_nx (ρ' := [some (.con (xs.map .int)), some worldD, some (.int (k : Int)), some (.loc s.length), x4, x5, x6, x7, x8]) (st' := s ++ [bagO x y z]) (sSet_ok ?_ rfl) ?_
  · simp only [cCall_ap, cArgs_cons, cArgs_nil, cVar_ap, List.getElem?_cons_zero, List.getElem?_cons_succ, R.bind_ok, e1]
  refine sSeq_nx (ρ' := [some (.con (xs.map .int)), some worldD, some (.int (k : Int)), some (.loc s.length), some ky.D, x5, x6, x7, x8]) (st' := s1) (sSet_ok ?_ rfl) ?_
  · simp only [cCall_ap, cArgs_cons, cArgs_nil, cVar_ap, List.getElem?_cons_zero, List.getElem?_cons_succ, R.bind_ok, e2]
  refine sSeq_nx (ρ' := [some (.con (xs.map .int)), some worldD, some (.int (k : Int)), some (.loc s.length), some ky.D, some (.loc r), x6, x7, x8]) (st' := s3) (sSet_ok ?_ rfl) ?_
  · simp only [cCall_ap, cArgs_cons, cArgs_nil, cVar_ap, List.getElem?_cons_zero, List.getElem?_cons_succ, R.bind_ok, e3, e4]
  refine sSeq_nx (sFor_ok (cItr_lst (cVar_at rfl) hrw) e7) (sIf_false (st' := s5) ?_ rfl)
  have t1 : tNotD (cTru (cCall m__law_comes [(cVar 3), (cVar 1), (cVar 4), (cVar 5)])) [some (.con (xs.map .int)), some worldD, some (.int (k : Int)), some (.loc s.length), some ky.D, some (.loc r), y6, y7, y8] s3 = .ok false s4 := by
    simp only [tNotD_ap, cTru_ap, cCall_ap, cArgs_cons, cArgs_nil, cVar_ap, List.getElem?_cons_zero, List.getElem?_cons_succ, R.bind_ok, e5, truD_bl]
    rfl
  have t2 : tNotD (cTru (cCall m__law_ends [(cVar 3), (cVar 4)])) [some (.con (xs.map .int)), some worldD, some (.int (k : Int)), some (.loc s.length), some ky.D, some (.loc r), y6, y7, y8] s4 = .ok false s5 := by
    simp only [tNotD_ap, cTru_ap, cCall_ap, cArgs_cons, cArgs_nil, cVar_ap, List.getElem?_cons_zero, List.getElem?_cons_succ, R.bind_ok, e6, truD_bl]
    rfl
  rw [tOrD_ap, t1, R.bind_ok]
  exact t2
theorem law_holds : ∀ ns : List Int, ns.length ≤ 63 → ∃ st, m_law [.con (ns.map D.int)] [] = .ok (.bl true) st := by
  intro ns hl
  have hn : ∃ n : Nat, cRng1 (cOp2 min2D (cOp2 max2D (cB1 lenD (cVar 0)) (cC (.int 1))) (cC (.int 3))) [some (.con (ns.map .int)), some worldD, none, none, none, none, none, none, none] [] = .ok ⟨fun _ => True, rngD 0 n⟩ [] := by
    have ln : lenD (.con (ns.map D.int)) [] = .ok (.int ns.length) [] := by simp [lenD]
    have e : cOp2 min2D (cOp2 max2D (cB1 lenD (cVar 0)) (cC (.int 1))) (cC (.int 3)) [some (.con (ns.map .int)), some worldD, none, none, none, none, none, none, none] [] = .ok (.int ((min (max ns.length 1) 3 : Nat) : Int)) [] := by
      simp only [cOp2_ap, cB1_ap, cVar_ap, cC_ap, List.getElem?_cons_zero, R.bind_ok, ln]
      show R.ok (D.int (min (max (ns.length : Int) 1) 3)) [] = _
      congr 2
      omega
    exact ⟨_, cRng1_ok e (by omega)⟩
  obtain ⟨n, hn⟩ := hn
  obtain ⟨ρ', s', e, y2, y3, y4, y5, y6, y7, y8, rfl⟩ := forGo_inv (chk := fun _ => True) (g := gN 2) (body := bodyK) (fun i ρ s' => ∃ x2 x3 x4 x5 x6 x7 x8, ρ = [some (.con (ns.map .int)), some worldD, x2, x3, x4, x5, x6, x7, x8]) (rngD 0 n) 0 (fun _ _ _ _ => trivial) (fun i d hd ρ s' ⟨x2, x3, x4, x5, x6, x7, x8, hρ⟩ => by
    obtain ⟨hi, rfl⟩ := rng_nth hd
    subst hρ
    rw [show (0 : Int) + (i : Int) = (i : Int) by omega]
    obtain ⟨y3, y4, y5, y6, y7, y8, s2, e2⟩ := body_ok ns i s' x3 x4 x5 x6 x7 x8
    exact ⟨_, rfl, _, s2, .inl e2, _, _, _, _, _, _, _, rfl⟩) [some (.con (ns.map .int)), some worldD, none, none, none, none, none, none, none] [] ⟨_, _, _, _, _, _, _, rfl⟩
  have eb : b_law [some (.con (ns.map .int)), none, none, none, none, none, none, none, none] [] = .rt (.bl true) s' := by
    unfold b_law
    refine sSeq_nx (ρ' := [some (.con (ns.map .int)), none, none, none, none, none, none, none, none]) (st' := []) (sIf_false (st' := []) ?_ rfl) ?_
    · have t1 : cTst (cOp2 neD (cC k_LIFE) (cC (.int 16777216))) [some (.con (ns.map .int)), none, none, none, none, none, none, none, none] [] = .ok false [] := by
        simp only [cTst_ap, cOp2_ap, cC_ap, R.bind_ok, k_LIFE, neD_int, decide_true]; rfl
      have t2 : cTst (cOp2 neD (cC k_MOST_COUNT) (cC (.int 4294967295))) [some (.con (ns.map .int)), none, none, none, none, none, none, none, none] [] = .ok false [] := by
        simp only [cTst_ap, cOp2_ap, cC_ap, R.bind_ok, k_MOST_COUNT, neD_int, decide_true]; rfl
      rw [tOrD_ap, t1, R.bind_ok]
      exact t2
    refine sSeq_nx (ρ' := [some (.con (ns.map .int)), some worldD, none, none, none, none, none, none, none]) (st' := []) (sSet_ok (d := worldD) ?_ rfl) ?_
    · simp only [cTup_ap, cArgs_cons, cArgs_nil, cC_ap, R.bind_ok, worldD]
    exact sSeq_nx (sFor_ok hn e) (sRet_ok (cC_ap _ _ _))
  show ∃ st, gcR [] (outR (b_law [some (.con (ns.map .int)), none, none, none, none, none, none, none, none] [])) = .ok (.bl true) st
  rw [eb]
  exact ⟨[], gcR_pure (st := []) (g := s') rfl⟩
end PMl

set_option Elab.async false
set_option linter.all false
set_option maxRecDepth 100000
set_option maxHeartbeats 4000000
/-! the walk of k54 (printed by gen.py) -/
namespace PMl
open PySem PySem.Spec PyProof.Rows L2 PM
def top (i : Nat) : Stmt := PySem.Challenge.pw_latemoves_k54_links_of_later_lives.main.body.getD i (.Pass ⟨0, 0, 0, 0⟩)
abbrev s__law_is_same : Stmt := top 72
abbrev s_is_integer : Stmt := top 7
abbrev s_fits : Stmt := top 44
abbrev s_is_letter : Stmt := top 45
abbrev s_Reader__seen : Stmt := inClass (top 27) 1
abbrev s_Reader_finish : Stmt := inClass (top 27) 11
abbrev s_Reader_number : Stmt := inClass (top 27) 3
abbrev s_Reader_take : Stmt := inClass (top 27) 2
abbrev s_take_field : Stmt := top 52
abbrev s_taken : Stmt := top 55
abbrev s_Reader_init : Stmt := inClass (top 27) 0
abbrev s_is_bytes : Stmt := top 8
abbrev s_unpack : Stmt := top 56
abbrev s_number_of : Stmt := top 10
abbrev s_turn : Stmt := top 17
abbrev s_one_round : Stmt := top 18
abbrev s_mix : Stmt := top 19
abbrev s_tag : Stmt := top 20
abbrev s_unsealed : Stmt := top 21
abbrev s_Opener_opened : Stmt := inClass (top 23) 1
abbrev s_Link_receive : Stmt := inClass (top 60) 2
abbrev s__law_draw : Stmt := top 63
abbrev s_Opener_init : Stmt := inClass (top 23) 0
abbrev s_Sealer_init : Stmt := inClass (top 22) 0
abbrev s_Link_init : Stmt := inClass (top 60) 0
abbrev s__law_comes : Stmt := top 75
abbrev s_bytes_of : Stmt := top 9
abbrev s_Sealer_seal : Stmt := inClass (top 22) 1
abbrev s__law_split : Stmt := top 68
abbrev s__law_turn : Stmt := top 64
abbrev s__law_round : Stmt := top 65
abbrev s__law_mix : Stmt := top 66
abbrev s__law_tag : Stmt := top 67
abbrev s__law_sealed : Stmt := top 69
abbrev s__law_is_used : Stmt := top 76
abbrev s__law_ends : Stmt := top 77
abbrev s_Writer_told : Stmt := inClass (top 26) 8
abbrev s_Writer_put : Stmt := inClass (top 26) 1
abbrev s_width_of : Stmt := top 25
abbrev s_Writer_number : Stmt := inClass (top 26) 2
abbrev s_put_field : Stmt := top 51
abbrev s_Writer_init : Stmt := inClass (top 26) 0
abbrev s_body_of : Stmt := top 53
abbrev s_pack : Stmt := top 54
abbrev s_fitted : Stmt := top 57
abbrev s_Link_send : Stmt := inClass (top 60) 1
abbrev s__law_rows : Stmt := top 74
abbrev s__law_lives : Stmt := top 73
abbrev s__law_wide : Stmt := top 70
abbrev s__law_key : Stmt := top 71
abbrev s__law_bag : Stmt := top 62
abbrev s_law : Stmt := top 78
structure Tx (w : World) (K : Frag) (mg : Str → Option Value) (ca : Nat → Addr) : Prop where
  f__law_is_same : TopF K mg "_law_is_same" s__law_is_same
  f_is_integer : TopF K mg "is_integer" s_is_integer
  f_fits : TopF K mg "fits" s_fits
  f_is_letter : TopF K mg "is_letter" s_is_letter
  f_Reader__seen : MetF K (ca 3) "_seen" "Reader._seen" s_Reader__seen
  f_Reader_finish : MetF K (ca 3) "finish" "Reader.finish" s_Reader_finish
  f_Reader_number : MetF K (ca 3) "number" "Reader.number" s_Reader_number
  f_Reader_take : MetF K (ca 3) "take" "Reader.take" s_Reader_take
  f_take_field : TopF K mg "take_field" s_take_field
  f_taken : TopF K mg "taken" s_taken
  f_Reader_init : MkF K mg (ca 3) "Reader" "Reader.__init__" s_Reader_init
  f_is_bytes : TopF K mg "is_bytes" s_is_bytes
  f_unpack : TopF K mg "unpack" s_unpack
  f_number_of : TopF K mg "number_of" s_number_of
  f_turn : TopF K mg "turn" s_turn
  f_one_round : TopF K mg "one_round" s_one_round
  f_mix : TopF K mg "mix" s_mix
  f_tag : TopF K mg "tag" s_tag
  f_unsealed : TopF K mg "unsealed" s_unsealed
  f_Opener_opened : MetF K (ca 1) "opened" "Opener.opened" s_Opener_opened
  f_Link_receive : MetF K (ca 4) "receive" "Link.receive" s_Link_receive
  f__law_draw : TopF K mg "_law_draw" s__law_draw
  f_Opener_init : MkF K mg (ca 1) "Opener" "Opener.__init__" s_Opener_init
  f_Sealer_init : MkD K mg (ca 0) "Sealer" "Sealer.__init__" s_Sealer_init [(.int 0)]
  f_Link_init : MkD K mg (ca 4) "Link" "Link.__init__" s_Link_init [(.int 0)]
  f__law_comes : TopF K mg "_law_comes" s__law_comes
  f_bytes_of : TopF K mg "bytes_of" s_bytes_of
  f_Sealer_seal : MetF K (ca 0) "seal" "Sealer.seal" s_Sealer_seal
  f__law_split : TopF K mg "_law_split" s__law_split
  f__law_turn : TopF K mg "_law_turn" s__law_turn
  f__law_round : TopF K mg "_law_round" s__law_round
  f__law_mix : TopF K mg "_law_mix" s__law_mix
  f__law_tag : TopF K mg "_law_tag" s__law_tag
  f__law_sealed : TopF K mg "_law_sealed" s__law_sealed
  f__law_is_used : TopF K mg "_law_is_used" s__law_is_used
  f__law_ends : TopF K mg "_law_ends" s__law_ends
  f_Writer_told : MetF K (ca 2) "told" "Writer.told" s_Writer_told
  f_Writer_put : MetF K (ca 2) "put" "Writer.put" s_Writer_put
  f_width_of : TopF K mg "width_of" s_width_of
  f_Writer_number : MetF K (ca 2) "number" "Writer.number" s_Writer_number
  f_put_field : TopF K mg "put_field" s_put_field
  f_Writer_init : MkF K mg (ca 2) "Writer" "Writer.__init__" s_Writer_init
  f_body_of : TopF K mg "body_of" s_body_of
  f_pack : TopF K mg "pack" s_pack
  f_fitted : TopF K mg "fitted" s_fitted
  f_Link_send : MetF K (ca 4) "send" "Link.send" s_Link_send
  f__law_rows : TopF K mg "_law_rows" s__law_rows
  f__law_lives : TopF K mg "_law_lives" s__law_lives
  f__law_wide : TopF K mg "_law_wide" s__law_wide
  f__law_key : TopF K mg "_law_key" s__law_key
  f__law_bag : TopF K mg "_law_bag" s__law_bag
  f_law : TopF K mg "law" s_law
  fl__at : ∀ c ∈ ([3] : List Nat), Cls K (ca c) ∧ NoAttr K (ca c) "_at"
  fl__greatest : ∀ c ∈ ([1] : List Nat), Cls K (ca c) ∧ NoAttr K (ca c) "_greatest"
  fl__held : ∀ c ∈ ([2] : List Nat), Cls K (ca c) ∧ NoAttr K (ca c) "_held"
  fl__key : ∀ c ∈ ([0, 1] : List Nat), Cls K (ca c) ∧ NoAttr K (ca c) "_key"
  fl__number : ∀ c ∈ ([0] : List Nat), Cls K (ca c) ∧ NoAttr K (ca c) "_number"
  fl__opener : ∀ c ∈ ([4] : List Nat), Cls K (ca c) ∧ NoAttr K (ca c) "_opener"
  fl__rest : ∀ c ∈ ([2] : List Nat), Cls K (ca c) ∧ NoAttr K (ca c) "_rest"
  fl__row : ∀ c ∈ ([2, 3] : List Nat), Cls K (ca c) ∧ NoAttr K (ca c) "_row"
  fl__sealer : ∀ c ∈ ([4] : List Nat), Cls K (ca c) ∧ NoAttr K (ca c) "_sealer"
  fl__taken : ∀ c ∈ ([1] : List Nat), Cls K (ca c) ∧ NoAttr K (ca c) "_taken"
  fl__world : ∀ c ∈ ([4] : List Nat), Cls K (ca c) ∧ NoAttr K (ca c) "_world"
  z_all : mg "all" = none
  z_bool : mg "bool" = none
  z_int : mg "int" = none
  z_isinstance : mg "isinstance" = none
  z_len : mg "len" = none
  z_max : mg "max" = none
  z_min : mg "min" = none
  z_range : mg "range" = none
  z_str : mg "str" = none
  z_tuple : mg "tuple" = none
  z_zip : mg "zip" = none
  k_FORMS : CstF K mg "FORMS" k_FORMS
  k_GREATEST_SUM : CstF K mg "GREATEST_SUM" k_GREATEST_SUM
  k_LIFE : CstF K mg "LIFE" k_LIFE
  k_MOST_BODY : CstF K mg "MOST_BODY" k_MOST_BODY
  k_MOST_COUNT : CstF K mg "MOST_COUNT" k_MOST_COUNT
  k_MOST_LETTER : CstF K mg "MOST_LETTER" k_MOST_LETTER
  k_MOST_PARTS : CstF K mg "MOST_PARTS" k_MOST_PARTS
  k_MOST_TICK : CstF K mg "MOST_TICK" k_MOST_TICK
  k_PRIME : CstF K mg "PRIME" k_PRIME
  k_WINDOW : CstF K mg "WINDOW" k_WINDOW
  k_WORDS : CstF K mg "WORDS" k_WORDS
  k_LAYOUT : TabF K w mg "LAYOUT" k_LAYOUT
  k_MANY : TabF K w mg "MANY" k_MANY
  t_FORMS : TxtF K mg "FORMS" t_FORMS
  n_BadBits : mg "BadBits" = some (.ref (ca 7))
  n_BadLetter : mg "BadLetter" = some (.ref (ca 6))
  n_TooFar : mg "TooFar" = some (.ref (ca 8))
  e_TooFar : ExF K mg (ca 8) "TooFar"
  x_TooFar_BadBits : PySem.W.exmOne K (.ref (ca 8)) (.ref (ca 7)) = some false
  x_TooFar_BadLetter : PySem.W.exmOne K (.ref (ca 8)) (.ref (ca 6)) = some false
  x_TooFar_TooFar : PySem.W.exmOne K (.ref (ca 8)) (.ref (ca 8)) = some true
section
variable {P : Program} {w : World} {K : Frag} {mg : Str → Option Value} {base : Heap} {ca : Nat → Addr}
theorem mt_ok_BadBits (T : Tx w K mg ca) : ∀ c b, mt_BadBits c = some b → PySem.W.exmOne K (.ref (ca c)) (.ref (ca 7)) = some b := by
  intro c b h
  unfold mt_BadBits at h
  split at h
  · cases h; exact T.x_TooFar_BadBits
  · cases h
theorem mt_ok_BadLetter (T : Tx w K mg ca) : ∀ c b, mt_BadLetter c = some b → PySem.W.exmOne K (.ref (ca c)) (.ref (ca 6)) = some b := by
  intro c b h
  unfold mt_BadLetter at h
  split at h
  · cases h; exact T.x_TooFar_BadLetter
  · cases h
theorem mt_ok_TooFar (T : Tx w K mg ca) : ∀ c b, mt_TooFar c = some b → PySem.W.exmOne K (.ref (ca c)) (.ref (ca 8)) = some b := by
  intro c b h
  unfold mt_TooFar at h
  split at h
  · cases h; exact T.x_TooFar_TooFar
  · cases h
theorem sc__law_is_same : FnScope ["told", "due", "k"] ["told", "due"] (defScope s__law_is_same) := ⟨rfl, rfl, rfl, by decide +kernel, rfl, by decide +kernel, by decide +kernel⟩
theorem fg__law_is_same (T : Tx w K mg ca) : ∀ n : Nat, (∀ {f : Addr} {fd : FuncData}, Fun K "_law_is_same" "_law_is_same" s__law_is_same f fd → FnOk P w K mg base (L2.CX P w) (n + 0) f fd ["told", "due"] (spOf K ca 2 (m__law_is_same n))) := by
  intro n
  induction n with
  | zero => exact fun _ => fn_bad
  | succ n ihn =>
    have ih : Fn P w K mg base ca (n + 0) "_law_is_same" ["told", "due"] (m__law_is_same n) := Fn.of T.f__law_is_same (fun _ _ _ _ _ _ us hl => match us, hl with | [_, _], _ => rfl) fun f fd F => ihn F
    · intro f fd F
      rw [show n + 1 + 0 = n + 0 + 1 by omega]
      have sc := sc__law_is_same
      refine fn_okn (k := n + 0) (n := 3) (p := 2) (s := b__law_is_same (m__law_is_same n)) F sc rfl rfl fun cdv A outer s0 H E hr ok => ?_
      have hu1 := hu1_of hr
      have hu64 := hu64_of hr
      have hu65 := hu65_of hr
      exact (qf_cons (qf_if (qt_truth (qe_isi (t := .tuple) (fun z => nomatch z) (qe_var 1) rfl T.z_isinstance rfl T.z_tuple (by decide +kernel))) (qf_cons (qf_if (qt_w (qw_or (qt_not (qt_truth (qe_isi (t := .tuple) (fun z => nomatch z) (qe_var 0) rfl T.z_isinstance rfl T.z_tuple (by decide +kernel)))) (qw_or1 (qt_cmp (d_ne hu64) (qe_len (qe_var 0) rfl T.z_len) (qe_len (qe_var 1) rfl T.z_len) rfl)))) (qf_one (qf_ret qe_bl)) qf_nil)
      (qf_one (qf_ret (qe_all rfl (qm_l (ql_comp (t := (.one 2)) (own := [("k", 2)]) rfl sc.nd (qi_range1 rfl T.z_range (qe_len (qe_var 1) rfl T.z_len)) (blkOk_by (N := ["told", "due", "k"]) (sc := defScope s__law_is_same) (by decide +kernel)) (fun _ _ _ _ _ => pg_name (i := 2) sc.nd rfl (Or.inl rfl)) (fun _ _ _ _ _ => qts_nil) (fun _ _ _ _ _ => (qe_call ih hr (Ok.blk rfl) (qa_cons (qe_ix hu1 (qe_var 0) (qe_var 2)) (qa_cons (qe_ix hu1 (qe_var 1) (qe_var 2)) qa_nil)) rfl)) (by decide))) rfl T.z_all)))) qf_nil)
      (qf_cons (qf_if (qt_truth (qe_isi (t := .str) (fun z => nomatch z) (qe_var 1) rfl T.z_isinstance rfl T.z_str (by decide +kernel))) (qf_one (qf_ret (qe_and (qe_isi (t := .str) (fun z => nomatch z) (qe_var 0) rfl T.z_isinstance rfl T.z_str (by decide +kernel)) (qe_one (qe_cmp (d_eq hu64) (qe_var 0) (qe_var 1) rfl))))) qf_nil)
      (qf_cons (qf_if (qt_cmp d_isN (qe_var 1) qe_non rfl) (qf_one (qf_ret (qe_cmp d_isN (qe_var 0) qe_non rfl))) qf_nil)
      (qf_one (qf_ret (qe_and (qe_isi (t := .int) (fun z => nomatch z) (qe_var 0) rfl T.z_isinstance rfl T.z_int (by decide +kernel)) (qe_and (qe_not (qe_isi (t := .bool) (fun z => nomatch z) (qe_var 0) rfl T.z_isinstance rfl T.z_bool (by decide +kernel))) (qe_one (qe_cmp (d_eq hu64) (qe_var 0) (qe_var 1) rfl)))))))))
theorem ok__law_is_same (T : Tx w K mg ca) (n : Nat) : Fn P w K mg base ca (n + 0) "_law_is_same" ["told", "due"] (m__law_is_same n) := Fn.of T.f__law_is_same (fun _ _ _ _ _ _ us hl => match us, hl with | [_, _], _ => rfl) fun f fd F => (fg__law_is_same T n) F
theorem sc_is_integer : FnScope ["value", "low", "high"] ["value", "low", "high"] (defScope s_is_integer) := ⟨rfl, rfl, rfl, by decide +kernel, rfl, by decide +kernel, by decide +kernel⟩
theorem fn_is_integer (T : Tx w K mg ca) {f : Addr} {fd : FuncData} (F : Fun K "is_integer" "is_integer" s_is_integer f fd) : FnOk P w K mg base (L2.CX P w) 1 f fd ["value", "low", "high"] (spOf K ca 3 m_is_integer) := by
  have sc := sc_is_integer
  refine fn_okn (k := 0) (n := 3) (p := 3) (s := b_is_integer) F sc rfl rfl fun cdv A outer s0 H E hr ok => ?_
  have hu1 := hu1_of hr
  have hu64 := hu64_of hr
  have hu65 := hu65_of hr
  exact (qf_one (qf_ret (qe_and (qe_isi (t := .int) (fun z => nomatch z) (qe_var 0) rfl T.z_isinstance rfl T.z_int (by decide +kernel)) (qe_and (qe_not (qe_isi (t := .bool) (fun z => nomatch z) (qe_var 0) rfl T.z_isinstance rfl T.z_bool (by decide +kernel))) (qe_one (qe_chain d_le d_le (cmpI_bool _) (qe_var 1) (qe_var 0) (qe_var 2)))))))
theorem ok_is_integer (T : Tx w K mg ca) : Fn P w K mg base ca 1 "is_integer" ["value", "low", "high"] m_is_integer := Fn.of T.f_is_integer (fun _ _ _ _ _ _ us hl => match us, hl with | [_, _, _], _ => rfl) fun f fd F => fn_is_integer T F
theorem sc_fits : FnScope ["world", "kind", "told"] ["world", "kind", "told"] (defScope s_fits) := ⟨rfl, rfl, rfl, by decide +kernel, rfl, by decide +kernel, by decide +kernel⟩
theorem fn_fits (T : Tx w K mg ca) {f : Addr} {fd : FuncData} (F : Fun K "fits" "fits" s_fits f fd) : FnOk P w K mg base (L2.CX P w) 2 f fd ["world", "kind", "told"] (spOf K ca 3 m_fits) := by
  have sc := sc_fits
  refine fn_okn (k := 1) (n := 3) (p := 3) (s := b_fits) F sc rfl rfl fun cdv A outer s0 H E hr ok => ?_
  have hu1 := hu1_of hr
  have hu64 := hu64_of hr
  have hu65 := hu65_of hr
  exact (qf_cons (qf_if (qt_cmp (d_eq hu64) (qe_var 1) qe_str rfl) (qf_one (qf_ret (qe_call (ok_is_integer T) (hr.mono (by decide)) ok (qa_cons (qe_var 2) (qa_cons qe_int (qa_cons (qe_op2 d_sub (qe_ix hu1 (qe_var 0) qe_int) qe_int) qa_nil))) rfl))) qf_nil)
  (qf_cons (qf_if (qt_cmp (d_eq hu64) (qe_var 1) qe_str rfl) (qf_one (qf_ret (qe_call (ok_is_integer T) (hr.mono (by decide)) ok (qa_cons (qe_var 2) (qa_cons qe_int (qa_cons (qe_cst T.k_MOST_TICK rfl) qa_nil))) rfl))) qf_nil)
  (qf_cons (qf_if (qt_cmp (d_eq hu64) (qe_var 1) qe_str rfl) (qf_one (qf_ret (qe_call (ok_is_integer T) (hr.mono (by decide)) ok (qa_cons (qe_var 2) (qa_cons (qe_un d_neg qe_int) (qa_cons (qe_cst T.k_MOST_TICK rfl) qa_nil))) rfl))) qf_nil)
  (qf_cons (qf_if (qt_cmp (d_eq hu64) (qe_var 1) qe_str rfl) (qf_one (qf_ret (qe_call (ok_is_integer T) (hr.mono (by decide)) ok (qa_cons (qe_var 2) (qa_cons qe_int (qa_cons (qe_cst T.k_GREATEST_SUM rfl) qa_nil))) rfl))) qf_nil)
  (qf_cons (qf_if (qt_cmp (d_eq hu64) (qe_var 1) qe_str rfl) (qf_one (qf_ret (qe_call (ok_is_integer T) (hr.mono (by decide)) ok (qa_cons (qe_var 2) (qa_cons qe_int (qa_cons (qe_op2 d_sub (qe_cst T.k_MOST_PARTS rfl) qe_int) qa_nil))) rfl))) qf_nil)
  (qf_cons (qf_if (qt_cmp (d_eq hu64) (qe_var 1) qe_str rfl) (qf_one (qf_ret qe_bad)) qf_nil)
  (qf_cons (qf_if (qt_cmp (d_eq hu64) (qe_var 1) qe_str rfl) (qf_one (qf_ret qe_bad)) qf_nil)
  (qf_cons (qf_if (qt_cmp (d_eq hu64) (qe_var 1) qe_str rfl) (qf_one (qf_ret qe_bad)) qf_nil)
  (qf_one (qf_ret qe_bad))))))))))
theorem ok_fits (T : Tx w K mg ca) : Fn P w K mg base ca 2 "fits" ["world", "kind", "told"] m_fits := Fn.of T.f_fits (fun _ _ _ _ _ _ us hl => match us, hl with | [_, _, _], _ => rfl) fun f fd F => fn_fits T F
theorem sc_is_letter : FnScope ["world", "value", "many", "kind", "told"] ["world", "value"] (defScope s_is_letter) := ⟨rfl, rfl, rfl, by decide +kernel, rfl, by decide +kernel, by decide +kernel⟩
theorem fn_is_letter (T : Tx w K mg ca) {f : Addr} {fd : FuncData} (F : Fun K "is_letter" "is_letter" s_is_letter f fd) : FnOk P w K mg base (L2.CX P w) 3 f fd ["world", "value"] (spOf K ca 2 m_is_letter) := by
  have sc := sc_is_letter
  refine fn_okn (k := 2) (n := 5) (p := 2) (s := b_is_letter) F sc rfl rfl fun cdv A outer s0 H E hr ok => ?_
  have hu1 := hu1_of hr
  have hu64 := hu64_of hr
  have hu65 := hu65_of hr
  exact (qf_cons (qf_if (qt_w (qw_or (qt_not (qt_truth (qe_isi (t := .tuple) (fun z => nomatch z) (qe_var 1) rfl T.z_isinstance rfl T.z_tuple (by decide +kernel)))) (qw_or (qt_cmp (d_eq hu64) (qe_len (qe_var 1) rfl T.z_len) qe_int rfl) (qw_or1 (qt_not (qt_truth (qe_isi (t := .str) (fun z => nomatch z) (qe_ix hu1 (qe_var 1) qe_int) rfl T.z_isinstance rfl T.z_str (by decide +kernel)))))))) (qf_one (qf_ret qe_bl)) qf_nil)
  (qf_cons (qf_if (qt_w (qw_or (qt_tabNotIn T.k_LAYOUT (qe_ix hu1 (qe_var 1) qe_int) rfl) (qw_or1 (qt_cmp (d_ne hu64) (qe_len (qe_var 1) rfl T.z_len) (qe_op2 d_add (qe_len (qe_tab T.k_LAYOUT (qe_ix hu1 (qe_var 1) qe_int) rfl) rfl T.z_len) qe_int) rfl)))) (qf_one (qf_ret qe_bl)) qf_nil)
  (qf_cons (qf_set 2 sc.nd qe_int)
  (qf_cons (qf_for ok (qi_zip rfl T.z_zip (qa_cons (qe_tab T.k_LAYOUT (qe_ix hu1 (qe_var 1) qe_int) rfl) (qa_cons (qe_slice (qe_var 1) (qo_some qe_int) qo_none) qa_nil))) (qg_tup rfl (qgs_cons (qg_name 3 sc.nd) (qgs_cons (qg_name 4 sc.nd) qgs_nil))) (qf_one (qf_if (qt_tabIn T.k_MANY (qe_var 3) rfl) (qf_cons (qf_if (qt_not (qt_truth (qe_call (ok_is_integer T) (hr.mono (by decide)) ok (qa_cons (qe_var 4) (qa_cons qe_int (qa_cons (qe_tab T.k_MANY (qe_var 3) rfl) qa_nil))) rfl))) (qf_one (qf_ret qe_bl)) qf_nil)
  (qf_one (qf_set 2 sc.nd (qe_var 4)))) (qf_one (qf_if (qt_cmp (d_eq hu64) (qe_var 3) qe_str rfl) (qf_one (qf_if (qt_not (qt_truth (qe_call (ok_is_integer T) (hr.mono (by decide)) ok (qa_cons (qe_var 4) (qa_cons qe_int (qa_cons (qe_op2 d_sub (qe_var 2) qe_int) qa_nil))) rfl))) (qf_one (qf_ret qe_bl)) qf_nil)) (qf_one (qf_if (qt_not (qt_truth (qe_call (ok_fits T) (hr.mono (by decide)) ok (qa_cons (qe_var 0) (qa_cons (qe_var 3) (qa_cons (qe_var 4) qa_nil))) rfl))) (qf_one (qf_ret qe_bl)) qf_nil)))))))
  (qf_one (qf_ret qe_bl))))))
theorem ok_is_letter (T : Tx w K mg ca) : Fn P w K mg base ca 3 "is_letter" ["world", "value"] m_is_letter := Fn.of T.f_is_letter (fun _ _ _ _ _ _ us hl => match us, hl with | [_, _], _ => rfl) fun f fd F => fn_is_letter T F
theorem sc_Reader__seen : FnScope ["self", "at", "width", "field", "last", "value", "byte"] ["self", "at", "width", "field"] (defScope s_Reader__seen) := ⟨rfl, rfl, rfl, by decide +kernel, rfl, by decide +kernel, by decide +kernel⟩
theorem fn_Reader__seen (T : Tx w K mg ca) {f : Addr} {fd : FuncData} (F : Fun K "_seen" "Reader._seen" s_Reader__seen f fd) : FnOk P w K mg base (L2.CX P w) 1 f fd ["self", "at", "width", "field"] (spOf K ca 4 m_Reader__seen) := by
  have sc := sc_Reader__seen
  refine fn_okn (k := 0) (n := 7) (p := 4) (s := b_Reader__seen) F sc rfl rfl fun cdv A outer s0 H E hr ok => ?_
  have hu1 := hu1_of hr
  have hu64 := hu64_of hr
  have hu65 := hu65_of hr
  exact (qf_cons (qf_if (qt_cmp d_gt (qe_op2 d_add (qe_var 1) (qe_var 2)) (qe_op2 d_mul qe_int (qe_len (qe_fld T.fl__row (qe_var 0)) rfl T.z_len)) rfl) qfs_bad qf_nil)
  (qf_cons (qf_set 4 sc.nd (qe_op2 d_fdiv (qe_op2 d_add (qe_op2 d_add (qe_var 1) (qe_var 2)) qe_int) qe_int))
  (qf_cons (qf_set 5 sc.nd qe_int)
  (qf_cons (qf_for ok (qi_e (qe_slice (qe_fld T.fl__row (qe_var 0)) (qo_some (qe_op2 d_fdiv (qe_var 1) qe_int)) (qo_some (qe_var 4)))) (qg_name 6 sc.nd) (qf_one (qf_set 5 sc.nd (qe_op2 d_add (qe_op2 d_mul (qe_var 5) qe_int) (qe_var 6)))))
  (qf_one (qf_ret (qe_op2 d_and (qe_op2 d_shr (qe_var 5) (qe_op2 d_sub (qe_op2 d_sub (qe_op2 d_mul qe_int (qe_var 4)) (qe_var 1)) (qe_var 2))) (qe_op2 d_sub (qe_op2 d_shl qe_int (qe_var 2)) qe_int))))))))
theorem ok_Reader__seen (T : Tx w K mg ca) : Md P w K mg base ca 1 3 "_seen" ["self", "at", "width", "field"] m_Reader__seen := Md.of T.f_Reader__seen (fun _ _ _ _ _ _ us hl => match us, hl with | [_, _, _, _], _ => rfl) fun f fd F => fn_Reader__seen T F
theorem sc_Reader_finish : FnScope ["self", "left"] ["self"] (defScope s_Reader_finish) := ⟨rfl, rfl, rfl, by decide +kernel, rfl, by decide +kernel, by decide +kernel⟩
theorem fn_Reader_finish (T : Tx w K mg ca) {f : Addr} {fd : FuncData} (F : Fun K "finish" "Reader.finish" s_Reader_finish f fd) : FnOk P w K mg base (L2.CX P w) 2 f fd ["self"] (spOf K ca 1 m_Reader_finish) := by
  have sc := sc_Reader_finish
  refine fn_okn (k := 1) (n := 2) (p := 1) (s := b_Reader_finish) F sc rfl rfl fun cdv A outer s0 H E hr ok => ?_
  have hu1 := hu1_of hr
  have hu64 := hu64_of hr
  have hu65 := hu65_of hr
  exact (qf_cons (qf_set 1 sc.nd (qe_op2 d_sub (qe_op2 d_mul qe_int (qe_len (qe_fld T.fl__row (qe_var 0)) rfl T.z_len)) (qe_fld T.fl__at (qe_var 0))))
  (qf_one (qf_if (qt_w (qw_or (qt_cmp d_ge (qe_var 1) qe_int rfl) (qw_or1 (qt_cmp (d_ne hu64) (qe_meth (ok_Reader__seen T) (hr.mono (by decide)) ok (qe_var 0) (qa_cons (qe_fld T.fl__at (qe_var 0)) (qa_cons (qe_var 1) (qa_cons (qe_fld T.fl__at (qe_var 0)) qa_nil)))) qe_int rfl)))) qfs_bad qf_nil)))
theorem ok_Reader_finish (T : Tx w K mg ca) : Md P w K mg base ca 2 3 "finish" ["self"] m_Reader_finish := Md.of T.f_Reader_finish (fun _ _ _ _ _ _ us hl => match us, hl with | [_], _ => rfl) fun f fd F => fn_Reader_finish T F
theorem sc_Reader_number : FnScope ["self", "at", "width", "rest"] ["self"] (defScope s_Reader_number) := ⟨rfl, rfl, rfl, by decide +kernel, rfl, by decide +kernel, by decide +kernel⟩
theorem fn_Reader_number (T : Tx w K mg ca) {f : Addr} {fd : FuncData} (F : Fun K "number" "Reader.number" s_Reader_number f fd) : FnOk P w K mg base (L2.CX P w) 2 f fd ["self"] (spOf K ca 1 m_Reader_number) := by
  have sc := sc_Reader_number
  refine fn_okn (k := 1) (n := 4) (p := 1) (s := b_Reader_number) F sc rfl rfl fun cdv A outer s0 H E hr ok => ?_
  have hu1 := hu1_of hr
  have hu64 := hu64_of hr
  have hu65 := hu65_of hr
  exact (qf_cons (qf_set 1 sc.nd (qe_fld T.fl__at (qe_var 0)))
  (qf_cons (qf_set 2 sc.nd (qe_meth (ok_Reader__seen T) (hr.mono (by decide)) ok (qe_var 0) (qa_cons (qe_var 1) (qa_cons qe_int (qa_cons (qe_var 1) qa_nil)))))
  (qf_cons (qf_if (qt_cmp (d_eq hu64) (qe_var 2) qe_int rfl) qfs_bad qf_nil)
  (qf_cons (qf_set 3 sc.nd (qe_meth (ok_Reader__seen T) (hr.mono (by decide)) ok (qe_var 0) (qa_cons (qe_op2 d_add (qe_var 1) qe_int) (qa_cons (qe_var 2) (qa_cons (qe_var 1) qa_nil)))))
  (qf_cons (qf_fld T.fl__at (qe_var 0) (qe_op2 d_add (qe_op2 d_add (qe_var 1) qe_int) (qe_var 2)))
  (qf_one (qf_ret (qe_op2 d_sub (qe_op2 d_add (qe_op2 d_shl qe_int (qe_var 2)) (qe_var 3)) qe_int))))))))
theorem ok_Reader_number (T : Tx w K mg ca) : Md P w K mg base ca 2 3 "number" ["self"] m_Reader_number := Md.of T.f_Reader_number (fun _ _ _ _ _ _ us hl => match us, hl with | [_], _ => rfl) fun f fd F => fn_Reader_number T F
theorem sc_Reader_take : FnScope ["self", "width", "value"] ["self", "width"] (defScope s_Reader_take) := ⟨rfl, rfl, rfl, by decide +kernel, rfl, by decide +kernel, by decide +kernel⟩
theorem fn_Reader_take (T : Tx w K mg ca) {f : Addr} {fd : FuncData} (F : Fun K "take" "Reader.take" s_Reader_take f fd) : FnOk P w K mg base (L2.CX P w) 2 f fd ["self", "width"] (spOf K ca 2 m_Reader_take) := by
  have sc := sc_Reader_take
  refine fn_okn (k := 1) (n := 3) (p := 2) (s := b_Reader_take) F sc rfl rfl fun cdv A outer s0 H E hr ok => ?_
  have hu1 := hu1_of hr
  have hu64 := hu64_of hr
  have hu65 := hu65_of hr
  exact (qf_cons (qf_set 2 sc.nd (qe_meth (ok_Reader__seen T) (hr.mono (by decide)) ok (qe_var 0) (qa_cons (qe_fld T.fl__at (qe_var 0)) (qa_cons (qe_var 1) (qa_cons (qe_fld T.fl__at (qe_var 0)) qa_nil)))))
  (qf_cons (qf_fldaug T.fl__at in_iadd (qe_var 0) (qe_var 1))
  (qf_one (qf_ret (qe_var 2)))))
theorem ok_Reader_take (T : Tx w K mg ca) : Md P w K mg base ca 2 3 "take" ["self", "width"] m_Reader_take := Md.of T.f_Reader_take (fun _ _ _ _ _ _ us hl => match us, hl with | [_, _], _ => rfl) fun f fd F => fn_Reader_take T F
theorem sc_take_field : FnScope ["reader", "world", "kind", "many", "_"] ["reader", "world", "kind"] (defScope s_take_field) := ⟨rfl, rfl, rfl, by decide +kernel, rfl, by decide +kernel, by decide +kernel⟩
theorem fn_take_field (T : Tx w K mg ca) {f : Addr} {fd : FuncData} (F : Fun K "take_field" "take_field" s_take_field f fd) : FnOk P w K mg base (L2.CX P w) 3 f fd ["reader", "world", "kind"] (spOf K ca 3 m_take_field) := by
  have sc := sc_take_field
  refine fn_okn (k := 2) (n := 5) (p := 3) (s := b_take_field) F sc rfl rfl fun cdv A outer s0 H E hr ok => ?_
  have hu1 := hu1_of hr
  have hu64 := hu64_of hr
  have hu65 := hu65_of hr
  exact (qf_cons (qf_if (qt_cmp (d_eq hu64) (qe_var 2) qe_str rfl) (qf_one (qf_ret (qe_meth (ok_Reader_take T) (hr.mono (by decide)) ok (qe_var 0) (qa_cons qe_int qa_nil)))) qf_nil)
  (qf_cons (qf_if (qt_cmp (d_eq hu64) (qe_var 2) qe_str rfl) (qf_one (qf_ret (qe_meth0 (ok_Reader_number T) (hr.mono (by decide)) ok (qe_var 0)))) qf_nil)
  qfs_bad))
theorem ok_take_field (T : Tx w K mg ca) : Fn P w K mg base ca 3 "take_field" ["reader", "world", "kind"] m_take_field := Fn.of T.f_take_field (fun _ _ _ _ _ _ us hl => match us, hl with | [_, _, _], _ => rfl) fun f fd F => fn_take_field T F
theorem sc_taken : FnScope ["reader", "world", "form", "told", "kind"] ["reader", "world"] (defScope s_taken) := ⟨rfl, rfl, rfl, by decide +kernel, rfl, by decide +kernel, by decide +kernel⟩
theorem fn_taken (T : Tx w K mg ca) {f : Addr} {fd : FuncData} (F : Fun K "taken" "taken" s_taken f fd) : FnOk P w K mg base (L2.CX P w) 4 f fd ["reader", "world"] (spOf K ca 2 m_taken) := by
  have sc := sc_taken
  refine fn_okn (k := 3) (n := 5) (p := 2) (s := b_taken) F sc rfl rfl fun cdv A outer s0 H E hr ok => ?_
  have hu1 := hu1_of hr
  have hu64 := hu64_of hr
  have hu65 := hu65_of hr
  exact (qf_cons (qf_set 2 sc.nd (qe_ix hu1 (qe_cst T.k_FORMS rfl) (qe_meth (ok_Reader_take T) (hr.mono (by decide)) ok (qe_var 0) (qa_cons qe_int qa_nil))))
  (qf_cons (qf_set 3 sc.nd (qe_new (ql_lst (qa_cons (qe_var 2) qa_nil) (hz := Nat.le_of_ble_eq_true rfl))))
  (qf_cons (qf_for ok (qi_e (qe_tab T.k_LAYOUT (qe_var 2) rfl)) (qg_name 4 sc.nd) (qf_one (qf_exp (qe_app (qe_var 3) (qe_call (ok_take_field T) (hr.mono (by decide)) ok (qa_cons (qe_var 0) (qa_cons (qe_var 1) (qa_cons (qe_var 4) qa_nil))) rfl)))))
  (qf_cons (qf_exp (qe_meth0 (ok_Reader_finish T) (hr.mono (by decide)) ok (qe_var 0)))
  (qf_one (qf_ret (qe_tuple (qs_e (qe_var 3)) rfl T.z_tuple)))))))
theorem ok_taken (T : Tx w K mg ca) : Fn P w K mg base ca 4 "taken" ["reader", "world"] m_taken := Fn.of T.f_taken (fun _ _ _ _ _ _ us hl => match us, hl with | [_, _], _ => rfl) fun f fd F => fn_taken T F
theorem sc_Reader_init : FnScope ["self", "row"] ["self", "row"] (defScope s_Reader_init) := ⟨rfl, rfl, rfl, by decide +kernel, rfl, by decide +kernel, by decide +kernel⟩
theorem fn_Reader_init (T : Tx w K mg ca) {f : Addr} {fd : FuncData} (F : Fun K "__init__" "Reader.__init__" s_Reader_init f fd) : FnOk P w K mg base (L2.CX P w) 1 f fd ["self", "row"] (spOf K ca 2 m_Reader_init) := by
  have sc := sc_Reader_init
  refine fn_okn (k := 0) (n := 2) (p := 2) (s := b_Reader_init) F sc rfl rfl fun cdv A outer s0 H E hr ok => ?_
  have hu1 := hu1_of hr
  have hu64 := hu64_of hr
  have hu65 := hu65_of hr
  exact (qf_cons (qf_fld T.fl__row (qe_var 0) (qe_var 1))
  (qf_one (qf_fld T.fl__at (qe_var 0) qe_int)))
theorem ok_Reader_init (T : Tx w K mg ca) : Cm P w K mg base ca 1 3 "Reader" ["self", "row"] m_Reader_init := Cm.of T.f_Reader_init (fun _ _ _ _ _ _ us hl => match us, hl with | [_, _], _ => rfl) fun f fd F => fn_Reader_init T F
theorem sc_is_bytes : FnScope ["value", "byte"] ["value"] (defScope s_is_bytes) := ⟨rfl, rfl, rfl, by decide +kernel, rfl, by decide +kernel, by decide +kernel⟩
theorem fn_is_bytes (T : Tx w K mg ca) {f : Addr} {fd : FuncData} (F : Fun K "is_bytes" "is_bytes" s_is_bytes f fd) : FnOk P w K mg base (L2.CX P w) 2 f fd ["value"] (spOf K ca 1 m_is_bytes) := by
  have sc := sc_is_bytes
  refine fn_okn (k := 1) (n := 2) (p := 1) (s := b_is_bytes) F sc rfl rfl fun cdv A outer s0 H E hr ok => ?_
  have hu1 := hu1_of hr
  have hu64 := hu64_of hr
  have hu65 := hu65_of hr
  exact (qf_one (qf_ret (qe_and (qe_isi (t := .tuple) (fun z => nomatch z) (qe_var 0) rfl T.z_isinstance rfl T.z_tuple (by decide +kernel)) (qe_one (qe_all rfl (qm_l (ql_comp (t := (.one 1)) (own := [("byte", 1)]) rfl sc.nd (qi_e (qe_var 0)) (blkOk_by (N := ["value", "byte"]) (sc := defScope s_is_bytes) (by decide +kernel)) (fun _ _ _ _ _ => pg_name (i := 1) sc.nd rfl (Or.inl rfl)) (fun _ _ _ _ _ => qts_nil) (fun _ _ _ _ _ => (qe_call (ok_is_integer T) (hr.mono (by decide)) (Ok.blk rfl) (qa_cons (qe_var 1) (qa_cons qe_int (qa_cons qe_int qa_nil))) rfl)) (by decide))) rfl T.z_all)))))
theorem ok_is_bytes (T : Tx w K mg ca) : Fn P w K mg base ca 2 "is_bytes" ["value"] m_is_bytes := Fn.of T.f_is_bytes (fun _ _ _ _ _ _ us hl => match us, hl with | [_], _ => rfl) fun f fd F => fn_is_bytes T F
theorem sc_unpack : FnScope ["world", "row", "letter"] ["world", "row"] (defScope s_unpack) := ⟨rfl, rfl, rfl, by decide +kernel, rfl, by decide +kernel, by decide +kernel⟩
theorem fn_unpack (T : Tx w K mg ca) {f : Addr} {fd : FuncData} (F : Fun K "unpack" "unpack" s_unpack f fd) : FnOk P w K mg base (L2.CX P w) 5 f fd ["world", "row"] (spOf K ca 2 m_unpack) := by
  have sc := sc_unpack
  refine fn_okn (k := 4) (n := 3) (p := 2) (s := b_unpack) F sc rfl rfl fun cdv A outer s0 H E hr ok => ?_
  have hu1 := hu1_of hr
  have hu64 := hu64_of hr
  have hu65 := hu65_of hr
  exact (qf_cons (qf_if (qt_w (qw_or (qt_not (qt_truth (qe_call (ok_is_bytes T) (hr.mono (by decide)) ok (qa_cons (qe_var 1) qa_nil) rfl))) (qw_or1 (qt_cmp d_gt (qe_len (qe_var 1) rfl T.z_len) (qe_cst T.k_MOST_BODY rfl) rfl)))) qfs_bad qf_nil)
  (qf_cons (qf_try ok rfl rfl ⟨rfl, by decide, .inl T.n_BadBits⟩ (mt_ok_BadBits T) (fun _ _ _ ok2 => (qf_one (qf_set 2 sc.nd (qe_call (ok_taken T) (hr.mono (by decide)) ok2 (qa_cons (qe_make (ok_Reader_init T) (hr.mono (by decide)) ok2 (qa_cons (qe_var 1) qa_nil) rfl) (qa_cons (qe_var 0) qa_nil)) rfl)))) (fun _ _ _ _ _ => qfs_bad))
  (qf_cons (qf_if (qt_not (qt_truth (qe_call (ok_is_letter T) (hr.mono (by decide)) ok (qa_cons (qe_var 0) (qa_cons (qe_var 2) qa_nil)) rfl))) qfs_bad qf_nil)
  (qf_one (qf_ret (qe_var 2))))))
theorem ok_unpack (T : Tx w K mg ca) : Fn P w K mg base ca 5 "unpack" ["world", "row"] m_unpack := Fn.of T.f_unpack (fun _ _ _ _ _ _ us hl => match us, hl with | [_, _], _ => rfl) fun f fd F => fn_unpack T F
theorem sc_number_of : FnScope ["row", "n", "byte"] ["row"] (defScope s_number_of) := ⟨rfl, rfl, rfl, by decide +kernel, rfl, by decide +kernel, by decide +kernel⟩
theorem fn_number_of (T : Tx w K mg ca) {f : Addr} {fd : FuncData} (F : Fun K "number_of" "number_of" s_number_of f fd) : FnOk P w K mg base (L2.CX P w) 1 f fd ["row"] (spOf K ca 1 m_number_of) := by
  have sc := sc_number_of
  refine fn_okn (k := 0) (n := 3) (p := 1) (s := b_number_of) F sc rfl rfl fun cdv A outer s0 H E hr ok => ?_
  have hu1 := hu1_of hr
  have hu64 := hu64_of hr
  have hu65 := hu65_of hr
  exact (qf_cons (qf_set 1 sc.nd qe_int)
  (qf_cons (qf_for ok (qi_e (qe_var 0)) (qg_name 2 sc.nd) (qf_one (qf_set 1 sc.nd (qe_op2 d_add (qe_op2 d_mul (qe_var 1) qe_int) (qe_var 2)))))
  (qf_one (qf_ret (qe_var 1)))))
theorem ok_number_of (T : Tx w K mg ca) : Fn P w K mg base ca 1 "number_of" ["row"] m_number_of := Fn.of T.f_number_of (fun _ _ _ _ _ _ us hl => match us, hl with | [_], _ => rfl) fun f fd F => fn_number_of T F
theorem sc_turn : FnScope ["x", "n"] ["x", "n"] (defScope s_turn) := ⟨rfl, rfl, rfl, by decide +kernel, rfl, by decide +kernel, by decide +kernel⟩
theorem fn_turn (T : Tx w K mg ca) {f : Addr} {fd : FuncData} (F : Fun K "turn" "turn" s_turn f fd) : FnOk P w K mg base (L2.CX P w) 1 f fd ["x", "n"] (spOf K ca 2 m_turn) := by
  have sc := sc_turn
  refine fn_okn (k := 0) (n := 2) (p := 2) (s := b_turn) F sc rfl rfl fun cdv A outer s0 H E hr ok => ?_
  have hu1 := hu1_of hr
  have hu64 := hu64_of hr
  have hu65 := hu65_of hr
  exact (qf_one (qf_ret (qe_op2 d_add (qe_op2 d_mod (qe_op2 d_shl (qe_var 0) (qe_var 1)) (qe_cst T.k_WORDS rfl)) (qe_op2 d_shr (qe_var 0) (qe_op2 d_sub qe_int (qe_var 1))))))
theorem ok_turn (T : Tx w K mg ca) : Fn P w K mg base ca 1 "turn" ["x", "n"] m_turn := Fn.of T.f_turn (fun _ _ _ _ _ _ us hl => match us, hl with | [_, _], _ => rfl) fun f fd F => fn_turn T F
theorem sc_one_round : FnScope ["a", "b", "c", "d"] ["a", "b", "c", "d"] (defScope s_one_round) := ⟨rfl, rfl, rfl, by decide +kernel, rfl, by decide +kernel, by decide +kernel⟩
theorem fn_one_round (T : Tx w K mg ca) {f : Addr} {fd : FuncData} (F : Fun K "one_round" "one_round" s_one_round f fd) : FnOk P w K mg base (L2.CX P w) 2 f fd ["a", "b", "c", "d"] (spOf K ca 4 m_one_round) := by
  have sc := sc_one_round
  refine fn_okn (k := 1) (n := 4) (p := 4) (s := b_one_round) F sc rfl rfl fun cdv A outer s0 H E hr ok => ?_
  have hu1 := hu1_of hr
  have hu64 := hu64_of hr
  have hu65 := hu65_of hr
  exact (qf_cons (qf_set 0 sc.nd (qe_op2 d_mod (qe_op2 d_add (qe_var 0) (qe_var 1)) (qe_cst T.k_WORDS rfl)))
  (qf_cons (qf_set 1 sc.nd (qe_op2 d_xor (qe_call (ok_turn T) (hr.mono (by decide)) ok (qa_cons (qe_var 1) (qa_cons qe_int qa_nil)) rfl) (qe_var 0)))
  (qf_cons (qf_set 0 sc.nd (qe_call (ok_turn T) (hr.mono (by decide)) ok (qa_cons (qe_var 0) (qa_cons qe_int qa_nil)) rfl))
  (qf_cons (qf_set 2 sc.nd (qe_op2 d_mod (qe_op2 d_add (qe_var 2) (qe_var 3)) (qe_cst T.k_WORDS rfl)))
  (qf_cons (qf_set 3 sc.nd (qe_op2 d_xor (qe_call (ok_turn T) (hr.mono (by decide)) ok (qa_cons (qe_var 3) (qa_cons qe_int qa_nil)) rfl) (qe_var 2)))
  (qf_cons (qf_set 0 sc.nd (qe_op2 d_mod (qe_op2 d_add (qe_var 0) (qe_var 3)) (qe_cst T.k_WORDS rfl)))
  (qf_cons (qf_set 3 sc.nd (qe_op2 d_xor (qe_call (ok_turn T) (hr.mono (by decide)) ok (qa_cons (qe_var 3) (qa_cons qe_int qa_nil)) rfl) (qe_var 0)))
  (qf_cons (qf_set 2 sc.nd (qe_op2 d_mod (qe_op2 d_add (qe_var 2) (qe_var 1)) (qe_cst T.k_WORDS rfl)))
  (qf_cons (qf_set 1 sc.nd (qe_op2 d_xor (qe_call (ok_turn T) (hr.mono (by decide)) ok (qa_cons (qe_var 1) (qa_cons qe_int qa_nil)) rfl) (qe_var 2)))
  (qf_cons (qf_set 2 sc.nd (qe_call (ok_turn T) (hr.mono (by decide)) ok (qa_cons (qe_var 2) (qa_cons qe_int qa_nil)) rfl))
  (qf_one (qf_ret (qe_tup (qa_cons (qe_var 0) (qa_cons (qe_var 1) (qa_cons (qe_var 2) (qa_cons (qe_var 3) qa_nil)))) (hz := Nat.le_of_ble_eq_true rfl))))))))))))))
theorem ok_one_round (T : Tx w K mg ca) : Fn P w K mg base ca 2 "one_round" ["a", "b", "c", "d"] m_one_round := Fn.of T.f_one_round (fun _ _ _ _ _ _ us hl => match us, hl with | [_, _, _, _], _ => rfl) fun f fd F => fn_one_round T F
theorem sc_mix : FnScope ["first", "second", "words", "a", "b", "c", "d", "word", "_"] ["first", "second", "words"] (defScope s_mix) := ⟨rfl, rfl, rfl, by decide +kernel, rfl, by decide +kernel, by decide +kernel⟩
theorem fn_mix (T : Tx w K mg ca) {f : Addr} {fd : FuncData} (F : Fun K "mix" "mix" s_mix f fd) : FnOk P w K mg base (L2.CX P w) 3 f fd ["first", "second", "words"] (spOf K ca 3 m_mix) := by
  have sc := sc_mix
  refine fn_okn (k := 2) (n := 9) (p := 3) (s := b_mix) F sc rfl rfl fun cdv A outer s0 H E hr ok => ?_
  have hu1 := hu1_of hr
  have hu64 := hu64_of hr
  have hu65 := hu65_of hr
  exact (qf_cons (qf_set 3 sc.nd (qe_op2 d_xor (qe_var 0) qe_int))
  (qf_cons (qf_set 4 sc.nd (qe_op2 d_xor (qe_var 1) qe_int))
  (qf_cons (qf_set 5 sc.nd (qe_op2 d_xor (qe_var 0) qe_int))
  (qf_cons (qf_set 6 sc.nd (qe_op2 d_xor (qe_var 1) qe_int))
  (qf_cons (qf_for ok (qi_e (qe_op2 d_add (qe_tuple (qs_e (qe_var 2)) rfl T.z_tuple) (qe_tup (qa_cons (qe_len (qe_var 2) rfl T.z_len) qa_nil) (hz := Nat.le_of_ble_eq_true rfl)))) (qg_name 7 sc.nd) (qf_cons (qf_asg (qe_call (ok_one_round T) (hr.mono (by decide)) ok (qa_cons (qe_var 3) (qa_cons (qe_var 4) (qa_cons (qe_var 5) (qa_cons (qe_op2 d_xor (qe_var 6) (qe_var 7)) qa_nil)))) rfl) (qg_tup rfl (qgs_cons (qg_name 3 sc.nd) (qgs_cons (qg_name 4 sc.nd) (qgs_cons (qg_name 5 sc.nd) (qgs_cons (qg_name 6 sc.nd) qgs_nil))))))
  (qf_cons (qf_asg (qe_call (ok_one_round T) (hr.mono (by decide)) ok (qa_cons (qe_var 3) (qa_cons (qe_var 4) (qa_cons (qe_var 5) (qa_cons (qe_var 6) qa_nil)))) rfl) (qg_tup rfl (qgs_cons (qg_name 3 sc.nd) (qgs_cons (qg_name 4 sc.nd) (qgs_cons (qg_name 5 sc.nd) (qgs_cons (qg_name 6 sc.nd) qgs_nil))))))
  (qf_one (qf_set 3 sc.nd (qe_op2 d_xor (qe_var 3) (qe_var 7)))))))
  (qf_cons (qf_set 5 sc.nd (qe_op2 d_xor (qe_var 5) qe_int))
  (qf_cons (qf_for ok (qi_range1 rfl T.z_range qe_int) (qg_name 8 sc.nd) (qf_one (qf_asg (qe_call (ok_one_round T) (hr.mono (by decide)) ok (qa_cons (qe_var 3) (qa_cons (qe_var 4) (qa_cons (qe_var 5) (qa_cons (qe_var 6) qa_nil)))) rfl) (qg_tup rfl (qgs_cons (qg_name 3 sc.nd) (qgs_cons (qg_name 4 sc.nd) (qgs_cons (qg_name 5 sc.nd) (qgs_cons (qg_name 6 sc.nd) qgs_nil))))))))
  (qf_one (qf_ret (qe_op2 d_xor (qe_op2 d_xor (qe_op2 d_xor (qe_var 3) (qe_var 4)) (qe_var 5)) (qe_var 6)))))))))))
theorem ok_mix (T : Tx w K mg ca) : Fn P w K mg base ca 3 "mix" ["first", "second", "words"] m_mix := Fn.of T.f_mix (fun _ _ _ _ _ _ us hl => match us, hl with | [_, _, _], _ => rfl) fun f fd F => fn_mix T F
theorem sc_tag : FnScope ["key", "number", "row", "h", "byte"] ["key", "number", "row"] (defScope s_tag) := ⟨rfl, rfl, rfl, by decide +kernel, rfl, by decide +kernel, by decide +kernel⟩
theorem fn_tag (T : Tx w K mg ca) {f : Addr} {fd : FuncData} (F : Fun K "tag" "tag" s_tag f fd) : FnOk P w K mg base (L2.CX P w) 4 f fd ["key", "number", "row"] (spOf K ca 3 m_tag) := by
  have sc := sc_tag
  refine fn_okn (k := 3) (n := 5) (p := 3) (s := b_tag) F sc rfl rfl fun cdv A outer s0 H E hr ok => ?_
  have hu1 := hu1_of hr
  have hu64 := hu64_of hr
  have hu65 := hu65_of hr
  exact (qf_cons (qf_set 3 sc.nd qe_int)
  (qf_cons (qf_for ok (qi_e (qe_var 2)) (qg_name 4 sc.nd) (qf_one (qf_set 3 sc.nd (qe_op2 d_mod (qe_op2 d_add (qe_op2 d_add (qe_op2 d_mul (qe_var 3) (qe_ix hu1 (qe_var 0) qe_int)) (qe_var 4)) qe_int) (qe_cst T.k_PRIME rfl)))))
  (qf_one (qf_ret (qe_op2 d_mod (qe_op2 d_add (qe_op2 d_mul (qe_var 3) (qe_ix hu1 (qe_var 0) qe_int)) (qe_call (ok_mix T) (hr.mono (by decide)) ok (qa_cons (qe_ix hu1 (qe_var 0) qe_int) (qa_cons (qe_ix hu1 (qe_var 0) qe_int) (qa_cons (qe_tup (qa_cons (qe_var 1) qa_nil) (hz := Nat.le_of_ble_eq_true rfl)) qa_nil))) rfl)) (qe_cst T.k_PRIME rfl))))))
theorem ok_tag (T : Tx w K mg ca) : Fn P w K mg base ca 4 "tag" ["key", "number", "row"] m_tag := Fn.of T.f_tag (fun _ _ _ _ _ _ us hl => match us, hl with | [_, _, _], _ => rfl) fun f fd F => fn_tag T F
theorem sc_unsealed : FnScope ["key", "row", "number", "body"] ["key", "row"] (defScope s_unsealed) := ⟨rfl, rfl, rfl, by decide +kernel, rfl, by decide +kernel, by decide +kernel⟩
theorem fn_unsealed (T : Tx w K mg ca) {f : Addr} {fd : FuncData} (F : Fun K "unsealed" "unsealed" s_unsealed f fd) : FnOk P w K mg base (L2.CX P w) 5 f fd ["key", "row"] (spOf K ca 2 m_unsealed) := by
  have sc := sc_unsealed
  refine fn_okn (k := 4) (n := 4) (p := 2) (s := b_unsealed) F sc rfl rfl fun cdv A outer s0 H E hr ok => ?_
  have hu1 := hu1_of hr
  have hu64 := hu64_of hr
  have hu65 := hu65_of hr
  exact (qf_cons (qf_if (qt_w (qw_or (qt_not (qt_truth (qe_call (ok_is_bytes T) (hr.mono (by decide)) ok (qa_cons (qe_var 1) qa_nil) rfl))) (qw_or (qt_cmp d_lt (qe_len (qe_var 1) rfl T.z_len) qe_int rfl) (qw_or1 (qt_cmp d_gt (qe_len (qe_var 1) rfl T.z_len) (qe_cst T.k_MOST_LETTER rfl) rfl))))) (qf_one (qf_ret qe_non)) qf_nil)
  (qf_cons (qf_set 2 sc.nd (qe_call (ok_number_of T) (hr.mono (by decide)) ok (qa_cons (qe_slice (qe_var 1) qo_none (qo_some qe_int)) qa_nil) rfl))
  (qf_cons (qf_set 3 sc.nd (qe_slice (qe_var 1) (qo_some qe_int) (qo_some (qe_un d_neg qe_int))))
  (qf_cons (qf_if (qt_w (qw_or (qt_cmp (d_eq hu64) (qe_var 2) qe_int rfl) (qw_or1 (qt_cmp (d_ne hu64) (qe_call (ok_number_of T) (hr.mono (by decide)) ok (qa_cons (qe_slice (qe_var 1) (qo_some (qe_un d_neg qe_int)) qo_none) qa_nil) rfl) (qe_call (ok_tag T) (hr.mono (by decide)) ok (qa_cons (qe_var 0) (qa_cons (qe_var 2) (qa_cons (qe_var 3) qa_nil))) rfl) rfl)))) (qf_one (qf_ret qe_non)) qf_nil)
  (qf_one (qf_ret (qe_tup (qa_cons (qe_var 2) (qa_cons (qe_var 3) qa_nil)) (hz := Nat.le_of_ble_eq_true rfl))))))))
theorem ok_unsealed (T : Tx w K mg ca) : Fn P w K mg base ca 5 "unsealed" ["key", "row"] m_unsealed := Fn.of T.f_unsealed (fun _ _ _ _ _ _ us hl => match us, hl with | [_, _], _ => rfl) fun f fd F => fn_unsealed T F
theorem sc_Opener_opened : FnScope ["self", "row", "found", "number", "body", "one"] ["self", "row"] (defScope s_Opener_opened) := ⟨rfl, rfl, rfl, by decide +kernel, rfl, by decide +kernel, by decide +kernel⟩
theorem fn_Opener_opened (T : Tx w K mg ca) {f : Addr} {fd : FuncData} (F : Fun K "opened" "Opener.opened" s_Opener_opened f fd) : FnOk P w K mg base (L2.CX P w) 6 f fd ["self", "row"] (spOf K ca 2 m_Opener_opened) := by
  have sc := sc_Opener_opened
  refine fn_okn (k := 5) (n := 6) (p := 2) (s := b_Opener_opened) F sc rfl rfl fun cdv A outer s0 H E hr ok => ?_
  have hu1 := hu1_of hr
  have hu64 := hu64_of hr
  have hu65 := hu65_of hr
  exact (qf_cons (qf_set 2 sc.nd (qe_call (ok_unsealed T) (hr.mono (by decide)) ok (qa_cons (qe_fld T.fl__key (qe_var 0)) (qa_cons (qe_var 1) qa_nil)) rfl))
  (qf_cons (qf_if (qt_cmp d_isN (qe_var 2) qe_non rfl) (qf_one (qf_ret qe_non)) qf_nil)
  (qf_cons (qf_asg (qe_var 2) (qg_tup rfl (qgs_cons (qg_name 3 sc.nd) (qgs_cons (qg_name 4 sc.nd) qgs_nil))))
  (qf_cons (qf_if (qt_w (qw_or (qt_cmp d_le (qe_var 3) (qe_op2 d_sub (qe_fld T.fl__greatest (qe_var 0)) (qe_cst T.k_WINDOW rfl)) rfl) (qw_or1 (qt_cmp (d_in' hu65) (qe_var 3) (qe_fld T.fl__taken (qe_var 0)) rfl)))) (qf_one (qf_ret qe_non)) qf_nil)
  (qf_cons (qf_sub hu1 (qe_fld T.fl__taken (qe_var 0)) (qe_var 3) qe_bl)
  (qf_cons (qf_if (qt_cmp d_gt (qe_var 3) (qe_fld T.fl__greatest (qe_var 0)) rfl) (qf_cons (qf_fld T.fl__greatest (qe_var 0) (qe_var 3))
  (qf_one (qf_fld T.fl__taken (qe_var 0) (qe_newD (qd_lock (cB1 (fldOf [1] "_taken") (cVar 0)) (qd_comp (t := (.one 5)) (own := [("one", 5)]) rfl sc.nd (qi_keys (qe_fld T.fl__taken (qe_var 0))) (blkOk_by (N := ["self", "row", "found", "number", "body", "one"]) (sc := defScope s_Opener_opened) (by decide +kernel)) (fun _ _ _ _ _ => pg_name (i := 5) sc.nd rfl (Or.inl rfl)) (fun _ _ _ _ _ => qts_one (qt_cmp d_gt (qe_var 5) (qe_op2 d_sub (qe_var 3) (qe_cst T.k_WINDOW rfl)) rfl)) (fun _ _ _ _ _ => (qe_var 5)) (fun _ _ _ _ _ => qe_bl) (by decide))))))) qf_nil)
  (qf_one (qf_ret (qe_var 4)))))))))
theorem ok_Opener_opened (T : Tx w K mg ca) : Md P w K mg base ca 6 1 "opened" ["self", "row"] m_Opener_opened := Md.of T.f_Opener_opened (fun _ _ _ _ _ _ us hl => match us, hl with | [_, _], _ => rfl) fun f fd F => fn_Opener_opened T F
theorem sc_Link_receive : FnScope ["self", "row", "body"] ["self", "row"] (defScope s_Link_receive) := ⟨rfl, rfl, rfl, by decide +kernel, rfl, by decide +kernel, by decide +kernel⟩
theorem fn_Link_receive (T : Tx w K mg ca) {f : Addr} {fd : FuncData} (F : Fun K "receive" "Link.receive" s_Link_receive f fd) : FnOk P w K mg base (L2.CX P w) 7 f fd ["self", "row"] (spOf K ca 2 m_Link_receive) := by
  have sc := sc_Link_receive
  refine fn_okn (k := 6) (n := 3) (p := 2) (s := b_Link_receive) F sc rfl rfl fun cdv A outer s0 H E hr ok => ?_
  have hu1 := hu1_of hr
  have hu64 := hu64_of hr
  have hu65 := hu65_of hr
  exact (qf_cons (qf_set 2 sc.nd (qe_meth (ok_Opener_opened T) (hr.mono (by decide)) ok (qe_fld T.fl__opener (qe_var 0)) (qa_cons (qe_var 1) qa_nil)))
  (qf_cons (qf_if (qt_cmp d_isN (qe_var 2) qe_non rfl) (qf_one (qf_ret qe_non)) qf_nil)
  (qf_one (qf_try ok rfl rfl ⟨rfl, by decide, .inl T.n_BadLetter⟩ (mt_ok_BadLetter T) (fun _ _ _ ok2 => (qf_one (qf_ret (qe_call (ok_unpack T) (hr.mono (by decide)) ok2 (qa_cons (qe_fld T.fl__world (qe_var 0)) (qa_cons (qe_var 2) qa_nil)) rfl)))) (fun _ _ _ _ _ => (qf_one (qf_ret qe_non)))))))
theorem ok_Link_receive (T : Tx w K mg ca) : Md P w K mg base ca 7 4 "receive" ["self", "row"] m_Link_receive := Md.of T.f_Link_receive (fun _ _ _ _ _ _ us hl => match us, hl with | [_, _], _ => rfl) fun f fd F => fn_Link_receive T F
theorem sc__law_draw : FnScope ["bag", "many", "seed", "rest"] ["bag", "many"] (defScope s__law_draw) := ⟨rfl, rfl, rfl, by decide +kernel, rfl, by decide +kernel, by decide +kernel⟩
theorem fn__law_draw (T : Tx w K mg ca) {f : Addr} {fd : FuncData} (F : Fun K "_law_draw" "_law_draw" s__law_draw f fd) : FnOk P w K mg base (L2.CX P w) 1 f fd ["bag", "many"] (spOf K ca 2 m__law_draw) := by
  have sc := sc__law_draw
  refine fn_okn (k := 0) (n := 4) (p := 2) (s := b__law_draw) F sc rfl rfl fun cdv A outer s0 H E hr ok => ?_
  have hu1 := hu1_of hr
  have hu64 := hu64_of hr
  have hu65 := hu65_of hr
  exact (qf_cons (qf_if (qt_cmp (d_eq hu64) (qe_ix hu1 (qe_var 0) qe_int) qe_int rfl) (qf_cons (qf_set 2 sc.nd (qe_op2 d_mod (qe_intOf (qe_op2 d_add (qe_op2 d_add (qe_op2 d_mul (qe_ix hu1 (qe_var 0) qe_int) qe_int) (qe_op2 d_mul (qe_ix hu1 (qe_var 0) qe_int) qe_int)) qe_int) rfl T.z_int) qe_int))
  (qf_cons (qf_sub hu1 (qe_var 0) qe_int (qe_op2 d_add (qe_op2 d_mul (qe_var 2) qe_int) (qe_op2 d_mod (qe_intOf (qe_op2 d_add (qe_op2 d_mul (qe_var 2) (qe_var 2)) (qe_op2 d_mul (qe_ix hu1 (qe_var 0) qe_int) qe_int)) rfl T.z_int) qe_int)))
  (qf_one (qf_sub hu1 (qe_var 0) qe_int (qe_var 2))))) qf_nil)
  (qf_cons (qf_set 3 sc.nd (qe_ix hu1 (qe_var 0) qe_int))
  (qf_cons (qf_sub hu1 (qe_var 0) qe_int (qe_op2 d_fdiv (qe_var 3) (qe_var 1)))
  (qf_one (qf_ret (qe_op2 d_mod (qe_intOf (qe_var 3) rfl T.z_int) (qe_var 1)))))))
theorem ok__law_draw (T : Tx w K mg ca) : Fn P w K mg base ca 1 "_law_draw" ["bag", "many"] m__law_draw := Fn.of T.f__law_draw (fun _ _ _ _ _ _ us hl => match us, hl with | [_, _], _ => rfl) fun f fd F => fn__law_draw T F
theorem sc_Opener_init : FnScope ["self", "key"] ["self", "key"] (defScope s_Opener_init) := ⟨rfl, rfl, rfl, by decide +kernel, rfl, by decide +kernel, by decide +kernel⟩
theorem fn_Opener_init (T : Tx w K mg ca) {f : Addr} {fd : FuncData} (F : Fun K "__init__" "Opener.__init__" s_Opener_init f fd) : FnOk P w K mg base (L2.CX P w) 1 f fd ["self", "key"] (spOf K ca 2 m_Opener_init) := by
  have sc := sc_Opener_init
  refine fn_okn (k := 0) (n := 2) (p := 2) (s := b_Opener_init) F sc rfl rfl fun cdv A outer s0 H E hr ok => ?_
  have hu1 := hu1_of hr
  have hu64 := hu64_of hr
  have hu65 := hu65_of hr
  exact (qf_cons (qf_fld T.fl__key (qe_var 0) (qe_var 1))
  (qf_cons (qf_fld T.fl__greatest (qe_var 0) qe_int)
  (qf_one (qf_fld T.fl__taken (qe_var 0) (qe_newD qd_new)))))
theorem ok_Opener_init (T : Tx w K mg ca) : Cm P w K mg base ca 1 1 "Opener" ["self", "key"] m_Opener_init := Cm.of T.f_Opener_init (fun _ _ _ _ _ _ us hl => match us, hl with | [_, _], _ => rfl) fun f fd F => fn_Opener_init T F
theorem sc_Sealer_init : FnScope ["self", "key", "used"] ["self", "key", "used"] (defScope s_Sealer_init) := ⟨rfl, rfl, rfl, by decide +kernel, rfl, by decide +kernel, by decide +kernel⟩
theorem fn_Sealer_init (T : Tx w K mg ca) {f : Addr} {fd : FuncData} {dvs : List V} (F : FunD K "__init__" "Sealer.__init__" (defArgs s_Sealer_init) (defBody s_Sealer_init) (defScope s_Sealer_init) dvs [] f fd) : FnOk P w K mg base (L2.CX P w) 1 f fd ["self", "key", "used"] (spOf K ca 3 m_Sealer_init) := by
  have sc := sc_Sealer_init
  refine fn_okD (k := 0) (n := 3) (p := 3) (s := b_Sealer_init) F sc rfl rfl fun cdv A outer s0 H E hr ok => ?_
  have hu1 := hu1_of hr
  have hu64 := hu64_of hr
  have hu65 := hu65_of hr
  exact (qf_cons (qf_fld T.fl__key (qe_var 0) (qe_var 1))
  (qf_one (qf_fld T.fl__number (qe_var 0) (qe_var 2))))
theorem ok_Sealer_init (T : Tx w K mg ca) : Cm P w K mg base ca 1 0 "Sealer" ["self", "key", "used"] m_Sealer_init := Cm.ofD T.f_Sealer_init (by decide) (by decide) (fun _ _ _ _ _ _ _ us its l1 l2 => match us, its, l1, l2 with | [_, _, _], [_], _, _ => ⟨_, rfl, rfl⟩) fun f fd dvs F => fn_Sealer_init T F
theorem sc_Link_init : FnScope ["self", "world", "out", "back", "used"] ["self", "world", "out", "back", "used"] (defScope s_Link_init) := ⟨rfl, rfl, rfl, by decide +kernel, rfl, by decide +kernel, by decide +kernel⟩
theorem fn_Link_init (T : Tx w K mg ca) {f : Addr} {fd : FuncData} {dvs : List V} (F : FunD K "__init__" "Link.__init__" (defArgs s_Link_init) (defBody s_Link_init) (defScope s_Link_init) dvs [] f fd) : FnOk P w K mg base (L2.CX P w) 3 f fd ["self", "world", "out", "back", "used"] (spOf K ca 5 m_Link_init) := by
  have sc := sc_Link_init
  refine fn_okD (k := 2) (n := 5) (p := 5) (s := b_Link_init) F sc rfl rfl fun cdv A outer s0 H E hr ok => ?_
  have hu1 := hu1_of hr
  have hu64 := hu64_of hr
  have hu65 := hu65_of hr
  exact (qf_cons (qf_fld T.fl__world (qe_var 0) (qe_var 1))
  (qf_cons (qf_fld T.fl__sealer (qe_var 0) (qe_make (ok_Sealer_init T) (hr.mono (by decide)) ok (qa_cons (qe_var 2) (qa_cons (qe_var 4) qa_nil)) rfl))
  (qf_one (qf_fld T.fl__opener (qe_var 0) (qe_make (ok_Opener_init T) (hr.mono (by decide)) ok (qa_cons (qe_var 3) qa_nil) rfl)))))
theorem ok_Link_init (T : Tx w K mg ca) : Cm P w K mg base ca 3 4 "Link" ["self", "world", "out", "back", "used"] m_Link_init := Cm.ofD T.f_Link_init (by decide) (by decide) (fun _ _ _ _ _ _ _ us its l1 l2 => match us, its, l1, l2 with | [_, _, _, _, _], [_], _, _ => ⟨_, rfl, rfl⟩) fun f fd dvs F => fn_Link_init T F
theorem ok0_Link_init (T : Tx w K mg ca) : CmD P w K mg base ca 3 4 "Link" ["self", "world", "out", "back", "used"] m_Link_init [(.int 0)] := CmD.of T.f_Link_init 0 (by decide) (by decide) (by decide) (fun _ _ _ _ _ _ _ us its l1 l2 => match us, its, l1, l2 with | [_, _, _, _], [_], _, _ => ⟨_, rfl, rfl⟩) fun f fd dvs F => fn_Link_init T F
theorem sc__law_comes : FnScope ["bag", "world", "key", "rows", "link", "left", "taken_v", "greatest", "k", "place", "number", "letter", "row", "due"] ["bag", "world", "key", "rows"] (defScope s__law_comes) := ⟨rfl, rfl, rfl, by decide +kernel, rfl, by decide +kernel, by decide +kernel⟩
theorem fn__law_comes (T : Tx w K mg ca) {f : Addr} {fd : FuncData} (F : Fun K "_law_comes" "_law_comes" s__law_comes f fd) : FnOk P w K mg base (L2.CX P w) 8 f fd ["bag", "world", "key", "rows"] (spOf K ca 4 m__law_comes) := by
  have sc := sc__law_comes
  refine fn_okn (k := 7) (n := 14) (p := 4) (s := b__law_comes) F sc rfl rfl fun cdv A outer s0 H E hr ok => ?_
  have hu1 := hu1_of hr
  have hu64 := hu64_of hr
  have hu65 := hu65_of hr
  exact (qf_cons (qf_set 4 sc.nd (qe_makeD (ok0_Link_init T) (hr.mono (by decide)) ok (qa_cons (qe_var 1) (qa_cons (qe_tup (qa_cons qe_str (qa_cons qe_int (qa_cons qe_int (qa_cons qe_int qa_nil)))) (hz := Nat.le_of_ble_eq_true rfl)) (qa_cons (qe_var 2) qa_nil))) rfl))
  (qf_cons (qf_setLc (i := 5) (t := (.one 12)) (own := [("row", 12)]) rfl sc.nd (qi_e (qe_var 3)) (blkOk_by (N := ["bag", "world", "key", "rows", "link", "left", "taken_v", "greatest", "k", "place", "number", "letter", "row", "due"]) (sc := defScope s__law_comes) (by decide +kernel)) (fun _ _ _ _ _ => pg_name (i := 12) sc.nd rfl (Or.inl rfl)) (fun _ _ _ _ _ => qts_nil) (fun _ _ _ _ _ => (qe_var 12)) (by decide))
  (qf_cons (qf_set 6 sc.nd (qe_new (ql_lst qa_nil (hz := Nat.le_of_ble_eq_true rfl))))
  (qf_cons (qf_set 7 sc.nd qe_int)
  (qf_cons (qf_for ok (qi_range1 rfl T.z_range (qe_op2 d_mul qe_int (qe_len (qe_var 3) rfl T.z_len))) (qg_name 8 sc.nd) (qf_cons (qf_if (qt_w (qw_and (qt_cmp (d_ne hu64) (qe_var 5) (qe_new (ql_lst qa_nil (hz := Nat.le_of_ble_eq_true rfl))) rfl) (qw_and1 (qt_cmp d_gt (qe_call (ok__law_draw T) (hr.mono (by decide)) ok (qa_cons (qe_var 0) (qa_cons qe_int qa_nil)) rfl) qe_int rfl)))) (qf_cons (qf_set 9 sc.nd (qe_min2 rfl (qe_op2 d_sub (qe_len (qe_var 5) rfl T.z_len) qe_int) (qe_ixL (ql_lst (qa_cons qe_int (qa_cons qe_int (qa_cons (qe_call (ok__law_draw T) (hr.mono (by decide)) ok (qa_cons (qe_var 0) (qa_cons (qe_len (qe_var 5) rfl T.z_len) qa_nil)) rfl) qa_nil))) (hz := Nat.le_of_ble_eq_true rfl)) (qe_call (ok__law_draw T) (hr.mono (by decide)) ok (qa_cons (qe_var 0) (qa_cons qe_int qa_nil)) rfl)) rfl T.z_min))
  (qf_cons (qf_asg (qe_ix hu1 (qe_var 5) (qe_var 9)) (qg_tup rfl (qgs_cons (qg_name 10 sc.nd) (qgs_cons (qg_name 11 sc.nd) (qgs_cons (qg_name 12 sc.nd) qgs_nil)))))
  (qf_one (qf_set 5 sc.nd (qe_op2 d_add (qe_slice (qe_var 5) qo_none (qo_some (qe_var 9))) (qe_slice (qe_var 5) (qo_some (qe_op2 d_add (qe_var 9) qe_int)) qo_none)))))) (qf_one (qf_asg (qe_ix hu1 (qe_var 3) (qe_call (ok__law_draw T) (hr.mono (by decide)) ok (qa_cons (qe_var 0) (qa_cons (qe_len (qe_var 3) rfl T.z_len) qa_nil)) rfl)) (qg_tup rfl (qgs_cons (qg_name 10 sc.nd) (qgs_cons (qg_name 11 sc.nd) (qgs_cons (qg_name 12 sc.nd) qgs_nil)))))))
  (qf_cons (qf_set 13 sc.nd qe_non)
  (qf_cons (qf_if (qt_w (qw_and (qt_cmp (d_notIn' hu65) (qe_var 10) (qe_var 6) rfl) (qw_and1 (qt_cmp d_gt (qe_var 10) (qe_op2 d_sub (qe_var 7) qe_int) rfl)))) (qf_cons (qf_set 13 sc.nd (qe_var 11))
  (qf_cons (qf_exp (qe_app (qe_var 6) (qe_var 10)))
  (qf_one (qf_set 7 sc.nd (qe_max2 rfl (qe_var 7) (qe_var 10) rfl T.z_max))))) qf_nil)
  (qf_one (qf_if (qt_not (qt_truth (qe_call (ok__law_is_same T 3) (hr.mono (by decide)) ok (qa_cons (qe_meth (ok_Link_receive T) (hr.mono (by decide)) ok (qe_var 4) (qa_cons (qe_var 12) qa_nil)) (qa_cons (qe_var 13) qa_nil)) rfl))) (qf_one (qf_ret qe_bl)) qf_nil))))))
  (qf_one (qf_ret qe_bl)))))))
theorem ok__law_comes (T : Tx w K mg ca) : Fn P w K mg base ca 8 "_law_comes" ["bag", "world", "key", "rows"] m__law_comes := Fn.of T.f__law_comes (fun _ _ _ _ _ _ us hl => match us, hl with | [_, _, _, _], _ => rfl) fun f fd F => fn__law_comes T F
theorem sc_bytes_of : FnScope ["n", "many", "found", "_"] ["n", "many"] (defScope s_bytes_of) := ⟨rfl, rfl, rfl, by decide +kernel, rfl, by decide +kernel, by decide +kernel⟩
theorem fn_bytes_of (T : Tx w K mg ca) {f : Addr} {fd : FuncData} (F : Fun K "bytes_of" "bytes_of" s_bytes_of f fd) : FnOk P w K mg base (L2.CX P w) 1 f fd ["n", "many"] (spOf K ca 2 m_bytes_of) := by
  have sc := sc_bytes_of
  refine fn_okn (k := 0) (n := 4) (p := 2) (s := b_bytes_of) F sc rfl rfl fun cdv A outer s0 H E hr ok => ?_
  have hu1 := hu1_of hr
  have hu64 := hu64_of hr
  have hu65 := hu65_of hr
  exact (qf_cons (qf_set 2 sc.nd (qe_new (ql_lst qa_nil (hz := Nat.le_of_ble_eq_true rfl))))
  (qf_cons (qf_for ok (qi_range1 rfl T.z_range (qe_var 1)) (qg_name 3 sc.nd) (qf_cons (qf_exp (qe_app (qe_var 2) (qe_op2 d_mod (qe_var 0) qe_int)))
  (qf_one (qf_aug 0 sc.nd d_ifdiv qe_int (hb := ifdiv_ok)))))
  (qf_one (qf_ret (qe_tuple (qs_l (ql_rev (qe_var 2))) rfl T.z_tuple)))))
theorem ok_bytes_of (T : Tx w K mg ca) : Fn P w K mg base ca 1 "bytes_of" ["n", "many"] m_bytes_of := Fn.of T.f_bytes_of (fun _ _ _ _ _ _ us hl => match us, hl with | [_, _], _ => rfl) fun f fd F => fn_bytes_of T F
theorem sc_Sealer_seal : FnScope ["self", "body", "told"] ["self", "body"] (defScope s_Sealer_seal) := ⟨rfl, rfl, rfl, by decide +kernel, rfl, by decide +kernel, by decide +kernel⟩
theorem fn_Sealer_seal (T : Tx w K mg ca) {f : Addr} {fd : FuncData} (F : Fun K "seal" "Sealer.seal" s_Sealer_seal f fd) : FnOk P w K mg base (L2.CX P w) 5 f fd ["self", "body"] (spOf K ca 2 m_Sealer_seal) := by
  have sc := sc_Sealer_seal
  refine fn_okn (k := 4) (n := 3) (p := 2) (s := b_Sealer_seal) F sc rfl rfl fun cdv A outer s0 H E hr ok => ?_
  have hu1 := hu1_of hr
  have hu64 := hu64_of hr
  have hu65 := hu65_of hr
  exact (qf_cons (qf_if (qt_cmp (d_eq hu64) (qe_fld T.fl__number (qe_var 0)) (qe_cst T.k_MOST_COUNT rfl) rfl) (qf_one (qf_raise0 ok (exC_of T.e_TooFar) rfl)) qf_nil)
  (qf_cons (qf_fldaug T.fl__number in_iadd (qe_var 0) qe_int)
  (qf_cons (qf_set 2 sc.nd (qe_call (ok_bytes_of T) (hr.mono (by decide)) ok (qa_cons (qe_call (ok_tag T) (hr.mono (by decide)) ok (qa_cons (qe_fld T.fl__key (qe_var 0)) (qa_cons (qe_fld T.fl__number (qe_var 0)) (qa_cons (qe_var 1) qa_nil))) rfl) (qa_cons qe_int qa_nil)) rfl))
  (qf_one (qf_ret (qe_op2 d_add (qe_op2 d_add (qe_call (ok_bytes_of T) (hr.mono (by decide)) ok (qa_cons (qe_fld T.fl__number (qe_var 0)) (qa_cons qe_int qa_nil)) rfl) (qe_tuple (qs_e (qe_var 1)) rfl T.z_tuple)) (qe_var 2)))))))
theorem ok_Sealer_seal (T : Tx w K mg ca) : Md P w K mg base ca 5 0 "seal" ["self", "body"] m_Sealer_seal := Md.of T.f_Sealer_seal (fun _ _ _ _ _ _ us hl => match us, hl with | [_, _], _ => rfl) fun f fd F => fn_Sealer_seal T F
theorem sc__law_split : FnScope ["n", "many", "k"] ["n", "many"] (defScope s__law_split) := ⟨rfl, rfl, rfl, by decide +kernel, rfl, by decide +kernel, by decide +kernel⟩
theorem fn__law_split (T : Tx w K mg ca) {f : Addr} {fd : FuncData} (F : Fun K "_law_split" "_law_split" s__law_split f fd) : FnOk P w K mg base (L2.CX P w) 1 f fd ["n", "many"] (spOf K ca 2 m__law_split) := by
  have sc := sc__law_split
  refine fn_okn (k := 0) (n := 3) (p := 2) (s := b__law_split) F sc rfl rfl fun cdv A outer s0 H E hr ok => ?_
  have hu1 := hu1_of hr
  have hu64 := hu64_of hr
  have hu65 := hu65_of hr
  exact (qf_one (qf_ret (qe_tuple (qs_l (ql_comp (t := (.one 2)) (own := [("k", 2)]) rfl sc.nd (qi_range1 rfl T.z_range (qe_var 1)) (blkOk_by (N := ["n", "many", "k"]) (sc := defScope s__law_split) (by decide +kernel)) (fun _ _ _ _ _ => pg_name (i := 2) sc.nd rfl (Or.inl rfl)) (fun _ _ _ _ _ => qts_nil) (fun _ _ _ _ _ => (qe_op2 d_and (qe_op2 d_shr (qe_var 0) (qe_op2 d_mul qe_int (qe_op2 d_sub (qe_op2 d_sub (qe_var 1) qe_int) (qe_var 2)))) qe_int)) (by decide))) rfl T.z_tuple)))
theorem ok__law_split (T : Tx w K mg ca) : Fn P w K mg base ca 1 "_law_split" ["n", "many"] m__law_split := Fn.of T.f__law_split (fun _ _ _ _ _ _ us hl => match us, hl with | [_, _], _ => rfl) fun f fd F => fn__law_split T F
theorem sc__law_turn : FnScope ["x", "n"] ["x", "n"] (defScope s__law_turn) := ⟨rfl, rfl, rfl, by decide +kernel, rfl, by decide +kernel, by decide +kernel⟩
theorem fn__law_turn (T : Tx w K mg ca) {f : Addr} {fd : FuncData} (F : Fun K "_law_turn" "_law_turn" s__law_turn f fd) : FnOk P w K mg base (L2.CX P w) 1 f fd ["x", "n"] (spOf K ca 2 m__law_turn) := by
  have sc := sc__law_turn
  refine fn_okn (k := 0) (n := 2) (p := 2) (s := b__law_turn) F sc rfl rfl fun cdv A outer s0 H E hr ok => ?_
  have hu1 := hu1_of hr
  have hu64 := hu64_of hr
  have hu65 := hu65_of hr
  exact (qf_one (qf_ret (qe_op2 d_or (qe_op2 d_mod (qe_op2 d_shl (qe_var 0) (qe_var 1)) qe_int) (qe_op2 d_shr (qe_var 0) (qe_op2 d_sub qe_int (qe_var 1))))))
theorem ok__law_turn (T : Tx w K mg ca) : Fn P w K mg base ca 1 "_law_turn" ["x", "n"] m__law_turn := Fn.of T.f__law_turn (fun _ _ _ _ _ _ us hl => match us, hl with | [_, _], _ => rfl) fun f fd F => fn__law_turn T F
theorem sc__law_round : FnScope ["v", "a", "b", "c", "d"] ["v"] (defScope s__law_round) := ⟨rfl, rfl, rfl, by decide +kernel, rfl, by decide +kernel, by decide +kernel⟩
theorem fn__law_round (T : Tx w K mg ca) {f : Addr} {fd : FuncData} (F : Fun K "_law_round" "_law_round" s__law_round f fd) : FnOk P w K mg base (L2.CX P w) 2 f fd ["v"] (spOf K ca 1 m__law_round) := by
  have sc := sc__law_round
  refine fn_okn (k := 1) (n := 5) (p := 1) (s := b__law_round) F sc rfl rfl fun cdv A outer s0 H E hr ok => ?_
  have hu1 := hu1_of hr
  have hu64 := hu64_of hr
  have hu65 := hu65_of hr
  exact (qf_cons (qf_asg (qe_var 0) (qg_tup rfl (qgs_cons (qg_name 1 sc.nd) (qgs_cons (qg_name 2 sc.nd) (qgs_cons (qg_name 3 sc.nd) (qgs_cons (qg_name 4 sc.nd) qgs_nil))))))
  (qf_cons (qf_set 1 sc.nd (qe_op2 d_mod (qe_op2 d_add (qe_var 1) (qe_var 2)) qe_int))
  (qf_cons (qf_set 2 sc.nd (qe_op2 d_xor (qe_call (ok__law_turn T) (hr.mono (by decide)) ok (qa_cons (qe_var 2) (qa_cons qe_int qa_nil)) rfl) (qe_var 1)))
  (qf_cons (qf_set 1 sc.nd (qe_call (ok__law_turn T) (hr.mono (by decide)) ok (qa_cons (qe_var 1) (qa_cons qe_int qa_nil)) rfl))
  (qf_cons (qf_set 3 sc.nd (qe_op2 d_mod (qe_op2 d_add (qe_var 3) (qe_var 4)) qe_int))
  (qf_cons (qf_set 4 sc.nd (qe_op2 d_xor (qe_call (ok__law_turn T) (hr.mono (by decide)) ok (qa_cons (qe_var 4) (qa_cons qe_int qa_nil)) rfl) (qe_var 3)))
  (qf_cons (qf_set 1 sc.nd (qe_op2 d_mod (qe_op2 d_add (qe_var 1) (qe_var 4)) qe_int))
  (qf_cons (qf_set 4 sc.nd (qe_op2 d_xor (qe_call (ok__law_turn T) (hr.mono (by decide)) ok (qa_cons (qe_var 4) (qa_cons qe_int qa_nil)) rfl) (qe_var 1)))
  (qf_cons (qf_set 3 sc.nd (qe_op2 d_mod (qe_op2 d_add (qe_var 3) (qe_var 2)) qe_int))
  (qf_cons (qf_set 2 sc.nd (qe_op2 d_xor (qe_call (ok__law_turn T) (hr.mono (by decide)) ok (qa_cons (qe_var 2) (qa_cons qe_int qa_nil)) rfl) (qe_var 3)))
  (qf_one (qf_ret (qe_tup (qa_cons (qe_var 1) (qa_cons (qe_var 2) (qa_cons (qe_call (ok__law_turn T) (hr.mono (by decide)) ok (qa_cons (qe_var 3) (qa_cons qe_int qa_nil)) rfl) (qa_cons (qe_var 4) qa_nil)))) (hz := Nat.le_of_ble_eq_true rfl))))))))))))))
theorem ok__law_round (T : Tx w K mg ca) : Fn P w K mg base ca 2 "_law_round" ["v"] m__law_round := Fn.of T.f__law_round (fun _ _ _ _ _ _ us hl => match us, hl with | [_], _ => rfl) fun f fd F => fn__law_round T F
theorem sc__law_mix : FnScope ["first", "second", "words", "v", "word", "k"] ["first", "second", "words"] (defScope s__law_mix) := ⟨rfl, rfl, rfl, by decide +kernel, rfl, by decide +kernel, by decide +kernel⟩
theorem fn__law_mix (T : Tx w K mg ca) {f : Addr} {fd : FuncData} (F : Fun K "_law_mix" "_law_mix" s__law_mix f fd) : FnOk P w K mg base (L2.CX P w) 3 f fd ["first", "second", "words"] (spOf K ca 3 m__law_mix) := by
  have sc := sc__law_mix
  refine fn_okn (k := 2) (n := 6) (p := 3) (s := b__law_mix) F sc rfl rfl fun cdv A outer s0 H E hr ok => ?_
  have hu1 := hu1_of hr
  have hu64 := hu64_of hr
  have hu65 := hu65_of hr
  exact (qf_cons (qf_set 3 sc.nd (qe_tup (qa_cons (qe_op2 d_xor (qe_var 0) qe_int) (qa_cons (qe_op2 d_xor (qe_var 1) qe_int) (qa_cons (qe_op2 d_xor (qe_var 0) qe_int) (qa_cons (qe_op2 d_xor (qe_var 1) qe_int) qa_nil)))) (hz := Nat.le_of_ble_eq_true rfl)))
  (qf_cons (qf_for ok (qi_l (ql_catE (qe_var 2) (qm_l (ql_lst (qa_cons (qe_len (qe_var 2) rfl T.z_len) qa_nil) (hz := Nat.le_of_ble_eq_true rfl))))) (qg_name 4 sc.nd) (qf_cons (qf_set 3 sc.nd (qe_call (ok__law_round T) (hr.mono (by decide)) ok (qa_cons (qe_call (ok__law_round T) (hr.mono (by decide)) ok (qa_cons (qe_tup (qa_cons (qe_ix hu1 (qe_var 3) qe_int) (qa_cons (qe_ix hu1 (qe_var 3) qe_int) (qa_cons (qe_ix hu1 (qe_var 3) qe_int) (qa_cons (qe_op2 d_xor (qe_ix hu1 (qe_var 3) qe_int) (qe_var 4)) qa_nil)))) (hz := Nat.le_of_ble_eq_true rfl)) qa_nil) rfl) qa_nil) rfl))
  (qf_one (qf_set 3 sc.nd (qe_tup (qa_cons (qe_op2 d_xor (qe_ix hu1 (qe_var 3) qe_int) (qe_var 4)) (qa_cons (qe_ix hu1 (qe_var 3) qe_int) (qa_cons (qe_ix hu1 (qe_var 3) qe_int) (qa_cons (qe_ix hu1 (qe_var 3) qe_int) qa_nil)))) (hz := Nat.le_of_ble_eq_true rfl))))))
  (qf_cons (qf_set 3 sc.nd (qe_tup (qa_cons (qe_ix hu1 (qe_var 3) qe_int) (qa_cons (qe_ix hu1 (qe_var 3) qe_int) (qa_cons (qe_op2 d_xor (qe_ix hu1 (qe_var 3) qe_int) qe_int) (qa_cons (qe_ix hu1 (qe_var 3) qe_int) qa_nil)))) (hz := Nat.le_of_ble_eq_true rfl)))
  (qf_cons (qf_for ok (qi_range1 rfl T.z_range qe_int) (qg_name 5 sc.nd) (qf_one (qf_set 3 sc.nd (qe_call (ok__law_round T) (hr.mono (by decide)) ok (qa_cons (qe_var 3) qa_nil) rfl))))
  (qf_one (qf_ret (qe_op2 d_xor (qe_op2 d_xor (qe_op2 d_xor (qe_ix hu1 (qe_var 3) qe_int) (qe_ix hu1 (qe_var 3) qe_int)) (qe_ix hu1 (qe_var 3) qe_int)) (qe_ix hu1 (qe_var 3) qe_int))))))))
theorem ok__law_mix (T : Tx w K mg ca) : Fn P w K mg base ca 3 "_law_mix" ["first", "second", "words"] m__law_mix := Fn.of T.f__law_mix (fun _ _ _ _ _ _ us hl => match us, hl with | [_, _, _], _ => rfl) fun f fd F => fn__law_mix T F
theorem sc__law_tag : FnScope ["key", "number", "row", "h", "byte"] ["key", "number", "row"] (defScope s__law_tag) := ⟨rfl, rfl, rfl, by decide +kernel, rfl, by decide +kernel, by decide +kernel⟩
theorem fn__law_tag (T : Tx w K mg ca) {f : Addr} {fd : FuncData} (F : Fun K "_law_tag" "_law_tag" s__law_tag f fd) : FnOk P w K mg base (L2.CX P w) 4 f fd ["key", "number", "row"] (spOf K ca 3 m__law_tag) := by
  have sc := sc__law_tag
  refine fn_okn (k := 3) (n := 5) (p := 3) (s := b__law_tag) F sc rfl rfl fun cdv A outer s0 H E hr ok => ?_
  have hu1 := hu1_of hr
  have hu64 := hu64_of hr
  have hu65 := hu65_of hr
  exact (qf_cons (qf_set 3 sc.nd qe_int)
  (qf_cons (qf_for ok (qi_e (qe_var 2)) (qg_name 4 sc.nd) (qf_one (qf_set 3 sc.nd (qe_op2 d_mod (qe_op2 d_add (qe_op2 d_add (qe_op2 d_mul (qe_var 3) (qe_ix hu1 (qe_var 0) qe_int)) (qe_var 4)) qe_int) qe_int))))
  (qf_one (qf_ret (qe_op2 d_mod (qe_op2 d_add (qe_op2 d_mul (qe_var 3) (qe_ix hu1 (qe_var 0) qe_int)) (qe_call (ok__law_mix T) (hr.mono (by decide)) ok (qa_cons (qe_ix hu1 (qe_var 0) qe_int) (qa_cons (qe_ix hu1 (qe_var 0) qe_int) (qa_cons (qe_new (ql_lst (qa_cons (qe_var 1) qa_nil) (hz := Nat.le_of_ble_eq_true rfl))) qa_nil))) rfl)) qe_int)))))
theorem ok__law_tag (T : Tx w K mg ca) : Fn P w K mg base ca 4 "_law_tag" ["key", "number", "row"] m__law_tag := Fn.of T.f__law_tag (fun _ _ _ _ _ _ us hl => match us, hl with | [_, _, _], _ => rfl) fun f fd F => fn__law_tag T F
theorem sc__law_sealed : FnScope ["key", "number", "body"] ["key", "number", "body"] (defScope s__law_sealed) := ⟨rfl, rfl, rfl, by decide +kernel, rfl, by decide +kernel, by decide +kernel⟩
theorem fn__law_sealed (T : Tx w K mg ca) {f : Addr} {fd : FuncData} (F : Fun K "_law_sealed" "_law_sealed" s__law_sealed f fd) : FnOk P w K mg base (L2.CX P w) 5 f fd ["key", "number", "body"] (spOf K ca 3 m__law_sealed) := by
  have sc := sc__law_sealed
  refine fn_okn (k := 4) (n := 3) (p := 3) (s := b__law_sealed) F sc rfl rfl fun cdv A outer s0 H E hr ok => ?_
  have hu1 := hu1_of hr
  have hu64 := hu64_of hr
  have hu65 := hu65_of hr
  exact (qf_one (qf_ret (qe_op2 d_add (qe_op2 d_add (qe_call (ok__law_split T) (hr.mono (by decide)) ok (qa_cons (qe_var 1) (qa_cons qe_int qa_nil)) rfl) (qe_var 2)) (qe_call (ok__law_split T) (hr.mono (by decide)) ok (qa_cons (qe_call (ok__law_tag T) (hr.mono (by decide)) ok (qa_cons (qe_var 0) (qa_cons (qe_var 1) (qa_cons (qe_var 2) qa_nil))) rfl) (qa_cons qe_int qa_nil)) rfl))))
theorem ok__law_sealed (T : Tx w K mg ca) : Fn P w K mg base ca 5 "_law_sealed" ["key", "number", "body"] m__law_sealed := Fn.of T.f__law_sealed (fun _ _ _ _ _ _ us hl => match us, hl with | [_, _, _], _ => rfl) fun f fd F => fn__law_sealed T F
theorem sc__law_is_used : FnScope ["sealer"] ["sealer"] (defScope s__law_is_used) := ⟨rfl, rfl, rfl, by decide +kernel, rfl, by decide +kernel, by decide +kernel⟩
theorem fn__law_is_used (T : Tx w K mg ca) {f : Addr} {fd : FuncData} (F : Fun K "_law_is_used" "_law_is_used" s__law_is_used f fd) : FnOk P w K mg base (L2.CX P w) 6 f fd ["sealer"] (spOf K ca 1 m__law_is_used) := by
  have sc := sc__law_is_used
  refine fn_okn (k := 5) (n := 1) (p := 1) (s := b__law_is_used) F sc rfl rfl fun cdv A outer s0 H E hr ok => ?_
  have hu1 := hu1_of hr
  have hu64 := hu64_of hr
  have hu65 := hu65_of hr
  exact (qf_cons (qf_try ok rfl rfl ⟨rfl, by decide, .inl T.n_TooFar⟩ (mt_ok_TooFar T) (fun _ _ _ ok2 => (qf_one (qf_exp (qe_meth (ok_Sealer_seal T) (hr.mono (by decide)) ok2 (qe_var 0) (qa_cons (qe_tup (qa_cons qe_int qa_nil) (hz := Nat.le_of_ble_eq_true rfl)) qa_nil))))) (fun _ _ _ _ _ => (qf_one (qf_ret qe_bl))))
  (qf_one (qf_ret qe_bl)))
theorem ok__law_is_used (T : Tx w K mg ca) : Fn P w K mg base ca 6 "_law_is_used" ["sealer"] m__law_is_used := Fn.of T.f__law_is_used (fun _ _ _ _ _ _ us hl => match us, hl with | [_], _ => rfl) fun f fd F => fn__law_is_used T F
theorem sc__law_ends : FnScope ["bag", "key", "used", "sealer", "number", "first"] ["bag", "key"] (defScope s__law_ends) := ⟨rfl, rfl, rfl, by decide +kernel, rfl, by decide +kernel, by decide +kernel⟩
theorem fn__law_ends (T : Tx w K mg ca) {f : Addr} {fd : FuncData} (F : Fun K "_law_ends" "_law_ends" s__law_ends f fd) : FnOk P w K mg base (L2.CX P w) 7 f fd ["bag", "key"] (spOf K ca 2 m__law_ends) := by
  have sc := sc__law_ends
  refine fn_okn (k := 6) (n := 6) (p := 2) (s := b__law_ends) F sc rfl rfl fun cdv A outer s0 H E hr ok => ?_
  have hu1 := hu1_of hr
  have hu64 := hu64_of hr
  have hu65 := hu65_of hr
  exact (qf_cons (qf_set 2 sc.nd (qe_op2 d_sub qe_int (qe_call (ok__law_draw T) (hr.mono (by decide)) ok (qa_cons (qe_var 0) (qa_cons qe_int qa_nil)) rfl)))
  (qf_cons (qf_set 3 sc.nd (qe_make (ok_Sealer_init T) (hr.mono (by decide)) ok (qa_cons (qe_var 1) (qa_cons (qe_var 2) qa_nil)) rfl))
  (qf_cons (qf_for ok (qi_range2 rfl T.z_range (qe_op2 d_add (qe_var 2) qe_int) qe_int) (qg_name 4 sc.nd) (qf_one (qf_if (qt_not (qt_truth (qe_call (ok__law_is_same T 3) (hr.mono (by decide)) ok (qa_cons (qe_meth (ok_Sealer_seal T) (hr.mono (by decide)) ok (qe_var 3) (qa_cons (qe_tup (qa_cons qe_int (qa_cons qe_int qa_nil)) (hz := Nat.le_of_ble_eq_true rfl)) qa_nil)) (qa_cons (qe_call (ok__law_sealed T) (hr.mono (by decide)) ok (qa_cons (qe_var 1) (qa_cons (qe_var 4) (qa_cons (qe_tup (qa_cons qe_int (qa_cons qe_int qa_nil)) (hz := Nat.le_of_ble_eq_true rfl)) qa_nil))) rfl) qa_nil)) rfl))) (qf_one (qf_ret qe_bl)) qf_nil)))
  (qf_cons (qf_if (qt_w (qw_or (qt_not (qt_truth (qe_call (ok__law_is_used T) (hr.mono (by decide)) ok (qa_cons (qe_var 3) qa_nil) rfl))) (qw_or1 (qt_not (qt_truth (qe_call (ok__law_is_used T) (hr.mono (by decide)) ok (qa_cons (qe_var 3) qa_nil) rfl)))))) (qf_one (qf_ret qe_bl)) qf_nil)
  (qf_cons (qf_set 5 sc.nd (qe_call (ok__law_draw T) (hr.mono (by decide)) ok (qa_cons (qe_var 0) (qa_cons qe_int qa_nil)) rfl))
  (qf_one (qf_ret (qe_call (ok__law_is_same T 3) (hr.mono (by decide)) ok (qa_cons (qe_meth (ok_Sealer_seal T) (hr.mono (by decide)) ok (qe_make (ok_Sealer_init T) (hr.mono (by decide)) ok (qa_cons (qe_var 1) (qa_cons (qe_var 5) qa_nil)) rfl) (qa_cons (qe_tup (qa_cons qe_int qa_nil) (hz := Nat.le_of_ble_eq_true rfl)) qa_nil)) (qa_cons (qe_call (ok__law_sealed T) (hr.mono (by decide)) ok (qa_cons (qe_var 1) (qa_cons (qe_op2 d_add (qe_var 5) qe_int) (qa_cons (qe_tup (qa_cons qe_int qa_nil) (hz := Nat.le_of_ble_eq_true rfl)) qa_nil))) rfl) qa_nil)) rfl))))))))
theorem ok__law_ends (T : Tx w K mg ca) : Fn P w K mg base ca 7 "_law_ends" ["bag", "key"] m__law_ends := Fn.of T.f__law_ends (fun _ _ _ _ _ _ us hl => match us, hl with | [_, _], _ => rfl) fun f fd F => fn__law_ends T F
theorem sc_Writer_told : FnScope ["self"] ["self"] (defScope s_Writer_told) := ⟨rfl, rfl, rfl, by decide +kernel, rfl, by decide +kernel, by decide +kernel⟩
theorem fn_Writer_told (T : Tx w K mg ca) {f : Addr} {fd : FuncData} (F : Fun K "told" "Writer.told" s_Writer_told f fd) : FnOk P w K mg base (L2.CX P w) 1 f fd ["self"] (spOf K ca 1 m_Writer_told) := by
  have sc := sc_Writer_told
  refine fn_okn (k := 0) (n := 1) (p := 1) (s := b_Writer_told) F sc rfl rfl fun cdv A outer s0 H E hr ok => ?_
  have hu1 := hu1_of hr
  have hu64 := hu64_of hr
  have hu65 := hu65_of hr
  exact (qf_cons (qf_if (qt_cmp (d_eq hu64) (qe_fld T.fl__held (qe_var 0)) qe_int rfl) (qf_one (qf_ret (qe_tuple (qs_e (qe_fld T.fl__row (qe_var 0))) rfl T.z_tuple))) qf_nil)
  (qf_one (qf_ret (qe_op2 d_add (qe_tuple (qs_e (qe_fld T.fl__row (qe_var 0))) rfl T.z_tuple) (qe_tup (qa_cons (qe_op2 d_shl (qe_fld T.fl__rest (qe_var 0)) (qe_op2 d_sub qe_int (qe_fld T.fl__held (qe_var 0)))) qa_nil) (hz := Nat.le_of_ble_eq_true rfl))))))
theorem ok_Writer_told (T : Tx w K mg ca) : Md P w K mg base ca 1 2 "told" ["self"] m_Writer_told := Md.of T.f_Writer_told (fun _ _ _ _ _ _ us hl => match us, hl with | [_], _ => rfl) fun f fd F => fn_Writer_told T F
theorem sc_Writer_put : FnScope ["self", "value", "width"] ["self", "value", "width"] (defScope s_Writer_put) := ⟨rfl, rfl, rfl, by decide +kernel, rfl, by decide +kernel, by decide +kernel⟩
theorem fn_Writer_put (T : Tx w K mg ca) {f : Addr} {fd : FuncData} (F : Fun K "put" "Writer.put" s_Writer_put f fd) : FnOk P w K mg base (L2.CX P w) 1 f fd ["self", "value", "width"] (spOf K ca 3 m_Writer_put) := by
  have sc := sc_Writer_put
  refine fn_okn (k := 0) (n := 3) (p := 3) (s := b_Writer_put) F sc rfl rfl fun cdv A outer s0 H E hr ok => ?_
  have hu1 := hu1_of hr
  have hu64 := hu64_of hr
  have hu65 := hu65_of hr
  exact (qf_cons (qf_fld T.fl__rest (qe_var 0) (qe_op2 d_add (qe_op2 d_shl (qe_fld T.fl__rest (qe_var 0)) (qe_var 2)) (qe_var 1)))
  (qf_cons (qf_fldaug T.fl__held in_iadd (qe_var 0) (qe_var 2))
  (qf_one (qf_while ok (qt_cmp d_ge (qe_fld T.fl__held (qe_var 0)) qe_int rfl) (qf_cons (qf_fldaug T.fl__held in_isub (qe_var 0) qe_int)
  (qf_cons (qf_exp (qe_app (qe_fld T.fl__row (qe_var 0)) (qe_op2 d_shr (qe_fld T.fl__rest (qe_var 0)) (qe_fld T.fl__held (qe_var 0)))))
  (qf_one (qf_fld T.fl__rest (qe_var 0) (qe_op2 d_and (qe_fld T.fl__rest (qe_var 0)) (qe_op2 d_sub (qe_op2 d_shl qe_int (qe_fld T.fl__held (qe_var 0))) qe_int))))))))))
theorem ok_Writer_put (T : Tx w K mg ca) : Md P w K mg base ca 1 2 "put" ["self", "value", "width"] m_Writer_put := Md.of T.f_Writer_put (fun _ _ _ _ _ _ us hl => match us, hl with | [_, _, _], _ => rfl) fun f fd F => fn_Writer_put T F
theorem sc_width_of : FnScope ["n"] ["n"] (defScope s_width_of) := ⟨rfl, rfl, rfl, by decide +kernel, rfl, by decide +kernel, by decide +kernel⟩
theorem fn_width_of (T : Tx w K mg ca) {f : Addr} {fd : FuncData} (F : Fun K "width_of" "width_of" s_width_of f fd) : FnOk P w K mg base (L2.CX P w) 1 f fd ["n"] (spOf K ca 1 m_width_of) := by
  have sc := sc_width_of
  refine fn_okn (k := 0) (n := 1) (p := 1) (s := b_width_of) F sc rfl rfl fun cdv A outer s0 H E hr ok => ?_
  have hu1 := hu1_of hr
  have hu64 := hu64_of hr
  have hu65 := hu65_of hr
  exact (qf_one (qf_ret (qe_bits (qe_var 0))))
theorem ok_width_of (T : Tx w K mg ca) : Fn P w K mg base ca 1 "width_of" ["n"] m_width_of := Fn.of T.f_width_of (fun _ _ _ _ _ _ us hl => match us, hl with | [_], _ => rfl) fun f fd F => fn_width_of T F
theorem sc_Writer_number : FnScope ["self", "value", "width"] ["self", "value"] (defScope s_Writer_number) := ⟨rfl, rfl, rfl, by decide +kernel, rfl, by decide +kernel, by decide +kernel⟩
theorem fn_Writer_number (T : Tx w K mg ca) {f : Addr} {fd : FuncData} (F : Fun K "number" "Writer.number" s_Writer_number f fd) : FnOk P w K mg base (L2.CX P w) 2 f fd ["self", "value"] (spOf K ca 2 m_Writer_number) := by
  have sc := sc_Writer_number
  refine fn_okn (k := 1) (n := 3) (p := 2) (s := b_Writer_number) F sc rfl rfl fun cdv A outer s0 H E hr ok => ?_
  have hu1 := hu1_of hr
  have hu64 := hu64_of hr
  have hu65 := hu65_of hr
  exact (qf_cons (qf_set 2 sc.nd (qe_op2 d_sub (qe_call (ok_width_of T) (hr.mono (by decide)) ok (qa_cons (qe_op2 d_add (qe_var 1) qe_int) qa_nil) rfl) qe_int))
  (qf_cons (qf_exp (qe_meth (ok_Writer_put T) (hr.mono (by decide)) ok (qe_var 0) (qa_cons (qe_var 2) (qa_cons qe_int qa_nil))))
  (qf_one (qf_exp (qe_meth (ok_Writer_put T) (hr.mono (by decide)) ok (qe_var 0) (qa_cons (qe_op2 d_sub (qe_op2 d_add (qe_var 1) qe_int) (qe_op2 d_shl qe_int (qe_var 2))) (qa_cons (qe_var 2) qa_nil)))))))
theorem ok_Writer_number (T : Tx w K mg ca) : Md P w K mg base ca 2 2 "number" ["self", "value"] m_Writer_number := Md.of T.f_Writer_number (fun _ _ _ _ _ _ us hl => match us, hl with | [_, _], _ => rfl) fun f fd F => fn_Writer_number T F
theorem sc_put_field : FnScope ["writer", "world", "kind", "told", "one"] ["writer", "world", "kind", "told"] (defScope s_put_field) := ⟨rfl, rfl, rfl, by decide +kernel, rfl, by decide +kernel, by decide +kernel⟩
theorem fn_put_field (T : Tx w K mg ca) {f : Addr} {fd : FuncData} (F : Fun K "put_field" "put_field" s_put_field f fd) : FnOk P w K mg base (L2.CX P w) 3 f fd ["writer", "world", "kind", "told"] (spOf K ca 4 m_put_field) := by
  have sc := sc_put_field
  refine fn_okn (k := 2) (n := 5) (p := 4) (s := b_put_field) F sc rfl rfl fun cdv A outer s0 H E hr ok => ?_
  have hu1 := hu1_of hr
  have hu64 := hu64_of hr
  have hu65 := hu65_of hr
  exact (qf_one (qf_if (qt_cmp (d_eq hu64) (qe_var 2) qe_str rfl) (qf_one (qf_exp (qe_meth (ok_Writer_put T) (hr.mono (by decide)) ok (qe_var 0) (qa_cons (qe_var 3) (qa_cons qe_int qa_nil))))) (qf_one (qf_if (qt_cmp (d_eq hu64) (qe_var 2) qe_str rfl) (qf_one (qf_exp (qe_meth (ok_Writer_number T) (hr.mono (by decide)) ok (qe_var 0) (qa_cons (qe_var 3) qa_nil)))) qfs_bad))))
theorem ok_put_field (T : Tx w K mg ca) : Fn P w K mg base ca 3 "put_field" ["writer", "world", "kind", "told"] m_put_field := Fn.of T.f_put_field (fun _ _ _ _ _ _ us hl => match us, hl with | [_, _, _, _], _ => rfl) fun f fd F => fn_put_field T F
theorem sc_Writer_init : FnScope ["self"] ["self"] (defScope s_Writer_init) := ⟨rfl, rfl, rfl, by decide +kernel, rfl, by decide +kernel, by decide +kernel⟩
theorem fn_Writer_init (T : Tx w K mg ca) {f : Addr} {fd : FuncData} (F : Fun K "__init__" "Writer.__init__" s_Writer_init f fd) : FnOk P w K mg base (L2.CX P w) 1 f fd ["self"] (spOf K ca 1 m_Writer_init) := by
  have sc := sc_Writer_init
  refine fn_okn (k := 0) (n := 1) (p := 1) (s := b_Writer_init) F sc rfl rfl fun cdv A outer s0 H E hr ok => ?_
  have hu1 := hu1_of hr
  have hu64 := hu64_of hr
  have hu65 := hu65_of hr
  exact (qf_cons (qf_fld T.fl__row (qe_var 0) (qe_new (ql_lst qa_nil (hz := Nat.le_of_ble_eq_true rfl))))
  (qf_cons (qf_fld T.fl__rest (qe_var 0) qe_int)
  (qf_one (qf_fld T.fl__held (qe_var 0) qe_int))))
theorem ok_Writer_init (T : Tx w K mg ca) : Cm P w K mg base ca 1 2 "Writer" ["self"] m_Writer_init := Cm.of T.f_Writer_init (fun _ _ _ _ _ _ us hl => match us, hl with | [_], _ => rfl) fun f fd F => fn_Writer_init T F
theorem sc_body_of : FnScope ["world", "letter", "writer", "layout", "at"] ["world", "letter"] (defScope s_body_of) := ⟨rfl, rfl, rfl, by decide +kernel, rfl, by decide +kernel, by decide +kernel⟩
theorem fn_body_of (T : Tx w K mg ca) {f : Addr} {fd : FuncData} (F : Fun K "body_of" "body_of" s_body_of f fd) : FnOk P w K mg base (L2.CX P w) 4 f fd ["world", "letter"] (spOf K ca 2 m_body_of) := by
  have sc := sc_body_of
  refine fn_okn (k := 3) (n := 5) (p := 2) (s := b_body_of) F sc rfl rfl fun cdv A outer s0 H E hr ok => ?_
  have hu1 := hu1_of hr
  have hu64 := hu64_of hr
  have hu65 := hu65_of hr
  exact (qf_cons (qf_set 2 sc.nd (qe_make0 (ok_Writer_init T) (hr.mono (by decide)) ok rfl))
  (qf_cons (qf_exp (qe_meth (ok_Writer_put T) (hr.mono (by decide)) ok (qe_var 2) (qa_cons (qe_idx T.t_FORMS (qe_ix hu1 (qe_var 1) qe_int) rfl) (qa_cons qe_int qa_nil))))
  (qf_cons (qf_set 3 sc.nd (qe_tab T.k_LAYOUT (qe_ix hu1 (qe_var 1) qe_int) rfl))
  (qf_cons (qf_for ok (qi_range1 rfl T.z_range (qe_len (qe_var 3) rfl T.z_len)) (qg_name 4 sc.nd) (qf_one (qf_exp (qe_call (ok_put_field T) (hr.mono (by decide)) ok (qa_cons (qe_var 2) (qa_cons (qe_var 0) (qa_cons (qe_ix hu1 (qe_var 3) (qe_var 4)) (qa_cons (qe_ix hu1 (qe_var 1) (qe_op2 d_add (qe_var 4) qe_int)) qa_nil)))) rfl))))
  (qf_one (qf_ret (qe_meth0 (ok_Writer_told T) (hr.mono (by decide)) ok (qe_var 2))))))))
theorem ok_body_of (T : Tx w K mg ca) : Fn P w K mg base ca 4 "body_of" ["world", "letter"] m_body_of := Fn.of T.f_body_of (fun _ _ _ _ _ _ us hl => match us, hl with | [_, _], _ => rfl) fun f fd F => fn_body_of T F
theorem sc_pack : FnScope ["world", "letter", "body"] ["world", "letter"] (defScope s_pack) := ⟨rfl, rfl, rfl, by decide +kernel, rfl, by decide +kernel, by decide +kernel⟩
theorem fn_pack (T : Tx w K mg ca) {f : Addr} {fd : FuncData} (F : Fun K "pack" "pack" s_pack f fd) : FnOk P w K mg base (L2.CX P w) 5 f fd ["world", "letter"] (spOf K ca 2 m_pack) := by
  have sc := sc_pack
  refine fn_okn (k := 4) (n := 3) (p := 2) (s := b_pack) F sc rfl rfl fun cdv A outer s0 H E hr ok => ?_
  have hu1 := hu1_of hr
  have hu64 := hu64_of hr
  have hu65 := hu65_of hr
  exact (qf_cons (qf_if (qt_not (qt_truth (qe_call (ok_is_letter T) (hr.mono (by decide)) ok (qa_cons (qe_var 0) (qa_cons (qe_var 1) qa_nil)) rfl))) qfs_bad qf_nil)
  (qf_cons (qf_set 2 sc.nd (qe_call (ok_body_of T) (hr.mono (by decide)) ok (qa_cons (qe_var 0) (qa_cons (qe_var 1) qa_nil)) rfl))
  (qf_cons (qf_if (qt_cmp d_gt (qe_len (qe_var 2) rfl T.z_len) (qe_cst T.k_MOST_BODY rfl) rfl) qfs_bad qf_nil)
  (qf_one (qf_ret (qe_var 2))))))
theorem ok_pack (T : Tx w K mg ca) : Fn P w K mg base ca 5 "pack" ["world", "letter"] m_pack := Fn.of T.f_pack (fun _ _ _ _ _ _ us hl => match us, hl with | [_, _], _ => rfl) fun f fd F => fn_pack T F
theorem sc_fitted : FnScope ["world", "letter", "told"] ["world", "letter"] (defScope s_fitted) := ⟨rfl, rfl, rfl, by decide +kernel, rfl, by decide +kernel, by decide +kernel⟩
theorem fn_fitted (T : Tx w K mg ca) {f : Addr} {fd : FuncData} (F : Fun K "fitted" "fitted" s_fitted f fd) : FnOk P w K mg base (L2.CX P w) 5 f fd ["world", "letter"] (spOf K ca 2 m_fitted) := by
  have sc := sc_fitted
  refine fn_okn (k := 4) (n := 3) (p := 2) (s := b_fitted) F sc rfl rfl fun cdv A outer s0 H E hr ok => ?_
  have hu1 := hu1_of hr
  have hu64 := hu64_of hr
  have hu65 := hu65_of hr
  exact (qf_cons (qf_if (qt_not (qt_truth (qe_call (ok_is_letter T) (hr.mono (by decide)) ok (qa_cons (qe_var 0) (qa_cons (qe_var 1) qa_nil)) rfl))) qfs_bad qf_nil)
  (qf_cons (qf_set 2 sc.nd (qe_var 1))
  (qf_cons (qf_while ok (qt_cmp d_gt (qe_len (qe_call (ok_body_of T) (hr.mono (by decide)) ok (qa_cons (qe_var 0) (qa_cons (qe_var 2) qa_nil)) rfl) rfl T.z_len) (qe_cst T.k_MOST_BODY rfl) rfl) qfs_bad)
  (qf_one (qf_ret (qe_var 2))))))
theorem ok_fitted (T : Tx w K mg ca) : Fn P w K mg base ca 5 "fitted" ["world", "letter"] m_fitted := Fn.of T.f_fitted (fun _ _ _ _ _ _ us hl => match us, hl with | [_, _], _ => rfl) fun f fd F => fn_fitted T F
theorem sc_Link_send : FnScope ["self", "letter"] ["self", "letter"] (defScope s_Link_send) := ⟨rfl, rfl, rfl, by decide +kernel, rfl, by decide +kernel, by decide +kernel⟩
theorem fn_Link_send (T : Tx w K mg ca) {f : Addr} {fd : FuncData} (F : Fun K "send" "Link.send" s_Link_send f fd) : FnOk P w K mg base (L2.CX P w) 6 f fd ["self", "letter"] (spOf K ca 2 m_Link_send) := by
  have sc := sc_Link_send
  refine fn_okn (k := 5) (n := 2) (p := 2) (s := b_Link_send) F sc rfl rfl fun cdv A outer s0 H E hr ok => ?_
  have hu1 := hu1_of hr
  have hu64 := hu64_of hr
  have hu65 := hu65_of hr
  exact (qf_one (qf_ret (qe_meth (ok_Sealer_seal T) (hr.mono (by decide)) ok (qe_fld T.fl__sealer (qe_var 0)) (qa_cons (qe_call (ok_pack T) (hr.mono (by decide)) ok (qa_cons (qe_fld T.fl__world (qe_var 0)) (qa_cons (qe_call (ok_fitted T) (hr.mono (by decide)) ok (qa_cons (qe_fld T.fl__world (qe_var 0)) (qa_cons (qe_var 1) qa_nil)) rfl) qa_nil)) rfl) qa_nil))))
theorem ok_Link_send (T : Tx w K mg ca) : Md P w K mg base ca 6 4 "send" ["self", "letter"] m_Link_send := Md.of T.f_Link_send (fun _ _ _ _ _ _ us hl => match us, hl with | [_, _], _ => rfl) fun f fd F => fn_Link_send T F
theorem sc__law_rows : FnScope ["bag", "world", "key", "lives", "rows", "life", "link", "k", "letter"] ["bag", "world", "key", "lives"] (defScope s__law_rows) := ⟨rfl, rfl, rfl, by decide +kernel, rfl, by decide +kernel, by decide +kernel⟩
theorem fn__law_rows (T : Tx w K mg ca) {f : Addr} {fd : FuncData} (F : Fun K "_law_rows" "_law_rows" s__law_rows f fd) : FnOk P w K mg base (L2.CX P w) 7 f fd ["bag", "world", "key", "lives"] (spOf K ca 4 m__law_rows) := by
  have sc := sc__law_rows
  refine fn_okn (k := 6) (n := 9) (p := 4) (s := b__law_rows) F sc rfl rfl fun cdv A outer s0 H E hr ok => ?_
  have hu1 := hu1_of hr
  have hu64 := hu64_of hr
  have hu65 := hu65_of hr
  exact (qf_cons (qf_set 4 sc.nd (qe_new (ql_lst qa_nil (hz := Nat.le_of_ble_eq_true rfl))))
  (qf_cons (qf_for ok (qi_e (qe_var 3)) (qg_name 5 sc.nd) (qf_cons (qf_set 6 sc.nd (qe_make (ok_Link_init T) (hr.mono (by decide)) ok (qa_cons (qe_var 1) (qa_cons (qe_var 2) (qa_cons (qe_tup (qa_cons qe_str (qa_cons qe_int (qa_cons qe_int (qa_cons qe_int qa_nil)))) (hz := Nat.le_of_ble_eq_true rfl)) (qa_cons (qe_op2 d_mul (qe_var 5) qe_int) qa_nil)))) rfl))
  (qf_one (qf_for ok (qi_range1 rfl T.z_range (qe_op2 d_add qe_int (qe_call (ok__law_draw T) (hr.mono (by decide)) ok (qa_cons (qe_var 0) (qa_cons qe_int qa_nil)) rfl))) (qg_name 7 sc.nd) (qf_cons (qf_set 8 sc.nd (qe_ixL (ql_lst (qa_cons (qe_tup (qa_cons qe_str (qa_cons (qe_call (ok__law_draw T) (hr.mono (by decide)) ok (qa_cons (qe_var 0) (qa_cons qe_int qa_nil)) rfl) qa_nil)) (hz := Nat.le_of_ble_eq_true rfl)) (qa_cons (qe_tup (qa_cons qe_str (qa_cons qe_int (qa_cons (qe_call (ok__law_draw T) (hr.mono (by decide)) ok (qa_cons (qe_var 0) (qa_cons qe_int qa_nil)) rfl) qa_nil))) (hz := Nat.le_of_ble_eq_true rfl)) qa_nil)) (hz := Nat.le_of_ble_eq_true rfl)) (qe_call (ok__law_draw T) (hr.mono (by decide)) ok (qa_cons (qe_var 0) (qa_cons qe_int qa_nil)) rfl)))
  (qf_one (qf_exp (qe_app (qe_var 4) (qe_tup (qa_cons (qe_op2 d_add (qe_op2 d_add (qe_op2 d_mul (qe_var 5) qe_int) (qe_var 7)) qe_int) (qa_cons (qe_var 8) (qa_cons (qe_meth (ok_Link_send T) (hr.mono (by decide)) ok (qe_var 6) (qa_cons (qe_var 8) qa_nil)) qa_nil))) (hz := Nat.le_of_ble_eq_true rfl))))))))))
  (qf_one (qf_ret (qe_var 4)))))
theorem ok__law_rows (T : Tx w K mg ca) : Fn P w K mg base ca 7 "_law_rows" ["bag", "world", "key", "lives"] m__law_rows := Fn.of T.f__law_rows (fun _ _ _ _ _ _ us hl => match us, hl with | [_, _, _, _], _ => rfl) fun f fd F => fn__law_rows T F
theorem sc__law_lives : FnScope ["bag", "lives", "k", "life"] ["bag"] (defScope s__law_lives) := ⟨rfl, rfl, rfl, by decide +kernel, rfl, by decide +kernel, by decide +kernel⟩
theorem fn__law_lives (T : Tx w K mg ca) {f : Addr} {fd : FuncData} (F : Fun K "_law_lives" "_law_lives" s__law_lives f fd) : FnOk P w K mg base (L2.CX P w) 2 f fd ["bag"] (spOf K ca 1 m__law_lives) := by
  have sc := sc__law_lives
  refine fn_okn (k := 1) (n := 4) (p := 1) (s := b__law_lives) F sc rfl rfl fun cdv A outer s0 H E hr ok => ?_
  have hu1 := hu1_of hr
  have hu64 := hu64_of hr
  have hu65 := hu65_of hr
  exact (qf_cons (qf_set 1 sc.nd (qe_new (ql_lst (qa_cons (qe_call (ok__law_draw T) (hr.mono (by decide)) ok (qa_cons (qe_var 0) (qa_cons qe_int qa_nil)) rfl) qa_nil) (hz := Nat.le_of_ble_eq_true rfl))))
  (qf_cons (qf_for ok (qi_range1 rfl T.z_range (qe_call (ok__law_draw T) (hr.mono (by decide)) ok (qa_cons (qe_var 0) (qa_cons qe_int qa_nil)) rfl)) (qg_name 2 sc.nd) (qf_cons (qf_set 3 sc.nd (qe_min2 rfl qe_int (qe_op2 d_add (qe_ix hu1 (qe_var 1) (qe_un d_neg qe_int)) (qe_ixL (ql_lst (qa_cons qe_int (qa_cons qe_int (qa_cons qe_int qa_nil))) (hz := Nat.le_of_ble_eq_true rfl)) (qe_call (ok__law_draw T) (hr.mono (by decide)) ok (qa_cons (qe_var 0) (qa_cons qe_int qa_nil)) rfl))) rfl T.z_min))
  (qf_one (qf_if (qt_cmp d_gt (qe_var 3) (qe_ix hu1 (qe_var 1) (qe_un d_neg qe_int)) rfl) (qf_one (qf_exp (qe_app (qe_var 1) (qe_var 3)))) qf_nil))))
  (qf_one (qf_ret (qe_var 1)))))
theorem ok__law_lives (T : Tx w K mg ca) : Fn P w K mg base ca 2 "_law_lives" ["bag"] m__law_lives := Fn.of T.f__law_lives (fun _ _ _ _ _ _ us hl => match us, hl with | [_], _ => rfl) fun f fd F => fn__law_lives T F
theorem sc__law_wide : FnScope ["bag", "many"] ["bag", "many"] (defScope s__law_wide) := ⟨rfl, rfl, rfl, by decide +kernel, rfl, by decide +kernel, by decide +kernel⟩
theorem fn__law_wide (T : Tx w K mg ca) {f : Addr} {fd : FuncData} (F : Fun K "_law_wide" "_law_wide" s__law_wide f fd) : FnOk P w K mg base (L2.CX P w) 2 f fd ["bag", "many"] (spOf K ca 2 m__law_wide) := by
  have sc := sc__law_wide
  refine fn_okn (k := 1) (n := 2) (p := 2) (s := b__law_wide) F sc rfl rfl fun cdv A outer s0 H E hr ok => ?_
  have hu1 := hu1_of hr
  have hu64 := hu64_of hr
  have hu65 := hu65_of hr
  exact (qf_one (qf_ret (qe_op2 d_mod (qe_intOf (qe_op2 d_add (qe_op2 d_mul (qe_call (ok__law_draw T) (hr.mono (by decide)) ok (qa_cons (qe_var 0) (qa_cons qe_int qa_nil)) rfl) qe_int) (qe_call (ok__law_draw T) (hr.mono (by decide)) ok (qa_cons (qe_var 0) (qa_cons qe_int qa_nil)) rfl)) rfl T.z_int) (qe_var 1))))
theorem ok__law_wide (T : Tx w K mg ca) : Fn P w K mg base ca 2 "_law_wide" ["bag", "many"] m__law_wide := Fn.of T.f__law_wide (fun _ _ _ _ _ _ us hl => match us, hl with | [_, _], _ => rfl) fun f fd F => fn__law_wide T F
theorem sc__law_key : FnScope ["bag", "k", "one", "two"] ["bag"] (defScope s__law_key) := ⟨rfl, rfl, rfl, by decide +kernel, rfl, by decide +kernel, by decide +kernel⟩
theorem fn__law_key (T : Tx w K mg ca) {f : Addr} {fd : FuncData} (F : Fun K "_law_key" "_law_key" s__law_key f fd) : FnOk P w K mg base (L2.CX P w) 3 f fd ["bag"] (spOf K ca 1 m__law_key) := by
  have sc := sc__law_key
  refine fn_okn (k := 2) (n := 4) (p := 1) (s := b__law_key) F sc rfl rfl fun cdv A outer s0 H E hr ok => ?_
  have hu1 := hu1_of hr
  have hu64 := hu64_of hr
  have hu65 := hu65_of hr
  exact (qf_cons (qf_set 1 sc.nd (qe_ixL (ql_lst (qa_cons qe_int (qa_cons qe_int (qa_cons qe_int (qa_cons qe_int (qa_cons (qe_op2 d_add qe_int (qe_call (ok__law_wide T) (hr.mono (by decide)) ok (qa_cons (qe_var 0) (qa_cons qe_int qa_nil)) rfl)) (qa_cons (qe_op2 d_add qe_int (qe_call (ok__law_wide T) (hr.mono (by decide)) ok (qa_cons (qe_var 0) (qa_cons qe_int qa_nil)) rfl)) qa_nil)))))) (hz := Nat.le_of_ble_eq_true rfl)) (qe_call (ok__law_draw T) (hr.mono (by decide)) ok (qa_cons (qe_var 0) (qa_cons qe_int qa_nil)) rfl)))
  (qf_cons (qf_set 2 sc.nd (qe_ixL (ql_lst (qa_cons qe_int (qa_cons qe_int (qa_cons (qe_call (ok__law_wide T) (hr.mono (by decide)) ok (qa_cons (qe_var 0) (qa_cons qe_int qa_nil)) rfl) qa_nil))) (hz := Nat.le_of_ble_eq_true rfl)) (qe_call (ok__law_draw T) (hr.mono (by decide)) ok (qa_cons (qe_var 0) (qa_cons qe_int qa_nil)) rfl)))
  (qf_cons (qf_set 3 sc.nd (qe_ixL (ql_lst (qa_cons qe_int (qa_cons qe_int (qa_cons (qe_call (ok__law_wide T) (hr.mono (by decide)) ok (qa_cons (qe_var 0) (qa_cons qe_int qa_nil)) rfl) qa_nil))) (hz := Nat.le_of_ble_eq_true rfl)) (qe_call (ok__law_draw T) (hr.mono (by decide)) ok (qa_cons (qe_var 0) (qa_cons qe_int qa_nil)) rfl)))
  (qf_one (qf_ret (qe_tup (qa_cons qe_str (qa_cons (qe_var 1) (qa_cons (qe_var 2) (qa_cons (qe_var 3) qa_nil)))) (hz := Nat.le_of_ble_eq_true rfl)))))))
theorem ok__law_key (T : Tx w K mg ca) : Fn P w K mg base ca 3 "_law_key" ["bag"] m__law_key := Fn.of T.f__law_key (fun _ _ _ _ _ _ us hl => match us, hl with | [_], _ => rfl) fun f fd F => fn__law_key T F
theorem sc__law_bag : FnScope ["script", "k", "cell"] ["script", "k"] (defScope s__law_bag) := ⟨rfl, rfl, rfl, by decide +kernel, rfl, by decide +kernel, by decide +kernel⟩
theorem fn__law_bag (T : Tx w K mg ca) {f : Addr} {fd : FuncData} (F : Fun K "_law_bag" "_law_bag" s__law_bag f fd) : FnOk P w K mg base (L2.CX P w) 1 f fd ["script", "k"] (spOf K ca 2 m__law_bag) := by
  have sc := sc__law_bag
  refine fn_okn (k := 0) (n := 3) (p := 2) (s := b__law_bag) F sc rfl rfl fun cdv A outer s0 H E hr ok => ?_
  have hu1 := hu1_of hr
  have hu64 := hu64_of hr
  have hu65 := hu65_of hr
  exact (qf_cons (qf_set 2 sc.nd qe_int)
  (qf_cons (qf_if (qt_cmp d_lt (qe_var 1) (qe_len (qe_var 0) rfl T.z_len) rfl) (qf_one (qf_set 2 sc.nd (qe_intOf (qe_ix hu1 (qe_var 0) (qe_var 1)) rfl T.z_int))) qf_nil)
  (qf_cons (qf_if (qt_cmp d_ge (qe_var 2) (qe_op2 d_pow qe_int qe_int) rfl) (qf_one (qf_ret (qe_new (ql_lst (qa_cons (qe_var 2) (qa_cons (qe_var 2) (qa_cons (qe_var 1) qa_nil))) (hz := Nat.le_of_ble_eq_true rfl))))) qf_nil)
  (qf_one (qf_ret (qe_new (ql_lst (qa_cons qe_int (qa_cons (qe_var 2) (qa_cons (qe_var 1) qa_nil))) (hz := Nat.le_of_ble_eq_true rfl))))))))
theorem ok__law_bag (T : Tx w K mg ca) : Fn P w K mg base ca 1 "_law_bag" ["script", "k"] m__law_bag := Fn.of T.f__law_bag (fun _ _ _ _ _ _ us hl => match us, hl with | [_, _], _ => rfl) fun f fd F => fn__law_bag T F
theorem sc_law : FnScope ["script", "world", "k", "bag", "key", "rows", "number", "letter", "row"] ["script"] (defScope s_law) := ⟨rfl, rfl, rfl, by decide +kernel, rfl, by decide +kernel, by decide +kernel⟩
theorem fn_law (T : Tx w K mg ca) {f : Addr} {fd : FuncData} (F : Fun K "law" "law" s_law f fd) : FnOk P w K mg base (L2.CX P w) 9 f fd ["script"] (spOf K ca 1 m_law) := by
  have sc := sc_law
  refine fn_okn (k := 8) (n := 9) (p := 1) (s := b_law) F sc rfl rfl fun cdv A outer s0 H E hr ok => ?_
  have hu1 := hu1_of hr
  have hu64 := hu64_of hr
  have hu65 := hu65_of hr
  exact (qf_cons (qf_if (qt_w (qw_or (qt_cmp (d_ne hu64) (qe_cst T.k_LIFE rfl) qe_int rfl) (qw_or1 (qt_cmp (d_ne hu64) (qe_cst T.k_MOST_COUNT rfl) qe_int rfl)))) (qf_one (qf_ret qe_bl)) qf_nil)
  (qf_cons (qf_set 1 sc.nd (qe_tup (qa_cons qe_str (qa_cons qe_str (qa_cons qe_int (qa_cons (qe_tup (qa_cons (qe_tup (qa_cons qe_str (qa_cons qe_int (qa_cons qe_int (qa_cons qe_str qa_nil)))) (hz := Nat.le_of_ble_eq_true rfl)) qa_nil) (hz := Nat.le_of_ble_eq_true rfl)) (qa_cons (qe_tup qa_nil (hz := Nat.le_of_ble_eq_true rfl)) (qa_cons (qe_tup qa_nil (hz := Nat.le_of_ble_eq_true rfl)) (qa_cons (qe_tup qa_nil (hz := Nat.le_of_ble_eq_true rfl)) (qa_cons (qe_tup qa_nil (hz := Nat.le_of_ble_eq_true rfl)) (qa_cons (qe_tup qa_nil (hz := Nat.le_of_ble_eq_true rfl)) qa_nil))))))))) (hz := Nat.le_of_ble_eq_true rfl)))
  (qf_cons (qf_for ok (qi_range1 rfl T.z_range (qe_min2 rfl (qe_max2 rfl (qe_len (qe_var 0) rfl T.z_len) qe_int rfl T.z_max) qe_int rfl T.z_min)) (qg_name 2 sc.nd) (qf_cons (qf_set 3 sc.nd (qe_call (ok__law_bag T) (hr.mono (by decide)) ok (qa_cons (qe_var 0) (qa_cons (qe_var 2) qa_nil)) rfl))
  (qf_cons (qf_set 4 sc.nd (qe_call (ok__law_key T) (hr.mono (by decide)) ok (qa_cons (qe_var 3) qa_nil) rfl))
  (qf_cons (qf_set 5 sc.nd (qe_call (ok__law_rows T) (hr.mono (by decide)) ok (qa_cons (qe_var 3) (qa_cons (qe_var 1) (qa_cons (qe_var 4) (qa_cons (qe_call (ok__law_lives T) (hr.mono (by decide)) ok (qa_cons (qe_var 3) qa_nil) rfl) qa_nil)))) rfl))
  (qf_cons (qf_for ok (qi_e (qe_var 5)) (qg_tup rfl (qgs_cons (qg_name 6 sc.nd) (qgs_cons (qg_name 7 sc.nd) (qgs_cons (qg_name 8 sc.nd) qgs_nil)))) (qf_one (qf_if (qt_w (qw_or (qt_not (qt_truth (qe_isi (t := .tuple) (fun z => nomatch z) (qe_var 8) rfl T.z_isinstance rfl T.z_tuple (by decide +kernel)))) (qw_or1 (qt_not (qt_truth (qe_call (ok__law_is_same T 3) (hr.mono (by decide)) ok (qa_cons (qe_var 8) (qa_cons (qe_call (ok__law_sealed T) (hr.mono (by decide)) ok (qa_cons (qe_var 4) (qa_cons (qe_var 6) (qa_cons (qe_slice (qe_var 8) (qo_some qe_int) (qo_some (qe_un d_neg qe_int))) qa_nil))) rfl) qa_nil)) rfl)))))) (qf_one (qf_ret qe_bl)) qf_nil)))
  (qf_one (qf_if (qt_w (qw_or (qt_not (qt_truth (qe_call (ok__law_comes T) (hr.mono (by decide)) ok (qa_cons (qe_var 3) (qa_cons (qe_var 1) (qa_cons (qe_var 4) (qa_cons (qe_var 5) qa_nil)))) rfl))) (qw_or1 (qt_not (qt_truth (qe_call (ok__law_ends T) (hr.mono (by decide)) ok (qa_cons (qe_var 3) (qa_cons (qe_var 4) qa_nil)) rfl)))))) (qf_one (qf_ret qe_bl)) qf_nil)))))))
  (qf_one (qf_ret qe_bl)))))
theorem ok_law (T : Tx w K mg ca) : Fn P w K mg base ca 9 "law" ["script"] m_law := Fn.of T.f_law (fun _ _ _ _ _ _ us hl => match us, hl with | [_], _ => rfl) fun f fd F => fn_law T F
end
end PMl

set_option Elab.async false
set_option linter.all false
set_option maxRecDepth 100000
set_option maxHeartbeats 4000000
/-! the end of k54 (printed by gen.py) -/
namespace PMl
open PySem PySem.Spec PyProof.Rows L2 PM
def caOf (C0 C1 C2 C3 C4 C6 C7 C8 : Addr) : Nat → Addr
  | 0 => C0
  | 1 => C1
  | 2 => C2
  | 3 => C3
  | 4 => C4
  | 6 => C6
  | 7 => C7
  | 8 => C8
  | _ => 0
theorem all_mk {l : PySem.W.OpenLaw} {w : World} {K : Frag} {h : Heap} {mg : Str → Option Value} {fa C0 C1 C2 C3 C4 C6 C7 C8 f0 f1 f2 f3 f4 f5 f6 f7 f8 f9 f10 f11 f12 f13 f14 f15 f16 f17 f18 f19 f20 f21 f22 f23 f24 f25 f26 f27 f28 f29 f30 f31 f32 f33 f34 f35 f36 f37 f38 f39 f40 f41 f42 f43 f44 f45 f46 f47 f48 f49 f50 f51 : Addr} (X : K.In h) (G : h.Ns mainGlobals mg) (hfa : mg "law" = some (.ref fa))
    {od0 od1 od2 od3 od4 od5 od6 od7 od8 od9 od10 od11 od12 od13 od14 od15 od16 od17 od18 od19 od20 od21 od22 od23 od24 od25 od26 od27 od28 od29 od30 od31 od32 od33 od34 od35 od36 od37 od38 od39 od40 od41 od42 od43 od44 od45 od46 od47 od48 od49 od50 od51 an0 an1 an2 an3 an4 an5 an6 an7 an8 an9 an10 an11 an12 an13 an14 an15 an16 an17 an18 an19 an20 an21 an22 an23 an24 an25 an26 an27 an28 an29 an30 an31 an32 an33 an34 an35 an36 an37 an38 an39 an40 an41 an42 an43 an44 an45 an46 an47 an48 an49 an50 an51 : Option Addr} {sl0 sl1 sl2 sl3 sl4 sl5 sl6 sl7 sl8 sl9 sl10 sl11 sl12 sl13 sl14 sl15 sl16 sl17 sl18 sl19 sl20 sl21 sl22 sl23 sl24 sl25 sl26 sl27 sl28 sl29 sl30 sl31 sl32 sl33 sl34 sl35 sl36 sl37 sl38 sl39 sl40 sl41 sl42 sl43 sl44 sl45 sl46 sl47 sl48 sl49 sl50 sl51 : Array (Option Value)} {oc0 oc1 oc2 oc3 oc4 oc5 oc6 oc7 oc8 oc9 oc10 oc11 oc12 oc13 oc14 oc15 oc16 oc17 oc18 oc19 oc20 oc21 oc22 oc23 oc24 oc25 oc26 oc27 oc28 oc29 oc30 oc31 oc32 oc33 oc34 oc35 oc36 oc37 oc38 oc39 oc40 oc41 oc42 oc43 oc44 oc45 oc46 oc47 oc48 oc49 oc50 oc51 kV0 kV1 kV2 kV3 kV4 kV5 kV6 kV7 kV8 kV9 kV10 kV11 kV12 kV13 kV14 kV15 kV16 kV17 kV18 kV19 kV20 kV21 kV22 kV23 kV24 kV25 kV26 kV27 kV28 kV29 kV30 kV31 kV32 kV33 kV34 kV35 kV36 kV37 kV38 kV39 kV40 kV41 kV42 kV43 kV44 kV45 kV46 kV47 kV48 kV49 kV50 kV51 dc0 dc1 dc2 dc3 dc4 dc5 dc6 dc7 dc8 dc9 dc10 dc11 dc12 dc13 dc14 dc15 dc16 dc17 dc18 dc19 dc20 dc21 dc22 dc23 dc24 dc25 dc26 dc27 dc28 dc29 dc30 dc31 dc32 dc33 dc34 dc35 dc36 dc37 dc38 dc39 dc40 dc41 dc42 dc43 dc44 dc45 dc46 dc47 dc48 dc49 dc50 dc51 pm0 pm1 pm2 pm3 pm4 pm5 pm6 pm7 pm8 pm9 pm10 pm11 pm12 pm13 pm14 pm15 pm16 pm17 pm18 pm19 pm20 pm21 pm22 pm23 pm24 pm25 pm26 pm27 pm28 pm29 pm30 pm31 pm32 pm33 pm34 pm35 pm36 pm37 pm38 pm39 pm40 pm41 pm42 pm43 pm44 pm45 pm46 pm47 pm48 pm49 pm50 pm51 cd0 cd1 cd2 cd3 cd4 cd5 cd6 cd7 cd8 cd9 cd10 cd11 cd12 cd13 cd14 cd15 cd16 cd17 cd18 cd19 cd20 cd21 cd22 cd23 cd24 cd25 cd26 cd27 cd28 cd29 cd30 cd31 cd32 cd33 cd34 cd35 cd36 cd37 cd38 cd39 cd40 cd41 cd42 cd43 cd44 cd45 cd46 cd47 cd48 cd49 cd50 cd51 ct0 ct1 ct2 ct3 ct4 ct5 ct6 ct7 ct8 ct9 ct10 ct11 ct12 ct13 ct14 ct15 ct16 ct17 ct18 ct19 ct20 ct21 ct22 ct23 ct24 ct25 ct26 ct27 ct28 ct29 ct30 ct31 ct32 ct33 ct34 ct35 ct36 ct37 ct38 ct39 ct40 ct41 ct42 ct43 ct44 ct45 ct46 ct47 ct48 ct49 ct50 ct51 : Value}
    (hm : ∀ ns : List Int, ns.length ≤ 63 → ∃ st, m_law [.con (ns.map D.int)] [] = .ok (.bl true) st)
    {kt_LAYOUTh0 kt_LAYOUTh1 kt_LAYOUTh2 kt_LAYOUTh3 kt_LAYOUTh4 kt_LAYOUTh5 kt_LAYOUTh6 kt_LAYOUTh7 kt_LAYOUTh8 kt_LAYOUTh9 kt_LAYOUTh10 kt_LAYOUTh11 kt_LAYOUTh12 kt_LAYOUTh13 kt_LAYOUTh14 kt_LAYOUTh15 kt_MANYh0 kt_MANYh1 kt_MANYh2 kt_MANYh3 : Int}
    {ka_FORMS kt_LAYOUT ka_LAYOUT_t0 ka_LAYOUT_t1 ka_LAYOUT_t2 ka_LAYOUT_t3 ka_LAYOUT_t4 ka_LAYOUT_t5 ka_LAYOUT_t6 ka_LAYOUT_t7 ka_LAYOUT_t8 ka_LAYOUT_t9 ka_LAYOUT_t10 ka_LAYOUT_t11 ka_LAYOUT_t12 ka_LAYOUT_t13 ka_LAYOUT_t14 ka_LAYOUT_t15 kt_MANY kx_FORMS dfa23 dfa24 : Addr}
    {ct_FORMS_0 ct_FORMS_1 ct_FORMS_2 ct_FORMS_3 ct_FORMS_4 ct_FORMS_5 ct_FORMS_6 ct_FORMS_7 ct_FORMS_8 ct_FORMS_9 ct_FORMS_10 ct_FORMS_11 ct_FORMS_12 ct_FORMS_13 ct_FORMS_14 ct_FORMS_15 ct_GREATEST_SUM ct_LIFE ct_MOST_BODY ct_MOST_COUNT ct_MOST_LETTER ct_MOST_PARTS ct_MOST_TICK ct_PRIME ct_WINDOW ct_WORDS kt_LAYOUTt0 ct_LAYOUT_t0_0 ct_LAYOUT_t0_1 ct_LAYOUT_t0_2 kt_LAYOUTt1 ct_LAYOUT_t1_0 ct_LAYOUT_t1_1 ct_LAYOUT_t1_2 kt_LAYOUTt2 ct_LAYOUT_t2_0 ct_LAYOUT_t2_1 kt_LAYOUTt3 ct_LAYOUT_t3_0 ct_LAYOUT_t3_1 kt_LAYOUTt4 ct_LAYOUT_t4_0 kt_LAYOUTt5 ct_LAYOUT_t5_0 kt_LAYOUTt6 ct_LAYOUT_t6_0 kt_LAYOUTt7 ct_LAYOUT_t7_0 ct_LAYOUT_t7_1 ct_LAYOUT_t7_2 ct_LAYOUT_t7_3 kt_LAYOUTt8 ct_LAYOUT_t8_0 ct_LAYOUT_t8_1 ct_LAYOUT_t8_2 kt_LAYOUTt9 ct_LAYOUT_t9_0 ct_LAYOUT_t9_1 kt_LAYOUTt10 ct_LAYOUT_t10_0 ct_LAYOUT_t10_1 kt_LAYOUTt11 ct_LAYOUT_t11_0 ct_LAYOUT_t11_1 ct_LAYOUT_t11_2 ct_LAYOUT_t11_3 ct_LAYOUT_t11_4 ct_LAYOUT_t11_5 kt_LAYOUTt12 ct_LAYOUT_t12_0 ct_LAYOUT_t12_1 ct_LAYOUT_t12_2 kt_LAYOUTt13 ct_LAYOUT_t13_0 ct_LAYOUT_t13_1 ct_LAYOUT_t13_2 ct_LAYOUT_t13_3 ct_LAYOUT_t13_4 ct_LAYOUT_t13_5 kt_LAYOUTt14 ct_LAYOUT_t14_0 ct_LAYOUT_t14_1 ct_LAYOUT_t14_2 ct_LAYOUT_t14_3 ct_LAYOUT_t14_4 kt_LAYOUTt15 ct_LAYOUT_t15_0 kt_MANYt0 ct_MANY_t0 kt_MANYt1 ct_MANY_t1 kt_MANYt2 ct_MANY_t2 kt_MANYt3 ct_MANY_t3 kx_FORMSt0 kx_FORMSt1 kx_FORMSt2 kx_FORMSt3 kx_FORMSt4 kx_FORMSt5 kx_FORMSt6 kx_FORMSt7 kx_FORMSt8 kx_FORMSt9 kx_FORMSt10 kx_FORMSt11 kx_FORMSt12 kx_FORMSt13 kx_FORMSt14 kx_FORMSt15 ct_d23_0 ct_d24_0 : Tok}
    {ka_FORMSd ka_LAYOUT_t0d ka_LAYOUT_t1d ka_LAYOUT_t2d ka_LAYOUT_t3d ka_LAYOUT_t4d ka_LAYOUT_t5d ka_LAYOUT_t6d ka_LAYOUT_t7d ka_LAYOUT_t8d ka_LAYOUT_t9d ka_LAYOUT_t10d ka_LAYOUT_t11d ka_LAYOUT_t12d ka_LAYOUT_t13d ka_LAYOUT_t14d ka_LAYOUT_t15d dfa23d dfa24d : Option Addr}
    {ka_FORMSn kt_LAYOUTn ka_LAYOUT_t0n ka_LAYOUT_t1n ka_LAYOUT_t2n ka_LAYOUT_t3n ka_LAYOUT_t4n ka_LAYOUT_t5n ka_LAYOUT_t6n ka_LAYOUT_t7n ka_LAYOUT_t8n ka_LAYOUT_t9n ka_LAYOUT_t10n ka_LAYOUT_t11n ka_LAYOUT_t12n ka_LAYOUT_t13n ka_LAYOUT_t14n ka_LAYOUT_t15n kt_MANYn kx_FORMSn dfa23n dfa24n : Nat}
    {ka_FORMSs ka_LAYOUT_t0s ka_LAYOUT_t1s ka_LAYOUT_t2s ka_LAYOUT_t3s ka_LAYOUT_t4s ka_LAYOUT_t5s ka_LAYOUT_t6s ka_LAYOUT_t7s ka_LAYOUT_t8s ka_LAYOUT_t9s ka_LAYOUT_t10s ka_LAYOUT_t11s ka_LAYOUT_t12s ka_LAYOUT_t13s ka_LAYOUT_t14s ka_LAYOUT_t15s kx_FORMSs dfa23s dfa24s : Array (Option Value)}
    {dfa23c dfa24c : Value}
    (a_Sealer : PySem.W.nsIn K mainGlobals "Sealer" = some (some (.ref C0)))
    (pg_Sealer : PySem.W.plainGet K C0 Str.empty = true)
    (hd_Sealer : PySem.W.hasDictIn K C0 = true)
    (po_Sealer : PySem.W.plainOver K C0 = true)
    (sa_Sealer : PySem.W.findIn K (.ref C0) "__setattr__" = some (some (.builtin "object.__setattr__")))
    (mk_Sealer : PySem.W.makesIn K C0 = true)
    (kc_Sealer : PySem.W.keepIn K (.ref C0) = true)
    (a_Opener : PySem.W.nsIn K mainGlobals "Opener" = some (some (.ref C1)))
    (pg_Opener : PySem.W.plainGet K C1 Str.empty = true)
    (hd_Opener : PySem.W.hasDictIn K C1 = true)
    (po_Opener : PySem.W.plainOver K C1 = true)
    (sa_Opener : PySem.W.findIn K (.ref C1) "__setattr__" = some (some (.builtin "object.__setattr__")))
    (mk_Opener : PySem.W.makesIn K C1 = true)
    (kc_Opener : PySem.W.keepIn K (.ref C1) = true)
    (a_Writer : PySem.W.nsIn K mainGlobals "Writer" = some (some (.ref C2)))
    (pg_Writer : PySem.W.plainGet K C2 Str.empty = true)
    (hd_Writer : PySem.W.hasDictIn K C2 = true)
    (po_Writer : PySem.W.plainOver K C2 = true)
    (sa_Writer : PySem.W.findIn K (.ref C2) "__setattr__" = some (some (.builtin "object.__setattr__")))
    (mk_Writer : PySem.W.makesIn K C2 = true)
    (kc_Writer : PySem.W.keepIn K (.ref C2) = true)
    (a_Reader : PySem.W.nsIn K mainGlobals "Reader" = some (some (.ref C3)))
    (pg_Reader : PySem.W.plainGet K C3 Str.empty = true)
    (hd_Reader : PySem.W.hasDictIn K C3 = true)
    (po_Reader : PySem.W.plainOver K C3 = true)
    (sa_Reader : PySem.W.findIn K (.ref C3) "__setattr__" = some (some (.builtin "object.__setattr__")))
    (mk_Reader : PySem.W.makesIn K C3 = true)
    (kc_Reader : PySem.W.keepIn K (.ref C3) = true)
    (a_Link : PySem.W.nsIn K mainGlobals "Link" = some (some (.ref C4)))
    (pg_Link : PySem.W.plainGet K C4 Str.empty = true)
    (hd_Link : PySem.W.hasDictIn K C4 = true)
    (po_Link : PySem.W.plainOver K C4 = true)
    (sa_Link : PySem.W.findIn K (.ref C4) "__setattr__" = some (some (.builtin "object.__setattr__")))
    (mk_Link : PySem.W.makesIn K C4 = true)
    (kc_Link : PySem.W.keepIn K (.ref C4) = true)
    (a0 : PySem.W.nsIn K mainGlobals "_law_is_same" = some (some (.ref f0)))
    (l0 : K.lookup f0 = some ⟨oc0, od0, .func (PySem.W.fnOf "_law_is_same" "_law_is_same" (defArgs s__law_is_same) (defBody s__law_is_same) (defScope s__law_is_same) .none kV0 dc0 pm0 an0 cd0 ct0), sl0⟩)
    (c0 : PySem.W.codeIn K cd0 "_law_is_same" = true)
    (k0 : PySem.W.keepIn K (.ref f0) = true)
    (a1 : PySem.W.nsIn K mainGlobals "is_integer" = some (some (.ref f1)))
    (l1 : K.lookup f1 = some ⟨oc1, od1, .func (PySem.W.fnOf "is_integer" "is_integer" (defArgs s_is_integer) (defBody s_is_integer) (defScope s_is_integer) .none kV1 dc1 pm1 an1 cd1 ct1), sl1⟩)
    (c1 : PySem.W.codeIn K cd1 "is_integer" = true)
    (k1 : PySem.W.keepIn K (.ref f1) = true)
    (a2 : PySem.W.nsIn K mainGlobals "fits" = some (some (.ref f2)))
    (l2 : K.lookup f2 = some ⟨oc2, od2, .func (PySem.W.fnOf "fits" "fits" (defArgs s_fits) (defBody s_fits) (defScope s_fits) .none kV2 dc2 pm2 an2 cd2 ct2), sl2⟩)
    (c2 : PySem.W.codeIn K cd2 "fits" = true)
    (k2 : PySem.W.keepIn K (.ref f2) = true)
    (a3 : PySem.W.nsIn K mainGlobals "is_letter" = some (some (.ref f3)))
    (l3 : K.lookup f3 = some ⟨oc3, od3, .func (PySem.W.fnOf "is_letter" "is_letter" (defArgs s_is_letter) (defBody s_is_letter) (defScope s_is_letter) .none kV3 dc3 pm3 an3 cd3 ct3), sl3⟩)
    (c3 : PySem.W.codeIn K cd3 "is_letter" = true)
    (k3 : PySem.W.keepIn K (.ref f3) = true)
    (a4 : PySem.W.findIn K (.ref C3) "_seen" = some (some (.ref f4)))
    (i4 : PySem.W.isFn K (.ref f4) = true)
    (l4 : K.lookup f4 = some ⟨oc4, od4, .func (PySem.W.fnOf "_seen" "Reader._seen" (defArgs s_Reader__seen) (defBody s_Reader__seen) (defScope s_Reader__seen) .none kV4 dc4 pm4 an4 cd4 ct4), sl4⟩)
    (c4 : PySem.W.codeIn K cd4 "Reader._seen" = true)
    (k4 : PySem.W.keepIn K (.ref f4) = true)
    (a5 : PySem.W.findIn K (.ref C3) "finish" = some (some (.ref f5)))
    (i5 : PySem.W.isFn K (.ref f5) = true)
    (l5 : K.lookup f5 = some ⟨oc5, od5, .func (PySem.W.fnOf "finish" "Reader.finish" (defArgs s_Reader_finish) (defBody s_Reader_finish) (defScope s_Reader_finish) .none kV5 dc5 pm5 an5 cd5 ct5), sl5⟩)
    (c5 : PySem.W.codeIn K cd5 "Reader.finish" = true)
    (k5 : PySem.W.keepIn K (.ref f5) = true)
    (a6 : PySem.W.findIn K (.ref C3) "number" = some (some (.ref f6)))
    (i6 : PySem.W.isFn K (.ref f6) = true)
    (l6 : K.lookup f6 = some ⟨oc6, od6, .func (PySem.W.fnOf "number" "Reader.number" (defArgs s_Reader_number) (defBody s_Reader_number) (defScope s_Reader_number) .none kV6 dc6 pm6 an6 cd6 ct6), sl6⟩)
    (c6 : PySem.W.codeIn K cd6 "Reader.number" = true)
    (k6 : PySem.W.keepIn K (.ref f6) = true)
    (a7 : PySem.W.findIn K (.ref C3) "take" = some (some (.ref f7)))
    (i7 : PySem.W.isFn K (.ref f7) = true)
    (l7 : K.lookup f7 = some ⟨oc7, od7, .func (PySem.W.fnOf "take" "Reader.take" (defArgs s_Reader_take) (defBody s_Reader_take) (defScope s_Reader_take) .none kV7 dc7 pm7 an7 cd7 ct7), sl7⟩)
    (c7 : PySem.W.codeIn K cd7 "Reader.take" = true)
    (k7 : PySem.W.keepIn K (.ref f7) = true)
    (a8 : PySem.W.nsIn K mainGlobals "take_field" = some (some (.ref f8)))
    (l8 : K.lookup f8 = some ⟨oc8, od8, .func (PySem.W.fnOf "take_field" "take_field" (defArgs s_take_field) (defBody s_take_field) (defScope s_take_field) .none kV8 dc8 pm8 an8 cd8 ct8), sl8⟩)
    (c8 : PySem.W.codeIn K cd8 "take_field" = true)
    (k8 : PySem.W.keepIn K (.ref f8) = true)
    (a9 : PySem.W.nsIn K mainGlobals "taken" = some (some (.ref f9)))
    (l9 : K.lookup f9 = some ⟨oc9, od9, .func (PySem.W.fnOf "taken" "taken" (defArgs s_taken) (defBody s_taken) (defScope s_taken) .none kV9 dc9 pm9 an9 cd9 ct9), sl9⟩)
    (c9 : PySem.W.codeIn K cd9 "taken" = true)
    (k9 : PySem.W.keepIn K (.ref f9) = true)
    (a10 : PySem.W.findIn K (.ref C3) "__init__" = some (some (.ref f10)))
    (i10 : PySem.W.isFn K (.ref f10) = true)
    (l10 : K.lookup f10 = some ⟨oc10, od10, .func (PySem.W.fnOf "__init__" "Reader.__init__" (defArgs s_Reader_init) (defBody s_Reader_init) (defScope s_Reader_init) .none kV10 dc10 pm10 an10 cd10 ct10), sl10⟩)
    (c10 : PySem.W.codeIn K cd10 "Reader.__init__" = true)
    (k10 : PySem.W.keepIn K (.ref f10) = true)
    (a11 : PySem.W.nsIn K mainGlobals "is_bytes" = some (some (.ref f11)))
    (l11 : K.lookup f11 = some ⟨oc11, od11, .func (PySem.W.fnOf "is_bytes" "is_bytes" (defArgs s_is_bytes) (defBody s_is_bytes) (defScope s_is_bytes) .none kV11 dc11 pm11 an11 cd11 ct11), sl11⟩)
    (c11 : PySem.W.codeIn K cd11 "is_bytes" = true)
    (k11 : PySem.W.keepIn K (.ref f11) = true)
    (a12 : PySem.W.nsIn K mainGlobals "unpack" = some (some (.ref f12)))
    (l12 : K.lookup f12 = some ⟨oc12, od12, .func (PySem.W.fnOf "unpack" "unpack" (defArgs s_unpack) (defBody s_unpack) (defScope s_unpack) .none kV12 dc12 pm12 an12 cd12 ct12), sl12⟩)
    (c12 : PySem.W.codeIn K cd12 "unpack" = true)
    (k12 : PySem.W.keepIn K (.ref f12) = true)
    (a13 : PySem.W.nsIn K mainGlobals "number_of" = some (some (.ref f13)))
    (l13 : K.lookup f13 = some ⟨oc13, od13, .func (PySem.W.fnOf "number_of" "number_of" (defArgs s_number_of) (defBody s_number_of) (defScope s_number_of) .none kV13 dc13 pm13 an13 cd13 ct13), sl13⟩)
    (c13 : PySem.W.codeIn K cd13 "number_of" = true)
    (k13 : PySem.W.keepIn K (.ref f13) = true)
    (a14 : PySem.W.nsIn K mainGlobals "turn" = some (some (.ref f14)))
    (l14 : K.lookup f14 = some ⟨oc14, od14, .func (PySem.W.fnOf "turn" "turn" (defArgs s_turn) (defBody s_turn) (defScope s_turn) .none kV14 dc14 pm14 an14 cd14 ct14), sl14⟩)
    (c14 : PySem.W.codeIn K cd14 "turn" = true)
    (k14 : PySem.W.keepIn K (.ref f14) = true)
    (a15 : PySem.W.nsIn K mainGlobals "one_round" = some (some (.ref f15)))
    (l15 : K.lookup f15 = some ⟨oc15, od15, .func (PySem.W.fnOf "one_round" "one_round" (defArgs s_one_round) (defBody s_one_round) (defScope s_one_round) .none kV15 dc15 pm15 an15 cd15 ct15), sl15⟩)
    (c15 : PySem.W.codeIn K cd15 "one_round" = true)
    (k15 : PySem.W.keepIn K (.ref f15) = true)
    (a16 : PySem.W.nsIn K mainGlobals "mix" = some (some (.ref f16)))
    (l16 : K.lookup f16 = some ⟨oc16, od16, .func (PySem.W.fnOf "mix" "mix" (defArgs s_mix) (defBody s_mix) (defScope s_mix) .none kV16 dc16 pm16 an16 cd16 ct16), sl16⟩)
    (c16 : PySem.W.codeIn K cd16 "mix" = true)
    (k16 : PySem.W.keepIn K (.ref f16) = true)
    (a17 : PySem.W.nsIn K mainGlobals "tag" = some (some (.ref f17)))
    (l17 : K.lookup f17 = some ⟨oc17, od17, .func (PySem.W.fnOf "tag" "tag" (defArgs s_tag) (defBody s_tag) (defScope s_tag) .none kV17 dc17 pm17 an17 cd17 ct17), sl17⟩)
    (c17 : PySem.W.codeIn K cd17 "tag" = true)
    (k17 : PySem.W.keepIn K (.ref f17) = true)
    (a18 : PySem.W.nsIn K mainGlobals "unsealed" = some (some (.ref f18)))
    (l18 : K.lookup f18 = some ⟨oc18, od18, .func (PySem.W.fnOf "unsealed" "unsealed" (defArgs s_unsealed) (defBody s_unsealed) (defScope s_unsealed) .none kV18 dc18 pm18 an18 cd18 ct18), sl18⟩)
    (c18 : PySem.W.codeIn K cd18 "unsealed" = true)
    (k18 : PySem.W.keepIn K (.ref f18) = true)
    (a19 : PySem.W.findIn K (.ref C1) "opened" = some (some (.ref f19)))
    (i19 : PySem.W.isFn K (.ref f19) = true)
    (l19 : K.lookup f19 = some ⟨oc19, od19, .func (PySem.W.fnOf "opened" "Opener.opened" (defArgs s_Opener_opened) (defBody s_Opener_opened) (defScope s_Opener_opened) .none kV19 dc19 pm19 an19 cd19 ct19), sl19⟩)
    (c19 : PySem.W.codeIn K cd19 "Opener.opened" = true)
    (k19 : PySem.W.keepIn K (.ref f19) = true)
    (a20 : PySem.W.findIn K (.ref C4) "receive" = some (some (.ref f20)))
    (i20 : PySem.W.isFn K (.ref f20) = true)
    (l20 : K.lookup f20 = some ⟨oc20, od20, .func (PySem.W.fnOf "receive" "Link.receive" (defArgs s_Link_receive) (defBody s_Link_receive) (defScope s_Link_receive) .none kV20 dc20 pm20 an20 cd20 ct20), sl20⟩)
    (c20 : PySem.W.codeIn K cd20 "Link.receive" = true)
    (k20 : PySem.W.keepIn K (.ref f20) = true)
    (a21 : PySem.W.nsIn K mainGlobals "_law_draw" = some (some (.ref f21)))
    (l21 : K.lookup f21 = some ⟨oc21, od21, .func (PySem.W.fnOf "_law_draw" "_law_draw" (defArgs s__law_draw) (defBody s__law_draw) (defScope s__law_draw) .none kV21 dc21 pm21 an21 cd21 ct21), sl21⟩)
    (c21 : PySem.W.codeIn K cd21 "_law_draw" = true)
    (k21 : PySem.W.keepIn K (.ref f21) = true)
    (a22 : PySem.W.findIn K (.ref C1) "__init__" = some (some (.ref f22)))
    (i22 : PySem.W.isFn K (.ref f22) = true)
    (l22 : K.lookup f22 = some ⟨oc22, od22, .func (PySem.W.fnOf "__init__" "Opener.__init__" (defArgs s_Opener_init) (defBody s_Opener_init) (defScope s_Opener_init) .none kV22 dc22 pm22 an22 cd22 ct22), sl22⟩)
    (c22 : PySem.W.codeIn K cd22 "Opener.__init__" = true)
    (k22 : PySem.W.keepIn K (.ref f22) = true)
    (a23 : PySem.W.findIn K (.ref C0) "__init__" = some (some (.ref f23)))
    (i23 : PySem.W.isFn K (.ref f23) = true)
    (l23 : K.lookup f23 = some ⟨oc23, od23, .func (PySem.W.fnOf "__init__" "Sealer.__init__" (defArgs s_Sealer_init) (defBody s_Sealer_init) (defScope s_Sealer_init) (.ref dfa23) kV23 dc23 pm23 an23 cd23 ct23), sl23⟩)
    (c23 : PySem.W.codeIn K cd23 "Sealer.__init__" = true)
    (k23 : PySem.W.keepIn K (.ref f23) = true)
    (a24 : PySem.W.findIn K (.ref C4) "__init__" = some (some (.ref f24)))
    (i24 : PySem.W.isFn K (.ref f24) = true)
    (l24 : K.lookup f24 = some ⟨oc24, od24, .func (PySem.W.fnOf "__init__" "Link.__init__" (defArgs s_Link_init) (defBody s_Link_init) (defScope s_Link_init) (.ref dfa24) kV24 dc24 pm24 an24 cd24 ct24), sl24⟩)
    (c24 : PySem.W.codeIn K cd24 "Link.__init__" = true)
    (k24 : PySem.W.keepIn K (.ref f24) = true)
    (a25 : PySem.W.nsIn K mainGlobals "_law_comes" = some (some (.ref f25)))
    (l25 : K.lookup f25 = some ⟨oc25, od25, .func (PySem.W.fnOf "_law_comes" "_law_comes" (defArgs s__law_comes) (defBody s__law_comes) (defScope s__law_comes) .none kV25 dc25 pm25 an25 cd25 ct25), sl25⟩)
    (c25 : PySem.W.codeIn K cd25 "_law_comes" = true)
    (k25 : PySem.W.keepIn K (.ref f25) = true)
    (a26 : PySem.W.nsIn K mainGlobals "bytes_of" = some (some (.ref f26)))
    (l26 : K.lookup f26 = some ⟨oc26, od26, .func (PySem.W.fnOf "bytes_of" "bytes_of" (defArgs s_bytes_of) (defBody s_bytes_of) (defScope s_bytes_of) .none kV26 dc26 pm26 an26 cd26 ct26), sl26⟩)
    (c26 : PySem.W.codeIn K cd26 "bytes_of" = true)
    (k26 : PySem.W.keepIn K (.ref f26) = true)
    (a27 : PySem.W.findIn K (.ref C0) "seal" = some (some (.ref f27)))
    (i27 : PySem.W.isFn K (.ref f27) = true)
    (l27 : K.lookup f27 = some ⟨oc27, od27, .func (PySem.W.fnOf "seal" "Sealer.seal" (defArgs s_Sealer_seal) (defBody s_Sealer_seal) (defScope s_Sealer_seal) .none kV27 dc27 pm27 an27 cd27 ct27), sl27⟩)
    (c27 : PySem.W.codeIn K cd27 "Sealer.seal" = true)
    (k27 : PySem.W.keepIn K (.ref f27) = true)
    (a28 : PySem.W.nsIn K mainGlobals "_law_split" = some (some (.ref f28)))
    (l28 : K.lookup f28 = some ⟨oc28, od28, .func (PySem.W.fnOf "_law_split" "_law_split" (defArgs s__law_split) (defBody s__law_split) (defScope s__law_split) .none kV28 dc28 pm28 an28 cd28 ct28), sl28⟩)
    (c28 : PySem.W.codeIn K cd28 "_law_split" = true)
    (k28 : PySem.W.keepIn K (.ref f28) = true)
    (a29 : PySem.W.nsIn K mainGlobals "_law_turn" = some (some (.ref f29)))
    (l29 : K.lookup f29 = some ⟨oc29, od29, .func (PySem.W.fnOf "_law_turn" "_law_turn" (defArgs s__law_turn) (defBody s__law_turn) (defScope s__law_turn) .none kV29 dc29 pm29 an29 cd29 ct29), sl29⟩)
    (c29 : PySem.W.codeIn K cd29 "_law_turn" = true)
    (k29 : PySem.W.keepIn K (.ref f29) = true)
    (a30 : PySem.W.nsIn K mainGlobals "_law_round" = some (some (.ref f30)))
    (l30 : K.lookup f30 = some ⟨oc30, od30, .func (PySem.W.fnOf "_law_round" "_law_round" (defArgs s__law_round) (defBody s__law_round) (defScope s__law_round) .none kV30 dc30 pm30 an30 cd30 ct30), sl30⟩)
    (c30 : PySem.W.codeIn K cd30 "_law_round" = true)
    (k30 : PySem.W.keepIn K (.ref f30) = true)
    (a31 : PySem.W.nsIn K mainGlobals "_law_mix" = some (some (.ref f31)))
    (l31 : K.lookup f31 = some ⟨oc31, od31, .func (PySem.W.fnOf "_law_mix" "_law_mix" (defArgs s__law_mix) (defBody s__law_mix) (defScope s__law_mix) .none kV31 dc31 pm31 an31 cd31 ct31), sl31⟩)
    (c31 : PySem.W.codeIn K cd31 "_law_mix" = true)
    (k31 : PySem.W.keepIn K (.ref f31) = true)
    (a32 : PySem.W.nsIn K mainGlobals "_law_tag" = some (some (.ref f32)))
    (l32 : K.lookup f32 = some ⟨oc32, od32, .func (PySem.W.fnOf "_law_tag" "_law_tag" (defArgs s__law_tag) (defBody s__law_tag) (defScope s__law_tag) .none kV32 dc32 pm32 an32 cd32 ct32), sl32⟩)
    (c32 : PySem.W.codeIn K cd32 "_law_tag" = true)
    (k32 : PySem.W.keepIn K (.ref f32) = true)
    (a33 : PySem.W.nsIn K mainGlobals "_law_sealed" = some (some (.ref f33)))
    (l33 : K.lookup f33 = some ⟨oc33, od33, .func (PySem.W.fnOf "_law_sealed" "_law_sealed" (defArgs s__law_sealed) (defBody s__law_sealed) (defScope s__law_sealed) .none kV33 dc33 pm33 an33 cd33 ct33), sl33⟩)
    (c33 : PySem.W.codeIn K cd33 "_law_sealed" = true)
    (k33 : PySem.W.keepIn K (.ref f33) = true)
    (a34 : PySem.W.nsIn K mainGlobals "_law_is_used" = some (some (.ref f34)))
    (l34 : K.lookup f34 = some ⟨oc34, od34, .func (PySem.W.fnOf "_law_is_used" "_law_is_used" (defArgs s__law_is_used) (defBody s__law_is_used) (defScope s__law_is_used) .none kV34 dc34 pm34 an34 cd34 ct34), sl34⟩)
    (c34 : PySem.W.codeIn K cd34 "_law_is_used" = true)
    (k34 : PySem.W.keepIn K (.ref f34) = true)
    (a35 : PySem.W.nsIn K mainGlobals "_law_ends" = some (some (.ref f35)))
    (l35 : K.lookup f35 = some ⟨oc35, od35, .func (PySem.W.fnOf "_law_ends" "_law_ends" (defArgs s__law_ends) (defBody s__law_ends) (defScope s__law_ends) .none kV35 dc35 pm35 an35 cd35 ct35), sl35⟩)
    (c35 : PySem.W.codeIn K cd35 "_law_ends" = true)
    (k35 : PySem.W.keepIn K (.ref f35) = true)
    (a36 : PySem.W.findIn K (.ref C2) "told" = some (some (.ref f36)))
    (i36 : PySem.W.isFn K (.ref f36) = true)
    (l36 : K.lookup f36 = some ⟨oc36, od36, .func (PySem.W.fnOf "told" "Writer.told" (defArgs s_Writer_told) (defBody s_Writer_told) (defScope s_Writer_told) .none kV36 dc36 pm36 an36 cd36 ct36), sl36⟩)
    (c36 : PySem.W.codeIn K cd36 "Writer.told" = true)
    (k36 : PySem.W.keepIn K (.ref f36) = true)
    (a37 : PySem.W.findIn K (.ref C2) "put" = some (some (.ref f37)))
    (i37 : PySem.W.isFn K (.ref f37) = true)
    (l37 : K.lookup f37 = some ⟨oc37, od37, .func (PySem.W.fnOf "put" "Writer.put" (defArgs s_Writer_put) (defBody s_Writer_put) (defScope s_Writer_put) .none kV37 dc37 pm37 an37 cd37 ct37), sl37⟩)
    (c37 : PySem.W.codeIn K cd37 "Writer.put" = true)
    (k37 : PySem.W.keepIn K (.ref f37) = true)
    (a38 : PySem.W.nsIn K mainGlobals "width_of" = some (some (.ref f38)))
    (l38 : K.lookup f38 = some ⟨oc38, od38, .func (PySem.W.fnOf "width_of" "width_of" (defArgs s_width_of) (defBody s_width_of) (defScope s_width_of) .none kV38 dc38 pm38 an38 cd38 ct38), sl38⟩)
    (c38 : PySem.W.codeIn K cd38 "width_of" = true)
    (k38 : PySem.W.keepIn K (.ref f38) = true)
    (a39 : PySem.W.findIn K (.ref C2) "number" = some (some (.ref f39)))
    (i39 : PySem.W.isFn K (.ref f39) = true)
    (l39 : K.lookup f39 = some ⟨oc39, od39, .func (PySem.W.fnOf "number" "Writer.number" (defArgs s_Writer_number) (defBody s_Writer_number) (defScope s_Writer_number) .none kV39 dc39 pm39 an39 cd39 ct39), sl39⟩)
    (c39 : PySem.W.codeIn K cd39 "Writer.number" = true)
    (k39 : PySem.W.keepIn K (.ref f39) = true)
    (a40 : PySem.W.nsIn K mainGlobals "put_field" = some (some (.ref f40)))
    (l40 : K.lookup f40 = some ⟨oc40, od40, .func (PySem.W.fnOf "put_field" "put_field" (defArgs s_put_field) (defBody s_put_field) (defScope s_put_field) .none kV40 dc40 pm40 an40 cd40 ct40), sl40⟩)
    (c40 : PySem.W.codeIn K cd40 "put_field" = true)
    (k40 : PySem.W.keepIn K (.ref f40) = true)
    (a41 : PySem.W.findIn K (.ref C2) "__init__" = some (some (.ref f41)))
    (i41 : PySem.W.isFn K (.ref f41) = true)
    (l41 : K.lookup f41 = some ⟨oc41, od41, .func (PySem.W.fnOf "__init__" "Writer.__init__" (defArgs s_Writer_init) (defBody s_Writer_init) (defScope s_Writer_init) .none kV41 dc41 pm41 an41 cd41 ct41), sl41⟩)
    (c41 : PySem.W.codeIn K cd41 "Writer.__init__" = true)
    (k41 : PySem.W.keepIn K (.ref f41) = true)
    (a42 : PySem.W.nsIn K mainGlobals "body_of" = some (some (.ref f42)))
    (l42 : K.lookup f42 = some ⟨oc42, od42, .func (PySem.W.fnOf "body_of" "body_of" (defArgs s_body_of) (defBody s_body_of) (defScope s_body_of) .none kV42 dc42 pm42 an42 cd42 ct42), sl42⟩)
    (c42 : PySem.W.codeIn K cd42 "body_of" = true)
    (k42 : PySem.W.keepIn K (.ref f42) = true)
    (a43 : PySem.W.nsIn K mainGlobals "pack" = some (some (.ref f43)))
    (l43 : K.lookup f43 = some ⟨oc43, od43, .func (PySem.W.fnOf "pack" "pack" (defArgs s_pack) (defBody s_pack) (defScope s_pack) .none kV43 dc43 pm43 an43 cd43 ct43), sl43⟩)
    (c43 : PySem.W.codeIn K cd43 "pack" = true)
    (k43 : PySem.W.keepIn K (.ref f43) = true)
    (a44 : PySem.W.nsIn K mainGlobals "fitted" = some (some (.ref f44)))
    (l44 : K.lookup f44 = some ⟨oc44, od44, .func (PySem.W.fnOf "fitted" "fitted" (defArgs s_fitted) (defBody s_fitted) (defScope s_fitted) .none kV44 dc44 pm44 an44 cd44 ct44), sl44⟩)
    (c44 : PySem.W.codeIn K cd44 "fitted" = true)
    (k44 : PySem.W.keepIn K (.ref f44) = true)
    (a45 : PySem.W.findIn K (.ref C4) "send" = some (some (.ref f45)))
    (i45 : PySem.W.isFn K (.ref f45) = true)
    (l45 : K.lookup f45 = some ⟨oc45, od45, .func (PySem.W.fnOf "send" "Link.send" (defArgs s_Link_send) (defBody s_Link_send) (defScope s_Link_send) .none kV45 dc45 pm45 an45 cd45 ct45), sl45⟩)
    (c45 : PySem.W.codeIn K cd45 "Link.send" = true)
    (k45 : PySem.W.keepIn K (.ref f45) = true)
    (a46 : PySem.W.nsIn K mainGlobals "_law_rows" = some (some (.ref f46)))
    (l46 : K.lookup f46 = some ⟨oc46, od46, .func (PySem.W.fnOf "_law_rows" "_law_rows" (defArgs s__law_rows) (defBody s__law_rows) (defScope s__law_rows) .none kV46 dc46 pm46 an46 cd46 ct46), sl46⟩)
    (c46 : PySem.W.codeIn K cd46 "_law_rows" = true)
    (k46 : PySem.W.keepIn K (.ref f46) = true)
    (a47 : PySem.W.nsIn K mainGlobals "_law_lives" = some (some (.ref f47)))
    (l47 : K.lookup f47 = some ⟨oc47, od47, .func (PySem.W.fnOf "_law_lives" "_law_lives" (defArgs s__law_lives) (defBody s__law_lives) (defScope s__law_lives) .none kV47 dc47 pm47 an47 cd47 ct47), sl47⟩)
    (c47 : PySem.W.codeIn K cd47 "_law_lives" = true)
    (k47 : PySem.W.keepIn K (.ref f47) = true)
    (a48 : PySem.W.nsIn K mainGlobals "_law_wide" = some (some (.ref f48)))
    (l48 : K.lookup f48 = some ⟨oc48, od48, .func (PySem.W.fnOf "_law_wide" "_law_wide" (defArgs s__law_wide) (defBody s__law_wide) (defScope s__law_wide) .none kV48 dc48 pm48 an48 cd48 ct48), sl48⟩)
    (c48 : PySem.W.codeIn K cd48 "_law_wide" = true)
    (k48 : PySem.W.keepIn K (.ref f48) = true)
    (a49 : PySem.W.nsIn K mainGlobals "_law_key" = some (some (.ref f49)))
    (l49 : K.lookup f49 = some ⟨oc49, od49, .func (PySem.W.fnOf "_law_key" "_law_key" (defArgs s__law_key) (defBody s__law_key) (defScope s__law_key) .none kV49 dc49 pm49 an49 cd49 ct49), sl49⟩)
    (c49 : PySem.W.codeIn K cd49 "_law_key" = true)
    (k49 : PySem.W.keepIn K (.ref f49) = true)
    (a50 : PySem.W.nsIn K mainGlobals "_law_bag" = some (some (.ref f50)))
    (l50 : K.lookup f50 = some ⟨oc50, od50, .func (PySem.W.fnOf "_law_bag" "_law_bag" (defArgs s__law_bag) (defBody s__law_bag) (defScope s__law_bag) .none kV50 dc50 pm50 an50 cd50 ct50), sl50⟩)
    (c50 : PySem.W.codeIn K cd50 "_law_bag" = true)
    (k50 : PySem.W.keepIn K (.ref f50) = true)
    (a51 : PySem.W.nsIn K mainGlobals "law" = some (some (.ref f51)))
    (l51 : K.lookup f51 = some ⟨oc51, od51, .func (PySem.W.fnOf "law" "law" (defArgs s_law) (defBody s_law) (defScope s_law) .none kV51 dc51 pm51 an51 cd51 ct51), sl51⟩)
    (c51 : PySem.W.codeIn K cd51 "law" = true)
    (k51 : PySem.W.keepIn K (.ref f51) = true)
    (n_Reader__at : PySem.W.findIn K (.ref C3) "_at" = some none)
    (n_Opener__greatest : PySem.W.findIn K (.ref C1) "_greatest" = some none)
    (n_Writer__held : PySem.W.findIn K (.ref C2) "_held" = some none)
    (n_Sealer__key : PySem.W.findIn K (.ref C0) "_key" = some none)
    (n_Opener__key : PySem.W.findIn K (.ref C1) "_key" = some none)
    (n_Sealer__number : PySem.W.findIn K (.ref C0) "_number" = some none)
    (n_Link__opener : PySem.W.findIn K (.ref C4) "_opener" = some none)
    (n_Writer__rest : PySem.W.findIn K (.ref C2) "_rest" = some none)
    (n_Writer__row : PySem.W.findIn K (.ref C2) "_row" = some none)
    (n_Reader__row : PySem.W.findIn K (.ref C3) "_row" = some none)
    (n_Link__sealer : PySem.W.findIn K (.ref C4) "_sealer" = some none)
    (n_Opener__taken : PySem.W.findIn K (.ref C1) "_taken" = some none)
    (n_Link__world : PySem.W.findIn K (.ref C4) "_world" = some none)
    (z_all : PySem.W.nsIn K mainGlobals "all" = some none)
    (z_bool : PySem.W.nsIn K mainGlobals "bool" = some none)
    (z_int : PySem.W.nsIn K mainGlobals "int" = some none)
    (z_isinstance : PySem.W.nsIn K mainGlobals "isinstance" = some none)
    (z_len : PySem.W.nsIn K mainGlobals "len" = some none)
    (z_max : PySem.W.nsIn K mainGlobals "max" = some none)
    (z_min : PySem.W.nsIn K mainGlobals "min" = some none)
    (z_range : PySem.W.nsIn K mainGlobals "range" = some none)
    (z_str : PySem.W.nsIn K mainGlobals "str" = some none)
    (z_tuple : PySem.W.nsIn K mainGlobals "tuple" = some none)
    (z_zip : PySem.W.nsIn K mainGlobals "zip" = some none)
    (kg_FORMS : PySem.W.nsIn K mainGlobals "FORMS" = some (some (.ref ka_FORMS)))
    (hk_ka_FORMS : K.lookup ka_FORMS = some ⟨.type "tuple", ka_FORMSd, .seq #[(.str "moves" ct_FORMS_0), (.str "have" ct_FORMS_1), (.str "got" ct_FORMS_2), (.str "stamps" ct_FORMS_3), (.str "pace" ct_FORMS_4), (.str "join" ct_FORMS_5), (.str "leave" ct_FORMS_6), (.str "save" ct_FORMS_7), (.str "mark" ct_FORMS_8), (.str "which" ct_FORMS_9), (.str "parts" ct_FORMS_10), (.str "sums" ct_FORMS_11), (.str "part" ct_FORMS_12), (.str "leaf" ct_FORMS_13), (.str "view" ct_FORMS_14), (.str "seen" ct_FORMS_15)] ka_FORMSn, ka_FORMSs⟩)
    (kg_GREATEST_SUM : PySem.W.nsIn K mainGlobals "GREATEST_SUM" = some (some (.int (2305843009213693950) ct_GREATEST_SUM)))
    (kg_LIFE : PySem.W.nsIn K mainGlobals "LIFE" = some (some (.int (16777216) ct_LIFE)))
    (kg_MOST_BODY : PySem.W.nsIn K mainGlobals "MOST_BODY" = some (some (.int (480) ct_MOST_BODY)))
    (kg_MOST_COUNT : PySem.W.nsIn K mainGlobals "MOST_COUNT" = some (some (.int (4294967295) ct_MOST_COUNT)))
    (kg_MOST_LETTER : PySem.W.nsIn K mainGlobals "MOST_LETTER" = some (some (.int (492) ct_MOST_LETTER)))
    (kg_MOST_PARTS : PySem.W.nsIn K mainGlobals "MOST_PARTS" = some (some (.int (121) ct_MOST_PARTS)))
    (kg_MOST_TICK : PySem.W.nsIn K mainGlobals "MOST_TICK" = some (some (.int (1073741823) ct_MOST_TICK)))
    (kg_PRIME : PySem.W.nsIn K mainGlobals "PRIME" = some (some (.int (18446744073709550147) ct_PRIME)))
    (kg_WINDOW : PySem.W.nsIn K mainGlobals "WINDOW" = some (some (.int (64) ct_WINDOW)))
    (kg_WORDS : PySem.W.nsIn K mainGlobals "WORDS" = some (some (.int (18446744073709551616) ct_WORDS)))
    (kg_LAYOUT : PySem.W.nsIn K mainGlobals "LAYOUT" = some (some (.ref kt_LAYOUT)))
    (kl_LAYOUT : K.lookup kt_LAYOUT = some ⟨.type "dict", none, .dict (List.toArray [⟨kt_LAYOUTh0, .str "moves" kt_LAYOUTt0, (.ref ka_LAYOUT_t0)⟩, ⟨kt_LAYOUTh1, .str "have" kt_LAYOUTt1, (.ref ka_LAYOUT_t1)⟩, ⟨kt_LAYOUTh2, .str "got" kt_LAYOUTt2, (.ref ka_LAYOUT_t2)⟩, ⟨kt_LAYOUTh3, .str "stamps" kt_LAYOUTt3, (.ref ka_LAYOUT_t3)⟩, ⟨kt_LAYOUTh4, .str "pace" kt_LAYOUTt4, (.ref ka_LAYOUT_t4)⟩, ⟨kt_LAYOUTh5, .str "join" kt_LAYOUTt5, (.ref ka_LAYOUT_t5)⟩, ⟨kt_LAYOUTh6, .str "leave" kt_LAYOUTt6, (.ref ka_LAYOUT_t6)⟩, ⟨kt_LAYOUTh7, .str "save" kt_LAYOUTt7, (.ref ka_LAYOUT_t7)⟩, ⟨kt_LAYOUTh8, .str "mark" kt_LAYOUTt8, (.ref ka_LAYOUT_t8)⟩, ⟨kt_LAYOUTh9, .str "which" kt_LAYOUTt9, (.ref ka_LAYOUT_t9)⟩, ⟨kt_LAYOUTh10, .str "parts" kt_LAYOUTt10, (.ref ka_LAYOUT_t10)⟩, ⟨kt_LAYOUTh11, .str "sums" kt_LAYOUTt11, (.ref ka_LAYOUT_t11)⟩, ⟨kt_LAYOUTh12, .str "part" kt_LAYOUTt12, (.ref ka_LAYOUT_t12)⟩, ⟨kt_LAYOUTh13, .str "leaf" kt_LAYOUTt13, (.ref ka_LAYOUT_t13)⟩, ⟨kt_LAYOUTh14, .str "view" kt_LAYOUTt14, (.ref ka_LAYOUT_t14)⟩, ⟨kt_LAYOUTh15, .str "seen" kt_LAYOUTt15, (.ref ka_LAYOUT_t15)⟩]) kt_LAYOUTn, #[]⟩)
    (ks_LAYOUT : (kt_LAYOUT == sysModules) = false)
    (hk_ka_LAYOUT_t15 : K.lookup ka_LAYOUT_t15 = some ⟨.type "tuple", ka_LAYOUT_t15d, .seq #[(.str "tick" ct_LAYOUT_t15_0)] ka_LAYOUT_t15n, ka_LAYOUT_t15s⟩)
    (hk_ka_LAYOUT_t14 : K.lookup ka_LAYOUT_t14 = some ⟨.type "tuple", ka_LAYOUT_t14d, .seq #[(.str "tick" ct_LAYOUT_t14_0), (.str "base" ct_LAYOUT_t14_1), (.str "views" ct_LAYOUT_t14_2), (.str "index" ct_LAYOUT_t14_3), (.str "bytes" ct_LAYOUT_t14_4)] ka_LAYOUT_t14n, ka_LAYOUT_t14s⟩)
    (hk_ka_LAYOUT_t13 : K.lookup ka_LAYOUT_t13 = some ⟨.type "tuple", ka_LAYOUT_t13d, .seq #[(.str "seat" ct_LAYOUT_t13_0), (.str "tick" ct_LAYOUT_t13_1), (.str "number" ct_LAYOUT_t13_2), (.str "leaves" ct_LAYOUT_t13_3), (.str "index" ct_LAYOUT_t13_4), (.str "bytes" ct_LAYOUT_t13_5)] ka_LAYOUT_t13n, ka_LAYOUT_t13s⟩)
    (hk_ka_LAYOUT_t12 : K.lookup ka_LAYOUT_t12 = some ⟨.type "tuple", ka_LAYOUT_t12d, .seq #[(.str "seat" ct_LAYOUT_t12_0), (.str "tick" ct_LAYOUT_t12_1), (.str "number" ct_LAYOUT_t12_2)] ka_LAYOUT_t12n, ka_LAYOUT_t12s⟩)
    (hk_ka_LAYOUT_t11 : K.lookup ka_LAYOUT_t11 = some ⟨.type "tuple", ka_LAYOUT_t11d, .seq #[(.str "seat" ct_LAYOUT_t11_0), (.str "tick" ct_LAYOUT_t11_1), (.str "sum" ct_LAYOUT_t11_2), (.str "groups" ct_LAYOUT_t11_3), (.str "index" ct_LAYOUT_t11_4), (.str "sums" ct_LAYOUT_t11_5)] ka_LAYOUT_t11n, ka_LAYOUT_t11s⟩)
    (hk_ka_LAYOUT_t10 : K.lookup ka_LAYOUT_t10 = some ⟨.type "tuple", ka_LAYOUT_t10d, .seq #[(.str "seat" ct_LAYOUT_t10_0), (.str "tick" ct_LAYOUT_t10_1)] ka_LAYOUT_t10n, ka_LAYOUT_t10s⟩)
    (hk_ka_LAYOUT_t9 : K.lookup ka_LAYOUT_t9 = some ⟨.type "tuple", ka_LAYOUT_t9d, .seq #[(.str "seat" ct_LAYOUT_t9_0), (.str "tick" ct_LAYOUT_t9_1)] ka_LAYOUT_t9n, ka_LAYOUT_t9s⟩)
    (hk_ka_LAYOUT_t8 : K.lookup ka_LAYOUT_t8 = some ⟨.type "tuple", ka_LAYOUT_t8d, .seq #[(.str "seat" ct_LAYOUT_t8_0), (.str "tick" ct_LAYOUT_t8_1), (.str "sum" ct_LAYOUT_t8_2)] ka_LAYOUT_t8n, ka_LAYOUT_t8s⟩)
    (hk_ka_LAYOUT_t7 : K.lookup ka_LAYOUT_t7 = some ⟨.type "tuple", ka_LAYOUT_t7d, .seq #[(.str "tick" ct_LAYOUT_t7_0), (.str "saves" ct_LAYOUT_t7_1), (.str "index" ct_LAYOUT_t7_2), (.str "bytes" ct_LAYOUT_t7_3)] ka_LAYOUT_t7n, ka_LAYOUT_t7s⟩)
    (hk_ka_LAYOUT_t6 : K.lookup ka_LAYOUT_t6 = some ⟨.type "tuple", ka_LAYOUT_t6d, .seq #[(.str "seat" ct_LAYOUT_t6_0)] ka_LAYOUT_t6n, ka_LAYOUT_t6s⟩)
    (hk_ka_LAYOUT_t5 : K.lookup ka_LAYOUT_t5 = some ⟨.type "tuple", ka_LAYOUT_t5d, .seq #[(.str "seat" ct_LAYOUT_t5_0)] ka_LAYOUT_t5n, ka_LAYOUT_t5s⟩)
    (hk_ka_LAYOUT_t4 : K.lookup ka_LAYOUT_t4 = some ⟨.type "tuple", ka_LAYOUT_t4d, .seq #[(.str "tick" ct_LAYOUT_t4_0)] ka_LAYOUT_t4n, ka_LAYOUT_t4s⟩)
    (hk_ka_LAYOUT_t3 : K.lookup ka_LAYOUT_t3 = some ⟨.type "tuple", ka_LAYOUT_t3d, .seq #[(.str "tick" ct_LAYOUT_t3_0), (.str "rows" ct_LAYOUT_t3_1)] ka_LAYOUT_t3n, ka_LAYOUT_t3s⟩)
    (hk_ka_LAYOUT_t2 : K.lookup ka_LAYOUT_t2 = some ⟨.type "tuple", ka_LAYOUT_t2d, .seq #[(.str "seat" ct_LAYOUT_t2_0), (.str "tick" ct_LAYOUT_t2_1)] ka_LAYOUT_t2n, ka_LAYOUT_t2s⟩)
    (hk_ka_LAYOUT_t1 : K.lookup ka_LAYOUT_t1 = some ⟨.type "tuple", ka_LAYOUT_t1d, .seq #[(.str "seat" ct_LAYOUT_t1_0), (.str "tick" ct_LAYOUT_t1_1), (.str "tick" ct_LAYOUT_t1_2)] ka_LAYOUT_t1n, ka_LAYOUT_t1s⟩)
    (hk_ka_LAYOUT_t0 : K.lookup ka_LAYOUT_t0 = some ⟨.type "tuple", ka_LAYOUT_t0d, .seq #[(.str "seat" ct_LAYOUT_t0_0), (.str "tick" ct_LAYOUT_t0_1), (.str "row" ct_LAYOUT_t0_2)] ka_LAYOUT_t0n, ka_LAYOUT_t0s⟩)
    (kh_LAYOUT_0 : kt_LAYOUTh0 = PyData.keyHash w.params "moves")
    (kh_LAYOUT_1 : kt_LAYOUTh1 = PyData.keyHash w.params "have")
    (kh_LAYOUT_2 : kt_LAYOUTh2 = PyData.keyHash w.params "got")
    (kh_LAYOUT_3 : kt_LAYOUTh3 = PyData.keyHash w.params "stamps")
    (kh_LAYOUT_4 : kt_LAYOUTh4 = PyData.keyHash w.params "pace")
    (kh_LAYOUT_5 : kt_LAYOUTh5 = PyData.keyHash w.params "join")
    (kh_LAYOUT_6 : kt_LAYOUTh6 = PyData.keyHash w.params "leave")
    (kh_LAYOUT_7 : kt_LAYOUTh7 = PyData.keyHash w.params "save")
    (kh_LAYOUT_8 : kt_LAYOUTh8 = PyData.keyHash w.params "mark")
    (kh_LAYOUT_9 : kt_LAYOUTh9 = PyData.keyHash w.params "which")
    (kh_LAYOUT_10 : kt_LAYOUTh10 = PyData.keyHash w.params "parts")
    (kh_LAYOUT_11 : kt_LAYOUTh11 = PyData.keyHash w.params "sums")
    (kh_LAYOUT_12 : kt_LAYOUTh12 = PyData.keyHash w.params "part")
    (kh_LAYOUT_13 : kt_LAYOUTh13 = PyData.keyHash w.params "leaf")
    (kh_LAYOUT_14 : kt_LAYOUTh14 = PyData.keyHash w.params "view")
    (kh_LAYOUT_15 : kt_LAYOUTh15 = PyData.keyHash w.params "seen")
    (kg_MANY : PySem.W.nsIn K mainGlobals "MANY" = some (some (.ref kt_MANY)))
    (kl_MANY : K.lookup kt_MANY = some ⟨.type "dict", none, .dict (List.toArray [⟨kt_MANYh0, .str "saves" kt_MANYt0, (.int (86) ct_MANY_t0)⟩, ⟨kt_MANYh1, .str "groups" kt_MANYt1, (.int (8) ct_MANY_t1)⟩, ⟨kt_MANYh2, .str "leaves" kt_MANYt2, (.int (2) ct_MANY_t2)⟩, ⟨kt_MANYh3, .str "views" kt_MANYt3, (.int (128) ct_MANY_t3)⟩]) kt_MANYn, #[]⟩)
    (ks_MANY : (kt_MANY == sysModules) = false)
    (kh_MANY_0 : kt_MANYh0 = PyData.keyHash w.params "saves")
    (kh_MANY_1 : kt_MANYh1 = PyData.keyHash w.params "groups")
    (kh_MANY_2 : kt_MANYh2 = PyData.keyHash w.params "leaves")
    (kh_MANY_3 : kt_MANYh3 = PyData.keyHash w.params "views")
    (tg_FORMS : PySem.W.nsIn K mainGlobals "FORMS" = some (some (.ref kx_FORMS)))
    (tl_FORMS : K.lookup kx_FORMS = some ⟨.type "tuple", none, .seq #[.str "moves" kx_FORMSt0, .str "have" kx_FORMSt1, .str "got" kx_FORMSt2, .str "stamps" kx_FORMSt3, .str "pace" kx_FORMSt4, .str "join" kx_FORMSt5, .str "leave" kx_FORMSt6, .str "save" kx_FORMSt7, .str "mark" kx_FORMSt8, .str "which" kx_FORMSt9, .str "parts" kx_FORMSt10, .str "sums" kx_FORMSt11, .str "part" kx_FORMSt12, .str "leaf" kx_FORMSt13, .str "view" kx_FORMSt14, .str "seen" kx_FORMSt15] kx_FORMSn, kx_FORMSs⟩)
    (dl23 : K.lookup dfa23 = some ⟨dfa23c, dfa23d, .seq (List.toArray [(.int (0) ct_d23_0)]) dfa23n, dfa23s⟩)
    (dl24 : K.lookup dfa24 = some ⟨dfa24c, dfa24d, .seq (List.toArray [(.int (0) ct_d24_0)]) dfa24n, dfa24s⟩)
    (g_BadBits : PySem.W.nsIn K mainGlobals "BadBits" = some (some (.ref C7)))
    (b_BadBits : PySem.W.subIn K (.ref C7) (.type "BaseException") = some true)
    (t_BadBits : PySem.W.typeIn K (.ref C7) = some (.type "type"))
    (g_BadLetter : PySem.W.nsIn K mainGlobals "BadLetter" = some (some (.ref C6)))
    (b_BadLetter : PySem.W.subIn K (.ref C6) (.type "BaseException") = some true)
    (t_BadLetter : PySem.W.typeIn K (.ref C6) = some (.type "type"))
    (g_TooFar : PySem.W.nsIn K mainGlobals "TooFar" = some (some (.ref C8)))
    (q_TooFar : PySem.W.excIn K C8 [.type "ValueError", .type "Exception", .type "BaseException", .type "object"] "ValueError.__new__" = true)
    (kp_TooFar : PySem.W.keepIn K (.ref C8) = true)
    (b_TooFar : PySem.W.subIn K (.ref C8) (.type "BaseException") = some true)
    (t_TooFar : PySem.W.typeIn K (.ref C8) = some (.type "type"))
    (ic_BadBits : PySem.W.isClsIn K C7 = true)
    (s_TooFar_BadBits : PySem.W.subIn K (.ref C8) (.ref C7) = some false)
    (ic_BadLetter : PySem.W.isClsIn K C6 = true)
    (s_TooFar_BadLetter : PySem.W.subIn K (.ref C8) (.ref C6) = some false)
    (ic_TooFar : PySem.W.isClsIn K C8 = true)
    (s_TooFar_TooFar : PySem.W.subIn K (.ref C8) (.ref C8) = some true) :
    ∃ fd : FuncData, (∀ (s : Shared) (v : Value), BindsTo s fd ⟨[v], []⟩ [("script", v)]) ∧ ∀ base : Heap, K.In base → base.Ns mainGlobals mg → FnOk l.prog w K mg base (L2.CX l.prog w) 9 fa fd ["script"] (spLaw K) := by
  have e := hfa.symm.trans (PySem.W.mg_of X G a51)
  cases e
  have cls_Sealer : Cls K C0 := ⟨pg_Sealer, hd_Sealer, po_Sealer, sa_Sealer⟩
  have cls_Opener : Cls K C1 := ⟨pg_Opener, hd_Opener, po_Opener, sa_Opener⟩
  have cls_Writer : Cls K C2 := ⟨pg_Writer, hd_Writer, po_Writer, sa_Writer⟩
  have cls_Reader : Cls K C3 := ⟨pg_Reader, hd_Reader, po_Reader, sa_Reader⟩
  have cls_Link : Cls K C4 := ⟨pg_Link, hd_Link, po_Link, sa_Link⟩
  have T : Tx w K mg (caOf C0 C1 C2 C3 C4 C6 C7 C8) := {
    f__law_is_same := ⟨_, _, PySem.W.mg_of X G a0, k0, (fun_mk (st := s__law_is_same) l0 c0 k0)⟩
    f_is_integer := ⟨_, _, PySem.W.mg_of X G a1, k1, (fun_mk (st := s_is_integer) l1 c1 k1)⟩
    f_fits := ⟨_, _, PySem.W.mg_of X G a2, k2, (fun_mk (st := s_fits) l2 c2 k2)⟩
    f_is_letter := ⟨_, _, PySem.W.mg_of X G a3, k3, (fun_mk (st := s_is_letter) l3 c3 k3)⟩
    f_Reader__seen := ⟨_, _, cls_Reader, ⟨a4, i4, k4⟩, (fun_mk (st := s_Reader__seen) l4 c4 k4)⟩
    f_Reader_finish := ⟨_, _, cls_Reader, ⟨a5, i5, k5⟩, (fun_mk (st := s_Reader_finish) l5 c5 k5)⟩
    f_Reader_number := ⟨_, _, cls_Reader, ⟨a6, i6, k6⟩, (fun_mk (st := s_Reader_number) l6 c6 k6)⟩
    f_Reader_take := ⟨_, _, cls_Reader, ⟨a7, i7, k7⟩, (fun_mk (st := s_Reader_take) l7 c7 k7)⟩
    f_take_field := ⟨_, _, PySem.W.mg_of X G a8, k8, (fun_mk (st := s_take_field) l8 c8 k8)⟩
    f_taken := ⟨_, _, PySem.W.mg_of X G a9, k9, (fun_mk (st := s_taken) l9 c9 k9)⟩
    f_Reader_init := ⟨_, _, PySem.W.mg_of X G a_Reader, ⟨mk_Reader, a10, i10, kc_Reader⟩, (fun_mk (st := s_Reader_init) l10 c10 k10)⟩
    f_is_bytes := ⟨_, _, PySem.W.mg_of X G a11, k11, (fun_mk (st := s_is_bytes) l11 c11 k11)⟩
    f_unpack := ⟨_, _, PySem.W.mg_of X G a12, k12, (fun_mk (st := s_unpack) l12 c12 k12)⟩
    f_number_of := ⟨_, _, PySem.W.mg_of X G a13, k13, (fun_mk (st := s_number_of) l13 c13 k13)⟩
    f_turn := ⟨_, _, PySem.W.mg_of X G a14, k14, (fun_mk (st := s_turn) l14 c14 k14)⟩
    f_one_round := ⟨_, _, PySem.W.mg_of X G a15, k15, (fun_mk (st := s_one_round) l15 c15 k15)⟩
    f_mix := ⟨_, _, PySem.W.mg_of X G a16, k16, (fun_mk (st := s_mix) l16 c16 k16)⟩
    f_tag := ⟨_, _, PySem.W.mg_of X G a17, k17, (fun_mk (st := s_tag) l17 c17 k17)⟩
    f_unsealed := ⟨_, _, PySem.W.mg_of X G a18, k18, (fun_mk (st := s_unsealed) l18 c18 k18)⟩
    f_Opener_opened := ⟨_, _, cls_Opener, ⟨a19, i19, k19⟩, (fun_mk (st := s_Opener_opened) l19 c19 k19)⟩
    f_Link_receive := ⟨_, _, cls_Link, ⟨a20, i20, k20⟩, (fun_mk (st := s_Link_receive) l20 c20 k20)⟩
    f__law_draw := ⟨_, _, PySem.W.mg_of X G a21, k21, (fun_mk (st := s__law_draw) l21 c21 k21)⟩
    f_Opener_init := ⟨_, _, PySem.W.mg_of X G a_Opener, ⟨mk_Opener, a22, i22, kc_Opener⟩, (fun_mk (st := s_Opener_init) l22 c22 k22)⟩
    f_Sealer_init := (match (dfs_mk (st := s_Sealer_init) l23 c23 k23 dl23 rfl (List.cons_ne_nil _ _) (.cons .int .nil)) with | ⟨dvs, q1, q2⟩ => ⟨_, _, dvs, PySem.W.mg_of X G a_Sealer, ⟨mk_Sealer, a23, i23, kc_Sealer⟩, q1, q2⟩)
    f_Link_init := (match (dfs_mk (st := s_Link_init) l24 c24 k24 dl24 rfl (List.cons_ne_nil _ _) (.cons .int .nil)) with | ⟨dvs, q1, q2⟩ => ⟨_, _, dvs, PySem.W.mg_of X G a_Link, ⟨mk_Link, a24, i24, kc_Link⟩, q1, q2⟩)
    f__law_comes := ⟨_, _, PySem.W.mg_of X G a25, k25, (fun_mk (st := s__law_comes) l25 c25 k25)⟩
    f_bytes_of := ⟨_, _, PySem.W.mg_of X G a26, k26, (fun_mk (st := s_bytes_of) l26 c26 k26)⟩
    f_Sealer_seal := ⟨_, _, cls_Sealer, ⟨a27, i27, k27⟩, (fun_mk (st := s_Sealer_seal) l27 c27 k27)⟩
    f__law_split := ⟨_, _, PySem.W.mg_of X G a28, k28, (fun_mk (st := s__law_split) l28 c28 k28)⟩
    f__law_turn := ⟨_, _, PySem.W.mg_of X G a29, k29, (fun_mk (st := s__law_turn) l29 c29 k29)⟩
    f__law_round := ⟨_, _, PySem.W.mg_of X G a30, k30, (fun_mk (st := s__law_round) l30 c30 k30)⟩
    f__law_mix := ⟨_, _, PySem.W.mg_of X G a31, k31, (fun_mk (st := s__law_mix) l31 c31 k31)⟩
    f__law_tag := ⟨_, _, PySem.W.mg_of X G a32, k32, (fun_mk (st := s__law_tag) l32 c32 k32)⟩
    f__law_sealed := ⟨_, _, PySem.W.mg_of X G a33, k33, (fun_mk (st := s__law_sealed) l33 c33 k33)⟩
    f__law_is_used := ⟨_, _, PySem.W.mg_of X G a34, k34, (fun_mk (st := s__law_is_used) l34 c34 k34)⟩
    f__law_ends := ⟨_, _, PySem.W.mg_of X G a35, k35, (fun_mk (st := s__law_ends) l35 c35 k35)⟩
    f_Writer_told := ⟨_, _, cls_Writer, ⟨a36, i36, k36⟩, (fun_mk (st := s_Writer_told) l36 c36 k36)⟩
    f_Writer_put := ⟨_, _, cls_Writer, ⟨a37, i37, k37⟩, (fun_mk (st := s_Writer_put) l37 c37 k37)⟩
    f_width_of := ⟨_, _, PySem.W.mg_of X G a38, k38, (fun_mk (st := s_width_of) l38 c38 k38)⟩
    f_Writer_number := ⟨_, _, cls_Writer, ⟨a39, i39, k39⟩, (fun_mk (st := s_Writer_number) l39 c39 k39)⟩
    f_put_field := ⟨_, _, PySem.W.mg_of X G a40, k40, (fun_mk (st := s_put_field) l40 c40 k40)⟩
    f_Writer_init := ⟨_, _, PySem.W.mg_of X G a_Writer, ⟨mk_Writer, a41, i41, kc_Writer⟩, (fun_mk (st := s_Writer_init) l41 c41 k41)⟩
    f_body_of := ⟨_, _, PySem.W.mg_of X G a42, k42, (fun_mk (st := s_body_of) l42 c42 k42)⟩
    f_pack := ⟨_, _, PySem.W.mg_of X G a43, k43, (fun_mk (st := s_pack) l43 c43 k43)⟩
    f_fitted := ⟨_, _, PySem.W.mg_of X G a44, k44, (fun_mk (st := s_fitted) l44 c44 k44)⟩
    f_Link_send := ⟨_, _, cls_Link, ⟨a45, i45, k45⟩, (fun_mk (st := s_Link_send) l45 c45 k45)⟩
    f__law_rows := ⟨_, _, PySem.W.mg_of X G a46, k46, (fun_mk (st := s__law_rows) l46 c46 k46)⟩
    f__law_lives := ⟨_, _, PySem.W.mg_of X G a47, k47, (fun_mk (st := s__law_lives) l47 c47 k47)⟩
    f__law_wide := ⟨_, _, PySem.W.mg_of X G a48, k48, (fun_mk (st := s__law_wide) l48 c48 k48)⟩
    f__law_key := ⟨_, _, PySem.W.mg_of X G a49, k49, (fun_mk (st := s__law_key) l49 c49 k49)⟩
    f__law_bag := ⟨_, _, PySem.W.mg_of X G a50, k50, (fun_mk (st := s__law_bag) l50 c50 k50)⟩
    f_law := ⟨_, _, PySem.W.mg_of X G a51, k51, (fun_mk (st := s_law) l51 c51 k51)⟩
    fl__at := List.forall_mem_cons.mpr ⟨⟨cls_Reader, n_Reader__at⟩, fun _ z => absurd z (List.not_mem_nil)⟩
    fl__greatest := List.forall_mem_cons.mpr ⟨⟨cls_Opener, n_Opener__greatest⟩, fun _ z => absurd z (List.not_mem_nil)⟩
    fl__held := List.forall_mem_cons.mpr ⟨⟨cls_Writer, n_Writer__held⟩, fun _ z => absurd z (List.not_mem_nil)⟩
    fl__key := List.forall_mem_cons.mpr ⟨⟨cls_Sealer, n_Sealer__key⟩, List.forall_mem_cons.mpr ⟨⟨cls_Opener, n_Opener__key⟩, fun _ z => absurd z (List.not_mem_nil)⟩⟩
    fl__number := List.forall_mem_cons.mpr ⟨⟨cls_Sealer, n_Sealer__number⟩, fun _ z => absurd z (List.not_mem_nil)⟩
    fl__opener := List.forall_mem_cons.mpr ⟨⟨cls_Link, n_Link__opener⟩, fun _ z => absurd z (List.not_mem_nil)⟩
    fl__rest := List.forall_mem_cons.mpr ⟨⟨cls_Writer, n_Writer__rest⟩, fun _ z => absurd z (List.not_mem_nil)⟩
    fl__row := List.forall_mem_cons.mpr ⟨⟨cls_Writer, n_Writer__row⟩, List.forall_mem_cons.mpr ⟨⟨cls_Reader, n_Reader__row⟩, fun _ z => absurd z (List.not_mem_nil)⟩⟩
    fl__sealer := List.forall_mem_cons.mpr ⟨⟨cls_Link, n_Link__sealer⟩, fun _ z => absurd z (List.not_mem_nil)⟩
    fl__taken := List.forall_mem_cons.mpr ⟨⟨cls_Opener, n_Opener__taken⟩, fun _ z => absurd z (List.not_mem_nil)⟩
    fl__world := List.forall_mem_cons.mpr ⟨⟨cls_Link, n_Link__world⟩, fun _ z => absurd z (List.not_mem_nil)⟩
    z_all := PySem.W.mg_none_of X G z_all
    z_bool := PySem.W.mg_none_of X G z_bool
    z_int := PySem.W.mg_none_of X G z_int
    z_isinstance := PySem.W.mg_none_of X G z_isinstance
    z_len := PySem.W.mg_none_of X G z_len
    z_max := PySem.W.mg_none_of X G z_max
    z_min := PySem.W.mg_none_of X G z_min
    z_range := PySem.W.mg_none_of X G z_range
    z_str := PySem.W.mg_none_of X G z_str
    z_tuple := PySem.W.mg_none_of X G z_tuple
    z_zip := PySem.W.mg_none_of X G z_zip
    k_FORMS := ⟨_, PySem.W.mg_of X G kg_FORMS, (.tup hk_ka_FORMS rfl rfl (Nat.le_of_ble_eq_true rfl) (.cons .str (.cons .str (.cons .str (.cons .str (.cons .str (.cons .str (.cons .str (.cons .str (.cons .str (.cons .str (.cons .str (.cons .str (.cons .str (.cons .str (.cons .str (.cons .str .nil)))))))))))))))))⟩
    k_GREATEST_SUM := ⟨_, PySem.W.mg_of X G kg_GREATEST_SUM, .int⟩
    k_LIFE := ⟨_, PySem.W.mg_of X G kg_LIFE, .int⟩
    k_MOST_BODY := ⟨_, PySem.W.mg_of X G kg_MOST_BODY, .int⟩
    k_MOST_COUNT := ⟨_, PySem.W.mg_of X G kg_MOST_COUNT, .int⟩
    k_MOST_LETTER := ⟨_, PySem.W.mg_of X G kg_MOST_LETTER, .int⟩
    k_MOST_PARTS := ⟨_, PySem.W.mg_of X G kg_MOST_PARTS, .int⟩
    k_MOST_TICK := ⟨_, PySem.W.mg_of X G kg_MOST_TICK, .int⟩
    k_PRIME := ⟨_, PySem.W.mg_of X G kg_PRIME, .int⟩
    k_WINDOW := ⟨_, PySem.W.mg_of X G kg_WINDOW, .int⟩
    k_WORDS := ⟨_, PySem.W.mg_of X G kg_WORDS, .int⟩
    k_LAYOUT := ⟨⟨_, _, _, PySem.W.mg_of X G kg_LAYOUT, kl_LAYOUT, ks_LAYOUT, (.cons kh_LAYOUT_0 (.tup hk_ka_LAYOUT_t0 rfl rfl (Nat.le_of_ble_eq_true rfl) (.cons .str (.cons .str (.cons .str .nil)))) (.cons kh_LAYOUT_1 (.tup hk_ka_LAYOUT_t1 rfl rfl (Nat.le_of_ble_eq_true rfl) (.cons .str (.cons .str (.cons .str .nil)))) (.cons kh_LAYOUT_2 (.tup hk_ka_LAYOUT_t2 rfl rfl (Nat.le_of_ble_eq_true rfl) (.cons .str (.cons .str .nil))) (.cons kh_LAYOUT_3 (.tup hk_ka_LAYOUT_t3 rfl rfl (Nat.le_of_ble_eq_true rfl) (.cons .str (.cons .str .nil))) (.cons kh_LAYOUT_4 (.tup hk_ka_LAYOUT_t4 rfl rfl (Nat.le_of_ble_eq_true rfl) (.cons .str .nil)) (.cons kh_LAYOUT_5 (.tup hk_ka_LAYOUT_t5 rfl rfl (Nat.le_of_ble_eq_true rfl) (.cons .str .nil)) (.cons kh_LAYOUT_6 (.tup hk_ka_LAYOUT_t6 rfl rfl (Nat.le_of_ble_eq_true rfl) (.cons .str .nil)) (.cons kh_LAYOUT_7 (.tup hk_ka_LAYOUT_t7 rfl rfl (Nat.le_of_ble_eq_true rfl) (.cons .str (.cons .str (.cons .str (.cons .str .nil))))) (.cons kh_LAYOUT_8 (.tup hk_ka_LAYOUT_t8 rfl rfl (Nat.le_of_ble_eq_true rfl) (.cons .str (.cons .str (.cons .str .nil)))) (.cons kh_LAYOUT_9 (.tup hk_ka_LAYOUT_t9 rfl rfl (Nat.le_of_ble_eq_true rfl) (.cons .str (.cons .str .nil))) (.cons kh_LAYOUT_10 (.tup hk_ka_LAYOUT_t10 rfl rfl (Nat.le_of_ble_eq_true rfl) (.cons .str (.cons .str .nil))) (.cons kh_LAYOUT_11 (.tup hk_ka_LAYOUT_t11 rfl rfl (Nat.le_of_ble_eq_true rfl) (.cons .str (.cons .str (.cons .str (.cons .str (.cons .str (.cons .str .nil))))))) (.cons kh_LAYOUT_12 (.tup hk_ka_LAYOUT_t12 rfl rfl (Nat.le_of_ble_eq_true rfl) (.cons .str (.cons .str (.cons .str .nil)))) (.cons kh_LAYOUT_13 (.tup hk_ka_LAYOUT_t13 rfl rfl (Nat.le_of_ble_eq_true rfl) (.cons .str (.cons .str (.cons .str (.cons .str (.cons .str (.cons .str .nil))))))) (.cons kh_LAYOUT_14 (.tup hk_ka_LAYOUT_t14 rfl rfl (Nat.le_of_ble_eq_true rfl) (.cons .str (.cons .str (.cons .str (.cons .str (.cons .str .nil)))))) (.cons kh_LAYOUT_15 (.tup hk_ka_LAYOUT_t15 rfl rfl (Nat.le_of_ble_eq_true rfl) (.cons .str .nil)) .nil))))))))))))))))⟩⟩
    k_MANY := ⟨⟨_, _, _, PySem.W.mg_of X G kg_MANY, kl_MANY, ks_MANY, (.cons kh_MANY_0 .int (.cons kh_MANY_1 .int (.cons kh_MANY_2 .int (.cons kh_MANY_3 .int .nil))))⟩⟩
    t_FORMS := ⟨_, _, _, _, PySem.W.mg_of X G tg_FORMS, tl_FORMS, rfl, rfl, rfl, Nat.le_of_ble_eq_true rfl, (.cons ⟨_, rfl⟩ (.cons ⟨_, rfl⟩ (.cons ⟨_, rfl⟩ (.cons ⟨_, rfl⟩ (.cons ⟨_, rfl⟩ (.cons ⟨_, rfl⟩ (.cons ⟨_, rfl⟩ (.cons ⟨_, rfl⟩ (.cons ⟨_, rfl⟩ (.cons ⟨_, rfl⟩ (.cons ⟨_, rfl⟩ (.cons ⟨_, rfl⟩ (.cons ⟨_, rfl⟩ (.cons ⟨_, rfl⟩ (.cons ⟨_, rfl⟩ (.cons ⟨_, rfl⟩ .nil))))))))))))))))⟩
    n_BadBits := PySem.W.mg_of X G g_BadBits
    n_BadLetter := PySem.W.mg_of X G g_BadLetter
    n_TooFar := PySem.W.mg_of X G g_TooFar
    e_TooFar := ⟨PySem.W.mg_of X G g_TooFar, q_TooFar, kp_TooFar, b_TooFar, t_TooFar⟩
    x_TooFar_BadBits := exm_of b_BadBits ic_BadBits t_BadBits s_TooFar_BadBits
    x_TooFar_BadLetter := exm_of b_BadLetter ic_BadLetter t_BadLetter s_TooFar_BadLetter
    x_TooFar_TooFar := exm_of b_TooFar ic_TooFar t_TooFar s_TooFar_TooFar
  }
  exact ⟨PySem.W.fnOf "law" "law" (defArgs s_law) (defBody s_law) (defScope s_law) .none kV51 dc51 pm51 an51 cd51 ct51, fun s v => .of_eq rfl, fun base _ _ => law_of (fn_law T (fun_mk (st := s_law) l51 c51 k51)) hm⟩
end PMl
open PySem PySem.W PyProof.Rows
set_option maxRecDepth 100000 in
set_option maxHeartbeats 0 in
theorem PySem.Challenge.cw_latemoves_k54_links_of_later_lives_holds : PySem.Challenge.rw_latemoves_k54_links_of_later_lives.Holds := by
  w_on; o_law; k_head; (case hw => w_witness2)
  k_fill
  refine PM.walk (l := PySem.Challenge.rw_latemoves_k54_links_of_later_lives) 9 ⟨rfl, by decide, by decide⟩ rfl rfl (fun w h Y => PySem.W.kIn_of Y) ?F
  case F =>
    intro w mg fa h KX G hmg
    refine' PMl.all_mk KX G hmg PMl.law_holds ?a_Sealer ?pg_Sealer ?hd_Sealer ?po_Sealer ?sa_Sealer ?mk_Sealer ?kc_Sealer ?a_Opener ?pg_Opener ?hd_Opener ?po_Opener ?sa_Opener ?mk_Opener ?kc_Opener ?a_Writer ?pg_Writer ?hd_Writer ?po_Writer ?sa_Writer ?mk_Writer ?kc_Writer ?a_Reader ?pg_Reader ?hd_Reader ?po_Reader ?sa_Reader ?mk_Reader ?kc_Reader ?a_Link ?pg_Link ?hd_Link ?po_Link ?sa_Link ?mk_Link ?kc_Link ?a0 ?l0 ?c0 ?k0 ?a1 ?l1 ?c1 ?k1 ?a2 ?l2 ?c2 ?k2 ?a3 ?l3 ?c3 ?k3 ?a4 ?i4 ?l4 ?c4 ?k4 ?a5 ?i5 ?l5 ?c5 ?k5 ?a6 ?i6 ?l6 ?c6 ?k6 ?a7 ?i7 ?l7 ?c7 ?k7 ?a8 ?l8 ?c8 ?k8 ?a9 ?l9 ?c9 ?k9 ?a10 ?i10 ?l10 ?c10 ?k10 ?a11 ?l11 ?c11 ?k11 ?a12 ?l12 ?c12 ?k12 ?a13 ?l13 ?c13 ?k13 ?a14 ?l14 ?c14 ?k14 ?a15 ?l15 ?c15 ?k15 ?a16 ?l16 ?c16 ?k16 ?a17 ?l17 ?c17 ?k17 ?a18 ?l18 ?c18 ?k18 ?a19 ?i19 ?l19 ?c19 ?k19 ?a20 ?i20 ?l20 ?c20 ?k20 ?a21 ?l21 ?c21 ?k21 ?a22 ?i22 ?l22 ?c22 ?k22 ?a23 ?i23 ?l23 ?c23 ?k23 ?a24 ?i24 ?l24 ?c24 ?k24 ?a25 ?l25 ?c25 ?k25 ?a26 ?l26 ?c26 ?k26 ?a27 ?i27 ?l27 ?c27 ?k27 ?a28 ?l28 ?c28 ?k28 ?a29 ?l29 ?c29 ?k29 ?a30 ?l30 ?c30 ?k30 ?a31 ?l31 ?c31 ?k31 ?a32 ?l32 ?c32 ?k32 ?a33 ?l33 ?c33 ?k33 ?a34 ?l34 ?c34 ?k34 ?a35 ?l35 ?c35 ?k35 ?a36 ?i36 ?l36 ?c36 ?k36 ?a37 ?i37 ?l37 ?c37 ?k37 ?a38 ?l38 ?c38 ?k38 ?a39 ?i39 ?l39 ?c39 ?k39 ?a40 ?l40 ?c40 ?k40 ?a41 ?i41 ?l41 ?c41 ?k41 ?a42 ?l42 ?c42 ?k42 ?a43 ?l43 ?c43 ?k43 ?a44 ?l44 ?c44 ?k44 ?a45 ?i45 ?l45 ?c45 ?k45 ?a46 ?l46 ?c46 ?k46 ?a47 ?l47 ?c47 ?k47 ?a48 ?l48 ?c48 ?k48 ?a49 ?l49 ?c49 ?k49 ?a50 ?l50 ?c50 ?k50 ?a51 ?l51 ?c51 ?k51 ?n_Reader__at ?n_Opener__greatest ?n_Writer__held ?n_Sealer__key ?n_Opener__key ?n_Sealer__number ?n_Link__opener ?n_Writer__rest ?n_Writer__row ?n_Reader__row ?n_Link__sealer ?n_Opener__taken ?n_Link__world ?z_all ?z_bool ?z_int ?z_isinstance ?z_len ?z_max ?z_min ?z_range ?z_str ?z_tuple ?z_zip ?kg_FORMS ?hk_ka_FORMS ?kg_GREATEST_SUM ?kg_LIFE ?kg_MOST_BODY ?kg_MOST_COUNT ?kg_MOST_LETTER ?kg_MOST_PARTS ?kg_MOST_TICK ?kg_PRIME ?kg_WINDOW ?kg_WORDS ?kg_LAYOUT ?kl_LAYOUT ?ks_LAYOUT ?hk_ka_LAYOUT_t15 ?hk_ka_LAYOUT_t14 ?hk_ka_LAYOUT_t13 ?hk_ka_LAYOUT_t12 ?hk_ka_LAYOUT_t11 ?hk_ka_LAYOUT_t10 ?hk_ka_LAYOUT_t9 ?hk_ka_LAYOUT_t8 ?hk_ka_LAYOUT_t7 ?hk_ka_LAYOUT_t6 ?hk_ka_LAYOUT_t5 ?hk_ka_LAYOUT_t4 ?hk_ka_LAYOUT_t3 ?hk_ka_LAYOUT_t2 ?hk_ka_LAYOUT_t1 ?hk_ka_LAYOUT_t0 ?kh_LAYOUT_0 ?kh_LAYOUT_1 ?kh_LAYOUT_2 ?kh_LAYOUT_3 ?kh_LAYOUT_4 ?kh_LAYOUT_5 ?kh_LAYOUT_6 ?kh_LAYOUT_7 ?kh_LAYOUT_8 ?kh_LAYOUT_9 ?kh_LAYOUT_10 ?kh_LAYOUT_11 ?kh_LAYOUT_12 ?kh_LAYOUT_13 ?kh_LAYOUT_14 ?kh_LAYOUT_15 ?kg_MANY ?kl_MANY ?ks_MANY ?kh_MANY_0 ?kh_MANY_1 ?kh_MANY_2 ?kh_MANY_3 ?tg_FORMS ?tl_FORMS ?dl23 ?dl24 ?g_BadBits ?b_BadBits ?t_BadBits ?g_BadLetter ?b_BadLetter ?t_BadLetter ?g_TooFar ?q_TooFar ?kp_TooFar ?b_TooFar ?t_TooFar ?ic_BadBits ?s_TooFar_BadBits ?ic_BadLetter ?s_TooFar_BadLetter ?ic_TooFar ?s_TooFar_TooFar
    (case a_Sealer => k_is)
    (case pg_Sealer => k_is)
    (case hd_Sealer => k_is)
    (case po_Sealer => k_is)
    (case sa_Sealer => k_is)
    (case mk_Sealer => k_is)
    (case kc_Sealer => k_is)
    (case a_Opener => k_is)
    (case pg_Opener => k_is)
    (case hd_Opener => k_is)
    (case po_Opener => k_is)
    (case sa_Opener => k_is)
    (case mk_Opener => k_is)
    (case kc_Opener => k_is)
    (case a_Writer => k_is)
    (case pg_Writer => k_is)
    (case hd_Writer => k_is)
    (case po_Writer => k_is)
    (case sa_Writer => k_is)
    (case mk_Writer => k_is)
    (case kc_Writer => k_is)
    (case a_Reader => k_is)
    (case pg_Reader => k_is)
    (case hd_Reader => k_is)
    (case po_Reader => k_is)
    (case sa_Reader => k_is)
    (case mk_Reader => k_is)
    (case kc_Reader => k_is)
    (case a_Link => k_is)
    (case pg_Link => k_is)
    (case hd_Link => k_is)
    (case po_Link => k_is)
    (case sa_Link => k_is)
    (case mk_Link => k_is)
    (case kc_Link => k_is)
    (case a0 => k_is)
    (case l0 => k_is)
    (case c0 => k_is)
    (case k0 => k_is)
    (case a1 => k_is)
    (case l1 => k_is)
    (case c1 => k_is)
    (case k1 => k_is)
    (case a2 => k_is)
    (case l2 => k_is)
    (case c2 => k_is)
    (case k2 => k_is)
    (case a3 => k_is)
    (case l3 => k_is)
    (case c3 => k_is)
    (case k3 => k_is)
    (case a4 => k_is)
    (case i4 => k_is)
    (case l4 => k_is)
    (case c4 => k_is)
    (case k4 => k_is)
    (case a5 => k_is)
    (case i5 => k_is)
    (case l5 => k_is)
    (case c5 => k_is)
    (case k5 => k_is)
    (case a6 => k_is)
    (case i6 => k_is)
    (case l6 => k_is)
    (case c6 => k_is)
    (case k6 => k_is)
    (case a7 => k_is)
    (case i7 => k_is)
    (case l7 => k_is)
    (case c7 => k_is)
    (case k7 => k_is)
    (case a8 => k_is)
    (case l8 => k_is)
    (case c8 => k_is)
    (case k8 => k_is)
    (case a9 => k_is)
    (case l9 => k_is)
    (case c9 => k_is)
    (case k9 => k_is)
    (case a10 => k_is)
    (case i10 => k_is)
    (case l10 => k_is)
    (case c10 => k_is)
    (case k10 => k_is)
    (case a11 => k_is)
    (case l11 => k_is)
    (case c11 => k_is)
    (case k11 => k_is)
    (case a12 => k_is)
    (case l12 => k_is)
    (case c12 => k_is)
    (case k12 => k_is)
    (case a13 => k_is)
    (case l13 => k_is)
    (case c13 => k_is)
    (case k13 => k_is)
    (case a14 => k_is)
    (case l14 => k_is)
    (case c14 => k_is)
    (case k14 => k_is)
    (case a15 => k_is)
    (case l15 => k_is)
    (case c15 => k_is)
    (case k15 => k_is)
    (case a16 => k_is)
    (case l16 => k_is)
    (case c16 => k_is)
    (case k16 => k_is)
    (case a17 => k_is)
    (case l17 => k_is)
    (case c17 => k_is)
    (case k17 => k_is)
    (case a18 => k_is)
    (case l18 => k_is)
    (case c18 => k_is)
    (case k18 => k_is)
    (case a19 => k_is)
    (case i19 => k_is)
    (case l19 => k_is)
    (case c19 => k_is)
    (case k19 => k_is)
    (case a20 => k_is)
    (case i20 => k_is)
    (case l20 => k_is)
    (case c20 => k_is)
    (case k20 => k_is)
    (case a21 => k_is)
    (case l21 => k_is)
    (case c21 => k_is)
    (case k21 => k_is)
    (case a22 => k_is)
    (case i22 => k_is)
    (case l22 => k_is)
    (case c22 => k_is)
    (case k22 => k_is)
    (case a23 => k_is)
    (case i23 => k_is)
    (case l23 => k_is)
    (case c23 => k_is)
    (case k23 => k_is)
    (case a24 => k_is)
    (case i24 => k_is)
    (case l24 => k_is)
    (case c24 => k_is)
    (case k24 => k_is)
    (case a25 => k_is)
    (case l25 => k_is)
    (case c25 => k_is)
    (case k25 => k_is)
    (case a26 => k_is)
    (case l26 => k_is)
    (case c26 => k_is)
    (case k26 => k_is)
    (case a27 => k_is)
    (case i27 => k_is)
    (case l27 => k_is)
    (case c27 => k_is)
    (case k27 => k_is)
    (case a28 => k_is)
    (case l28 => k_is)
    (case c28 => k_is)
    (case k28 => k_is)
    (case a29 => k_is)
    (case l29 => k_is)
    (case c29 => k_is)
    (case k29 => k_is)
    (case a30 => k_is)
    (case l30 => k_is)
    (case c30 => k_is)
    (case k30 => k_is)
    (case a31 => k_is)
    (case l31 => k_is)
    (case c31 => k_is)
    (case k31 => k_is)
    (case a32 => k_is)
    (case l32 => k_is)
    (case c32 => k_is)
    (case k32 => k_is)
    (case a33 => k_is)
    (case l33 => k_is)
    (case c33 => k_is)
    (case k33 => k_is)
    (case a34 => k_is)
    (case l34 => k_is)
    (case c34 => k_is)
    (case k34 => k_is)
    (case a35 => k_is)
    (case l35 => k_is)
    (case c35 => k_is)
    (case k35 => k_is)
    (case a36 => k_is)
    (case i36 => k_is)
    (case l36 => k_is)
    (case c36 => k_is)
    (case k36 => k_is)
    (case a37 => k_is)
    (case i37 => k_is)
    (case l37 => k_is)
    (case c37 => k_is)
    (case k37 => k_is)
    (case a38 => k_is)
    (case l38 => k_is)
    (case c38 => k_is)
    (case k38 => k_is)
    (case a39 => k_is)
    (case i39 => k_is)
    (case l39 => k_is)
    (case c39 => k_is)
    (case k39 => k_is)
    (case a40 => k_is)
    (case l40 => k_is)
    (case c40 => k_is)
    (case k40 => k_is)
    (case a41 => k_is)
    (case i41 => k_is)
    (case l41 => k_is)
    (case c41 => k_is)
    (case k41 => k_is)
    (case a42 => k_is)
    (case l42 => k_is)
    (case c42 => k_is)
    (case k42 => k_is)
    (case a43 => k_is)
    (case l43 => k_is)
    (case c43 => k_is)
    (case k43 => k_is)
    (case a44 => k_is)
    (case l44 => k_is)
    (case c44 => k_is)
    (case k44 => k_is)
    (case a45 => k_is)
    (case i45 => k_is)
    (case l45 => k_is)
    (case c45 => k_is)
    (case k45 => k_is)
    (case a46 => k_is)
    (case l46 => k_is)
    (case c46 => k_is)
    (case k46 => k_is)
    (case a47 => k_is)
    (case l47 => k_is)
    (case c47 => k_is)
    (case k47 => k_is)
    (case a48 => k_is)
    (case l48 => k_is)
    (case c48 => k_is)
    (case k48 => k_is)
    (case a49 => k_is)
    (case l49 => k_is)
    (case c49 => k_is)
    (case k49 => k_is)
    (case a50 => k_is)
    (case l50 => k_is)
    (case c50 => k_is)
    (case k50 => k_is)
    (case a51 => k_is)
    (case l51 => k_is)
    (case c51 => k_is)
    (case k51 => k_is)
    (case n_Reader__at => k_is)
    (case n_Opener__greatest => k_is)
    (case n_Writer__held => k_is)
    (case n_Sealer__key => k_is)
    (case n_Opener__key => k_is)
    (case n_Sealer__number => k_is)
    (case n_Link__opener => k_is)
    (case n_Writer__rest => k_is)
    (case n_Writer__row => k_is)
    (case n_Reader__row => k_is)
    (case n_Link__sealer => k_is)
    (case n_Opener__taken => k_is)
    (case n_Link__world => k_is)
    (case z_all => k_is)
    (case z_bool => k_is)
    (case z_int => k_is)
    (case z_isinstance => k_is)
    (case z_len => k_is)
    (case z_max => k_is)
    (case z_min => k_is)
    (case z_range => k_is)
    (case z_str => k_is)
    (case z_tuple => k_is)
    (case z_zip => k_is)
    (case kg_FORMS => k_is)
    (case hk_ka_FORMS => k_is)
    (case kg_GREATEST_SUM => k_is)
    (case kg_LIFE => k_is)
    (case kg_MOST_BODY => k_is)
    (case kg_MOST_COUNT => k_is)
    (case kg_MOST_LETTER => k_is)
    (case kg_MOST_PARTS => k_is)
    (case kg_MOST_TICK => k_is)
    (case kg_PRIME => k_is)
    (case kg_WINDOW => k_is)
    (case kg_WORDS => k_is)
    (case kg_LAYOUT => k_is)
    (case kl_LAYOUT => k_is)
    (case ks_LAYOUT => decide)
    (case hk_ka_LAYOUT_t15 => k_is)
    (case hk_ka_LAYOUT_t14 => k_is)
    (case hk_ka_LAYOUT_t13 => k_is)
    (case hk_ka_LAYOUT_t12 => k_is)
    (case hk_ka_LAYOUT_t11 => k_is)
    (case hk_ka_LAYOUT_t10 => k_is)
    (case hk_ka_LAYOUT_t9 => k_is)
    (case hk_ka_LAYOUT_t8 => k_is)
    (case hk_ka_LAYOUT_t7 => k_is)
    (case hk_ka_LAYOUT_t6 => k_is)
    (case hk_ka_LAYOUT_t5 => k_is)
    (case hk_ka_LAYOUT_t4 => k_is)
    (case hk_ka_LAYOUT_t3 => k_is)
    (case hk_ka_LAYOUT_t2 => k_is)
    (case hk_ka_LAYOUT_t1 => k_is)
    (case hk_ka_LAYOUT_t0 => k_is)
    (case kh_LAYOUT_0 => exact rfl)
    (case kh_LAYOUT_1 => exact rfl)
    (case kh_LAYOUT_2 => exact rfl)
    (case kh_LAYOUT_3 => exact rfl)
    (case kh_LAYOUT_4 => exact rfl)
    (case kh_LAYOUT_5 => exact rfl)
    (case kh_LAYOUT_6 => exact rfl)
    (case kh_LAYOUT_7 => exact rfl)
    (case kh_LAYOUT_8 => exact rfl)
    (case kh_LAYOUT_9 => exact rfl)
    (case kh_LAYOUT_10 => exact rfl)
    (case kh_LAYOUT_11 => exact rfl)
    (case kh_LAYOUT_12 => exact rfl)
    (case kh_LAYOUT_13 => exact rfl)
    (case kh_LAYOUT_14 => exact rfl)
    (case kh_LAYOUT_15 => exact rfl)
    (case kg_MANY => k_is)
    (case kl_MANY => k_is)
    (case ks_MANY => decide)
    (case kh_MANY_0 => exact rfl)
    (case kh_MANY_1 => exact rfl)
    (case kh_MANY_2 => exact rfl)
    (case kh_MANY_3 => exact rfl)
    (case tg_FORMS => k_is)
    (case tl_FORMS => k_is)
    (case dl23 => k_is)
    (case dl24 => k_is)
    (case g_BadBits => k_is)
    (case b_BadBits => k_is)
    (case t_BadBits => k_is)
    (case g_BadLetter => k_is)
    (case b_BadLetter => k_is)
    (case t_BadLetter => k_is)
    (case g_TooFar => k_is)
    (case q_TooFar => k_exc)
    (case kp_TooFar => k_is)
    (case b_TooFar => k_is)
    (case t_TooFar => k_is)
    (case ic_BadBits => k_is)
    (case s_TooFar_BadBits => first | rfl | k_is)
    (case ic_BadLetter => k_is)
    (case s_TooFar_BadLetter => first | rfl | k_is)
    (case ic_TooFar => k_is)
    (case s_TooFar_TooFar => first | rfl | k_is)
#print axioms PySem.Challenge.cw_latemoves_k54_links_of_later_lives_holds

