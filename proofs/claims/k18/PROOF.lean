import PyProof.Rows.All
import Wide.All
import OpenK.AllK
import Wide.FinOn
import HandS.ForMost
import HandS.Exc
import HandS.Lambda
import HandS.TupAny
import HandS.TupMul
import HandS.Wide
import HandS.Style
import HandS.IsInst
import PyProof.P3Eq
import PyProof.NeKinds
import HandS.Text
import HandS.Strs
import HandS.RaiseMore
import HandS.Zip
import HandS.NoneIn
import HandS.HotCalls
import HandS.ExcIs
import HandS.Iter
import HandS.ExcCtx
import HandS.ExcInit
import HandS.ExcField
import HandS.Defaults
import HandS.HeadHook4
import HandS.HeadEnd
import HandS.HeadWalk
import HandS.Head2
import PySem.Challenge.RW_spanwhenever_k18_scripts_written
set_option Elab.async false
set_option linter.all false
set_option maxRecDepth 100000
set_option autoImplicit false
namespace Pf
/-! text Ev1.lean -/
/-! Pf: a small evaluator over plain data, and what it says of the model. 1: data, states, relations. -/
open PySem L2

/-- plain data; scr: a list that is only read (the script); obj: an object that may change, by its number; fn: a def of the text; clo: a lambda, with what it caught -/
inductive D where
  | non | bl (b : Bool) | int (i : Int) | str (s : Str) | tup (ds : List D) | lst (ds : List D) | scr (ds : List D) | obj (i : Nat) | fn (i : Nat) | clo (j : Nat) (ds : List D)
/-- a list: whether it may still change, and what it holds -/
structure Ob where
  live : Bool
  ds : List D
abbrev Hd := List Ob
abbrev Sl := List (Option D)
structure Ec where
  c : Nat
  fs : List (Str × D)
inductive Res (α : Type) where
  | ok (a : α) (h : Hd) | exc (e : Ec) (h : Hd) | stuck
/-- a statement's end -/
inductive Rs where
  | nx (σ : Sl) (h : Hd) | rt (d : D) (h : Hd) | bk (σ : Sl) (h : Hd) | ct (σ : Sl) (h : Hd) | exc (e : Ec) (σ : Sl) (h : Hd) | stuck
def Res.bind {α β : Type} (r : Res α) (k : α → Hd → Res β) : Res β := match r with
  | .ok a h => k a h
  | .exc e h => .exc e h
  | .stuck => .stuck
abbrev Fe := Sl → Hd → Res D
abbrev Fa := Sl → Hd → Res (List D)
abbrev Fs := Sl → Hd → Rs

/-- a state: the changing objects' addresses, what they hold, the abstract heap, the lists that are being made -/
structure Sta where
  w : List Addr
  h : Hd
  H : Hp
  c : List Addr
def Live (S : Sta) (a : Addr) : Prop := (∃ (i : Nat) (ob : Ob), S.w[i]? = some a ∧ S.h[i]? = some ob ∧ ob.live = true) ∨ a ∈ S.c
/-- the object at a is u and stays so -/
def Fz (S : Sta) (a : Addr) (u : HO) : Prop := ¬ Live S a ∧ S.H a = some u
/-- what is known of plain data stays -/
structure Ext (S S' : Sta) : Prop where
  w : S.w <+: S'.w
  fz : ∀ a u, (∀ ps, u ≠ .tbl ps) → Fz S a u → Fz S' a u

/-- what is so and stays so -/
structure Iv where
  φ : Sta → Prop
  ext : ∀ S S', Ext S S' → φ S → φ S'
/-- where the text's things stand; the slots that hold just this object; what else is so of a state; the tables of code objects -/
structure Gm where
  P : Program
  wd : World
  K : PySem.W.Frag
  mg : Str → Option Value
  base : Heap
  fa : Nat → Addr
  ca : Nat → Addr
  pin : List (Nat × Addr)
  iv : List Iv
  tb : List (Addr × Str)
def KL (K : PySem.W.Frag) (a : Addr) (xs : List V) : Prop := ∃ (o : Obj) (its : Array Value) (n : Nat), K.lookup a = some o ∧ o.cls = .type "list" ∧ o.dict = none ∧ o.data = .seq its n ∧ its.size ≤ sizeLine ∧ Vals xs its.toList
def KT (K : PySem.W.Frag) (a : Addr) (xs : List V) : Prop := ∃ (o : Obj) (its : Array Value) (n : Nat), K.lookup a = some o ∧ o.cls = .type "tuple" ∧ o.data = .seq its n ∧ its.size ≤ sizeLine ∧ Vals xs its.toList
mutual
inductive Rv (G : Gm) (S : Sta) : D → V → Prop
  | non : Rv G S .non .non
  | bl (b : Bool) : Rv G S (.bl b) (.bl b)
  | int (i : Int) : Rv G S (.int i) (.int i)
  | str (x : Str) : Rv G S (.str x) (.str x)
  | tup {a : Addr} {xs : List V} {ds : List D} : Fz S a (.tup xs) ∨ KT G.K a xs → Rl G S ds xs → Rv G S (.tup ds) (.ref a)
  | lst {a : Addr} {xs : List V} {ds : List D} : Fz S a (.lst xs) → Rl G S ds xs → Rv G S (.lst ds) (.ref a)
  | scr {a : Addr} {xs : List V} {ds : List D} : (∃ u, (u = .lst xs ∨ ∃ o, u = .frz o (.lst xs)) ∧ Fz S a u) ∨ KL G.K a xs → Rl G S ds xs → Rv G S (.scr ds) (.ref a)
  | obj {i : Nat} {a : Addr} : S.w[i]? = some a → Rv G S (.obj i) (.ref a)
  | fn (i : Nat) : Rv G S (.fn i) (.ref (G.fa i))
inductive Rl (G : Gm) (S : Sta) : List D → List V → Prop
  | nil : Rl G S [] []
  | cons {d : D} {ds : List D} {v : V} {vs : List V} : Rv G S d v → Rl G S ds vs → Rl G S (d :: ds) (v :: vs)
end
/-- what a changing object holds -/
def Ro (G : Gm) (S : Sta) (ob : Ob) (a : Addr) : Prop := ∃ xs, S.H a = some (.lst xs) ∧ Rl G S ob.ds xs
structure Rh (G : Gm) (S : Sta) : Prop where
  len : S.w.length = S.h.length
  nd : S.w.Nodup
  ob : ∀ (i : Nat) (ob : Ob) (a : Addr), S.h[i]? = some ob → S.w[i]? = some a → Ro G S ob a
  con : ∀ a ∈ S.c, (∃ xs, S.H a = some (.lst xs)) ∧ a ∉ S.w
  iv : ∀ p ∈ G.iv, p.φ S
  tab : LamX.Tabs G.tb S.H
/-- one state, later another -/
structure Stp (S S' : Sta) : Prop where
  len : S.w.length = S.h.length
  len' : S'.w.length = S'.h.length
  w : S.w <+: S'.w
  dead : ∀ (i : Nat) (ob : Ob), S.h[i]? = some ob → ob.live = false → S'.h[i]? = some ob
  new : ∀ (i : Nat) (a : Addr), S.w.length ≤ i → S'.w[i]? = some a → S.H a = none
  keep : ∀ b o, S.H b = some o → ¬ Live S b → (∀ ps, o ≠ .tbl ps) → S'.H b = some o
  trk : ∀ b o, S.H b = some o → ∃ o', S'.H b = some o'
  con : ∀ a ∈ S.c, a ∈ S'.c ∧ S'.H a = S.H a
  coff : ∀ a ∈ S'.c, a ∈ S.c ∨ S.H a = none
section
variable {G : Gm} {S S' S1 S2 : Sta}
theorem pre_at {α : Type} {xs ys : List α} (h : xs <+: ys) {i : Nat} {a : α} (e : xs[i]? = some a) : ys[i]? = some a := by
  obtain ⟨t, rfl⟩ := h
  obtain ⟨hi, _⟩ := List.getElem?_eq_some_iff.mp e
  rw [List.getElem?_append_left hi]
  exact e
theorem pre_back {α : Type} {xs ys : List α} (h : xs <+: ys) {i : Nat} {a : α} (hi : i < xs.length) (e : ys[i]? = some a) : xs[i]? = some a := by
  obtain ⟨t, rfl⟩ := h
  rw [List.getElem?_append_left hi] at e
  exact e
theorem Stp.notLive (t : Stp S S') {b : Addr} {o : HO} (e : S.H b = some o) (n : ¬ Live S b) : ¬ Live S' b := by
  rintro (⟨i, ob, h1, h2, h3⟩ | hc)
  case inr => exact (t.coff b hc).elim (fun z => n (.inr z)) fun z => by rw [e] at z; cases z
  by_cases hi : i < S.w.length
  · have e1 := pre_back t.w hi h1
    have hi2 : i < S.h.length := by rw [← t.len]; exact hi
    have e2 : S.h[i]? = some S.h[i] := List.getElem?_eq_getElem hi2
    cases q : S.h[i].live with
    | false =>
      have := t.dead i _ e2 q
      rw [h2] at this
      rw [Option.some.inj this, q] at h3
      cases h3
    | true => exact n (.inl ⟨i, _, e1, e2, q⟩)
  · have := t.new i b (by omega) h1
    rw [e] at this
    cases this
theorem Stp.refl (h : Rh G S) : Stp S S := ⟨h.len, h.len, List.prefix_refl _, fun _ _ e _ => e, fun i a hi e => by
    have := (List.getElem?_eq_some_iff.mp e).1
    omega, fun _ _ e _ _ => e, fun _ o e => ⟨o, e⟩, fun a h => ⟨h, rfl⟩, fun a h => .inl h⟩
theorem Stp.trans (a : Stp S S1) (b : Stp S1 S2) : Stp S S2 where
  len := a.len
  len' := b.len'
  w := a.w.trans b.w
  dead := fun i ob e l => b.dead i ob (a.dead i ob e l) l
  new := fun i x hi e => by
    by_cases h1 : i < S1.w.length
    · exact a.new i x hi (pre_back b.w h1 e)
    · have := b.new i x (by omega) e
      cases q : S.H x with
      | none => rfl
      | some o =>
        obtain ⟨o', e'⟩ := a.trk x o q
        rw [this] at e'
        cases e'
  keep := fun c o e n nt => b.keep c o (a.keep c o e n nt) (a.notLive e n) nt
  trk := fun c o e => by
    obtain ⟨o', e'⟩ := a.trk c o e
    exact b.trk c o' e'
  con := fun x h => by
    obtain ⟨h1, e1⟩ := a.con x h
    obtain ⟨h2, e2⟩ := b.con x h1
    exact ⟨h2, e2.trans e1⟩
  coff := fun x h => by
    rcases b.coff x h with h1 | e1
    · exact a.coff x h1
    · cases q : S.H x with
      | none => exact .inr rfl
      | some o =>
        obtain ⟨o', e'⟩ := a.trk x o q
        rw [e1] at e'
        cases e'
theorem Fz.mono (t : Stp S S') {a : Addr} {u : HO} (hu : ∀ ps, u ≠ .tbl ps) (f : Fz S a u) : Fz S' a u := by
  obtain ⟨n, e⟩ := f
  exact ⟨t.notLive e n, t.keep a u e n hu⟩
theorem ntL {xs : List V} : ∀ ps, HO.lst xs ≠ .tbl ps := fun ps z => by cases z
theorem ntT {xs : List V} : ∀ ps, HO.tup xs ≠ .tbl ps := fun ps z => by cases z
theorem Stp.ext (t : Stp S S') : Ext S S' := ⟨t.w, fun a u hu f => f.mono t hu⟩
mutual
theorem Rv.ext (t : Ext S S') : ∀ {d : D} {v : V}, Rv G S d v → Rv G S' d v
  | _, _, .non => .non
  | _, _, .bl b => .bl b
  | _, _, .int i => .int i
  | _, _, .str x => .str x
  | _, _, .tup f r => .tup (f.imp (fun f => t.fz _ _ ntT f) id) (Rl.ext t r)
  | _, _, .lst f r => .lst (t.fz _ _ ntL f) (Rl.ext t r)
  | _, _, .scr f r => .scr (f.imp (fun ⟨u, e, f⟩ => ⟨u, e, t.fz _ _ (fun ps z => by rcases e with e | ⟨o, e⟩ <;> (subst e; cases z)) f⟩) id) (Rl.ext t r)
  | _, _, .obj e => .obj (pre_at t.w e)
  | _, _, .fn i => .fn i
theorem Rl.ext (t : Ext S S') : ∀ {ds : List D} {vs : List V}, Rl G S ds vs → Rl G S' ds vs
  | _, _, .nil => .nil
  | _, _, .cons r q => .cons (Rv.ext t r) (Rl.ext t q)
end
theorem Rv.mono (t : Stp S S') {d : D} {v : V} (r : Rv G S d v) : Rv G S' d v := r.ext t.ext
theorem Rl.mono (t : Stp S S') {d : List D} {v : List V} (r : Rl G S d v) : Rl G S' d v := r.ext t.ext
theorem Rh.iv' (h : Rh G S) (t : Ext S S') : ∀ p ∈ G.iv, p.φ S' := fun p hp => p.ext _ _ t (h.iv p hp)
/-- a list is written, or something new laid: the tables stay -/
theorem tab_upd {T : List (Addr × Str)} {H : Hp} {a : Addr} {o : HO} (h : LamX.Tabs T H) (ha : H a = none ∨ ∃ xs, H a = some (.lst xs)) : LamX.Tabs T (upd H a o) := fun p hp => by
  obtain ⟨ps, h1, h2, h3⟩ := h p hp
  have ne : ∀ {b : Addr} {u : HO}, H b = some u → (∀ xs, u ≠ .lst xs) → b ≠ a := fun e n z => by
    subst z
    rcases ha with ha | ⟨xs, ha⟩
    · rw [ha] at e; cases e
    · rw [ha] at e; exact n xs (Option.some.inj e).symm
  refine ⟨ps, by rw [upd_ne (ne h1 fun xs z => by cases z)]; exact h1, h2, fun pos cv hc => ?_⟩
  obtain ⟨c, e1, e2⟩ := h3 pos cv hc
  exact ⟨c, e1, by rw [upd_ne (ne e2 fun xs z => by unfold LamX.CodeO at z; cases z)]; exact e2⟩
theorem Rl.length : ∀ {ds : List D} {vs : List V}, Rl G S ds vs → ds.length = vs.length
  | _, _, .nil => rfl
  | _, _, .cons _ q => by simp [Rl.length q]
theorem Rl.get : ∀ {ds : List D} {vs : List V} {i : Nat} {d : D}, Rl G S ds vs → ds[i]? = some d → ∃ v, vs[i]? = some v ∧ Rv G S d v
  | _, _, _, _, .nil, e => by simp at e
  | _, _, 0, _, .cons r _, e => by simp at e; subst e; exact ⟨_, rfl, r⟩
  | _, _, i + 1, d, .cons _ q, e => by
    obtain ⟨v, h1, h2⟩ := Rl.get (i := i) (d := d) q (by simpa using e)
    exact ⟨v, by simpa using h1, h2⟩
theorem Rl.get' : ∀ {ds : List D} {vs : List V} {i : Nat} {v : V}, Rl G S ds vs → vs[i]? = some v → ∃ d, ds[i]? = some d ∧ Rv G S d v
  | _, _, _, _, .nil, e => by simp at e
  | _, _, 0, _, .cons r _, e => by simp at e; subst e; exact ⟨_, rfl, r⟩
  | _, _, i + 1, v, .cons _ q, e => by
    obtain ⟨d, h1, h2⟩ := Rl.get' (i := i) (v := v) q (by simpa using e)
    exact ⟨d, by simpa using h1, h2⟩
theorem Rl.append : ∀ {ds es : List D} {vs us : List V}, Rl G S ds vs → Rl G S es us → Rl G S (ds ++ es) (vs ++ us)
  | _, _, _, _, .nil, s => s
  | _, _, _, _, .cons r q, s => .cons r (Rl.append q s)
theorem Rl.take : ∀ {ds : List D} {vs : List V} (n : Nat), Rl G S ds vs → Rl G S (ds.take n) (vs.take n)
  | _, _, 0, _ => .nil
  | _, _, _ + 1, .nil => .nil
  | _, _, n + 1, .cons r q => .cons r (Rl.take n q)
theorem Rl.drop : ∀ {ds : List D} {vs : List V} (n : Nat), Rl G S ds vs → Rl G S (ds.drop n) (vs.drop n)
  | _, _, 0, r => r
  | _, _, _ + 1, .nil => .nil
  | _, _, n + 1, .cons _ q => Rl.drop n q
theorem Rl.set {d : D} {v : V} (r : Rv G S d v) : ∀ {ds : List D} {vs : List V} (i : Nat), Rl G S ds vs → Rl G S (ds.set i d) (vs.set i v)
  | _, _, _, .nil => .nil
  | _, _, 0, .cons _ q => .cons r q
  | _, _, i + 1, .cons x q => .cons x (Rl.set r i q)
theorem Rl.reverse {ds : List D} {vs : List V} (r : Rl G S ds vs) : Rl G S ds.reverse vs.reverse := by
  induction ds generalizing vs with
  | nil => cases r; exact .nil
  | cons d ds ih =>
    cases r with
    | cons r q =>
      rw [List.reverse_cons, List.reverse_cons]
      exact (ih q).append (.cons r .nil)

/-! ### a fresh object -/
theorem Rh.notLive (h : Rh G S) {p : Addr} (e : S.H p = none) : ¬ Live S p := by
  rintro (⟨i, ob, h1, h2, h3⟩ | hc)
  case inr =>
    obtain ⟨⟨o, e'⟩, _⟩ := h.con p hc
    rw [e] at e'
    cases e'
  obtain ⟨xs, e', _⟩ := h.ob i ob p h2 h1
  rw [e] at e'
  cases e'
abbrev Sta.put (S : Sta) (p : Addr) (o : HO) : Sta := { S with H := upd S.H p o }
theorem Stp.put (h : Rh G S) {p : Addr} {o : HO} (e : S.H p = none) : Stp S (S.put p o) where
  len := h.len
  len' := h.len
  w := List.prefix_refl _
  dead := fun _ _ e _ => e
  new := fun i a hi e => by
    have z : i < S.w.length := (List.getElem?_eq_some_iff.mp e).1
    omega
  keep := fun b u q _ _ => by
    show upd S.H p o b = _
    rw [upd_ne (ne_of_none q e)]
    exact q
  trk := fun b u q => ⟨u, by
    show upd S.H p o b = _
    rw [upd_ne (ne_of_none q e)]
    exact q⟩
  con := fun a ha => ⟨ha, by
    show upd S.H p o a = _
    rw [upd_ne]
    rintro rfl
    exact h.notLive e (.inr ha)⟩
  coff := fun a ha => .inl ha
/-- the changing objects are as they were -/
theorem Rh.later (h : Rh G S) (t : Stp S S') (ew : S'.w = S.w) (eh : S'.h = S.h) (ec : S'.c = S.c) (ek : ∀ a, Live S a → S'.H a = S.H a) (et : LamX.Tabs G.tb S'.H) : Rh G S' := by
  refine ⟨by rw [ew, eh]; exact h.len, by rw [ew]; exact h.nd, fun i ob a h1 h2 => ?_, fun a ha => ?_, h.iv' t.ext, et⟩
  case refine_2 =>
    rw [ec] at ha
    obtain ⟨⟨o, e⟩, n⟩ := h.con a ha
    exact ⟨⟨o, (t.con a ha).2.trans e⟩, by rw [ew]; exact n⟩
  rw [eh] at h1
  rw [ew] at h2
  obtain ⟨xs, e, r⟩ := h.ob i ob a h1 h2
  refine ⟨xs, ?_, r.mono t⟩
  by_cases l : Live S a
  · rw [ek a l]
    exact e
  · exact t.keep a _ e l ntL
theorem Rh.put (h : Rh G S) {p : Addr} {o : HO} (e : S.H p = none) : Rh G (S.put p o) := by
  refine h.later (Stp.put h e) rfl rfl rfl (fun a l => ?_) (tab_upd h.tab (.inl e))
  show upd S.H p o a = _
  rw [upd_ne]
  rintro rfl
  exact h.notLive e l
theorem Rv.newT (h : Rh G S) {p : Addr} (e : S.H p = none) {ds : List D} {xs : List V} (r : Rl G S ds xs) : Rv G (S.put p (.tup xs)) (.tup ds) (.ref p) := by
  refine .tup (.inl ⟨?_, upd_same⟩) (r.mono (Stp.put h e))
  rintro (⟨i, ob, h1, h2, h3⟩ | hc)
  · exact h.notLive e (.inl ⟨i, ob, h1, h2, h3⟩)
  · exact h.notLive e (.inr hc)
theorem Rv.newL (h : Rh G S) {p : Addr} (e : S.H p = none) {ds : List D} {xs : List V} (r : Rl G S ds xs) : Rv G (S.put p (.lst xs)) (.lst ds) (.ref p) := by
  refine .lst ⟨?_, upd_same⟩ (r.mono (Stp.put h e))
  rintro (⟨i, ob, h1, h2, h3⟩ | hc)
  · exact h.notLive e (.inl ⟨i, ob, h1, h2, h3⟩)
  · exact h.notLive e (.inr hc)
/-- a new changing list -/
abbrev Sta.add (S : Sta) (p : Addr) (xs : List V) (ds : List D) : Sta := ⟨S.w ++ [p], S.h ++ [⟨true, ds⟩], upd S.H p (.lst xs), S.c⟩
theorem Stp.add (h : Rh G S) {p : Addr} {xs : List V} {ds : List D} (e : S.H p = none) : Stp S (S.add p xs ds) where
  len := h.len
  len' := by
    show (S.w ++ [p]).length = (S.h ++ [(⟨true, ds⟩ : Ob)]).length
    rw [List.length_append, List.length_append, h.len]
    rfl
  w := List.prefix_append _ _
  dead := fun i ob e _ => by
    show (S.h ++ [(⟨true, ds⟩ : Ob)])[i]? = _
    rw [List.getElem?_append_left (List.getElem?_eq_some_iff.mp e).1]
    exact e
  new := fun i a hi e' => by
    have e2 : (S.w ++ [p])[i]? = some a := e'
    rw [List.getElem?_append_right hi] at e2
    have : a = p := by
      cases q : i - S.w.length with
      | zero => rw [q] at e2; simpa using e2.symm
      | succ n => rw [q] at e2; simp at e2
    rw [this]
    exact e
  keep := fun b u q _ _ => by
    show upd S.H p _ b = _
    rw [upd_ne (ne_of_none q e)]
    exact q
  trk := fun b u q => ⟨u, by
    show upd S.H p _ b = _
    rw [upd_ne (ne_of_none q e)]
    exact q⟩
  con := fun a ha => ⟨ha, by
    show upd S.H p _ a = _
    rw [upd_ne]
    rintro rfl
    exact h.notLive e (.inr ha)⟩
  coff := fun a ha => .inl ha
theorem Rh.fresh (h : Rh G S) {p : Addr} (e : S.H p = none) : p ∉ S.w := fun hm => by
  obtain ⟨i, hi⟩ := List.getElem?_of_mem hm
  have hl : i < S.h.length := by rw [← h.len]; exact (List.getElem?_eq_some_iff.mp hi).1
  obtain ⟨xs, e', _⟩ := h.ob i _ p (List.getElem?_eq_getElem hl) hi
  rw [e] at e'
  cases e'
theorem Rh.add (h : Rh G S) {p : Addr} {xs : List V} {ds : List D} (e : S.H p = none) (r : Rl G S ds xs) : Rh G (S.add p xs ds) := by
  have t := Stp.add (xs := xs) (ds := ds) h e
  refine ⟨t.len', ?_, fun i ob a h1 h2 => ?_, fun a ha => ?_, h.iv' t.ext, tab_upd h.tab (.inl e)⟩
  case refine_3 =>
    have ha : a ∈ S.c := ha
    obtain ⟨⟨o, e1⟩, n⟩ := h.con a ha
    refine ⟨⟨o, (t.con a ha).2.trans e1⟩, ?_⟩
    show a ∉ S.w ++ [p]
    rw [List.mem_append]
    rintro (z | z)
    · exact n z
    · rw [List.mem_singleton.mp z, e] at e1
      cases e1
  · show (S.w ++ [p]).Nodup
    rw [List.nodup_append]
    refine ⟨h.nd, by simp, fun a ha b hb => ?_⟩
    have : b = p := by simpa using hb
    rintro rfl
    exact h.fresh e (this ▸ ha)
  · have h1 : (S.h ++ [(⟨true, ds⟩ : Ob)])[i]? = some ob := h1
    have h2 : (S.w ++ [p])[i]? = some a := h2
    by_cases hi : i < S.w.length
    · rw [List.getElem?_append_left hi] at h2
      rw [List.getElem?_append_left (by rw [← h.len]; exact hi)] at h1
      obtain ⟨ys, e1, r1⟩ := h.ob i ob a h1 h2
      refine ⟨ys, ?_, r1.mono t⟩
      show upd S.H p _ a = _
      rw [upd_ne (ne_of_none e1 e)]
      exact e1
    · rw [List.getElem?_append_right (by omega)] at h2
      rw [List.getElem?_append_right (by rw [← h.len]; omega)] at h1
      have hz : i - S.w.length = 0 := by
        cases q : i - S.w.length with
        | zero => rfl
        | succ n => rw [q] at h2; simp at h2
      rw [hz] at h2
      rw [← h.len, hz] at h1
      have ea : p = a := by simpa using h2
      have eo : (⟨true, ds⟩ : Ob) = ob := by simpa using h1
      subst ea eo
      exact ⟨xs, upd_same, r.mono t⟩
/-- a changing list is changed -/
abbrev Sta.set (S : Sta) (i : Nat) (a : Addr) (xs : List V) (ds : List D) : Sta := ⟨S.w, S.h.set i ⟨true, ds⟩, upd S.H a (.lst xs), S.c⟩
theorem Stp.set (h : Rh G S) {i : Nat} {a : Addr} {xs : List V} {ds es : List D} (ea : S.w[i]? = some a) (eo : S.h[i]? = some ⟨true, es⟩) : Stp S (S.set i a xs ds) where
  len := h.len
  len' := by
    show S.w.length = (S.h.set i _).length
    rw [List.length_set]
    exact h.len
  w := List.prefix_refl _
  dead := fun j ob e l => by
    show (S.h.set i _)[j]? = _
    rw [List.getElem?_set_ne]
    · exact e
    · rintro rfl
      rw [eo] at e
      cases e
      cases l
  new := fun j b hj e => by
    have z : j < S.w.length := (List.getElem?_eq_some_iff.mp e).1
    omega
  keep := fun b u q n _ => by
    show upd S.H a _ b = _
    rw [upd_ne]
    · exact q
    · rintro rfl
      exact n (.inl ⟨i, _, ea, eo, rfl⟩)
  trk := fun b u q => by
    show ∃ o', upd S.H a _ b = _
    by_cases hb : b = a
    · subst hb; exact ⟨_, upd_same⟩
    · exact ⟨u, by rw [upd_ne hb]; exact q⟩
  con := fun b hb => ⟨hb, by
    show upd S.H a _ b = _
    rw [upd_ne]
    rintro rfl
    exact (h.con b hb).2 (List.mem_of_getElem? ea)⟩
  coff := fun a ha => .inl ha
theorem nodup_at {α : Type} {l : List α} (h : l.Nodup) {i j : Nat} {a : α} (e1 : l[i]? = some a) (e2 : l[j]? = some a) : i = j := by
  obtain ⟨h1, q1⟩ := List.getElem?_eq_some_iff.mp e1
  obtain ⟨h2, q2⟩ := List.getElem?_eq_some_iff.mp e2
  exact (List.getElem_inj h).mp (q1.trans q2.symm)
theorem Rh.set (h : Rh G S) {i : Nat} {a : Addr} {xs : List V} {ds es : List D} (ea : S.w[i]? = some a) (eo : S.h[i]? = some ⟨true, es⟩) (r : Rl G S ds xs) : Rh G (S.set i a xs ds) := by
  have t := Stp.set (xs := xs) (ds := ds) h ea eo
  have eH : ∃ ys, S.H a = some (.lst ys) := by
    obtain ⟨ys, e1, _⟩ := h.ob i _ a eo ea
    exact ⟨ys, e1⟩
  refine ⟨t.len', h.nd, fun j ob b h1 h2 => ?_, fun b hb => ?_, h.iv' t.ext, tab_upd h.tab (.inr eH)⟩
  case refine_2 =>
    obtain ⟨⟨o, e1⟩, n⟩ := h.con b hb
    exact ⟨⟨o, (t.con b hb).2.trans e1⟩, n⟩
  have h1 : (S.h.set i ⟨true, ds⟩)[j]? = some ob := h1
  have h2 : S.w[j]? = some b := h2
  by_cases hj : j = i
  · subst hj
    rw [h2] at ea
    cases ea
    rw [List.getElem?_set_self (List.getElem?_eq_some_iff.mp eo).1] at h1
    cases h1
    exact ⟨xs, upd_same, r.mono t⟩
  · rw [List.getElem?_set_ne (Ne.symm hj)] at h1
    obtain ⟨ys, e1, r1⟩ := h.ob j ob b h1 h2
    refine ⟨ys, ?_, r1.mono t⟩
    show upd S.H a _ b = _
    rw [upd_ne]
    · exact e1
    · rintro rfl
      exact hj (nodup_at h.nd h2 ea)
/-- a changing list changes no more: it is plain data from now on -/
abbrev Sta.frz (S : Sta) (i : Nat) (ds : List D) : Sta := ⟨S.w, S.h.set i ⟨false, ds⟩, S.H, S.c⟩
theorem Stp.frz (h : Rh G S) {i : Nat} {b : Bool} {ds : List D} (eo : S.h[i]? = some ⟨b, ds⟩) : Stp S (S.frz i ds) where
  len := h.len
  len' := by
    show S.w.length = (S.h.set i _).length
    rw [List.length_set]
    exact h.len
  w := List.prefix_refl _
  dead := fun j ob e l => by
    show (S.h.set i _)[j]? = _
    by_cases hj : j = i
    · subst hj
      rw [List.getElem?_set_self (List.getElem?_eq_some_iff.mp e).1]
      rw [eo] at e
      cases e
      cases l
      rfl
    · rw [List.getElem?_set_ne (Ne.symm hj)]
      exact e
  new := fun j b hj e => by
    have z : j < S.w.length := (List.getElem?_eq_some_iff.mp e).1
    omega
  keep := fun b u q _ _ => q
  trk := fun b u q => ⟨u, q⟩
  con := fun a ha => ⟨ha, rfl⟩
  coff := fun a ha => .inl ha
theorem Rh.frz (h : Rh G S) {i : Nat} {b : Bool} {ds : List D} (eo : S.h[i]? = some ⟨b, ds⟩) : Rh G (S.frz i ds) := by
  have t := Stp.frz h eo
  refine ⟨t.len', h.nd, fun j ob b h1 h2 => ?_, fun b hb => h.con b hb, h.iv' t.ext, h.tab⟩
  have h1 : (S.h.set i ⟨false, ds⟩)[j]? = some ob := h1
  by_cases hj : j = i
  · subst hj
    rw [List.getElem?_set_self (List.getElem?_eq_some_iff.mp eo).1] at h1
    cases h1
    obtain ⟨xs, e, r⟩ := h.ob j _ b eo h2
    exact ⟨xs, e, r.mono t⟩
  · rw [List.getElem?_set_ne (Ne.symm hj)] at h1
    obtain ⟨ys, e1, r1⟩ := h.ob j ob b h1 h2
    exact ⟨ys, e1, r1.mono t⟩
theorem Rv.off (h : Rh G S) {i : Nat} {a : Addr} {ds : List D} (ea : S.w[i]? = some a) (eo : S.h[i]? = some ⟨false, ds⟩) : Rv G S (.lst ds) (.ref a) := by
  obtain ⟨xs, e, r⟩ := h.ob i _ a eo ea
  refine .lst ⟨?_, e⟩ r
  rintro (⟨j, ob, h1, h2, h3⟩ | hc)
  case inr => exact (h.con a hc).2 (List.mem_of_getElem? ea)
  have hj := nodup_at h.nd h1 ea
  subst hj
  rw [eo] at h2
  cases h2
  cases h3
theorem Rv.frz (h : Rh G S) {i : Nat} {a : Addr} {b : Bool} {ds : List D} (ea : S.w[i]? = some a) (eo : S.h[i]? = some ⟨b, ds⟩) : Rv G (S.frz i ds) (.lst ds) (.ref a) :=
  Rv.off (h.frz eo) (i := i) ea (List.getElem?_set_self (List.getElem?_eq_some_iff.mp eo).1)
/-! ### a list that is being made -/
abbrev Sta.mk0 (S : Sta) (p : Addr) (xs : List V) : Sta := ⟨S.w, S.h, upd S.H p (.lst xs), p :: S.c⟩
theorem Stp.mk0 (h : Rh G S) {p : Addr} {xs : List V} (e : S.H p = none) : Stp S (S.mk0 p xs) where
  len := h.len
  len' := h.len
  w := List.prefix_refl _
  dead := fun _ _ e _ => e
  new := fun i a hi e => by
    have z : i < S.w.length := (List.getElem?_eq_some_iff.mp e).1
    omega
  keep := fun b u q _ _ => by
    show upd S.H p _ b = _
    rw [upd_ne (ne_of_none q e)]
    exact q
  trk := fun b u q => ⟨u, by
    show upd S.H p _ b = _
    rw [upd_ne (ne_of_none q e)]
    exact q⟩
  con := fun a ha => ⟨List.mem_cons_of_mem _ ha, by
    show upd S.H p _ a = _
    rw [upd_ne]
    rintro rfl
    exact h.notLive e (.inr ha)⟩
  coff := fun a ha => (List.mem_cons.mp ha).elim (fun z => .inr (z ▸ e)) .inl
theorem Rh.mk0 (h : Rh G S) {p : Addr} {xs : List V} (e : S.H p = none) : Rh G (S.mk0 p xs) := by
  have t := Stp.mk0 (xs := xs) h e
  refine ⟨h.len, h.nd, fun i ob a h1 h2 => ?_, fun a ha => ?_, h.iv' t.ext, tab_upd h.tab (.inl e)⟩
  · obtain ⟨ys, e1, r1⟩ := h.ob i ob a h1 h2
    refine ⟨ys, ?_, r1.mono t⟩
    show upd S.H p _ a = _
    rw [upd_ne (ne_of_none e1 e)]
    exact e1
  · rcases List.mem_cons.mp ha with z | z
    · subst z
      exact ⟨⟨_, upd_same⟩, h.fresh e⟩
    · obtain ⟨⟨o, e1⟩, n⟩ := h.con a z
      exact ⟨⟨o, (t.con a z).2.trans e1⟩, n⟩
/-- one more item -/
abbrev Sta.more (S : Sta) (p : Addr) (xs : List V) : Sta := ⟨S.w, S.h, upd S.H p (.lst xs), S.c⟩
theorem Ext.more {p : Addr} {xs : List V} (hp : p ∈ S.c) : Ext S (S.more p xs) := ⟨List.prefix_refl _, fun a u hu ⟨n, e⟩ => ⟨n, by
  show upd S.H p _ a = _
  rw [upd_ne]
  · exact e
  · rintro rfl
    exact n (.inr hp)⟩⟩
theorem Rh.more (h : Rh G S) {p : Addr} {xs : List V} (hp : p ∈ S.c) (hl : ∃ ys, S.H p = some (.lst ys)) : Rh G (S.more p xs) := by
  refine ⟨h.len, h.nd, fun i ob a h1 h2 => ?_, fun a ha => ?_, h.iv' (Ext.more hp), tab_upd h.tab (.inr hl)⟩
  · obtain ⟨ys, e1, r1⟩ := h.ob i ob a h1 h2
    have ne : a ≠ p := fun z => (h.con p hp).2 (z ▸ List.mem_of_getElem? h2)
    exact ⟨ys, by
      show upd S.H p _ a = _
      rw [upd_ne ne]
      exact e1, r1.ext (Ext.more hp)⟩
  · obtain ⟨⟨o, e1⟩, n⟩ := h.con a ha
    refine ⟨?_, n⟩
    by_cases z : a = p
    · subst z; exact ⟨_, upd_same⟩
    · exact ⟨o, by
        show upd S.H p _ a = _
        rw [upd_ne z]
        exact e1⟩
/-- from before the list was there -/
theorem Stp.more {S0 : Sta} (t : Stp S0 S) {p : Addr} {xs : List V} (e : S0.H p = none) (h0 : Rh G S0) : Stp S0 (S.more p xs) where
  len := t.len
  len' := t.len'
  w := t.w
  dead := t.dead
  new := t.new
  keep := fun b u q n nt => by
    show upd S.H p _ b = _
    rw [upd_ne (ne_of_none q e)]
    exact t.keep b u q n nt
  trk := fun b u q => by
    obtain ⟨o, e1⟩ := t.trk b u q
    exact ⟨o, by
      show upd S.H p _ b = _
      rw [upd_ne (ne_of_none q e)]
      exact e1⟩
  con := fun a ha => by
    obtain ⟨h1, e1⟩ := t.con a ha
    refine ⟨h1, ?_⟩
    show upd S.H p _ a = _
    rw [upd_ne]
    · exact e1
    · rintro rfl
      exact h0.notLive e (.inr ha)
  coff := t.coff
/-- the list is made -/
abbrev Sta.made (S : Sta) (c : List Addr) : Sta := ⟨S.w, S.h, S.H, c⟩
theorem Stp.made {S0 : Sta} (t : Stp S0 S) : Stp S0 (S.made S0.c) where
  len := t.len
  len' := t.len'
  w := t.w
  dead := t.dead
  new := t.new
  keep := t.keep
  trk := t.trk
  con := fun a ha => ⟨ha, (t.con a ha).2⟩
  coff := fun a ha => .inl ha
theorem Ext.made {c : List Addr} (hc : ∀ a ∈ c, a ∈ S.c) : Ext S (S.made c) := ⟨List.prefix_refl _, fun a u hu ⟨n, e⟩ => ⟨fun l => n (l.imp id (hc a)), e⟩⟩
theorem Rh.made (h : Rh G S) {c : List Addr} (hc : ∀ a ∈ c, a ∈ S.c) : Rh G (S.made c) := by
  refine ⟨h.len, h.nd, fun i ob a h1 h2 => ?_, fun a ha => h.con a (hc a ha), h.iv' (Ext.made hc), h.tab⟩
  obtain ⟨ys, e1, r1⟩ := h.ob i ob a h1 h2
  exact ⟨ys, e1, r1.ext (Ext.made hc)⟩
/-! ### reading the data off -/
theorem Rv.tup_inv {ds : List D} {v : V} (r : Rv G S (.tup ds) v) : ∃ a xs, v = .ref a ∧ SqT G.K S.H a xs ∧ Rl G S ds xs := by
  cases r with
  | tup f q =>
    rcases f with f | f
    · exact ⟨_, _, rfl, SqT.of f.2, q⟩
    · exact ⟨_, _, rfl, .inr f, q⟩
theorem Rv.lst_inv {ds : List D} {v : V} (r : Rv G S (.lst ds) v) : ∃ a xs, v = .ref a ∧ S.H a = some (.lst xs) ∧ Rl G S ds xs := by
  cases r with
  | lst f q => exact ⟨_, _, rfl, f.2, q⟩
theorem Rv.scr_inv {ds : List D} {v : V} (r : Rv G S (.scr ds) v) : ∃ a xs, v = .ref a ∧ SqL G.K S.H a xs ∧ Rl G S ds xs := by
  cases r with
  | scr f q =>
    rcases f with ⟨u, e, f⟩ | f
    · rcases e with e | ⟨o, e⟩
      · subst e
        exact ⟨_, _, rfl, SqL.of f.2, q⟩
      · subst e
        exact ⟨_, _, rfl, .inl (.inr ⟨o, f.2⟩), q⟩
    · exact ⟨_, _, rfl, .inr f, q⟩
theorem Rv.obj_inv (h : Rh G S) {i : Nat} {v : V} {b : Bool} {ds : List D} (r : Rv G S (.obj i) v) (e : S.h[i]? = some ⟨b, ds⟩) : ∃ a xs, v = .ref a ∧ S.w[i]? = some a ∧ S.H a = some (.lst xs) ∧ Rl G S ds xs := by
  cases r with
  | obj q =>
    obtain ⟨xs, h1, h2⟩ := h.ob i _ _ e q
    exact ⟨_, xs, rfl, q, h1, h2⟩
/-- a list, of either kind -/
def lstOf (d : D) (h : Hd) : Option (List D) := match d with
  | .lst ds => some ds
  | .obj i => match h[i]? with
    | some ob => some ob.ds
    | none => none
  | _ => none
theorem lstOf_inv (h : Rh G S) {d : D} {v : V} {ds : List D} (r : Rv G S d v) (e : lstOf d S.h = some ds) : ∃ a xs, v = .ref a ∧ S.H a = some (.lst xs) ∧ Rl G S ds xs := by
  cases d with
  | lst es =>
    cases e
    exact r.lst_inv
  | obj i =>
    have e : (match S.h[i]? with
      | some ob => some ob.ds
      | none => none) = some ds := e
    cases q : S.h[i]? with
    | none => rw [q] at e; cases e
    | some ob =>
      rw [q] at e
      cases e
      obtain ⟨a, xs, h1, _, h2, h3⟩ := r.obj_inv h (b := ob.live) (ds := ob.ds) q
      exact ⟨a, xs, h1, h2, h3⟩
  | _ => cases e
/-- a list or a tuple -/
def seqOf (d : D) (h : Hd) : Option (List D) := match d with
  | .tup ds => some ds
  | .scr ds => some ds
  | d => lstOf d h
theorem seqOf_inv (h : Rh G S) {d : D} {v : V} {ds : List D} (r : Rv G S d v) (e : seqOf d S.h = some ds) : ∃ a xs, v = .ref a ∧ (SqL G.K S.H a xs ∨ SqT G.K S.H a xs) ∧ Rl G S ds xs := by
  cases d with
  | tup es =>
    cases e
    obtain ⟨a, xs, h1, h2, h3⟩ := r.tup_inv
    exact ⟨a, xs, h1, .inr h2, h3⟩
  | scr es =>
    cases e
    obtain ⟨a, xs, h1, h2, h3⟩ := r.scr_inv
    exact ⟨a, xs, h1, .inl h2, h3⟩
  | lst es =>
    obtain ⟨a, xs, h1, h2, h3⟩ := lstOf_inv h r e
    exact ⟨a, xs, h1, .inl (SqL.of h2), h3⟩
  | obj i =>
    obtain ⟨a, xs, h1, h2, h3⟩ := lstOf_inv h r e
    exact ⟨a, xs, h1, .inl (SqL.of h2), h3⟩
  | _ => cases e
end

/-! text Ev2.lean -/
/-! Pf 2: what is wanted behind an evaluation; expressions -/
open PySem L2

/-- fields by name -/
inductive Rf (G : Gm) (S : Sta) : List (Str × D) → List (Str × V) → Prop
  | nil : Rf G S [] []
  | cons {f : Str} {d : D} {v : V} {ds : List (Str × D)} {vs : List (Str × V)} : Rv G S d v → Rf G S ds vs → Rf G S ((f, d) :: ds) ((f, v) :: vs)
def Rx (G : Gm) (S : Sta) (e : Ec) (cls : Value) (dx : Option Addr) : Prop :=
  cls = .ref (G.ca e.c) ∧ ((e.fs = [] ∧ dx = none) ∨ ∃ d fs, dx = some d ∧ Fz S d (.xd fs) ∧ Rf G S e.fs fs ∧ e.fs ≠ [])
/-- slots -/
structure Rs' (G : Gm) (S : Sta) (sd : Sl) (σ : L2.St) : Prop where
  len : sd.length = σ.length
  at_ : ∀ (i : Nat) (d : D), sd[i]? = some (some d) → ∃ v, σ[i]? = some (some v) ∧ Rv G S d v
  pin : ∀ p ∈ G.pin, σ[p.1]? = some (some (.ref p.2))
/-- the slot is none of those -/
def Np (G : Gm) (i : Nat) : Prop := ∀ p ∈ G.pin, p.1 ≠ i
section
variable {G : Gm} {W : WX} {σ : L2.St} {S S1 : Sta} {Q Q' : VK} {i : Nat}
theorem Rs'.mono (t : Stp S S1) {sd : Sl} (r : Rs' G S sd σ) : Rs' G S1 sd σ := ⟨r.len, fun i d e => by
  obtain ⟨v, h1, h2⟩ := r.at_ i d e
  exact ⟨v, h1, h2.mono t⟩, r.pin⟩
theorem Np.get (n : Np G i) {x : Option V} (h : ∀ p ∈ G.pin, σ[p.1]? = some (some (.ref p.2))) : ∀ p ∈ G.pin, (σ.set i x)[p.1]? = some (some (.ref p.2)) := fun p hp => by
  rw [List.getElem?_set_ne (Ne.symm (n p hp))]
  exact h p hp
theorem Rs'.set {sd : Sl} (r : Rs' G S sd σ) {i : Nat} {d : D} {v : V} (n : Np G i) (h : Rv G S d v) : Rs' G S (sd.set i (some d)) (σ.set i (some v)) := by
  refine ⟨by simp [r.len], fun j e h' => ?_, n.get r.pin⟩
  by_cases hj : i = j
  · subst hj
    by_cases hl : i < sd.length
    · rw [List.getElem?_set_self hl] at h'
      cases h'
      exact ⟨v, List.getElem?_set_self (by rw [← r.len]; exact hl), h⟩
    · rw [List.getElem?_eq_none (by simpa using hl)] at h'
      cases h'
  · rw [List.getElem?_set_ne hj] at h'
    obtain ⟨v', h1, h2⟩ := r.at_ j e h'
    exact ⟨v', by rw [List.getElem?_set_ne hj]; exact h1, h2⟩
def Cont (G : Gm) (W : WX) (σ : L2.St) (S : Sta) (r : Res D) (Q : VK) : Prop := match r with
  | .ok d h => ∀ (S' : Sta) (v : V), Stp S S' → S'.h = h → Rh G S' → Rv G S' d v → Q v S'.H
  | .exc e h => ∀ (S' : Sta) (cls : Value) (dx : Option Addr), Stp S S' → S'.h = h → Rh G S' → Rx G S' e cls dx → W cls dx σ S'.H
  | .stuck => False
def ContA (G : Gm) (W : WX) (σ : L2.St) (S : Sta) (r : Res (List D)) (Q : List V → Hp → Prop) : Prop := match r with
  | .ok ds h => ∀ (S' : Sta) (vs : List V), Stp S S' → S'.h = h → Rh G S' → Rl G S' ds vs → Q vs S'.H
  | .exc e h => ∀ (S' : Sta) (cls : Value) (dx : Option Addr), Stp S S' → S'.h = h → Rh G S' → Rx G S' e cls dx → W cls dx σ S'.H
  | .stuck => False
theorem Cont.step {r : Res D} (t : Stp S S1) (c : Cont G W σ S r Q) : Cont G W σ S1 r Q := by
  cases r with
  | ok d h => exact fun S' v t' e hh hv => c S' v (t.trans t') e hh hv
  | exc e h => exact fun S' v dx t' e hh hv => c S' v dx (t.trans t') e hh hv
  | stuck => exact c
theorem ContA.step {r : Res (List D)} {Q : List V → Hp → Prop} (t : Stp S S1) (c : ContA G W σ S r Q) : ContA G W σ S1 r Q := by
  cases r with
  | ok d h => exact fun S' v t' e hh hv => c S' v (t.trans t') e hh hv
  | exc e h => exact fun S' v dx t' e hh hv => c S' v dx (t.trans t') e hh hv
  | stuck => exact c
/-- a state there, with a value -/
def Here (G : Gm) (S : Sta) (d : D) (v : V) (H : Hp) (S1 : Sta) : Prop := S1.H = H ∧ Stp S S1 ∧ Rh G S1 ∧ Rv G S1 d v
theorem Cont.bind {r : Res D} {k : D → Hd → Res D} (c : Cont G W σ S (r.bind k) Q) :
    Cont G W σ S r (fun v H => ∃ S1 d, S1.H = H ∧ Stp S S1 ∧ Rh G S1 ∧ Rv G S1 d v ∧ Cont G W σ S1 (k d S1.h) Q) := by
  cases r with
  | ok d h => exact fun S' v t e hh hv => ⟨S', d, rfl, t, hh, hv, by rw [e]; exact Cont.step t c⟩
  | exc e h => exact c
  | stuck => exact c
theorem Cont.bindA {r : Res (List D)} {k : List D → Hd → Res D} (c : Cont G W σ S (r.bind k) Q) :
    ContA G W σ S r (fun vs H => ∃ S1 ds, S1.H = H ∧ Stp S S1 ∧ Rh G S1 ∧ Rl G S1 ds vs ∧ Cont G W σ S1 (k ds S1.h) Q) := by
  cases r with
  | ok d h => exact fun S' v t e hh hv => ⟨S', d, rfl, t, hh, hv, by rw [e]; exact Cont.step t c⟩
  | exc e h => exact c
  | stuck => exact c
theorem ContA.bind1 {r : Res D} {k : D → Hd → Res (List D)} {Q : List V → Hp → Prop} (c : ContA G W σ S (r.bind k) Q) :
    Cont G W σ S r (fun v H => ∃ S1 d, S1.H = H ∧ Stp S S1 ∧ Rh G S1 ∧ Rv G S1 d v ∧ ContA G W σ S1 (k d S1.h) Q) := by
  cases r with
  | ok d h => exact fun S' v t e hh hv => ⟨S', d, rfl, t, hh, hv, by rw [e]; exact ContA.step t c⟩
  | exc e h => exact c
  | stuck => exact c
theorem ContA.bindA {r : Res (List D)} {k : List D → Hd → Res (List D)} {Q : List V → Hp → Prop} (c : ContA G W σ S (r.bind k) Q) :
    ContA G W σ S r (fun vs H => ∃ S1 ds, S1.H = H ∧ Stp S S1 ∧ Rh G S1 ∧ Rl G S1 ds vs ∧ ContA G W σ S1 (k ds S1.h) Q) := by
  cases r with
  | ok d h => exact fun S' v t e hh hv => ⟨S', d, rfl, t, hh, hv, by rw [e]; exact ContA.step t c⟩
  | exc e h => exact c
  | stuck => exact c
theorem Cont.mono {r : Res D} (c : Cont G W σ S r Q) (h : ∀ v H, Q v H → Q' v H) : Cont G W σ S r Q' := by
  cases r with
  | ok d h' => exact fun S' v t e hh hv => h _ _ (c S' v t e hh hv)
  | exc e h' => exact c
  | stuck => exact c
theorem ContA.mono {r : Res (List D)} {Q Q' : List V → Hp → Prop} (c : ContA G W σ S r Q) (h : ∀ v H, Q v H → Q' v H) : ContA G W σ S r Q' := by
  cases r with
  | ok d h' => exact fun S' v t e hh hv => h _ _ (c S' v t e hh hv)
  | exc e h' => exact c
  | stuck => exact c
/-- a value, nothing made -/
theorem Cont.val {d : D} {v : V} {h : Hd} (c : Cont G W σ S (.ok d h) Q) (e : S.h = h) (hh : Rh G S) (r : Rv G S d v) : Q v S.H := c S v (Stp.refl hh) e hh r
/-- a new tuple -/
theorem Cont.newT {ds : List D} {xs : List V} {h : Hd} (c : Cont G W σ S (.ok (.tup ds) h) Q) (e : S.h = h) (hh : Rh G S) (r : Rl G S ds xs) {p : Addr} (hp : S.H p = none) : Q (.ref p) (upd S.H p (.tup xs)) :=
  c (S.put p (.tup xs)) (.ref p) (Stp.put hh hp) e (hh.put hp) (Rv.newT hh hp r)
theorem Cont.newL {ds : List D} {xs : List V} {h : Hd} (c : Cont G W σ S (.ok (.lst ds) h) Q) (e : S.h = h) (hh : Rh G S) (r : Rl G S ds xs) {p : Addr} (hp : S.H p = none) : Q (.ref p) (upd S.H p (.lst xs)) :=
  c (S.put p (.lst xs)) (.ref p) (Stp.put hh hp) e (hh.put hp) (Rv.newL hh hp r)
end

/-- an expression's reading by a function -/
def tE (G : Gm) (W : WX) (f : Fe) : TE := fun σ H Q => ∃ S sd, S.H = H ∧ Rh G S ∧ Rs' G S sd σ ∧ Cont G W σ S (f sd S.h) Q
def tA (G : Gm) (W : WX) (f : Fa) : TA := fun σ H Q => ∃ S sd, S.H = H ∧ Rh G S ∧ Rs' G S sd σ ∧ ContA G W σ S (f sd S.h) Q
theorem PE.imp {X : Cx} {e : Expr} {t t' : TE} (h : PE X e t) (i : ∀ σ H Q, t' σ H Q → t σ H Q) : PE X e t' := ⟨fun pins s σ H Q I q => h.run pins s σ H Q I (i σ H Q q)⟩
theorem PT.imp {X : Cx} {e : Expr} {t t' : TT} (h : PT X e t) (i : ∀ σ H Q, t' σ H Q → t σ H Q) : PT X e t' := ⟨fun pins s σ H Q I q => h.run pins s σ H Q I (i σ H Q q)⟩
theorem PW.imp {X : Cx} {e : Expr} {t t' : TT} (h : PW X e t) (i : ∀ σ H Q, t' σ H Q → t σ H Q) : PW X e t' := ⟨fun wh pins s σ H Q I q => h.run wh pins s σ H Q I (i σ H Q q)⟩
theorem PA.imp {X : Cx} {es : List Expr} {t t' : TA} (h : PA X es t) (i : ∀ σ H Q, t' σ H Q → t σ H Q) : PA X es t' := ⟨fun pos pins s σ H Q I q => h.run pos pins s σ H Q I (i σ H Q q)⟩
abbrev SE (X : Cx) (G : Gm) (W : WX) (e : Expr) (f : Fe) : Prop := PE X e (tE G W f)
abbrev SA (X : Cx) (G : Gm) (W : WX) (es : List Expr) (f : Fa) : Prop := PA X es (tA G W f)
/-- tests: the function gives a truth -/
def tT (G : Gm) (W : WX) (f : Fe) : TT := fun σ H Q => tE G W f σ H fun v H' => ∃ b, v = .bl b ∧ Q b H'
abbrev ST (X : Cx) (G : Gm) (W : WX) (e : Expr) (f : Fe) : Prop := PT X e (tT G W f)

/-! ### functions -/
def fvar (i : Nat) : Fe := fun σ h => match σ[i]? with
  | some (some d) => .ok d h
  | _ => .stuck
def fcon (d : D) : Fe := fun _ h => .ok d h
def fbin (g : D → D → Hd → Res D) (a b : Fe) : Fe := fun σ h => (a σ h).bind fun x h => (b σ h).bind fun y h => g x y h
def fun1 (g : D → Hd → Res D) (a : Fe) : Fe := fun σ h => (a σ h).bind fun x h => g x h
def fnil : Fa := fun _ h => .ok [] h
def fcons (a : Fe) (r : Fa) : Fa := fun σ h => (a σ h).bind fun x h => (r σ h).bind fun xs h => .ok (x :: xs) h
def fargs (g : List D → Hd → Res D) (a : Fa) : Fe := fun σ h => (a σ h).bind fun xs h => g xs h
def small (n : Nat) : Bool := Nat.ble n 16777216
theorem small_ok {n : Nat} (h : small n = true) : n ≤ sizeLine := by rw [sizeLine_eq]; exact Nat.le_of_ble_eq_true h
def gtup (ds : List D) (h : Hd) : Res D := if small ds.length then .ok (.tup ds) h else .stuck
def glst (ds : List D) (h : Hd) : Res D := if small ds.length then .ok (.lst ds) h else .stuck
def ftup (a : Fa) : Fe := fargs gtup a
def flst (a : Fa) : Fe := fargs glst a
def fand (a b : Fe) : Fe := fun σ h => (a σ h).bind fun x h => match x with
  | .bl true => b σ h
  | .bl false => .ok (.bl false) h
  | _ => .stuck
def for_ (a b : Fe) : Fe := fun σ h => (a σ h).bind fun x h => match x with
  | .bl true => .ok (.bl true) h
  | .bl false => b σ h
  | _ => .stuck
def fnot (a : Fe) : Fe := fun σ h => (a σ h).bind fun x h => match x with
  | .bl b => .ok (.bl (!b)) h
  | _ => .stuck
def fif (c a b : Fe) : Fe := fun σ h => (c σ h).bind fun x h => match x with
  | .bl true => a σ h
  | .bl false => b σ h
  | _ => .stuck
/-- of an expression that is a truth -/
def fbool (a : Fe) : Fe := fun σ h => (a σ h).bind fun x h => match x with
  | .bl b => .ok (.bl b) h
  | _ => .stuck

section
variable {X : Cx} {G : Gm} {W : WX} {a b c e : Expr} {es : List Expr} {fa fb fc : Fe} {fr : Fa} {pos : Pos}
theorem tE.mono {f : Fe} {σ : L2.St} {H : Hp} {Q Q' : VK} (h : tE G W f σ H Q) (i : ∀ v H', Q v H' → Q' v H') : tE G W f σ H Q' := by
  obtain ⟨S, sd, e, hh, rs, c⟩ := h
  exact ⟨S, sd, e, hh, rs, c.mono i⟩
theorem tE_bin {g : D → D → Hd → Res D} {σ : L2.St} {H : Hp} {Q : VK} (h : tE G W (fbin g fa fb) σ H Q) :
    tE G W fa σ H fun x H1 => tE G W fb σ H1 fun y H2 => ∃ S dx dy, S.H = H2 ∧ Rh G S ∧ Rv G S dx x ∧ Rv G S dy y ∧ Cont G W σ S (g dx dy S.h) Q := by
  obtain ⟨S, sd, e, hh, rs, c⟩ := h
  refine ⟨S, sd, e, hh, rs, (Cont.bind c).mono fun v H1 ⟨S1, d, e1, t1, hh1, rv1, c1⟩ => ?_⟩
  exact ⟨S1, sd, e1, hh1, rs.mono t1, (Cont.bind c1).mono fun u H2 ⟨S2, d2, e2, t2, hh2, rv2, c2⟩ => ⟨S2, d, d2, e2, hh2, rv1.mono t2, rv2, c2⟩⟩
/-- an operator's reading, by plain data -/
def OpD (G : Gm) (r : R2) (g : D → D → Hd → Res D) : Prop :=
  ∀ (W : WX) (σ : L2.St) (S : Sta) (dx dy : D) (x y : V) (Q : VK), Rh G S → Rv G S dx x → Rv G S dy y → Cont G W σ S (g dx dy S.h) Q → r x y S.H Q
theorem tOp_of {r : R2} {g : D → D → Hd → Res D} (hr : OpD G r g) {σ : L2.St} {H : Hp} {Q : VK} (h : tE G W (fbin g fa fb) σ H Q) : tOp r (tE G W fa) (tE G W fb) σ H Q := by
  refine (tE_bin h).mono fun x H1 h1 => h1.mono fun y H2 ⟨S, dx, dy, e, hh, rx, ry, c⟩ => ?_
  subst e
  exact hr W σ S dx dy x y Q hh rx ry c
theorem se_bin {op : Operator} {r : R2} {g : D → D → Hd → Res D} (ho : OpR X (binaryOp op) r) (hr : OpD G r g) (ha : SE X G W a fa) (hb : SE X G W b fb) : SE X G W (.BinOp a op b pos) (fbin g fa fb) :=
  PE.imp (pe_op ho ha hb) fun σ H Q h => tOp_of hr h
theorem se_cmp {op : CmpOp} {r : R2} {g : D → D → Hd → Res D} (ho : OpR X (compareOp op) r) (hr : OpD G r g) (hm : behindInMarks op b = false) (ha : SE X G W a fa) (hb : SE X G W b fb) : SE X G W (.Compare a [op] [b] pos) (fbin g fa fb) :=
  PE.imp (pe_cmpR ho ha hb hm) fun σ H Q h => tOp_of hr h
theorem st_cmp {op : CmpOp} {r : R2} {g : D → D → Hd → Res D} (ho : OpR X (compareOp op) r) (hr : OpD G r g) (hm : behindInMarks op b = false) (ha : SE X G W a fa) (hb : SE X G W b fb) : ST X G W (.Compare a [op] [b] pos) (fbin g fa fb) :=
  PT.imp (pt_cmpR ho ha hb hm) fun σ H Q h => tOp_of hr h
theorem se_var {i : Nat} {x : Str} (hN : X.N[i]? = some x) (hv : Vis X.env.scope x) (hd : (x == ("__debug__" : Str)) = false) (hcd : (x == ("__classdict__" : Str)) = false) : SE X G W (.Name x pos) (fvar i) := by
  refine PE.imp (pe_var hN hv hd hcd) fun σ H Q h => ?_
  obtain ⟨S, sd, rfl, hh, rs, c⟩ := h
  unfold fvar at c
  split at c
  · rename_i d q
    obtain ⟨v, h1, h2⟩ := rs.at_ i d q
    exact ⟨v, h1, c.val rfl hh h2⟩
  · exact c.elim
theorem se_con {v : V} {d : D} (hd : ∀ S, Rv G S d v) (h : PE X e (tC v)) : SE X G W e (fcon d) := by
  refine PE.imp h fun σ H Q h => ?_
  obtain ⟨S, sd, rfl, hh, rs, c⟩ := h
  exact c.val rfl hh (hd S)
theorem sa_nil : SA X G W [] fnil := by
  refine PA.imp pa_nil fun σ H Q h => ?_
  obtain ⟨S, sd, rfl, hh, rs, c⟩ := h
  exact c S [] (Stp.refl hh) rfl hh .nil
theorem sa_cons (hs : starEach (e :: es) X.env = (false, eval e X.env) :: starEach es X.env) (ha : SE X G W e fa) (hr : SA X G W es fr) : SA X G W (e :: es) (fcons fa fr) := by
  refine PA.imp (pa_cons ha hr hs) fun σ H Q h => ?_
  obtain ⟨S, sd, e, hh, rs, c⟩ := h
  refine ⟨S, sd, e, hh, rs, (ContA.bind1 c).mono fun v H1 ⟨S1, d, e1, t1, hh1, rv1, c1⟩ => ?_⟩
  refine ⟨S1, sd, e1, hh1, rs.mono t1, (ContA.bindA c1).mono fun us H2 ⟨S2, ds, e2, t2, hh2, rv2, c2⟩ => ?_⟩
  subst e2
  exact c2 S2 (v :: us) (Stp.refl hh2) rfl hh2 (.cons (rv1.mono t2) rv2)
theorem tA_args {g : List D → Hd → Res D} {σ : L2.St} {H : Hp} {Q : VK} (h : tE G W (fargs g fr) σ H Q) :
    tA G W fr σ H fun vs H1 => ∃ S ds, S.H = H1 ∧ Rh G S ∧ Rl G S ds vs ∧ Cont G W σ S (g ds S.h) Q := by
  obtain ⟨S, sd, e, hh, rs, c⟩ := h
  exact ⟨S, sd, e, hh, rs, (Cont.bindA c).mono fun vs H1 ⟨S1, ds, e1, t1, hh1, rl, c1⟩ => ⟨S1, ds, e1, hh1, rl, c1⟩⟩
theorem tA.mono {f : Fa} {σ : L2.St} {H : Hp} {Q Q' : List V → Hp → Prop} (h : tA G W f σ H Q) (i : ∀ v H', Q v H' → Q' v H') : tA G W f σ H Q' := by
  obtain ⟨S, sd, e, hh, rs, c⟩ := h
  exact ⟨S, sd, e, hh, rs, c.mono i⟩
theorem se_tup {k : Nat} (hr : SA X G W es fr) : SE X G W (.Tuple es k pos) (ftup fr) := by
  refine PE.imp (pe_tup hr) fun σ H Q h => (tA_args h).mono fun vs H1 ⟨S, ds, e, hh, rl, c⟩ => ?_
  subst e
  unfold gtup at c
  split at c
  · rename_i hz
    exact ⟨by rw [← rl.length]; exact small_ok hz, fun p hp => c.newT rfl hh rl hp⟩
  · exact c.elim
theorem se_lst (hr : SA X G W es fr) : SE X G W (.List es pos) (flst fr) := by
  refine PE.imp (pe_lst hr) fun σ H Q h => (tA_args h).mono fun vs H1 ⟨S, ds, e, hh, rl, c⟩ => ?_
  subst e
  unfold glst at c
  split at c
  · rename_i hz
    exact ⟨by rw [← rl.length]; exact small_ok hz, fun p hp => c.newL rfl hh rl hp⟩
  · exact c.elim

/-! ### truths -/
theorem Rv.bl_inv {S : Sta} {b : Bool} {v : V} (r : Rv G S (.bl b) v) : v = .bl b := by cases r; rfl
theorem Rv.int_inv {S : Sta} {i : Int} {v : V} (r : Rv G S (.int i) v) : v = .int i := by cases r; rfl
theorem Rv.str_inv {S : Sta} {x : Str} {v : V} (r : Rv G S (.str x) v) : v = .str x := by cases r; rfl
theorem Rv.non_inv {S : Sta} {v : V} (r : Rv G S .non v) : v = .non := by cases r; rfl
theorem tE_and {σ : L2.St} {H : Hp} {Q : VK} (h : tE G W (fand fa fb) σ H Q) :
    tE G W fa σ H fun x H1 => ∃ c, x = .bl c ∧ if c = true then tE G W fb σ H1 Q else Q (.bl false) H1 := by
  obtain ⟨S, sd, e, hh, rs, c⟩ := h
  refine ⟨S, sd, e, hh, rs, (Cont.bind c).mono fun v H1 ⟨S1, d, e1, t1, hh1, rv1, c1⟩ => ?_⟩
  subst e1
  cases d with
  | bl b =>
    obtain rfl := rv1.bl_inv
    cases b with
    | true => exact ⟨true, rfl, by rw [if_pos rfl]; exact ⟨S1, sd, rfl, hh1, rs.mono t1, c1⟩⟩
    | false => exact ⟨false, rfl, by rw [if_neg Bool.false_ne_true]; exact c1.val rfl hh1 (.bl false)⟩
  | _ => exact c1.elim
theorem tE_or {σ : L2.St} {H : Hp} {Q : VK} (h : tE G W (for_ fa fb) σ H Q) :
    tE G W fa σ H fun x H1 => ∃ c, x = .bl c ∧ if c = true then Q (.bl true) H1 else tE G W fb σ H1 Q := by
  obtain ⟨S, sd, e, hh, rs, c⟩ := h
  refine ⟨S, sd, e, hh, rs, (Cont.bind c).mono fun v H1 ⟨S1, d, e1, t1, hh1, rv1, c1⟩ => ?_⟩
  subst e1
  cases d with
  | bl b =>
    obtain rfl := rv1.bl_inv
    cases b with
    | true => exact ⟨true, rfl, by rw [if_pos rfl]; exact c1.val rfl hh1 (.bl true)⟩
    | false => exact ⟨false, rfl, by rw [if_neg Bool.false_ne_true]; exact ⟨S1, sd, rfl, hh1, rs.mono t1, c1⟩⟩
  | _ => exact c1.elim
theorem tE_not {σ : L2.St} {H : Hp} {Q : VK} (h : tE G W (fnot fa) σ H Q) : tE G W fa σ H fun x H1 => ∃ c, x = .bl c ∧ Q (.bl (!c)) H1 := by
  obtain ⟨S, sd, e, hh, rs, c⟩ := h
  refine ⟨S, sd, e, hh, rs, (Cont.bind c).mono fun v H1 ⟨S1, d, e1, t1, hh1, rv1, c1⟩ => ?_⟩
  subst e1
  cases d with
  | bl b =>
    obtain rfl := rv1.bl_inv
    exact ⟨b, rfl, c1.val rfl hh1 (.bl _)⟩
  | _ => exact c1.elim
theorem tE_bool {σ : L2.St} {H : Hp} {Q : VK} (h : tE G W (fbool fa) σ H Q) : tE G W fa σ H fun x H1 => ∃ c, x = .bl c ∧ Q (.bl c) H1 := by
  obtain ⟨S, sd, e, hh, rs, c⟩ := h
  refine ⟨S, sd, e, hh, rs, (Cont.bind c).mono fun v H1 ⟨S1, d, e1, t1, hh1, rv1, c1⟩ => ?_⟩
  subst e1
  cases d with
  | bl b =>
    obtain rfl := rv1.bl_inv
    exact ⟨b, rfl, c1.val rfl hh1 (.bl _)⟩
  | _ => exact c1.elim
theorem tE_if {σ : L2.St} {H : Hp} {Q : VK} (h : tE G W (fif fc fa fb) σ H Q) :
    tT G W fc σ H fun c H1 => if c = true then tE G W fa σ H1 Q else tE G W fb σ H1 Q := by
  obtain ⟨S, sd, e, hh, rs, c⟩ := h
  refine ⟨S, sd, e, hh, rs, (Cont.bind c).mono fun v H1 ⟨S1, d, e1, t1, hh1, rv1, c1⟩ => ?_⟩
  subst e1
  cases d with
  | bl b =>
    obtain rfl := rv1.bl_inv
    refine ⟨b, rfl, ?_⟩
    cases b with
    | true => rw [if_pos rfl]; exact ⟨S1, sd, rfl, hh1, rs.mono t1, c1⟩
    | false => rw [if_neg Bool.false_ne_true]; exact ⟨S1, sd, rfl, hh1, rs.mono t1, c1⟩
  | _ => exact c1.elim
theorem se_if (hc : ST X G W c fc) (ha : SE X G W a fa) (hb : SE X G W b fb) : SE X G W (.IfExp c a b pos) (fif fc fa fb) := PE.imp (pe_ifExp hc ha hb) fun σ H Q h => tE_if h
theorem se_one {op : BoolOp} (ha : SE X G W a fa) : SE X G W (.BoolOp op [a] pos) fa := pe_one ha
theorem se_and (ha : SE X G W a fa) (hb : SE X G W (.BoolOp .And (b :: es) pos) fb) : SE X G W (.BoolOp .And (a :: b :: es) pos) (fand fa fb) := PE.imp (pe_and ha hb) fun σ H Q h => tE_and h
theorem se_or (ha : SE X G W a fa) (hb : SE X G W (.BoolOp .Or (b :: es) pos) fb) : SE X G W (.BoolOp .Or (a :: b :: es) pos) (for_ fa fb) := PE.imp (pe_or ha hb) fun σ H Q h => tE_or h
theorem se_not (ha : SE X G W a fa) : SE X G W (.UnaryOp .Not a pos) (fnot fa) := PE.imp (pe_not ha) fun σ H Q h => tE_not h
/-- tests -/
theorem st_val (he : ∀ whole, isTrue e X.env whole = (do let v ← whole; standAt e.pos; holding [v] (truthy v))) (ha : SE X G W e fa) : ST X G W e fa := PT.imp (pt_val ha he) fun σ H Q h => h
abbrev SW (X : Cx) (G : Gm) (W : WX) (e : Expr) (f : Fe) : Prop := PW X e (tT G W f)
theorem sw_and1 (ha : ST X G W a fa) : SW X G W (.BoolOp .And [a] pos) fa := pw_and1 ha
theorem sw_or1 (ha : ST X G W a fa) : SW X G W (.BoolOp .Or [a] pos) fa := pw_or1 ha
theorem tT_and {σ : L2.St} {H : Hp} {Q : Bool → Hp → Prop} (h : tT G W (fand fa fb) σ H Q) : tAnd (tT G W fa) (tT G W fb) σ H Q := by
  refine (tE_and h).mono fun v H1 ⟨c, e, q⟩ => ⟨c, e, ?_⟩
  cases c with
  | true => rw [if_pos rfl] at q ⊢; exact q
  | false =>
    rw [if_neg Bool.false_ne_true] at q ⊢
    obtain ⟨b, e, q⟩ := q
    cases e
    exact q
theorem tT_or {σ : L2.St} {H : Hp} {Q : Bool → Hp → Prop} (h : tT G W (for_ fa fb) σ H Q) : tOr (tT G W fa) (tT G W fb) σ H Q := by
  refine (tE_or h).mono fun v H1 ⟨c, e, q⟩ => ⟨c, e, ?_⟩
  cases c with
  | false => rw [if_neg Bool.false_ne_true] at q ⊢; exact q
  | true =>
    rw [if_pos rfl] at q ⊢
    obtain ⟨b, e, q⟩ := q
    cases e
    exact q
theorem sw_and (ha : ST X G W a fa) (hb : SW X G W (.BoolOp .And (b :: es) pos) fb) : SW X G W (.BoolOp .And (a :: b :: es) pos) (fand fa fb) := PW.imp (pw_and ha hb) fun σ H Q h => tT_and h
theorem sw_or (ha : ST X G W a fa) (hb : SW X G W (.BoolOp .Or (b :: es) pos) fb) : SW X G W (.BoolOp .Or (a :: b :: es) pos) (for_ fa fb) := PW.imp (pw_or ha hb) fun σ H Q h => tT_or h
theorem st_not (ha : ST X G W a fa) : ST X G W (.UnaryOp .Not a pos) (fnot fa) := PT.imp (pt_not ha) fun σ H Q h => by
  refine (tE_not h).mono fun v H1 ⟨c, e, b, e2, q⟩ => ⟨c, e, ?_⟩
  cases e2
  exact q
end

/-! text Ev3.lean -/
/-! Pf 3: equality of plain data -/
open PySem L2

mutual
def deq : D → D → Bool
  | .non, .non => true
  | .bl a, .bl b => a == b
  | .bl a, .int b => (if a then 1 else 0) == b
  | .int a, .bl b => a == (if b then 1 else 0)
  | .int a, .int b => a == b
  | .str a, .str b => a == b
  | .tup a, .tup b => deqL a b
  | .lst a, .lst b => deqL a b
  | _, _ => false
def deqL : List D → List D → Bool
  | [], [] => true
  | x :: xs, y :: ys => deq x y && deqL xs ys
  | _, _ => false
end
mutual
def pur : D → Bool
  | .non => true
  | .bl _ => true
  | .int _ => true
  | .str _ => true
  | .tup a => purL a
  | .lst a => purL a
  | _ => false
def purL : List D → Bool
  | [] => true
  | x :: xs => pur x && purL xs
end
mutual
def dep : D → Nat
  | .tup a => depL a + 1
  | .lst a => depL a + 1
  | _ => 0
def depL : List D → Nat
  | [] => 0
  | x :: xs => max (dep x) (depL xs)
end
mutual
theorem deq_refl : ∀ d : D, pur d = true → deq d d = true
  | .non, _ => rfl
  | .bl b, _ => by simp [deq]
  | .int i, _ => by simp [deq]
  | .str x, _ => by simp [deq]
  | .tup xs, h => by rw [deq]; exact deqL_refl xs h
  | .lst xs, h => by rw [deq]; exact deqL_refl xs h
theorem deqL_refl : ∀ xs : List D, purL xs = true → deqL xs xs = true
  | [], _ => rfl
  | x :: xs, h => by
    have h' : pur x = true ∧ purL xs = true := by simpa [purL] using h
    rw [deqL, deq_refl x h'.1, deqL_refl xs h'.2]
    rfl
end
abbrev prEq (xs ys : List D) (j : Nat) : Bool := deq (xs.getD j .non) (ys.getD j .non)
theorem deqL_eq : ∀ xs ys : List D, ((List.range (min xs.length ys.length)).all (prEq xs ys) && xs.length == ys.length) = deqL xs ys
  | [], [] => rfl
  | [], _ :: _ => by simp [deqL]
  | _ :: _, [] => by simp [deqL]
  | x :: xs, y :: ys => by
    have ih := deqL_eq xs ys
    have h1 : min (x :: xs).length (y :: ys).length = min xs.length ys.length + 1 := by
      rw [List.length_cons, List.length_cons]
      omega
    have h2 : ((x :: xs).length == (y :: ys).length) = (xs.length == ys.length) := by simp
    rw [h1, h2, deqL, ← ih, List.range_succ_eq_map, List.all_cons, List.all_map, Bool.and_assoc]
    rfl
/-! data as it is read -/
mutual
inductive Pd (K : PySem.W.Frag) (H : Hp) : D → V → Prop
  | non : Pd K H .non .non
  | bl (b : Bool) : Pd K H (.bl b) (.bl b)
  | int (i : Int) : Pd K H (.int i) (.int i)
  | str (x : Str) : Pd K H (.str x) (.str x)
  | tup {a : Addr} {xs : List V} {ds : List D} : SqT K H a xs → Pl K H ds xs → Pd K H (.tup ds) (.ref a)
  | lst {a : Addr} {xs : List V} {ds : List D} : SqL K H a xs → Pl K H ds xs → Pd K H (.lst ds) (.ref a)
inductive Pl (K : PySem.W.Frag) (H : Hp) : List D → List V → Prop
  | nil : Pl K H [] []
  | cons {d : D} {ds : List D} {v : V} {vs : List V} : Pd K H d v → Pl K H ds vs → Pl K H (d :: ds) (v :: vs)
end
section
variable {G : Gm} {S : Sta}
mutual
theorem Rv.pd : ∀ {d : D} {v : V}, pur d = true → Rv G S d v → Pd G.K S.H d v
  | .non, _, _, r => by cases r; exact .non
  | .bl b, _, _, r => by cases r; exact .bl b
  | .int i, _, _, r => by cases r; exact .int i
  | .str x, _, _, r => by cases r; exact .str x
  | .tup ds, v, h, r => by
    cases r with
    | tup f q =>
      refine .tup ?_ (Rl.pl h q)
      rcases f with f | f
      · exact SqT.of f.2
      · exact .inr f
  | .lst ds, v, h, r => by
    cases r with
    | lst f q => exact .lst (SqL.of f.2) (Rl.pl h q)
theorem Rl.pl : ∀ {ds : List D} {vs : List V}, purL ds = true → Rl G S ds vs → Pl G.K S.H ds vs
  | [], _, _, r => by cases r; exact .nil
  | d :: ds, _, h, r => by
    have h' : pur d = true ∧ purL ds = true := by simpa [purL] using h
    cases r with
    | cons r q => exact .cons (Rv.pd h'.1 r) (Rl.pl h'.2 q)
end
theorem Pl.length {K : PySem.W.Frag} {H : Hp} : ∀ {ds : List D} {vs : List V}, Pl K H ds vs → ds.length = vs.length
  | _, _, .nil => rfl
  | _, _, .cons _ q => by simp [Pl.length q]
end
section
variable {X : Cx} {pins : List (Addr × Obj)} {σ : L2.St} {H : Hp} {s : Shared}
mutual
theorem Pd.unique (I : Inv X pins σ H s) : ∀ {d e : D} {v : V}, Pd X.K H d v → Pd X.K H e v → d = e
  | .non, _, _, h, h' => by cases h; cases h'; rfl
  | .bl b, _, _, h, h' => by cases h; cases h'; rfl
  | .int i, _, _, h, h' => by cases h; cases h'; rfl
  | .str x, _, _, h, h' => by cases h; cases h'; rfl
  | .tup ds, e, _, h, h' => by
    cases h with
    | tup f q =>
      cases h' with
      | tup f' q' =>
        have := I.tuple_inj f f'
        subst this
        rw [Pl.unique I q q']
      | lst f' q' =>
        obtain ⟨_, _, ⟨o, e1, c1, _⟩, _⟩ := I.tuple f
        obtain ⟨_, _, ⟨o', _, e2, c2, _⟩, _⟩ := I.list f'
        rw [e1] at e2
        cases e2
        rw [c1] at c2
        exact absurd c2 (by decide)
  | .lst ds, e, _, h, h' => by
    cases h with
    | lst f q =>
      cases h' with
      | lst f' q' =>
        have := I.list_inj f f'
        subst this
        rw [Pl.unique I q q']
      | tup f' q' =>
        obtain ⟨_, _, ⟨o, e1, c1, _⟩, _⟩ := I.tuple f'
        obtain ⟨_, _, ⟨o', _, e2, c2, _⟩, _⟩ := I.list f
        rw [e1] at e2
        cases e2
        rw [c1] at c2
        exact absurd c2 (by decide)
theorem Pl.unique (I : Inv X pins σ H s) : ∀ {ds es : List D} {vs : List V}, Pl X.K H ds vs → Pl X.K H es vs → ds = es
  | [], _, _, h, h' => by cases h; cases h'; rfl
  | d :: ds, _, _, h, h' => by
    cases h with
    | cons r q =>
      cases h' with
      | cons r' q' => rw [Pd.unique I r r', Pl.unique I q q']
end
theorem isL {a : Addr} {xs : List V} (I : Inv X pins σ H s) (h : SqL X.K H a xs) : ∃ its : List Value, Vals xs its ∧ s.heap.IsList a its.toArray := by
  obtain ⟨its, r, p, _⟩ := I.list h
  exact ⟨its, r, p.isList⟩
theorem isT {a : Addr} {xs : List V} (I : Inv X pins σ H s) (h : SqT X.K H a xs) : ∃ its : List Value, Vals xs its ∧ s.heap.IsTuple a its.toArray := by
  obtain ⟨its, r, p, _⟩ := I.tuple h
  exact ⟨its, r, p⟩
theorem Pl.at_ {K : PySem.W.Frag} : ∀ {ds : List D} {vs : List V} {us : List Value} (j : Nat) (h : j < us.length), Pl K H ds vs → Vals vs us → ∃ v, Pd K H (ds.getD j .non) v ∧ RelV v us[j]
  | _, _, _, _, h, .nil, .nil => absurd h (by simp)
  | _, _, _, 0, _, .cons r _, .cons q _ => ⟨_, r, q⟩
  | _, _, _, j + 1, h, .cons _ r, .cons _ q => by
    obtain ⟨v, h1, h2⟩ := Pl.at_ j (by simpa using h) r q
    exact ⟨v, h1, h2⟩
theorem dep_at : ∀ (ds : List D) (j : Nat), dep (ds.getD j .non) ≤ depL ds
  | [], j => by simp [dep]
  | d :: ds, 0 => by
    show dep d ≤ max (dep d) (depL ds)
    omega
  | d :: ds, j + 1 => by
    have := dep_at ds j
    show dep (ds.getD j .non) ≤ max (dep d) (depL ds)
    omega
theorem pur_at : ∀ (ds : List D) (j : Nat), purL ds = true → pur (ds.getD j .non) = true
  | [], j, _ => by simp [pur]
  | d :: ds, 0, h => by
    have h' : pur d = true ∧ purL ds = true := by simpa [purL] using h
    exact h'.1
  | d :: ds, j + 1, h => by
    have h' : pur d = true ∧ purL ds = true := by simpa [purL] using h
    exact pur_at ds j h'.2
open PySem.SeqAt
/-- == within a list, a tuple -/
theorem eqAt_D (I : Inv X pins σ H s) : ∀ (n : Nat) (d e : D) (v u : V) (x y : Value) (A : Around), min (dep d) (dep e) ≤ n → A.units + n < cLine → pur d = true → Pd X.K H d v → Pd X.K H e u → RelV v x → RelV u y →
    EqAt A s x y (deq d e) ∧ (RcAt A s x y (deq d e) ∧ RcNeAt A s x y (!deq d e)) := by
  intro n
  induction n with
  | zero =>
    intro d e v u x y A hd hu hp h1 h2 r1 r2
    have hc : A.units < cLine := by omega
    cases h1 with
    | non =>
      cases r1
      cases h2 with
      | non => cases r2; exact ⟨EqAt.same _, RcAt.none_none, RcNeAt.none_none⟩
      | bl b => cases r2; exact ⟨EqAt.none_bool _, RcAt.none_bool _, RcNeAt.none_bool _⟩
      | int b => obtain ⟨t, rfl⟩ := r2; exact ⟨EqAt.none_int _ _, RcAt.none_int _ _, RcNeAt.none_int _ _⟩
      | str b => obtain ⟨t, rfl⟩ := r2; exact ⟨EqAt.none_str _ _, RcAt.none_str _ _, RcNeAt.none_str _ _⟩
      | tup f q => cases r2; obtain ⟨_, _, k⟩ := isT I f; exact ⟨EqAt.none_tuple k hc, RcAt.none_tuple k hc, RcNeAt.none_tuple k hc⟩
      | lst f q => cases r2; obtain ⟨_, _, k⟩ := isL I f; exact ⟨EqAt.none_list k hc, RcAt.none_list k hc, RcNeAt.none_list k hc⟩
    | bl a =>
      cases r1
      cases h2 with
      | non => cases r2; exact ⟨EqAt.bool_none _, RcAt.bool_none _, RcNeAt.bool_none _⟩
      | bl b => cases r2; exact ⟨EqAt.bool_bool _ _, RcAt.bool_bool _ _, RcNeAt.bool_bool _ _⟩
      | int b => obtain ⟨t, rfl⟩ := r2; exact ⟨EqAt.bool_int _ _ _, RcAt.bool_int _ _ _, RcNeAt.bool_int _ _ _⟩
      | str b => obtain ⟨t, rfl⟩ := r2; exact ⟨EqAt.bool_str _ _ _, RcAt.bool_str _ _ _, RcNeAt.bool_str _ _ _⟩
      | tup f q => cases r2; obtain ⟨_, _, k⟩ := isT I f; exact ⟨EqAt.bool_tuple _ k hc, RcAt.bool_tuple _ k hc, RcNeAt.bool_tuple _ k hc⟩
      | lst f q => cases r2; obtain ⟨_, _, k⟩ := isL I f; exact ⟨EqAt.bool_list _ k hc, RcAt.bool_list _ k hc, RcNeAt.bool_list _ k hc⟩
    | int a =>
      obtain ⟨t, rfl⟩ := r1
      cases h2 with
      | non => cases r2; exact ⟨EqAt.int_none _ _, RcAt.int_none _ _, RcNeAt.int_none _ _⟩
      | bl b => cases r2; exact ⟨EqAt.int_bool _ _ _, RcAt.int_bool _ _ _, RcNeAt.int_bool _ _ _⟩
      | int b => obtain ⟨t, rfl⟩ := r2; exact ⟨EqAt.int_int _ _ _ _, RcAt.int_int _ _ _ _, RcNeAt.int_int _ _ _ _⟩
      | str b => obtain ⟨t, rfl⟩ := r2; exact ⟨EqAt.int_str _ _ _ _, RcAt.int_str _ _ _ _, RcNeAt.int_str _ _ _ _⟩
      | tup f q => cases r2; obtain ⟨_, _, k⟩ := isT I f; exact ⟨EqAt.int_tuple _ _ k hc, RcAt.int_tuple _ _ k hc, RcNeAt.int_tuple _ _ k hc⟩
      | lst f q => cases r2; obtain ⟨_, _, k⟩ := isL I f; exact ⟨EqAt.int_list _ _ k hc, RcAt.int_list _ _ k hc, RcNeAt.int_list _ _ k hc⟩
    | str a =>
      obtain ⟨t, rfl⟩ := r1
      cases h2 with
      | non => cases r2; exact ⟨EqAt.str_none _ _, RcAt.str_none _ _, RcNeAt.str_none _ _⟩
      | bl b => cases r2; exact ⟨EqAt.str_bool _ _ _, RcAt.str_bool _ _ _, RcNeAt.str_bool _ _ _⟩
      | int b => obtain ⟨t, rfl⟩ := r2; exact ⟨EqAt.str_int _ _ _ _, RcAt.str_int _ _ _ _, RcNeAt.str_int _ _ _ _⟩
      | str b => obtain ⟨t, rfl⟩ := r2; exact ⟨EqAt.str_str _ _ _ _, RcAt.str_str _ _ _ _, RcNeAt.str_str _ _ _ _⟩
      | tup f q => cases r2; obtain ⟨_, _, k⟩ := isT I f; exact ⟨EqAt.str_tuple _ _ k hc, RcAt.str_tuple _ _ k hc, RcNeAt.str_tuple _ _ k hc⟩
      | lst f q => cases r2; obtain ⟨_, _, k⟩ := isL I f; exact ⟨EqAt.str_list _ _ k hc, RcAt.str_list _ _ k hc, RcNeAt.str_list _ _ k hc⟩
    | tup f1 q1 =>
      cases r1
      obtain ⟨_, _, k1⟩ := isT I f1
      cases h2 with
      | non => cases r2; exact ⟨EqAt.tuple_none k1 hc, RcAt.tuple_none k1 hc, RcNeAt.tuple_none k1 hc⟩
      | bl b => cases r2; exact ⟨EqAt.tuple_bool _ k1 hc, RcAt.tuple_bool _ k1 hc, RcNeAt.tuple_bool _ k1 hc⟩
      | int b => obtain ⟨t, rfl⟩ := r2; exact ⟨EqAt.tuple_int _ _ k1 hc, RcAt.tuple_int _ _ k1 hc, RcNeAt.tuple_int _ _ k1 hc⟩
      | str b => obtain ⟨t, rfl⟩ := r2; exact ⟨EqAt.tuple_str _ _ k1 hc, RcAt.tuple_str _ _ k1 hc, RcNeAt.tuple_str _ _ k1 hc⟩
      | tup f q => exact absurd hd (by simp only [dep]; omega)
      | lst f q => exact absurd hd (by simp only [dep]; omega)
    | lst f1 q1 =>
      cases r1
      obtain ⟨_, _, k1⟩ := isL I f1
      cases h2 with
      | non => cases r2; exact ⟨EqAt.list_none k1 hc, RcAt.list_none k1 hc, RcNeAt.list_none k1 hc⟩
      | bl b => cases r2; exact ⟨EqAt.list_bool _ k1 hc, RcAt.list_bool _ k1 hc, RcNeAt.list_bool _ k1 hc⟩
      | int b => obtain ⟨t, rfl⟩ := r2; exact ⟨EqAt.list_int _ _ k1 hc, RcAt.list_int _ _ k1 hc, RcNeAt.list_int _ _ k1 hc⟩
      | str b => obtain ⟨t, rfl⟩ := r2; exact ⟨EqAt.list_str _ _ k1 hc, RcAt.list_str _ _ k1 hc, RcNeAt.list_str _ _ k1 hc⟩
      | tup f q => exact absurd hd (by simp only [dep]; omega)
      | lst f q => exact absurd hd (by simp only [dep]; omega)
  | succ n ih =>
    intro d e v u x y A hd hu hp h1 h2 r1 r2
    by_cases hz : min (dep d) (dep e) ≤ n
    · exact ih d e v u x y A hz (by omega) hp h1 h2 r1 r2
    · have hc : A.units < cLine := by omega
      have hin : A.in1.units + n < cLine := by
        show A.units + 1 + n < cLine
        omega
      cases h1 with
      | non => exact absurd hz (by simp [dep])
      | bl _ => exact absurd hz (by simp [dep])
      | int _ => exact absurd hz (by simp [dep])
      | str _ => exact absurd hz (by simp [dep])
      | @tup a xs ds f1 q1 =>
        cases r1
        obtain ⟨its, w1, k1⟩ := isT I f1
        cases h2 with
        | non => exact absurd hz (by simp [dep])
        | bl _ => exact absurd hz (by simp [dep])
        | int _ => exact absurd hz (by simp [dep])
        | str _ => exact absurd hz (by simp [dep])
        | lst f q =>
          cases r2
          obtain ⟨_, _, k2⟩ := isL I f
          exact ⟨EqAt.tuple_list k1 k2 hc, RcAt.tuple_list k1 k2 hc, RcNeAt.tuple_list k1 k2 hc⟩
        | @tup b ys es f2 q2 =>
          cases r2
          obtain ⟨its2, w2, k2⟩ := isT I f2
          have l1 : ds.length = its.length := q1.length.trans w1.length
          have l2 : es.length = its2.length := q2.length.trans w2.length
          have item : ∀ j (h1 : j < its.toArray.size) (h2 : j < its2.toArray.size), EqAt A.in1 s its.toArray[j] its2.toArray[j] (prEq ds es j) := fun j h1 h2 => by
            have h1' : j < its.length := by simpa using h1
            have h2' : j < its2.length := by simpa using h2
            obtain ⟨v1, p1, z1⟩ := Pl.at_ j h1' q1 w1
            obtain ⟨v2, p2, z2⟩ := Pl.at_ j h2' q2 w2
            have hm : min (dep (ds.getD j .non)) (dep (es.getD j .non)) ≤ n := by
              have e1 := dep_at ds j
              have e2 := dep_at es j
              simp only [dep] at hd
              omega
            exact (ih _ _ v1 v2 _ _ A.in1 hm hin (pur_at ds j hp) p1 p2 (by simpa using z1) (by simpa using z2)).1
          have ev : ((List.range (min its.toArray.size its2.toArray.size)).all (prEq ds es) && its.toArray.size == its2.toArray.size) = deq (.tup ds) (.tup es) := by
            rw [deq, ← deqL_eq, List.size_toArray, List.size_toArray, l1, l2]
          have rc : RcAt A s (.ref a) (.ref b) (deq (.tup ds) (.tup es)) := by
            rw [← ev]
            exact RcAt.tuples k1 k2 hc item
          refine ⟨?_, rc, ?_⟩
          · by_cases hab : a = b
            · subst hab
              have e1 : D.tup ds = D.tup es := Pd.unique I (.tup f1 q1) (.tup f2 q2)
              rw [← e1, deq_refl _ hp]
              exact EqAt.same _
            · exact EqAt.of_refs hab rc
          · rw [← ev]
            exact RcNeAt.tuples k1 k2 hc item
      | @lst a xs ds f1 q1 =>
        cases r1
        obtain ⟨its, w1, k1⟩ := isL I f1
        cases h2 with
        | non => exact absurd hz (by simp [dep])
        | bl _ => exact absurd hz (by simp [dep])
        | int _ => exact absurd hz (by simp [dep])
        | str _ => exact absurd hz (by simp [dep])
        | tup f q =>
          cases r2
          obtain ⟨_, _, k2⟩ := isT I f
          exact ⟨EqAt.list_tuple k1 k2 hc, RcAt.list_tuple k1 k2 hc, RcNeAt.list_tuple k1 k2 hc⟩
        | @lst b ys es f2 q2 =>
          cases r2
          obtain ⟨its2, w2, k2⟩ := isL I f2
          have l1 : ds.length = its.length := q1.length.trans w1.length
          have l2 : es.length = its2.length := q2.length.trans w2.length
          have item : ∀ j (h1 : j < its.toArray.size) (h2 : j < its2.toArray.size), EqAt A.in1 s its.toArray[j] its2.toArray[j] (prEq ds es j) := fun j h1 h2 => by
            have h1' : j < its.length := by simpa using h1
            have h2' : j < its2.length := by simpa using h2
            obtain ⟨v1, p1, z1⟩ := Pl.at_ j h1' q1 w1
            obtain ⟨v2, p2, z2⟩ := Pl.at_ j h2' q2 w2
            have hm : min (dep (ds.getD j .non)) (dep (es.getD j .non)) ≤ n := by
              have e1 := dep_at ds j
              have e2 := dep_at es j
              simp only [dep] at hd
              omega
            exact (ih _ _ v1 v2 _ _ A.in1 hm hin (pur_at ds j hp) p1 p2 (by simpa using z1) (by simpa using z2)).1
          have both : RcAt A s (.ref a) (.ref b) (deq (.lst ds) (.lst es)) ∧ RcNeAt A s (.ref a) (.ref b) (!deq (.lst ds) (.lst es)) := by
            rw [deq, ← deqL_eq, l1, l2]
            by_cases hs : its.length = its2.length
            · have e1 : (its.length == its2.length) = true := by simp [hs]
              rw [e1, Bool.and_true, ← hs, Nat.min_self]
              have hs' : its.toArray.size = its2.toArray.size := by simpa using hs
              have z1 := RcAt.lists (e := prEq ds es) k1 k2 hs' hc item
              have z2 := RcNeAt.lists (e := prEq ds es) k1 k2 hs' hc item
              rw [List.size_toArray] at z1 z2
              exact ⟨z1, z2⟩
            · have e1 : (its.length == its2.length) = false := by simp [hs]
              rw [e1, Bool.and_false]
              have hs' : (its.toArray.size != its2.toArray.size) = true := by simp [hs]
              exact ⟨RcAt.lists_lengths k1 k2 hs' hc, RcNeAt.lists_lengths k1 k2 hs' hc⟩
          refine ⟨?_, both⟩
          by_cases hab : a = b
          · subst hab
            have e1 : D.lst ds = D.lst es := Pd.unique I (.lst f1 q1) (.lst f2 q2)
            rw [← e1, deq_refl _ hp]
            exact EqAt.same _
          · exact EqAt.of_refs hab both.1
end
/-! ### == and != -/
def pln (d : D) (h : Hd) : D := match d with
  | .obj i => match h[i]? with
    | some ob => .lst ob.ds
    | none => d
  | .scr ds => .lst ds
  | d => d
def cmpOk (x y : D) : Bool := pur x && (pur y && Nat.ble (min (dep x) (dep y)) 60)
def geq (x y : D) (h : Hd) : Res D := let x := pln x h; let y := pln y h; if cmpOk x y then .ok (.bl (deq x y)) h else .stuck
def gne (x y : D) (h : Hd) : Res D := let x := pln x h; let y := pln y h; if cmpOk x y then .ok (.bl (!deq x y)) h else .stuck
theorem pln_pd {G : Gm} {S : Sta} (h : Rh G S) {d : D} {v : V} (r : Rv G S d v) (p : pur (pln d S.h) = true) : Pd G.K S.H (pln d S.h) v := by
  cases d with
  | obj i =>
    have e : pln (.obj i) S.h = match S.h[i]? with
      | some ob => .lst ob.ds
      | none => .obj i := rfl
    cases q : S.h[i]? with
    | none => rw [e, q] at p; cases p
    | some ob =>
      rw [q] at e
      obtain ⟨a, xs, rfl, _, h2, h3⟩ := r.obj_inv h (b := ob.live) (ds := ob.ds) q
      rw [e] at p ⊢
      exact .lst (SqL.of h2) (Rl.pl p h3)
  | scr ds =>
    obtain ⟨a, xs, rfl, h2, h3⟩ := r.scr_inv
    exact .lst h2 (Rl.pl p h3)
  | _ => exact Rv.pd p r
def rEqQ (K : PySem.W.Frag) : R2 := fun x y H Q => ∃ d e, Pd K H d x ∧ Pd K H e y ∧ cmpOk d e = true ∧ Q (.bl (deq d e)) H
def rNeQ (K : PySem.W.Frag) : R2 := fun x y H Q => ∃ d e, Pd K H d x ∧ Pd K H e y ∧ cmpOk d e = true ∧ Q (.bl (!deq d e)) H
theorem cmpOk_inv {x y : D} (h : cmpOk x y = true) : pur x = true ∧ pur y = true ∧ min (dep x) (dep y) ≤ 60 := by
  unfold cmpOk at h
  simp only [Bool.and_eq_true] at h
  exact ⟨h.1, h.2.1, Nat.le_of_ble_eq_true h.2.2⟩
theorem op_eqQ {X : Cx} (hu : X.A.units + 60 < cLine) : OpR X (compareOp .Eq) (rEqQ X.K) := by
  intro pins s σ H x y v u Q I rx ry h
  obtain ⟨d, e, h1, h2, h3, q⟩ := h
  obtain ⟨p1, _, p3⟩ := cmpOk_inv h3
  exact (eqAt_D I 60 d e x y v u X.A p3 hu p1 h1 h2 rx ry).2.1 _ _ _ _ ⟨.bl _, H, I, rfl, q⟩
theorem op_neQ {X : Cx} (hu : X.A.units + 60 < cLine) : OpR X (compareOp .NotEq) (rNeQ X.K) := by
  intro pins s σ H x y v u Q I rx ry h
  obtain ⟨d, e, h1, h2, h3, q⟩ := h
  obtain ⟨p1, _, p3⟩ := cmpOk_inv h3
  exact (eqAt_D I 60 d e x y v u X.A p3 hu p1 h1 h2 rx ry).2.2 _ _ _ _ ⟨.bl _, H, I, rfl, q⟩
theorem eqQ_of {G : Gm} : OpD G (rEqQ G.K) geq := fun W σ S dx dy x y Q hh rx ry c => by
  unfold geq at c
  dsimp only at c
  split at c
  · rename_i h
    obtain ⟨p1, p2, _⟩ := cmpOk_inv h
    exact ⟨_, _, pln_pd hh rx p1, pln_pd hh ry p2, h, c.val rfl hh (.bl _)⟩
  · exact c.elim
theorem neQ_of {G : Gm} : OpD G (rNeQ G.K) gne := fun W σ S dx dy x y Q hh rx ry c => by
  unfold gne at c
  dsimp only at c
  split at c
  · rename_i h
    obtain ⟨p1, p2, _⟩ := cmpOk_inv h
    exact ⟨_, _, pln_pd hh rx p1, pln_pd hh ry p2, h, c.val rfl hh (.bl _)⟩
  · exact c.elim

/-! text Ev4.lean -/
/-! Pf 4: operators -/
open PySem L2

section
variable {G : Gm}
/-! ### ints -/
def gint (f : Int → Int → Int) (x y : D) (h : Hd) : Res D := match x, y with
  | .int i, .int j => .ok (.int (f i j)) h
  | _, _ => .stuck
def gintC (c : Int → Int → Bool) (f : Int → Int → Int) (x y : D) (h : Hd) : Res D := match x, y with
  | .int i, .int j => if c i j then .ok (.int (f i j)) h else .stuck
  | _, _ => .stuck
def gcmp (f : Int → Int → Bool) (x y : D) (h : Hd) : Res D := match x, y with
  | .int i, .int j => .ok (.bl (f i j)) h
  | _, _ => .stuck
theorem gint_of {f : Int → Int → Int} : OpD G (rI0 fun i j => .int (f i j)) (gint f) := fun W σ S dx dy x y Q hh rx ry c => by
  cases dx with
  | int i =>
    cases dy with
    | int j => exact ⟨i, j, rx.int_inv, ry.int_inv, c.val rfl hh (.int _)⟩
    | _ => exact c.elim
  | _ => exact c.elim
theorem gcmp_of {f : Int → Int → Bool} : OpD G (rI0 fun i j => .bl (f i j)) (gcmp f) := fun W σ S dx dy x y Q hh rx ry c => by
  cases dx with
  | int i =>
    cases dy with
    | int j => exact ⟨i, j, rx.int_inv, ry.int_inv, c.val rfl hh (.bl _)⟩
    | _ => exact c.elim
  | _ => exact c.elim
theorem gintC_of {C : Int → Int → Prop} {c : Int → Int → Bool} {f : Int → Int → Int} (hc : ∀ i j, c i j = true → C i j) : OpD G (rI C fun i j => .int (f i j)) (gintC c f) := fun W σ S dx dy x y Q hh rx ry c' => by
  cases dx with
  | int i =>
    cases dy with
    | int j =>
      have c' : Cont G W σ S (if c i j then .ok (.int (f i j)) S.h else .stuck) Q := c'
      split at c'
      · rename_i h
        exact ⟨i, j, rx.int_inv, ry.int_inv, hc i j h, c'.val rfl hh (.int _)⟩
      · exact c'.elim
    | _ => exact c'.elim
  | _ => exact c'.elim
theorem OpD.or {r r' : R2} {g g' gg : D → D → Hd → Res D} (h : OpD G r g) (h' : OpD G r' g') (e : ∀ x y h, gg x y h = g x y h ∨ gg x y h = g' x y h) : OpD G (fun x y H Q => r x y H Q ∨ r' x y H Q) gg := fun W σ S dx dy x y Q hh rx ry c => by
  rcases e dx dy S.h with z | z
  · rw [z] at c
    exact .inl (h W σ S dx dy x y Q hh rx ry c)
  · rw [z] at c
    exact .inr (h' W σ S dx dy x y Q hh rx ry c)
/-- products: one factor small, or both not great -/
def mulOk (i j : Int) : Bool := (Nat.blt i.natAbs 18446744073709551616 || Nat.blt j.natAbs 18446744073709551616) || (Nat.blt i.natAbs (2 ^ 4000) && Nat.blt j.natAbs (2 ^ 4000))
def CMulX (i j : Int) : Prop := CMul i j ∨ CMulW i j
theorem mulOk_of (i j : Int) (h : mulOk i j = true) : CMulX i j := by
  unfold mulOk at h
  simp only [Bool.or_eq_true, Bool.and_eq_true] at h
  rcases h with (h | h) | ⟨h1, h2⟩
  · have := Nat.le_of_ble_eq_true h
    refine .inl (.inl ⟨?_, ?_⟩) <;> omega
  · have := Nat.le_of_ble_eq_true h
    refine .inl (.inr ⟨?_, ?_⟩) <;> omega
  · exact .inr (wide_mul (a := 4000) (b := 4000) (Nat.lt_of_succ_le (Nat.le_of_ble_eq_true h1)) (Nat.lt_of_succ_le (Nat.le_of_ble_eq_true h2)) (by decide) (by decide) (by decide))
theorem op_mulX {X : Cx} : OpR X (binaryOp .Mult) (rI CMulX fun i j => .int (i * j)) := by
  intro pins s σ H x y v u Q I rx ry h
  obtain ⟨i, j, e1, e2, c | c, q⟩ := h
  · exact op_mul pins s σ H x y v u Q I rx ry ⟨i, j, e1, e2, c, q⟩
  · exact op_mulW pins s σ H x y v u Q I rx ry ⟨i, j, e1, e2, c, q⟩
def divOk (_ j : Int) : Bool := decide (0 < j) && Nat.blt j.natAbs (2 ^ 8000)
theorem divOk_of (i j : Int) (h : divOk i j = true) : CDivW i j := by
  unfold divOk at h
  simp only [Bool.and_eq_true, decide_eq_true_eq] at h
  exact wide_div (b := 8000) h.1 (Nat.lt_of_succ_le (Nat.le_of_ble_eq_true h.2)) (by decide) (by decide)
def modOk (_ j : Int) : Bool := decide (0 < j)
theorem modOk_of (i j : Int) (h : modOk i j = true) : 0 < j := of_decide_eq_true h
def powOk (i j : Int) : Bool := decide (0 ≤ j) && (decide (j ≤ 100) && Nat.blt i.natAbs 1000)
theorem powOk_of (i j : Int) (h : powOk i j = true) : CPow i j := by
  unfold powOk at h
  simp only [Bool.and_eq_true, decide_eq_true_eq] at h
  have := Nat.le_of_ble_eq_true h.2.2
  exact ⟨h.1, by omega, by omega⟩

/-! ### + -/
def gadd (x y : D) (h : Hd) : Res D := match x, y with
  | .int i, .int j => .ok (.int (i + j)) h
  | .str a, .str b => if small (a.length + b.length) then .ok (.str (a ++ b)) h else .stuck
  | .tup a, .tup b => if small (a.length + b.length) then .ok (.tup (a ++ b)) h else .stuck
  | x, y => match lstOf x h, lstOf y h with
    | some a, some b => if small (a.length + b.length) then .ok (.lst (a ++ b)) h else .stuck
    | _, _ => .stuck
abbrev rStrCat : R2 := fun x y H Q => ∃ i j, x = .str i ∧ y = .str j ∧ i.length + j.length ≤ sizeLine ∧ Q (.str (i ++ j)) H
abbrev rAddAll (K : PySem.W.Frag) : R2 := fun x y H Q => rI0 (fun i j => .int (i + j)) x y H Q ∨ (rStrCat x y H Q ∨ (rCatA K x y H Q ∨ rCat x y H Q))
theorem op_addAll {X : Cx} : OpR X (binaryOp .Add) (rAddAll X.K) := op_add.or (op_add_str.or (op_catA.or op_cat))
theorem add_lists {W : WX} {σ : L2.St} {S : Sta} {dx dy : D} {x y : V} {Q : VK} (hh : Rh G S) (rx : Rv G S dx x) (ry : Rv G S dy y)
    (c : Cont G W σ S (match lstOf dx S.h, lstOf dy S.h with
      | some a, some b => if small (a.length + b.length) then .ok (.lst (a ++ b)) S.h else .stuck
      | _, _ => .stuck) Q) : rAddAll G.K x y S.H Q := by
  cases e1 : lstOf dx S.h with
  | none => rw [e1] at c; exact c.elim
  | some a =>
    cases e2 : lstOf dy S.h with
    | none => rw [e1, e2] at c; exact c.elim
    | some b =>
      rw [e1, e2] at c
      have c : Cont G W σ S (if small (a.length + b.length) then .ok (.lst (a ++ b)) S.h else .stuck) Q := c
      split at c
      · rename_i hz
        obtain ⟨l, xs, rfl, h1, q1⟩ := lstOf_inv hh rx e1
        obtain ⟨m, ys, rfl, h2, q2⟩ := lstOf_inv hh ry e2
        refine .inr (.inr (.inr ⟨l, m, xs, ys, rfl, rfl, h1, h2, ?_, fun p hp => c.newL rfl hh (q1.append q2) hp⟩))
        rw [← q1.length, ← q2.length]
        exact small_ok hz
      · exact c.elim
theorem gadd_of : OpD G (rAddAll G.K) gadd := fun W σ S dx dy x y Q hh rx ry c => by
  unfold gadd at c
  split at c
  · exact .inl ⟨_, _, rx.int_inv, ry.int_inv, c.val rfl hh (.int _)⟩
  · split at c
    · rename_i hz
      exact .inr (.inl ⟨_, _, rx.str_inv, ry.str_inv, small_ok hz, c.val rfl hh (.str _)⟩)
    · exact c.elim
  · split at c
    · rename_i a b hz
      obtain ⟨p, xs, rfl, h1, q1⟩ := rx.tup_inv
      obtain ⟨q, ys, rfl, h2, q2⟩ := ry.tup_inv
      refine .inr (.inr (.inl ⟨p, q, xs, ys, rfl, rfl, h1, h2, ?_, ?_, ?_, ?_⟩))
      · rw [← q1.length, ← q2.length]
        exact small_ok hz
      · rintro rfl
        cases q1
        exact c.val rfl hh ry
      · rintro _ rfl
        cases q2
        rw [List.append_nil] at c
        exact c.val rfl hh rx
      · intro _ _ p hp
        exact c.newT rfl hh (q1.append q2) hp
    · exact c.elim
  · exact add_lists hh rx ry c

/-! ### * -/
def gmul (x y : D) (h : Hd) : Res D := match x, y with
  | .int i, .int j => if mulOk i j then .ok (.int (i * j)) h else .stuck
  | .tup a, .int k => if a.length != 0 && (Nat.ble a.length 1000 && (decide (2 ≤ k) && decide (k ≤ 1000))) then .ok (.tup (List.replicate k.toNat a).flatten) h else .stuck
  | x, .int k => match lstOf x h with
    | some a => if decide (0 ≤ k) && (decide (k ≤ 1000) && Nat.ble a.length 1000) then .ok (.lst (List.replicate k.toNat a).flatten) h else .stuck
    | none => .stuck
  | _, _ => .stuck
abbrev rMulAll (K : PySem.W.Frag) : R2 := fun x y H Q => rI CMulX (fun i j => .int (i * j)) x y H Q ∨ (rRepT K x y H Q ∨ rRep x y H Q)
theorem op_mulAll {X : Cx} : OpR X (binaryOp .Mult) (rMulAll X.K) := op_mulX.or (op_repT.or op_rep)
theorem Rl.rep {S : Sta} {ds : List D} {xs : List V} (r : Rl G S ds xs) : ∀ k : Nat, Rl G S (List.replicate k ds).flatten (List.replicate k xs).flatten
  | 0 => .nil
  | k + 1 => by
    rw [List.replicate_succ, List.flatten_cons, List.replicate_succ, List.flatten_cons]
    exact r.append (Rl.rep r k)
theorem mul_list {W : WX} {σ : L2.St} {S : Sta} {dx : D} {k : Int} {x y : V} {Q : VK} (hh : Rh G S) (rx : Rv G S dx x) (ry : Rv G S (.int k) y)
    (c : Cont G W σ S (match lstOf dx S.h with
      | some a => if decide (0 ≤ k) && (decide (k ≤ 1000) && Nat.ble a.length 1000) then .ok (.lst (List.replicate k.toNat a).flatten) S.h else .stuck
      | none => .stuck) Q) : rMulAll G.K x y S.H Q := by
  cases e1 : lstOf dx S.h with
  | none => rw [e1] at c; exact c.elim
  | some a =>
    rw [e1] at c
    have c : Cont G W σ S (if decide (0 ≤ k) && (decide (k ≤ 1000) && Nat.ble a.length 1000) then .ok (.lst (List.replicate k.toNat a).flatten) S.h else .stuck) Q := c
    split at c
    · rename_i hz
      simp only [Bool.and_eq_true, decide_eq_true_eq] at hz
      obtain ⟨h0, h1, h2⟩ := hz
      have h2 := Nat.le_of_ble_eq_true h2
      obtain ⟨l, xs, rfl, e, q1⟩ := lstOf_inv hh rx e1
      refine .inr (.inr ⟨l, k, xs, rfl, ry.int_inv, e, by omega, by omega, ?_, fun p hp => c.newL rfl hh (q1.rep _) hp⟩)
      rw [← q1.length, sizeLine_eq]
      have : k.toNat ≤ 1000 := by omega
      calc a.length * k.toNat ≤ 1000 * 1000 := Nat.mul_le_mul h2 this
        _ ≤ 16777216 := by decide
    · exact c.elim
theorem gmul_of : OpD G (rMulAll G.K) gmul := fun W σ S dx dy x y Q hh rx ry c => by
  unfold gmul at c
  split at c
  · split at c
    · rename_i h
      exact .inl ⟨_, _, rx.int_inv, ry.int_inv, mulOk_of _ _ h, c.val rfl hh (.int _)⟩
    · exact c.elim
  · split at c
    · rename_i a k h
      simp only [Bool.and_eq_true, decide_eq_true_eq] at h
      obtain ⟨h0, h1, h2, h3⟩ := h
      obtain ⟨p, xs, rfl, e, q1⟩ := rx.tup_inv
      have h1 := Nat.le_of_ble_eq_true h1
      refine .inr (.inl ⟨p, k, xs, rfl, ry.int_inv, e, ?_, h2, h3, by rw [← q1.length]; exact h1, fun p hp => c.newT rfl hh (q1.rep _) hp⟩)
      rintro rfl
      cases q1
      simp at h0
    · exact c.elim
  · exact mul_list hh rx ry c
  · exact c.elim

/-! ### in, not in -/
def inOk (x : D) (xs : List D) : Bool := pur x && (purL xs && Nat.ble (dep x) 60)
def signOf (a : Str) : Option Nat := match a.cps.toList with
  | [c] => some c
  | _ => none
def gin (neg : Bool) (x y : D) (h : Hd) : Res D := match x, y with
  | .str a, .str b => match signOf a with
    | some c => .ok (.bl (neg != b.cps.toList.contains c)) h
    | none => .stuck
  | x, y => match seqOf y h with
    | some ds => if inOk x ds then .ok (.bl (neg != ds.any fun z => deq z x)) h else .stuck
    | none => .stuck
abbrev rInD' (K : PySem.W.Frag) (neg : Bool) : R2 := fun x y H Q => ∃ d a xs ds, Pd K H d x ∧ y = .ref a ∧ (SqL K H a xs ∨ SqT K H a xs) ∧ Pl K H ds xs ∧ inOk d ds = true ∧ Q (.bl (neg != ds.any fun z => deq z d)) H
instance : Nonempty D := ⟨.non⟩
noncomputable def rdOf (K : PySem.W.Frag) (H : Hp) (u : Value) : D := Classical.epsilon fun d => ∃ v, Pd K H d v ∧ RelV v u
section
variable {X : Cx} {pins : List (Addr × Obj)} {σ : L2.St} {H : Hp} {s : Shared}
theorem rdOf_eq (I : Inv X pins σ H s) {d : D} {v : V} {u : Value} (h : Pd X.K H d v) (r : RelV v u) : rdOf X.K H u = d := by
  have q : ∃ v, Pd X.K H (rdOf X.K H u) v ∧ RelV v u := Classical.epsilon_spec (p := fun d => ∃ v, Pd X.K H d v ∧ RelV v u) ⟨d, v, h, r⟩
  obtain ⟨v', h', r'⟩ := q
  have := r.inj r'
  subst this
  exact Pd.unique I h' h
theorem any_rd (I : Inv X pins σ H s) {d : D} : ∀ {ds : List D} {vs : List V} {us : List Value}, Pl X.K H ds vs → Vals vs us → (us.any fun u => deq (rdOf X.K H u) d) = ds.any fun z => deq z d
  | _, _, _, .nil, .nil => rfl
  | _, _, _, .cons h t, .cons r t' => by rw [List.any_cons, List.any_cons, rdOf_eq I h r, any_rd I t t']
theorem mem_rd (I : Inv X pins σ H s) {d : D} {x : V} {v : Value} {A : Around} (hd : Pd X.K H d x) (rx : RelV x v) (hu : A.units + 60 < cLine) (hz : dep d ≤ 60) : ∀ {ds : List D} {vs : List V} {us : List Value}, Pl X.K H ds vs → Vals vs us → purL ds = true →
    ∀ u ∈ us, SeqAt.EqAt A s u v (deq (rdOf X.K H u) d)
  | _, _, _, .nil, .nil, _ => fun u hu => by cases hu
  | z :: zs, _, _, .cons h t, .cons r t', p => fun u hm => by
    have p' : pur z = true ∧ purL zs = true := by simpa [purL] using p
    rcases List.mem_cons.mp hm with rfl | hm
    · rw [rdOf_eq I h r]
      exact (eqAt_D I 60 z d _ _ _ _ A (by omega) hu p'.1 h hd r rx).1
    · exact mem_rd I hd rx hu hz t t' p'.2 u hm
end
theorem inOk_inv {d : D} {ds : List D} (h : inOk d ds = true) : pur d = true ∧ purL ds = true ∧ dep d ≤ 60 := by
  unfold inOk at h
  simp only [Bool.and_eq_true] at h
  exact ⟨h.1, h.2.1, Nat.le_of_ble_eq_true h.2.2⟩
theorem op_inQ {X : Cx} (hu : X.A.units + 61 < cLine) : OpR X (compareOp .In) (rInD' X.K false) := by
  intro pins s σ H x y v u Q I rx ry h
  obtain ⟨d, a, xs, ds, hd, rfl, hq, hl, ok, q⟩ := h
  obtain ⟨p1, p2, p3⟩ := inOk_inv ok
  cases ry
  have hu' : X.A.in1.units + 60 < cLine := by
    show X.A.units + 1 + 60 < cLine
    omega
  rw [Bool.false_bne] at q
  rcases hq with hq | hq
  · obtain ⟨its, r, pl⟩ := isL I hq
    refine SeqAt.in_listAt (fun u => deq (rdOf X.K H u) d) pl (fun w hw => mem_rd I hd rx hu' p3 hl r p2 w (by simpa using hw)) ⟨.bl _, H, I, rfl, ?_⟩
    rw [show (its.toArray.any fun u => deq (rdOf X.K H u) d) = its.any (fun u => deq (rdOf X.K H u) d) by simp, any_rd I hl r]
    exact q
  · obtain ⟨its, r, pl⟩ := isT I hq
    refine SeqAt.in_tupleAt (fun u => deq (rdOf X.K H u) d) pl (fun w hw => mem_rd I hd rx hu' p3 hl r p2 w (by simpa using hw)) ⟨.bl _, H, I, rfl, ?_⟩
    rw [show (its.toArray.any fun u => deq (rdOf X.K H u) d) = its.any (fun u => deq (rdOf X.K H u) d) by simp, any_rd I hl r]
    exact q
theorem op_notInQ {X : Cx} (hu : X.A.units + 61 < cLine) : OpR X (compareOp .NotIn) (rInD' X.K true) := by
  intro pins s σ H x y v u Q I rx ry h
  obtain ⟨d, a, xs, ds, hd, rfl, hq, hl, ok, q⟩ := h
  obtain ⟨p1, p2, p3⟩ := inOk_inv ok
  cases ry
  have hu' : X.A.in1.units + 60 < cLine := by
    show X.A.units + 1 + 60 < cLine
    omega
  rw [Bool.true_bne] at q
  rcases hq with hq | hq
  · obtain ⟨its, r, pl⟩ := isL I hq
    refine SeqAt.notIn_listAt (fun u => deq (rdOf X.K H u) d) pl (fun w hw => mem_rd I hd rx hu' p3 hl r p2 w (by simpa using hw)) ⟨.bl _, H, I, rfl, ?_⟩
    rw [show (its.toArray.any fun u => deq (rdOf X.K H u) d) = its.any (fun u => deq (rdOf X.K H u) d) by simp, any_rd I hl r]
    exact q
  · obtain ⟨its, r, pl⟩ := isT I hq
    refine SeqAt.notIn_tupleAt (fun u => deq (rdOf X.K H u) d) pl (fun w hw => mem_rd I hd rx hu' p3 hl r p2 w (by simpa using hw)) ⟨.bl _, H, I, rfl, ?_⟩
    rw [show (its.toArray.any fun u => deq (rdOf X.K H u) d) = its.any (fun u => deq (rdOf X.K H u) d) by simp, any_rd I hl r]
    exact q
theorem seqOf_pl {S : Sta} (h : Rh G S) {d : D} {v : V} {ds : List D} (r : Rv G S d v) (e : seqOf d S.h = some ds) (p : purL ds = true) : ∃ a xs, v = .ref a ∧ (SqL G.K S.H a xs ∨ SqT G.K S.H a xs) ∧ Pl G.K S.H ds xs := by
  obtain ⟨a, xs, h1, h2, h3⟩ := seqOf_inv h r e
  exact ⟨a, xs, h1, h2, Rl.pl p h3⟩
abbrev rSign (neg : Bool) : R2 := fun x y H Q => ∃ c z, x = .str ⟨#[c]⟩ ∧ y = .str z ∧ Q (.bl (neg != decide (c ∈ z.cps.toList))) H
theorem op_signF {X : Cx} : OpR X (compareOp .In) (rSign false) := by
  intro pins s σ H x y v u Q I rx ry ⟨c, z, e1, e2, q⟩
  rw [Bool.false_bne] at q
  exact op_in_sign pins s σ H x y v u Q I rx ry ⟨c, z, e1, e2, q⟩
theorem op_signT {X : Cx} : OpR X (compareOp .NotIn) (rSign true) := by
  intro pins s σ H x y v u Q I rx ry ⟨c, z, e1, e2, q⟩
  rw [Bool.true_bne] at q
  exact op_notIn_sign pins s σ H x y v u Q I rx ry ⟨c, z, e1, e2, q⟩
theorem signOf_inv {a : Str} {c : Nat} (h : signOf a = some c) : a = ⟨#[c]⟩ := by
  unfold signOf at h
  split at h
  · rename_i k e
    cases h
    obtain ⟨l⟩ := a
    have : l = #[c] := by
      have := congrArg List.toArray e
      simpa using this
    rw [this]
  · cases h
theorem in_seq {W : WX} {σ : L2.St} {S : Sta} {neg : Bool} {dx dy : D} {x y : V} {Q : VK} (hh : Rh G S) (rx : Rv G S dx x) (ry : Rv G S dy y)
    (c : Cont G W σ S (match seqOf dy S.h with
    | some ds => if inOk dx ds then .ok (.bl (neg != ds.any fun z => deq z dx)) S.h else .stuck
    | none => .stuck) Q) : rSign neg x y S.H Q ∨ rInD' G.K neg x y S.H Q := by
  cases e1 : seqOf dy S.h with
  | none => rw [e1] at c; exact c.elim
  | some ds =>
    rw [e1] at c
    have c : Cont G W σ S (if inOk dx ds then .ok (.bl (neg != ds.any fun z => deq z dx)) S.h else .stuck) Q := c
    split at c
    · rename_i h
      obtain ⟨p1, p2, p3⟩ := inOk_inv h
      obtain ⟨a, xs, rfl, h2, h3⟩ := seqOf_pl hh ry e1 p2
      exact .inr ⟨dx, a, xs, ds, Rv.pd p1 rx, rfl, h2, h3, h, c.val rfl hh (.bl _)⟩
    · exact c.elim
theorem gin_of (neg : Bool) : OpD G (fun x y H Q => rSign neg x y H Q ∨ rInD' G.K neg x y H Q) (gin neg) := fun W σ S dx dy x y Q hh rx ry c => by
  unfold gin at c
  split at c
  · rename_i a b
    cases e : signOf a with
    | none => rw [e] at c; exact c.elim
    | some k =>
      rw [e] at c
      have c : Cont G W σ S (.ok (.bl (neg != b.cps.toList.contains k)) S.h) Q := c
      have := signOf_inv e
      subst this
      refine .inl ⟨k, b, rx.str_inv, ry.str_inv, ?_⟩
      have e2 : decide (k ∈ b.cps.toList) = b.cps.toList.contains k := by
        rw [Bool.eq_iff_iff]
        simp
      rw [e2]
      exact c.val rfl hh (.bl _)
  · exact in_seq hh rx ry c

/-! ### is, is not -/
def isNon : D → Bool
  | .non => true
  | _ => false
def gis (neg : Bool) (x y : D) (h : Hd) : Res D := match x, y with
  | .bl a, .bl b => .ok (.bl (neg != (a == b))) h
  | x, .non => .ok (.bl (neg != isNon x)) h
  | _, _ => .stuck
abbrev rIsN (neg : Bool) : R2 := fun x y H Q => y = .non ∧ Q (.bl (neg != decide (x = .non))) H
abbrev rIsBl (neg : Bool) : R2 := fun x y H Q => ∃ a b : Bool, x = .bl a ∧ y = .bl b ∧ Q (.bl (neg != decide (a = b))) H
theorem op_isF {X : Cx} : OpR X (compareOp .Is) (fun x y H Q => rIsN false x y H Q ∨ rIsBl false x y H Q) := by
  refine OpR.or ?_ ?_
  · intro pins s σ H x y v u Q I rx ry ⟨e, q⟩
    rw [Bool.false_bne] at q
    exact op_isN pins s σ H x y v u Q I rx ry ⟨e, q⟩
  · intro pins s σ H x y v u Q I rx ry ⟨a, b, e1, e2, q⟩
    rw [Bool.false_bne] at q
    exact op_isBl pins s σ H x y v u Q I rx ry ⟨a, b, e1, e2, q⟩
theorem op_isT {X : Cx} : OpR X (compareOp .IsNot) (fun x y H Q => rIsN true x y H Q ∨ rIsBl true x y H Q) := by
  refine OpR.or ?_ ?_
  · intro pins s σ H x y v u Q I rx ry ⟨e, q⟩
    rw [Bool.true_bne] at q
    exact op_notN pins s σ H x y v u Q I rx ry ⟨e, q⟩
  · intro pins s σ H x y v u Q I rx ry ⟨a, b, e1, e2, q⟩
    rw [Bool.true_bne] at q
    exact op_notBl pins s σ H x y v u Q I rx ry ⟨a, b, e1, e2, q⟩
theorem non_iff {S : Sta} {d : D} {v : V} (r : Rv G S d v) : decide (v = .non) = isNon d := by
  cases r <;> first | rfl | simp
theorem gis_of (neg : Bool) : OpD G (fun x y H Q => rIsN neg x y H Q ∨ rIsBl neg x y H Q) (gis neg) := fun W σ S dx dy x y Q hh rx ry c => by
  unfold gis at c
  split at c
  · rename_i a b
    refine .inr ⟨a, b, rx.bl_inv, ry.bl_inv, ?_⟩
    rw [← Bool.beq_eq_decide_eq]
    exact c.val rfl hh (.bl _)
  · refine .inl ⟨ry.non_inv, ?_⟩
    rw [non_iff rx]
    exact c.val rfl hh (.bl _)
  · exact c.elim
end

/-! text Ev5.lean -/
/-! Pf 5: subscripts, slices, built-ins, methods -/
open PySem L2 TL

section
variable {X : Cx} {G : Gm} {W : WX} {a b c e : Expr} {es : List Expr} {fa fb fc : Fe} {fr : Fa} {pos : Pos}
/-! ### a[i] -/
def gix (x y : D) (h : Hd) : Res D := match x, y with
  | .str z, .int i => if small z.length then (match atI z.cps.toList i with
      | some k => .ok (.str ⟨#[k]⟩) h
      | none => .stuck) else .stuck
  | x, .int i => match seqOf x h with
    | some ds => (match atI ds i with
      | some d => .ok d h
      | none => .stuck)
    | none => .stuck
  | _, _ => .stuck
theorem Rl.atI {S : Sta} {ds : List D} {vs : List V} {i : Int} {d : D} (r : Rl G S ds vs) (h : L2.atI ds i = some d) : ∃ v, L2.atI vs i = some v ∧ Rv G S d v := by
  unfold L2.atI at h ⊢
  rw [← r.length]
  cases q : ixN ds.length i with
  | none => rw [q] at h; cases h
  | some j =>
    rw [q] at h
    exact r.get h
theorem ix_of {σ : L2.St} {S : Sta} {dx dy : D} {x y : V} {Q : VK} (hh : Rh G S) (rx : Rv G S dx x) (ry : Rv G S dy y) (c : Cont G W σ S (gix dx dy S.h) Q) : rIx G.K x y S.H Q := by
  unfold gix at c
  split at c
  · split at c
    · rename_i z i hz
      split at c
      · rename_i k hk
        exact .inr (.inr ⟨z, i, k, rx.str_inv, ry.int_inv, small_ok hz, hk, c.val rfl hh (.str _)⟩)
      · exact c.elim
    · exact c.elim
  · rename_i i _
    cases q : seqOf dx S.h with
    | none => rw [q] at c; exact c.elim
    | some ds =>
      rw [q] at c
      have c : Cont G W σ S (match atI ds i with
        | some d => .ok d S.h
        | none => .stuck) Q := c
      split at c
      · rename_i d hd
        obtain ⟨p, xs, rfl, h2, h3⟩ := seqOf_inv hh rx q
        obtain ⟨v, hv, rv⟩ := h3.atI hd
        rcases h2 with h2 | h2
        · exact .inl ⟨p, xs, i, v, rfl, ry.int_inv, h2, hv, c.val rfl hh rv⟩
        · exact .inr (.inl ⟨p, xs, i, v, rfl, ry.int_inv, h2, hv, c.val rfl hh rv⟩)
      · exact c.elim
  · exact c.elim
theorem se_ix (hs : PlainIx b) (ha : SE X G W a fa) (hb : SE X G W b fb) (hK : X.K = G.K) : SE X G W (.Subscript a b pos) (fbin gix fa fb) := by
  refine PE.imp (pe_ix (ix_seq (X := X)) ha hb hs) fun σ H Q h => ?_
  rw [hK]
  refine (tE_bin h).mono fun x H1 h1 => h1.mono fun y H2 ⟨S, dx, dy, e, hh, rx, ry, c⟩ => ?_
  subst e
  exact ix_of hh rx ry c

/-! ### slices -/
abbrev Fo := Option Fe
def fpart (o : Fo) (σ : Sl) (h : Hd) (k : Option Int → Hd → Res D) : Res D := match o with
  | none => k none h
  | some f => (f σ h).bind fun d h => match d with
    | .int i => k (some i) h
    | .non => k none h
    | _ => .stuck
def cutL {α : Type} (xs : List α) (lo hi : Option Int) : List α := (xs.drop (HT.sIx xs.length 0 lo)).take (HT.sIx xs.length xs.length hi - HT.sIx xs.length 0 lo)
def gcut (x : D) (lo hi : Option Int) (h : Hd) : Res D := match x with
  | .str z => if small z.length then .ok (.str (cutS z lo hi)) h else .stuck
  | .tup ds => .ok (.tup (cutL ds lo hi)) h
  | x => match lstOf x h with
    | some ds => .ok (.lst (cutL ds lo hi)) h
    | none => .stuck
def fslice (fa : Fe) (lo hi : Fo) : Fe := fun σ h => (fa σ h).bind fun x h => fpart lo σ h fun l h => fpart hi σ h fun u h => gcut x l u h
def tO (G : Gm) (W : WX) (o : Fo) : TO := fun σ H Q => ∃ S sd, S.H = H ∧ Rh G S ∧ Rs' G S sd σ ∧ match o with
  | none => Q none H
  | some f => Cont G W σ S (f sd S.h) fun v H' => (∃ i, v = .int i ∧ Q (some i) H') ∨ (v = .non ∧ Q none H')
theorem po_any {te : TE} (h : PE X e te) : PO X (some e) (fun σ H Q => te σ H fun v H' => (∃ i, v = .int i ∧ Q (some i) H') ∨ (v = .non ∧ Q none H')) := by
  refine ⟨fun pins s σ H Q I hw => ?_⟩
  rw [evalPart_some]
  refine thn (h.run pins s σ H _ I hw) fun u s1 ⟨x, H1, I1, r1, q1⟩ => ?_
  rcases q1 with ⟨i, rfl, q⟩ | ⟨rfl, q⟩
  · obtain ⟨t, rfl⟩ := r1
    exact ⟨some i, H1, I1, .int i t, q⟩
  · cases r1
    exact ⟨none, H1, I1, .none, q⟩
abbrev SO (X : Cx) (G : Gm) (W : WX) (e : Option Expr) (o : Fo) : Prop := PO X e (tO G W o)
theorem so_none : SO X G W none none := by
  refine ⟨fun pins s σ H Q I ⟨S, sd, e, hh, rs, q⟩ => ?_⟩
  exact po_none.run pins s σ H Q I q
theorem so_some (h : SE X G W e fa) : SO X G W (some e) (some fa) := by
  refine ⟨fun pins s σ H Q I ⟨S, sd, e, hh, rs, q⟩ => ?_⟩
  exact (po_any h).run pins s σ H Q I ⟨S, sd, e, hh, rs, q⟩
theorem tO_of {o : Fo} {σ : L2.St} {S : Sta} {sd : Sl} {k : Option Int → Hd → Res D} {Q : VK} (hh : Rh G S) (rs : Rs' G S sd σ) (c : Cont G W σ S (fpart o sd S.h k) Q) :
    tO G W o σ S.H fun l H1 => ∃ S1, S1.H = H1 ∧ Stp S S1 ∧ Rh G S1 ∧ Cont G W σ S1 (k l S1.h) Q := by
  cases o with
  | none => exact ⟨S, sd, rfl, hh, rs, S, rfl, Stp.refl hh, hh, c⟩
  | some f =>
    refine ⟨S, sd, rfl, hh, rs, (Cont.bind c).mono fun v H1 ⟨S1, d, e1, t1, hh1, rv1, c1⟩ => ?_⟩
    subst e1
    cases d with
    | int i => exact .inl ⟨i, rv1.int_inv, S1, rfl, t1, hh1, c1⟩
    | non => exact .inr ⟨rv1.non_inv, S1, rfl, t1, hh1, c1⟩
    | _ => exact c1.elim
theorem tO.mono {o : Fo} {σ : L2.St} {H : Hp} {Q Q' : Option Int → Hp → Prop} (h : tO G W o σ H Q) (i : ∀ l H', Q l H' → Q' l H') : tO G W o σ H Q' := by
  obtain ⟨S, sd, e, hh, rs, q⟩ := h
  refine ⟨S, sd, e, hh, rs, ?_⟩
  cases o with
  | none => exact i _ _ q
  | some f => exact Cont.mono q fun v H' z => z.imp (fun ⟨j, e, q⟩ => ⟨j, e, i _ _ q⟩) fun ⟨e, q⟩ => ⟨e, i _ _ q⟩
theorem Rl.cut {S : Sta} {ds : List D} {xs : List V} (r : Rl G S ds xs) (lo hi : Option Int) : Rl G S (cutL ds lo hi) (cutV xs lo hi) := by
  unfold cutL cutV
  rw [r.length]
  exact (r.drop _).take _
theorem cut_whole {α : Type} {xs : List α} {lo hi : Option Int} (h : HT.sIx xs.length 0 lo = 0 ∧ HT.sIx xs.length xs.length hi = xs.length) : cutL xs lo hi = xs := by
  unfold cutL
  rw [h.1, h.2]
  simp
abbrev rCutAll (K : PySem.W.Frag) : V → Option Int → Option Int → Hp → VK → Prop := fun x lo hi H Q => rSlS x lo hi H Q ∨ (rSlA K x lo hi H Q ∨ rSlL K x lo hi H Q)
theorem cut_list {σ : L2.St} {S : Sta} {dx : D} {x : V} {lo hi : Option Int} {Q : VK} (hh : Rh G S) (rx : Rv G S dx x)
    (c : Cont G W σ S (match lstOf dx S.h with
    | some ds => .ok (.lst (cutL ds lo hi)) S.h
    | none => .stuck) Q) : rCutAll G.K x lo hi S.H Q := by
  cases q : lstOf dx S.h with
  | none => rw [q] at c; exact c.elim
  | some ds =>
    rw [q] at c
    obtain ⟨a, xs, rfl, h2, h3⟩ := lstOf_inv hh rx q
    exact .inr (.inr ⟨a, xs, rfl, SqL.of h2, fun p hp => c.newL rfl hh (h3.cut lo hi) hp⟩)
theorem cut_of {σ : L2.St} {S : Sta} {dx : D} {x : V} {lo hi : Option Int} {Q : VK} (hh : Rh G S) (rx : Rv G S dx x) (c : Cont G W σ S (gcut dx lo hi S.h) Q) : rCutAll G.K x lo hi S.H Q := by
  unfold gcut at c
  split at c
  · split at c
    · rename_i z hz
      exact .inl ⟨z, rx.str_inv, small_ok hz, c.val rfl hh (.str _)⟩
    · exact c.elim
  · rename_i ds
    obtain ⟨a, xs, rfl, h2, h3⟩ := rx.tup_inv
    refine .inr (.inl ⟨a, xs, rfl, h2, fun hw => ?_, fun _ p hp => c.newT rfl hh (h3.cut lo hi) hp⟩)
    rw [← h3.length] at hw
    rw [cut_whole hw] at c
    exact c.val rfl hh rx
  · exact cut_list hh rx c
theorem se_slice {lo hi : Option Expr} {fl fh : Fo} {p2 : Pos} (ha : SE X G W a fa) (hl : SO X G W lo fl) (hu : SO X G W hi fh) (hK : X.K = G.K) : SE X G W (.Subscript a (.Slice lo hi none p2) pos) (fslice fa fl fh) := by
  refine PE.imp (pe_slice (SlR.or sl_str (SlR.or sl_tupA sl_list)) ha hl hu) fun σ H Q h => ?_
  obtain ⟨S, sd, e, hh, rs, c⟩ := h
  refine ⟨S, sd, e, hh, rs, (Cont.bind c).mono fun v H1 ⟨S1, d, e1, t1, hh1, rv1, c1⟩ => ?_⟩
  subst e1
  refine (tO_of hh1 (rs.mono t1) c1).mono fun l H2 ⟨S2, e2, t2, hh2, c2⟩ => ?_
  subst e2
  refine (tO_of hh2 ((rs.mono t1).mono t2) c2).mono fun u H3 ⟨S3, e3, t3, hh3, c3⟩ => ?_
  subst e3
  rw [hK]
  exact cut_of hh3 ((rv1.mono t2).mono t3) c3

/-! ### - -/
def gneg (x : D) (h : Hd) : Res D := match x with
  | .int i => .ok (.int (-i)) h
  | _ => .stuck
theorem se_neg (ha : SE X G W a fa) : SE X G W (.UnaryOp .USub a pos) (fun1 gneg fa) := by
  refine PE.imp (pe_un un_neg ha) fun σ H Q h => ?_
  obtain ⟨S, sd, e, hh, rs, c⟩ := h
  refine ⟨S, sd, e, hh, rs, (Cont.bind c).mono fun v H1 ⟨S1, d, e1, t1, hh1, rv1, c1⟩ => ?_⟩
  subst e1
  cases d with
  | int i => exact ⟨i, rv1.int_inv, c1.val rfl hh1 (.int _)⟩
  | _ => exact c1.elim

/-! ### calls of built-ins -/
/-- a built-in's reading, by plain data -/
def CalD (G : Gm) (r : List V → Hp → VK → Prop) (g : List D → Hd → Res D) : Prop :=
  ∀ (W : WX) (σ : L2.St) (S : Sta) (ds : List D) (vs : List V) (Q : VK), Rh G S → Rl G S ds vs → Cont G W σ S (g ds S.h) Q → r vs S.H Q
theorem se_callB {id : String} {r : List V → Hp → VK → Prop} {g : List D → Hd → Res D} {x : Str} {p : Pos} (hc : CallR X (.builtin id) r) (hd : CalD G r g) (hg : Gl X x) (hm : X.mg x = none) (hv : bootBuiltins x = some (.builtin id)) (ha : SA X G W (e :: es) fr) (hn : x ≠ "__name__") (hdb : (x == ("__debug__" : Str)) = false)
    (he : starEach (e :: es) X.env = (false, eval e X.env) :: starEach es X.env) (hpl : (backTo pos (starEach es X.env)).any (·.1) = false) : SE X G W (.Call (.Name x p) (e :: es) [] pos) (fargs g fr) :=
  PE.imp (pe_callB hc hg hm hv ha hn hdb he hpl) fun σ H Q h => (tA_args h).mono fun vs H1 ⟨S, ds, e, hh, rl, c⟩ => by
    subst e
    exact hd W σ S ds vs Q hh rl c
theorem se_callTy {T : String} {r : List V → Hp → VK → Prop} {g : List D → Hd → Res D} {x : Str} {p : Pos} (hc : CallR X (.type T) r) (hd : CalD G r g) (hg : Gl X x) (hm : X.mg x = none) (hv : bootBuiltins x = some (.type T)) (ha : SA X G W (e :: es) fr) (hn : x ≠ "__name__") (hdb : (x == ("__debug__" : Str)) = false)
    (he : starEach (e :: es) X.env = (false, eval e X.env) :: starEach es X.env) (hpl : (backTo pos (starEach es X.env)).any (·.1) = false) : SE X G W (.Call (.Name x p) (e :: es) [] pos) (fargs g fr) :=
  PE.imp (pe_callTy hc hg hm hv ha hn hdb he hpl) fun σ H Q h => (tA_args h).mono fun vs H1 ⟨S, ds, e, hh, rl, c⟩ => by
    subst e
    exact hd W σ S ds vs Q hh rl c
def g1 (g : D → Hd → Res D) (ds : List D) (h : Hd) : Res D := match ds with
  | [d] => g d h
  | _ => .stuck
def g2 (g : D → D → Hd → Res D) (ds : List D) (h : Hd) : Res D := match ds with
  | [d, e] => g d e h
  | _ => .stuck
theorem calD1 {r : List V → Hp → VK → Prop} {g : D → Hd → Res D} (h : ∀ (W : WX) (σ : L2.St) (S : Sta) (d : D) (v : V) (Q : VK), Rh G S → Rv G S d v → Cont G W σ S (g d S.h) Q → r [v] S.H Q) : CalD G r (g1 g) := fun W σ S ds vs Q hh rl c => by
  cases rl with
  | nil => exact c.elim
  | cons r1 q =>
    cases q with
    | nil => exact h W σ S _ _ Q hh r1 c
    | cons _ _ => exact c.elim
theorem calD2 {r : List V → Hp → VK → Prop} {g : D → D → Hd → Res D} (h : ∀ (W : WX) (σ : L2.St) (S : Sta) (d e : D) (v u : V) (Q : VK), Rh G S → Rv G S d v → Rv G S e u → Cont G W σ S (g d e S.h) Q → r [v, u] S.H Q) : CalD G r (g2 g) := fun W σ S ds vs Q hh rl c => by
  cases rl with
  | nil => exact c.elim
  | cons r1 q =>
    cases q with
    | nil => exact c.elim
    | cons r2 q =>
      cases q with
      | nil => exact h W σ S _ _ _ _ Q hh r1 r2 c
      | cons _ _ => exact c.elim
def glen (x : D) (h : Hd) : Res D := match x with
  | .str z => if small z.length then .ok (.int z.length) h else .stuck
  | x => match seqOf x h with
    | some ds => .ok (.int ds.length) h
    | none => .stuck
theorem glen_of : CalD G (fun xs H Q => ∃ x n, xs = [x] ∧ LenV G.K x H n ∧ Q (.int n) H) (g1 glen) := calD1 fun W σ S d v Q hh rv c => by
  unfold glen at c
  split at c
  · split at c
    · rename_i z hz
      obtain rfl := rv.str_inv
      exact ⟨_, z.length, rfl, ⟨small_ok hz, rfl⟩, c.val rfl hh (.int _)⟩
    · exact c.elim
  · cases q : seqOf d S.h with
    | none => rw [q] at c; exact c.elim
    | some ds =>
      rw [q] at c
      obtain ⟨a, xs, rfl, h2, h3⟩ := seqOf_inv hh rv q
      refine ⟨_, xs.length, rfl, ?_, ?_⟩
      · exact h2.imp (fun h2 => ⟨xs, h2, rfl⟩) fun h2 => ⟨xs, h2, rfl⟩
      · rw [← h3.length]
        exact c.val rfl hh (.int _)
def gabs (x : D) (h : Hd) : Res D := match x with
  | .int i => .ok (.int (if i < 0 then -i else i)) h
  | _ => .stuck
theorem gabs_of : CalD G (fun xs H Q => ∃ i, xs = [.int i] ∧ Q (.int (if i < 0 then -i else i)) H) (g1 gabs) := calD1 fun W σ S d v Q hh rv c => by
  cases d with
  | int i => exact ⟨i, by rw [rv.int_inv], c.val rfl hh (.int _)⟩
  | _ => exact c.elim
def gmax2 (x y : D) (h : Hd) : Res D := match x, y with
  | .int i, .int j => .ok (.int (if j > i then j else i)) h
  | _, _ => .stuck
def gmin2 (x y : D) (h : Hd) : Res D := match x, y with
  | .int i, .int j => .ok (.int (if j < i then j else i)) h
  | _, _ => .stuck
theorem gmax2_of : CalD G (fun xs H Q => ∃ i j, xs = [.int i, .int j] ∧ Q (.int (if j > i then j else i)) H) (g2 gmax2) := calD2 fun W σ S d e v u Q hh rv ru c => by
  cases d with
  | int i =>
    cases e with
    | int j => exact ⟨i, j, by rw [rv.int_inv, ru.int_inv], c.val rfl hh (.int _)⟩
    | _ => exact c.elim
  | _ => exact c.elim
theorem gmin2_of : CalD G (fun xs H Q => ∃ i j, xs = [.int i, .int j] ∧ Q (.int (if j < i then j else i)) H) (g2 gmin2) := calD2 fun W σ S d e v u Q hh rv ru c => by
  cases d with
  | int i =>
    cases e with
    | int j => exact ⟨i, j, by rw [rv.int_inv, ru.int_inv], c.val rfl hh (.int _)⟩
    | _ => exact c.elim
  | _ => exact c.elim
/-- int(x) -/
def gint1 (x : D) (h : Hd) : Res D := match x with
  | .int i => .ok (.int i) h
  | .bl b => .ok (.int (if b then 1 else 0)) h
  | .str z => if Nat.ble z.length 640 then (match PySem.intText? z with
    | some n => .ok (.int n) h
    | none => .stuck) else .stuck
  | _ => .stuck
abbrev rIntAll : List V → Hp → VK → Prop := fun xs H Q => ((∃ i, xs = [.int i] ∧ Q (.int i) H) ∨ ∃ k, xs = [.bl k] ∧ Q (.int (if k then 1 else 0)) H) ∨ ∃ a n, xs = [.str a] ∧ PySem.intText? a = some n ∧ a.length ≤ 640 ∧ Q (.int n) H
theorem call_intAll : CallR X (.type "int") rIntAll := call_int1.or call_int_str
theorem gint1_of : CalD G rIntAll (g1 gint1) := calD1 fun W σ S d v Q hh rv c => by
  cases d with
  | int i => exact .inl (.inl ⟨i, by rw [rv.int_inv], c.val rfl hh (.int _)⟩)
  | bl b => exact .inl (.inr ⟨b, by rw [rv.bl_inv], c.val rfl hh (.int _)⟩)
  | str z =>
    have c : Cont G W σ S (if Nat.ble z.length 640 then (match PySem.intText? z with
      | some n => .ok (.int n) S.h
      | none => .stuck) else .stuck) Q := c
    split at c
    · rename_i hz
      split at c
      · rename_i n hn
        exact .inr ⟨z, n, by rw [rv.str_inv], hn, Nat.le_of_ble_eq_true hz, c.val rfl hh (.int _)⟩
      · exact c.elim
    · exact c.elim
  | _ => exact c.elim
/-- str(x) -/
def strInt (i : Int) : Str := Str.ofString (toString i)
def gstr1 (x : D) (h : Hd) : Res D := match x with
  | .int i => if Nat.blt i.natAbs (2 ^ 1900) then .ok (.str (strInt i)) h else .stuck
  | .str z => .ok (.str z) h
  | _ => .stuck
abbrev rStrAll : List V → Hp → VK → Prop := fun xs H Q => (∃ i, xs = [.int i] ∧ i.natAbs.log2 < 1920 ∧ Q (.str (toString i)) H) ∨ ∃ a, xs = [.str a] ∧ Q (.str a) H
theorem call_strAll : CallR X (.type "str") rStrAll := call_str_int.or SkE.call_str_str
theorem log2_small {n : Nat} (h : n < 2 ^ 1900) : n.log2 < 1920 := by
  by_cases h0 : n = 0
  · subst h0
    decide
  · have := (Nat.log2_lt h0).mpr h
    omega
theorem gstr1_of : CalD G rStrAll (g1 gstr1) := calD1 fun W σ S d v Q hh rv c => by
  cases d with
  | int i =>
    have c : Cont G W σ S (if Nat.blt i.natAbs (2 ^ 1900) then .ok (.str (strInt i)) S.h else .stuck) Q := c
    split at c
    · rename_i hz
      exact .inl ⟨i, by rw [rv.int_inv], log2_small (Nat.lt_of_succ_le (Nat.le_of_ble_eq_true hz)), c.val rfl hh (.str _)⟩
    · exact c.elim
  | str z => exact .inr ⟨z, by rw [rv.str_inv], c.val rfl hh (.str _)⟩
  | _ => exact c.elim
/-- tuple(x), list(x) -/
def gtuple1 (x : D) (h : Hd) : Res D := match x with
  | .tup ds => .ok (.tup ds) h
  | x => match lstOf x h with
    | some ds => .ok (.tup ds) h
    | none => .stuck
abbrev rTupOf (K : PySem.W.Frag) : List V → Hp → VK → Prop := fun xs H Q => ∃ p ys, xs = [.ref p] ∧ ((SqL K H p ys ∧ ∀ l, H l = none → Q (.ref l) (upd H l (.tup ys))) ∨ (SqT K H p ys ∧ Q (.ref p) H))
theorem gtuple1_of : CalD G (rTupOf G.K) (g1 gtuple1) := calD1 fun W σ S d v Q hh rv c => by
  unfold gtuple1 at c
  split at c
  · rename_i ds
    obtain ⟨a, xs, rfl, h2, h3⟩ := rv.tup_inv
    exact ⟨a, xs, rfl, .inr ⟨h2, c.val rfl hh rv⟩⟩
  · cases q : lstOf d S.h with
    | none => rw [q] at c; exact c.elim
    | some ds =>
      rw [q] at c
      obtain ⟨a, xs, rfl, h2, h3⟩ := lstOf_inv hh rv q
      exact ⟨a, xs, rfl, .inl ⟨SqL.of h2, fun p hp => c.newT rfl hh h3 hp⟩⟩
def glist1 (x : D) (h : Hd) : Res D := match seqOf x h with
  | some ds => .ok (.lst ds) h
  | none => .stuck
abbrev rLstOf (K : PySem.W.Frag) : List V → Hp → VK → Prop := fun xs H Q => ∃ p ys, xs = [.ref p] ∧ (SqL K H p ys ∨ SqT K H p ys) ∧ ∀ l, H l = none → Q (.ref l) (upd H l (.lst ys))
theorem glist1_of : CalD G (rLstOf G.K) (g1 glist1) := calD1 fun W σ S d v Q hh rv c => by
  unfold glist1 at c
  cases q : seqOf d S.h with
  | none => rw [q] at c; exact c.elim
  | some ds =>
    rw [q] at c
    obtain ⟨a, xs, rfl, h2, h3⟩ := seqOf_inv hh rv q
    exact ⟨a, xs, rfl, h2, fun p hp => c.newL rfl hh h3 hp⟩
/-- sum of ints -/
def intsOf : List D → Option (List Int)
  | [] => some []
  | .int i :: r => (intsOf r).map (i :: ·)
  | _ :: _ => none
theorem intsOf_inv {S : Sta} : ∀ {ds : List D} {vs : List V} {ns : List Int}, intsOf ds = some ns → Rl G S ds vs → vs = ns.map V.int
  | [], _, _, e, r => by
    cases r
    cases e
    rfl
  | .int i :: ds, _, _, e, r => by
    cases r with
    | cons r q =>
      have e' : (intsOf ds).map (i :: ·) = some _ := e
      cases z : intsOf ds with
      | none => rw [z] at e'; cases e'
      | some ms =>
        rw [z] at e'
        cases e'
        rw [r.int_inv, intsOf_inv z q]
        rfl
def gsum (x : D) (h : Hd) : Res D := match lstOf x h with
  | some ds => (match intsOf ds with
    | some ns => .ok (.int ns.sum) h
    | none => .stuck)
  | none => .stuck
theorem gsum_of : CalD G (rSum G.K) (g1 gsum) := calD1 fun W σ S d v Q hh rv c => by
  unfold gsum at c
  cases q : lstOf d S.h with
  | none => rw [q] at c; exact c.elim
  | some ds =>
    rw [q] at c
    obtain ⟨a, xs, rfl, h2, h3⟩ := lstOf_inv hh rv q
    have c : Cont G W σ S (match intsOf ds with
      | some ns => .ok (.int ns.sum) S.h
      | none => .stuck) Q := c
    split at c
    · rename_i ns hn
      have := intsOf_inv hn h3
      subst this
      exact ⟨a, ns, rfl, SqL.of h2, c.val rfl hh (.int _)⟩
    · exact c.elim
/-- isinstance of plain data -/
inductive Ty where
  | int | bool | str | tuple | list
def Ty.name : Ty → String
  | .int => "int"
  | .bool => "bool"
  | .str => "str"
  | .tuple => "tuple"
  | .list => "list"
def tyOf (x : D) (h : Hd) : Option String := match x with
  | .non => some "NoneType"
  | .bl _ => some "bool"
  | .int _ => some "int"
  | .str _ => some "str"
  | .tup _ => some "tuple"
  | x => match lstOf x h with
    | some _ => some "list"
    | none => none
def isTy (T : Ty) (x : D) : Bool := match T, x with
  | .int, .int _ => true
  | .int, .bl _ => true
  | .bool, .bl _ => true
  | .str, .str _ => true
  | .tuple, .tup _ => true
  | .list, .lst _ => true
  | .list, .obj _ => true
  | _, _ => false
def gisi (T : Ty) (x : D) (h : Hd) : Res D := match tyOf x h with
  | some _ => .ok (.bl (isTy T x)) h
  | none => .stuck
theorem tyOf_inv {S : Sta} {d : D} {v : V} {t : String} (hh : Rh G S) (r : Rv G S d v) (e : tyOf d S.h = some t) : TyX G.K S.H v (.type t) := by
  unfold tyOf at e
  split at e
  · cases e; rw [r.non_inv]; exact .base .non
  · cases e; rw [r.bl_inv]; exact .base (.bl _)
  · cases e; rw [r.int_inv]; exact .base (.int _)
  · cases e; rw [r.str_inv]; exact .base (.str _)
  · cases e
    cases r with
    | tup f q =>
      rcases f with f | ⟨o, its, n, h1, h2, _⟩
      · exact .base (.tup f.2)
      · exact .kTuple h1 h2
  · cases q : lstOf d S.h with
    | none => rw [q] at e; cases e
    | some ds =>
      rw [q] at e
      cases e
      obtain ⟨a, xs, rfl, h2, h3⟩ := lstOf_inv hh r q
      exact .base (.lst h2)
theorem kit_tab (T : Ty) (d : D) (h : Hd) (t : String) (e : tyOf d h = some t) : kitB t T.name = some (isTy T d) := by
  unfold tyOf at e
  split at e
  · cases e; cases T <;> first | (show kitB _ _ = some true; decide +kernel) | (show kitB _ _ = some false; decide +kernel)
  · cases e; cases T <;> first | (show kitB _ _ = some true; decide +kernel) | (show kitB _ _ = some false; decide +kernel)
  · cases e; cases T <;> first | (show kitB _ _ = some true; decide +kernel) | (show kitB _ _ = some false; decide +kernel)
  · cases e; cases T <;> first | (show kitB _ _ = some true; decide +kernel) | (show kitB _ _ = some false; decide +kernel)
  · cases e; cases T <;> first | (show kitB _ _ = some true; decide +kernel) | (show kitB _ _ = some false; decide +kernel)
  · cases d with
    | lst ds => cases e; cases T <;> first | (show kitB _ _ = some true; decide +kernel) | (show kitB _ _ = some false; decide +kernel)
    | obj i =>
      have e : (match lstOf (.obj i) h with
        | some _ => some "list"
        | none => none) = some t := e
      split at e
      · cases e; cases T <;> first | (show kitB _ _ = some true; decide +kernel) | (show kitB _ _ = some false; decide +kernel)
      · cases e
    | _ => cases e
theorem gisi_of {T : Ty} {S : Sta} {σ : L2.St} {d : D} {v : V} {Q : VK} (hh : Rh G S) (rv : Rv G S d v) (c : Cont G W σ S (gisi T d S.h) Q) : rIsi G.K [v, .ty T.name] S.H Q := by
  unfold gisi at c
  split at c
  · rename_i t e
    exact ⟨v, .ty T.name, _, _, _, rfl, .ty _, tyOf_inv hh rv e, kit_ty (kit_tab T d S.h t e), c.val rfl hh (.bl _)⟩
  · exact c.elim
theorem se_isi {T : Ty} {x y : Str} {p p2 : Pos} (hK : X.K = G.K) (hx : x = ("isinstance" : Str)) (hg : Gl X x) (hm : X.mg x = none) (hgy : Gl X y) (hmy : X.mg y = none) (hv : bootBuiltins x = some (.builtin "isinstance")) (hvy : bootBuiltins y = some (.type T.name))
    (hn : x ≠ "__name__") (hdb : (x == ("__debug__" : Str)) = false) (hny : y ≠ "__name__") (hdby : (y == ("__debug__" : Str)) = false) (he : starEach [a, .Name y p2] X.env = (false, eval a X.env) :: starEach [.Name y p2] X.env) (ha : SE X G W a fa) : SE X G W (.Call (.Name x p) [a, .Name y p2] [] pos) (fun1 (gisi T) fa) := by
  have hb : PE X (.Name y p2) (tC (.ty T.name)) := pe_bltn hgy hmy hvy rfl hny hdby
  refine PE.imp (pe_callB call_isi hg hm hv (pa_cons ha (pa_cons hb pa_nil rfl) he) hn hdb he rfl) fun σ H Q h => ?_
  obtain ⟨S, sd, e, hh, rs, c⟩ := h
  refine ⟨S, sd, e, hh, rs, (Cont.bind c).mono fun v H1 ⟨S1, d, e1, t1, hh1, rv1, c1⟩ => ?_⟩
  subst e1
  show rIsi X.K [v, .ty T.name] S1.H Q
  rw [hK]
  exact gisi_of hh1 rv1 c1

/-! ### methods of texts -/
def gupper (x : D) (h : Hd) : Res D := match x with
  | .str z => if Nat.ble z.length 5000000 then .ok (.str (Txt.upper z)) h else .stuck
  | _ => .stuck
theorem se_upper {apos : Pos} (hb : attributeBase a "upper" X.env (eval a X.env) = eval a X.env) (hl : (apos.endLine == pos.line) = true) (ha : SE X G W a fa) : SE X G W (.Call (.Attribute a "upper" apos) [] [] pos) (fun1 gupper fa) := by
  refine PE.imp (pe_upper ha hb hl) fun σ H Q h => ?_
  obtain ⟨S, sd, e, hh, rs, c⟩ := h
  refine ⟨S, sd, e, hh, rs, (Cont.bind c).mono fun v H1 ⟨S1, d, e1, t1, hh1, rv1, c1⟩ => ?_⟩
  subst e1
  cases d with
  | str z =>
    have c1 : Cont G W σ S1 (if Nat.ble z.length 5000000 then .ok (.str (Txt.upper z)) S1.h else .stuck) Q := c1
    split at c1
    · rename_i hz
      have := Nat.le_of_ble_eq_true hz
      exact ⟨⟨z, rv1.str_inv⟩, z, rv1.str_inv, rfl, by omega, c1.val rfl hh1 (.str _)⟩
    · exact c1.elim
  | _ => exact c1.elim
theorem split_is {a : Str} {c : Nat} (hc : c < 256) : (Txt.split a ⟨#[c]⟩).map V.str = (spl [c] 0 [] a.cps.toList).map fun p => V.str ⟨p.toArray⟩ := by
  have hy : tl (⟨#[c]⟩ : Str) ≠ [] := by
    intro h
    cases h
  have e := split_spl a ⟨#[c]⟩ hy (kind_ok (by simpa using hc))
  have e2 : tl (⟨#[c]⟩ : Str) = [c] := rfl
  rw [e2] at e
  rw [← e, List.map_map]
  refine List.map_congr_left fun z _ => ?_
  show V.str z = V.str ⟨(tl z).toArray⟩
  rw [mk_tl]
theorem rl_split {S : Sta} : ∀ ps : List (List Nat), Rl G S (ps.map fun p => .str ⟨p.toArray⟩) (ps.map fun p => V.str ⟨p.toArray⟩)
  | [] => .nil
  | _ :: ps => .cons (.str _) (rl_split ps)
/-- a method of a text with one argument -/
def fm1 (g : Str → D → Hd → Res D) (a b : Fe) : Fe := fun σ h => (a σ h).bind fun x h => match x with
  | .str z => (b σ h).bind fun y h => g z y h
  | _ => .stuck
theorem tE_m1 {g : Str → D → Hd → Res D} {σ : L2.St} {H : Hp} {Q : VK} (h : tE G W (fm1 g fa fb) σ H Q) :
    tE G W fa σ H fun x H1 => (∃ z, x = .str z) ∧ tE G W fb σ H1 fun y H2 => ∃ S z dy, S.H = H2 ∧ Rh G S ∧ x = .str z ∧ Rv G S dy y ∧ Cont G W σ S (g z dy S.h) Q := by
  obtain ⟨S, sd, e, hh, rs, c⟩ := h
  refine ⟨S, sd, e, hh, rs, (Cont.bind c).mono fun v H1 ⟨S1, d, e1, t1, hh1, rv1, c1⟩ => ?_⟩
  cases d with
  | str z => exact ⟨⟨z, rv1.str_inv⟩, S1, sd, e1, hh1, rs.mono t1, (Cont.bind c1).mono fun u H2 ⟨S2, d2, e2, t2, hh2, rv2, c2⟩ => ⟨S2, z, d2, e2, hh2, rv1.str_inv, rv2, c2⟩⟩
  | _ => exact c1.elim
/-- split by a sign -/
def splitD (l : List Nat) (c : Nat) : List D := (spl [c] 0 [] l).map fun p => .str ⟨p.toArray⟩
def gsplit (a : Str) (y : D) (h : Hd) : Res D := match y with
  | .str b => match signOf b with
    | some c => if Nat.blt c 256 && Nat.ble a.length 10000000 then .ok (.lst (splitD a.cps.toList c)) h else .stuck
    | none => .stuck
  | _ => .stuck
theorem se_split {apos : Pos} (hb : attributeBase a "split" X.env (eval a X.env) = eval a X.env) (hl : (apos.endLine == pos.line) = true) (hs : starEach [b] X.env = [(false, eval b X.env)]) (ha : SE X G W a fa) (hb' : SE X G W b fb) : SE X G W (.Call (.Attribute a "split" apos) [b] [] pos) (fm1 gsplit fa fb) := by
  refine PE.imp (pe_split ha hb' hs hb hl) fun σ H Q h => ?_
  refine (tE_m1 h).mono fun x H1 ⟨h1, h2⟩ => ⟨h1, h2.mono fun y H2 ⟨S, z, dy, e, hh, ex, ry, c⟩ => ?_⟩
  subst e
  unfold gsplit at c
  split at c
  · rename_i b'
    split at c
    · rename_i k hk
      split at c
      · rename_i hz
        simp only [Bool.and_eq_true] at hz
        have h256 : k < 256 := Nat.lt_of_succ_le (Nat.le_of_ble_eq_true hz.1)
        have hlen := Nat.le_of_ble_eq_true hz.2
        have := signOf_inv hk
        subst this
        refine ⟨z, ⟨#[k]⟩, ex, by rw [ry.str_inv], rfl, by rw [sizeLine_eq]; omega, fun p hp => ?_⟩
        rw [split_is h256]
        exact c.newL rfl hh (rl_split _) hp
      · exact c.elim
    · exact c.elim
  · exact c.elim
/-- join -/
def strsOf : List D → Option (List Str)
  | [] => some []
  | .str i :: r => (strsOf r).map (i :: ·)
  | _ :: _ => none
theorem strsOf_inv {S : Sta} : ∀ {ds : List D} {vs : List V} {ns : List Str}, strsOf ds = some ns → Rl G S ds vs → vs = ns.map V.str
  | [], _, _, e, r => by
    cases r
    cases e
    rfl
  | .str i :: ds, _, _, e, r => by
    cases r with
    | cons r q =>
      have e' : (strsOf ds).map (i :: ·) = some _ := e
      cases z : strsOf ds with
      | none => rw [z] at e'; cases e'
      | some ms =>
        rw [z] at e'
        cases e'
        rw [r.str_inv, strsOf_inv z q]
        rfl
def joinS (a : Str) (ys : List Str) : Str := ⟨(joinL a.cps.toList (ys.map fun y => y.cps.toList)).toArray⟩
def lens : List Str → Nat
  | [] => 0
  | x :: r => x.length + lens r
theorem lens_eq : ∀ ys : List Str, lens ys = (ys.map (·.length)).sum
  | [] => rfl
  | x :: r => by rw [lens, lens_eq r]; rfl
def gjoin (a : Str) (y : D) (h : Hd) : Res D := match lstOf y h with
  | some ds => (match strsOf ds with
    | some ys => if small (lens ys + ys.length * a.length) then .ok (.str (joinS a ys)) h else .stuck
    | none => .stuck)
  | none => .stuck
theorem join_is (a : Str) (ys : List Str) : Txt.join a ys = joinS a ys := by
  refine ext_tl ?_
  rw [join_eq, tl_join]
  rfl
theorem se_join {apos : Pos} (hb : attributeBase a "join" X.env (eval a X.env) = eval a X.env) (hl : (apos.endLine == pos.line) = true) (hs : starEach [b] X.env = [(false, eval b X.env)]) (hK : X.K = G.K) (ha : SE X G W a fa) (hb' : SE X G W b fb) : SE X G W (.Call (.Attribute a "join" apos) [b] [] pos) (fm1 gjoin fa fb) := by
  refine PE.imp (pe_join ha hb' hs hb hl) fun σ H Q h => ?_
  refine (tE_m1 h).mono fun x H1 ⟨h1, h2⟩ => ⟨h1, h2.mono fun y H2 ⟨S, z, dy, e, hh, ex, ry, c⟩ => ?_⟩
  subst e
  unfold gjoin at c
  split at c
  · rename_i ds hds
    split at c
    · rename_i ys hys
      split at c
      · rename_i hz
        obtain ⟨p, xs, rfl, h2, h3⟩ := lstOf_inv hh ry hds
        have := strsOf_inv hys h3
        subst this
        have hz' := Nat.le_of_ble_eq_true hz
        rw [lens_eq] at hz'
        refine ⟨z, p, ys, ex, rfl, .inl (SqL.of h2), hz', ?_⟩
        rw [join_is]
        exact c.val rfl hh (.str _)
      · exact c.elim
    · exact c.elim
  · exact c.elim
end

/-! text Hot1.lean -/
/-! Pf, Hot1: what is walked while an exception is handled -/
open PySem PySem.Spec L2 TL PyProof.Rows HotX
section
variable {prog : Program} {w : World} {A : Around} {E : Value → Shared → Prop} {s : Shared} {x1 : Addr}
/-- StopIteration is made and raised -/
theorem stopH {α : Type} {Q : α → Shared → Prop} (hot : HotAt A x1 s.heap) (K : ∀ (h' : Heap) (e : Addr), (∀ b o, s.heap.get? b = some o → h'.get? b = some o) → (∃ o, h'.get? e = some o ∧ o.cls = .type "StopIteration") → E (.ref e) { s with heap := h' }) :
    wpAny (model prog w) A (newExc (.type "StopIteration") [] >>= fun e => (raiseNew e : Sem α)) Q E s := by
  obtain ⟨hd, ox, vx, g1, g2, g3⟩ := hot
  refine wpAny_bind ?_
  simp only [newExc, newTuple]
  refine wpAny_bind (wpAny_newObj_type ?_ (by size_fits)); refine wpAny_bind (m := firstArgMember _ _) (wpAny_of_eq (a := Value.none) (by first | rfl | (simp only [firstArgMember]; rfl)) ?_)
  refine wpAny_newObj_type ?_ (by size_fits)
  refine raiseNew_hot (x1 := x1) ⟨hd, ox, vx, Heap.get?_push_of_some _ (Heap.get?_push_of_some _ g1), g2, g3⟩ (Nat.ne_of_lt (Heap.lt_size (Heap.get?_push_of_some _ g1))) (Heap.get?_push_size _ rfl) rfl (by first | (simp; done) | (simp; omega) | (simp only [Array.size_append]; simp; omega)) ?_
  refine K _ _ (fun b o e => ?_) ⟨_, Heap.get?_update_self _ (Heap.get?_push_size _ rfl) rfl, rfl⟩
  rw [Heap.get?_update_other _ _ (Nat.ne_of_gt (Heap.lt_size (Heap.get?_push_of_some _ e)))]
  exact Heap.get?_push_of_some _ (Heap.get?_push_of_some _ e)
theorem HotAt.up {h h' : Heap} (c : HotAt A x1 h) (k : ∀ o vs, h.get? x1 = some o → o.data = .fields vs → h'.get? x1 = some o) : HotAt A x1 h' := by
  obtain ⟨hd, o, vs, g1, g2, g3⟩ := c
  exact ⟨hd, o, vs, k o vs g1 g2, g2, g3⟩
/-- next of a list's iterator, at the end -/
theorem listEndH {it l : Addr} {i : Nat} {its : Array Value} {Q : Option Value → Shared → Prop} (hot : HotAt A x1 s.heap) (ne : x1 ≠ it) (h1 : s.heap.IsListIter it l i) (h2 : s.heap.IsList l its) (h3 : its[i]? = none)
    (K : ∀ h', Heap.ExtBut it s.heap h' → Q none { s with heap := h' }) : wpAny (model prog w) A (pyNext (.ref it)) Q E s := by
  obtain ⟨oi, g1, g2, g3⟩ := id h1; obtain ⟨ol, g4, _, nl, g5⟩ := h2
  unfold pyNext
  refine wpAny_bind (wpAny_attempt (wpAny_callSpecial?_slot (name := Str.ofString "__next__") h1.typeIs slot_listiter_next (wpAny_call_entry slot_listiter_next h1.typeIs entry_listiter_next ?_ (args_listiter_next _))))
  show wpAny _ _ (field (.ref it) 0 >>= _) _ _ s; refine wpAny_bind (wpAny_field g1 g3 (x := .ref l) rfl ?_)
  show wpAny _ _ (if (Value.ref l == Value.none) = true then _ else _) _ _ s; rw [if_neg (show ¬ ((Value.ref l == Value.none) = true) from Bool.false_ne_true)]
  show wpAny _ _ (field (.ref it) 1 >>= _) _ _ s; refine wpAny_bind (wpAny_field g1 g3 (x := .int i 0) rfl ?_)
  show wpAny _ _ (seqItems? (.ref l) >>= _) _ _ s; refine wpAny_bind (wpAny_seqItems g4 g5 ?_); simp only [Int.toNat_natCast, h3]
  refine wpAny_bind (wpAny_rule (wpAny_bind (wpAny_setField g1 g3 (by simp) ?_)))
  refine stopH (x1 := x1) (HotAt.up hot fun o vs e _ => by rw [Heap.get?_update_other _ _ (Ne.symm ne)]; exact e) fun h' e k oe => ?_
  obtain ⟨oe, q1, q2⟩ := oe
  refine wpAny_bind (wpAny_isInstance (T := "StopIteration") (b := true) ⟨oe, q1, q2⟩ isSubtype_stop ?_)
  exact wpAny_pure (K _ fun b o hb e => k b o (by rw [Heap.get?_update_other _ _ (Ne.symm hb)]; exact e))
theorem tupEndH {it l : Addr} {i : Nat} {its : Array Value} {Q : Option Value → Shared → Prop} (hot : HotAt A x1 s.heap) (ne : x1 ≠ it) (h1 : s.heap.IsTupleIter it l i) (h2 : s.heap.IsTuple l its) (h3 : its[i]? = none)
    (K : ∀ h', Heap.ExtBut it s.heap h' → Q none { s with heap := h' }) : wpAny (model prog w) A (pyNext (.ref it)) Q E s := by
  obtain ⟨oi, g1, g2, g3⟩ := id h1; obtain ⟨ol, g4, _, nl, g5⟩ := h2
  unfold pyNext
  refine wpAny_bind (wpAny_attempt (wpAny_callSpecial?_slot (name := Str.ofString "__next__") h1.typeIs F.slot_tuple_iterator_next (wpAny_call_entry F.slot_tuple_iterator_next h1.typeIs F.entry_tuple_iterator_next ?_ (F.args_tuple_iterator_next_1 _))))
  show wpAny _ _ (field (.ref it) 0 >>= _) _ _ s; refine wpAny_bind (wpAny_field g1 g3 (x := .ref l) rfl ?_)
  show wpAny _ _ (if (Value.ref l == Value.none) = true then _ else _) _ _ s; rw [if_neg (show ¬ ((Value.ref l == Value.none) = true) from Bool.false_ne_true)]
  show wpAny _ _ (field (.ref it) 1 >>= _) _ _ s; refine wpAny_bind (wpAny_field g1 g3 (x := .int i 0) rfl ?_)
  show wpAny _ _ (seqItems? (.ref l) >>= _) _ _ s; refine wpAny_bind (wpAny_seqItems g4 g5 ?_); simp only [Int.toNat_natCast, h3]
  refine wpAny_bind (wpAny_rule (wpAny_bind (wpAny_setField g1 g3 (by simp) ?_)))
  refine stopH (x1 := x1) (HotAt.up hot fun o vs e _ => by rw [Heap.get?_update_other _ _ (Ne.symm ne)]; exact e) fun h' e k oe => ?_
  obtain ⟨oe, q1, q2⟩ := oe
  refine wpAny_bind (wpAny_isInstance (T := "StopIteration") (b := true) ⟨oe, q1, q2⟩ isSubtype_stop ?_)
  exact wpAny_pure (K _ fun b o hb e => k b o (by rw [Heap.get?_update_other _ _ (Ne.symm hb)]; exact e))
/-- the same within another iterator -/
theorem nextEndH {it l : Addr} {i : Nat} {its : Array Value} {Q : Value → Shared → Prop} (hot : HotAt A x1 s.heap) (ne : x1 ≠ it) (h1 : s.heap.IsListIter it l i) (h2 : s.heap.IsList l its) (h3 : its[i]? = none)
    (K : ∀ h' e, Heap.ExtBut it s.heap h' → (∃ o, h'.get? e = some o ∧ o.cls = .type "StopIteration") → E (.ref e) { s with heap := h' }) : wpAny (model prog w) A (Builtin.SmallTypes.nextOf (.ref it)) Q E s := by
  obtain ⟨oi, g1, g2, g3⟩ := id h1; obtain ⟨ol, g4, _, nl, g5⟩ := h2
  unfold Builtin.SmallTypes.nextOf
  refine wpAny_bind (wpAny_callSpecial?_slot (name := Str.ofString "__next__") h1.typeIs slot_listiter_next (wpAny_call_entry slot_listiter_next h1.typeIs entry_listiter_next ?_ (args_listiter_next _)))
  show wpAny _ _ (field (.ref it) 0 >>= _) _ _ s; refine wpAny_bind (wpAny_field g1 g3 (x := .ref l) rfl ?_)
  show wpAny _ _ (if (Value.ref l == Value.none) = true then _ else _) _ _ s; rw [if_neg (show ¬ ((Value.ref l == Value.none) = true) from Bool.false_ne_true)]
  show wpAny _ _ (field (.ref it) 1 >>= _) _ _ s; refine wpAny_bind (wpAny_field g1 g3 (x := .int i 0) rfl ?_)
  show wpAny _ _ (seqItems? (.ref l) >>= _) _ _ s; refine wpAny_bind (wpAny_seqItems g4 g5 ?_); simp only [Int.toNat_natCast, h3]
  refine wpAny_bind (wpAny_rule (wpAny_bind (wpAny_setField g1 g3 (by simp) ?_)))
  refine stopH (x1 := x1) (HotAt.up hot fun o vs e _ => by rw [Heap.get?_update_other _ _ (Ne.symm ne)]; exact e) fun h' e k oe => ?_
  exact K _ _ (fun b o hb e => k b o (by rw [Heap.get?_update_other _ _ (Ne.symm hb)]; exact e)) oe
/-- next of a zip of two lists, at the end -/
theorem zipStopH {z TI TO i1 i2 l1 l2 : Addr} {k1 k2 : Nat} {xs ys : Array Value} {a b : Value} {Q : Fin → Shared → Prop} (hot : HotAt A x1 s.heap) (nz : x1 ≠ z) (nT : x1 ≠ TO) (n1 : x1 ≠ i1) (n2 : x1 ≠ i2) (D : ZipApart z TI TO i1 i2 l1 l2) (hz : IsZip s.heap z TI TO .none)
    (hTI : IsPair s.heap TI (.ref i1) (.ref i2)) (hTO : IsPair s.heap TO a b) (h1 : s.heap.IsListIter i1 l1 k1) (h2 : s.heap.IsListIter i2 l2 k2) (hl1 : s.heap.IsList l1 xs) (hl2 : s.heap.IsList l2 ys) (he : xs[k1]? = none ∨ ys[k2]? = none)
    (K : ∀ h' e, (∀ c o, c ≠ z → c ≠ TO → c ≠ i1 → c ≠ i2 → s.heap.get? c = some o → h'.get? c = some o) → (∃ o, h'.get? e = some o ∧ o.cls = .type "StopIteration") → E (.ref e) { s with heap := h' }) : wpAny (model prog w) A (Builtin.«zip.__next__» ⟨[.ref z], []⟩) Q E s := by
  show wpAny _ _ (field (.ref z) 2 >>= _) _ _ _; refine wpAny_bind (wpAny_field hz rfl (x := .bool false) rfl ?_)
  show wpAny _ _ (field (.ref z) 3 >>= _) _ _ _; refine wpAny_bind (wpAny_field hz rfl (x := .ref TI) rfl ?_)
  refine wpAny_bind (wpAny_seqItems hTI rfl ?_); show wpAny _ _ (Builtin.SmallTypes.ownedTupleIsFree (.ref z) >>= _) _ _ _
  refine wpAny_bind ?_; unfold Builtin.SmallTypes.ownedTupleIsFree
  refine wpAny_bind (wpAny_field hz rfl (x := .none) rfl (wpAny_pure ?_)); simp only [if_true]
  refine wpAny_bind (wpAny_rule ?_); refine wpAny_bind (wpAny_field hz rfl (x := .ref TO) rfl ?_)
  refine wpAny_bind (wpAny_setField_rec hz (by simp) fun g1 z1 s1 => ?_); have z1 : IsZip g1 z TI TO .ellipsis := z1
  refine wpAny_bind ?_; simp only [List.zipIdx_cons, List.zipIdx_nil, List.forIn_cons, List.forIn_nil]
  refine wpAny_bind (wpAny_bind (wpAny_onRaise ?_)); show wpAny _ _ (Builtin.SmallTypes.nextOf (.ref i1) >>= _) _ _ _
  have hot1 : HotAt A x1 g1 := HotAt.up hot fun o vs e _ => s1.extBut _ _ nz e
  have dead : ∀ {oe : Obj} {hh : Heap} {e : Addr}, hh.get? e = some oe → oe.cls = .type "StopIteration" → IsZip hh z TI TO .ellipsis → e ≠ z := fun q c hz x => by subst x; rw [hz] at q; cases q; simp at c
  cases hx : xs[k1]? with
  | none =>
    refine wpAny_bind (nextEndH (x1 := x1) hot1 n1 (h1.extBut s1.extBut D.i1z) (hl1.extBut s1.extBut D.l1z) hx fun g2 e s2 he => ?_)
    obtain ⟨oe, q1, q2⟩ := he
    have z2 : IsZip g2 z TI TO .ellipsis := s2 _ _ D.i1z.symm z1
    refine wpAny_setField_rec z2 (by simp) fun g3 _ s3 => K g3 e (fun c o c1 _ c3 _ x => s3.extBut _ _ c1 (s2 _ _ c3 (s1.extBut _ _ c1 x))) ⟨oe, s3.extBut _ _ (dead q1 q2 z2) q1, q2⟩
  | some x =>
    have hy : ys[k2]? = none := by rcases he with h | h; (rw [hx] at h; cases h); exact h
    refine wpAny_bind (wpAny_nextOf_list_item (h1.extBut s1.extBut D.i1z) (hl1.extBut s1.extBut D.l1z) hx fun g2 j1 s2 => wpAny_pure ?_)
    have t2 : IsPair g2 TO a b := s2.extBut _ _ D.TOi1 (s1.extBut _ _ D.TOz hTO)
    refine wpAny_bind (wpAny_seqItems t2 rfl ?_); refine wpAny_bind (wpAny_updateSeq_pair t2 fun g3 t3 s3 => ?_)
    refine wpAny_bind (wpAny_letGo (wpAny_pure ?_)); refine wpAny_bind (wpAny_bind (wpAny_onRaise ?_))
    show wpAny _ _ (Builtin.SmallTypes.nextOf (.ref i2) >>= _) _ _ _
    have hot3 : HotAt A x1 g3 := HotAt.up hot1 fun o vs e _ => s3.extBut _ _ nT (s2.extBut _ _ n1 e)
    refine wpAny_bind (nextEndH (x1 := x1) hot3 n2 (((h2.extBut s1.extBut D.i2z).extBut s2.extBut D.i12.symm).extBut s3.extBut D.TOi2.symm) (((hl2.extBut s1.extBut D.l2z).extBut s2.extBut D.l2i1).extBut s3.extBut D.l2TO) hy fun g4 e s4 he => ?_)
    obtain ⟨oe, q1, q2⟩ := he
    have z4 : IsZip g4 z TI TO .ellipsis := s4 _ _ D.i2z.symm (s3.extBut _ _ D.TOz.symm (s2.extBut _ _ D.i1z.symm z1))
    refine wpAny_setField_rec z4 (by simp) fun g5 _ s5 => K g5 e (fun c o c1 c2 c3 c4 x => s5.extBut _ _ c1 (s4 _ _ c4 (s3.extBut _ _ c2 (s2.extBut _ _ c3 (s1.extBut _ _ c1 x))))) ⟨oe, s5.extBut _ _ (dead q1 q2 z4) q1, q2⟩
theorem zipEndH {z TI TO i1 i2 l1 l2 : Addr} {k1 k2 : Nat} {xs ys : Array Value} {a b : Value} {Q : Option Value → Shared → Prop} (hot : HotAt A x1 s.heap) (nz : x1 ≠ z) (nT : x1 ≠ TO) (n1 : x1 ≠ i1) (n2 : x1 ≠ i2) (D : ZipApart z TI TO i1 i2 l1 l2) (hz : IsZip s.heap z TI TO .none)
    (hTI : IsPair s.heap TI (.ref i1) (.ref i2)) (hTO : IsPair s.heap TO a b) (h1 : s.heap.IsListIter i1 l1 k1) (h2 : s.heap.IsListIter i2 l2 k2) (hl1 : s.heap.IsList l1 xs) (hl2 : s.heap.IsList l2 ys) (he : xs[k1]? = none ∨ ys[k2]? = none)
    (K : ∀ h', (∀ c o, c ≠ z → c ≠ TO → c ≠ i1 → c ≠ i2 → s.heap.get? c = some o → h'.get? c = some o) → Q none { s with heap := h' }) : wpAny (model prog w) A (pyNext (.ref z)) Q E s := by
  have ty : s.TypeIs (.ref z) "zip" := ⟨_, hz, rfl⟩
  unfold pyNext
  refine wpAny_bind (wpAny_attempt (wpAny_callSpecial?_slot (name := Str.ofString "__next__") ty F.slot_zip_next (wpAny_call_entry F.slot_zip_next ty F.entry_zip_next (zipStopH (x1 := x1) hot nz nT n1 n2 D hz hTI hTO h1 h2 hl1 hl2 he fun h' e hk hs => ?_) (F.args_zip_next_1 _))))
  obtain ⟨o, g1, g2⟩ := hs
  refine wpAny_bind (wpAny_isInstance (T := "StopIteration") (b := true) ⟨o, g1, g2⟩ isSubtype_stop ?_)
  exact wpAny_pure (K _ hk)
end
/-! ### turns -/
section
variable {P : Program} {w : World} {K : PySem.W.Frag} {tg : Expr}
/-- the exception that is handled, apart from what is walked -/
theorem HotC.apart {X : Cx} {pins : List (Addr × Obj)} {σ : L2.St} {H : Hp} {s : Shared} {fp : List Addr} (c : L2H.HotC X) (I : Inv X pins σ H s) (hf : ∀ b ∈ fp, FpOk X pins H b) : ∃ x1, HotAt X.A x1 s.heap ∧ ∀ b ∈ fp, x1 ≠ b := by
  obtain ⟨p, ⟨hh, v1, e1, c1⟩, hp⟩ := c
  exact ⟨p.1, ⟨hh, p.2, v1, (I.pin p (List.mem_append_left _ hp)).1, e1, c1⟩, fun b hb => (hf b hb).2.2.2.2.2 p (List.mem_append_left _ hp)⟩
theorem tListH (a it : Addr) : L2H.TurnH P w K tg (Itl K a) [it] it (fun i h => h.IsListIter it a i) where
  mem := List.mem_cons_self
  obj := fun i h st => (turn_list (P := P) (w := w) (K := K) (tg := tg) a it).obj i h st
  keep := fun i h h' => (turn_list (P := P) (w := w) (K := K) (tg := tg) a it).keep i h h'
  item := by
    intro X hP hw hK hc i pins s σ H E I hf st ⟨xs, x, hq, hx⟩
    subst hP hw hK
    obtain ⟨its, rv, p, hz⟩ := I.list hq; obtain ⟨u, hu, ru⟩ := rv.get hx; obtain ⟨f0, f1, f2, f3, f4, f5⟩ := hf it (by simp)
    refine wpAny_pyNext_list_item st p.isList (x := u) (by simpa using hu) fun h' st' sb => ?_
    obtain ⟨o, e, c, d⟩ := id st'; have I1 : Inv X pins σ H { s with heap := h' } := I.turned (t' := s.toks) (fun b o hb e => (sb.2 b hb).trans e) f0 f1 f3 f4 f5
    exact ⟨u, rfl, go_of (s := { s with heap := h' }) e c d (by decide) ⟨x, H, I1, ru, ⟨rfl, fun ys hy => (I.list_inj hy hq) ▸ hx⟩, st', fun b hb => (hf b hb).1⟩⟩
  done := by
    intro X hP hw hK hc i pins s σ H E I hf st ⟨xs, hq, hx⟩
    subst hP hw hK
    obtain ⟨its, rv, p, hz⟩ := I.list hq; obtain ⟨f0, f1, f2, f3, f4, f5⟩ := hf it (by simp); have hl := rv.length
    obtain ⟨x1, hot, ne⟩ := HotC.apart hc I hf
    exact listEndH hot (ne it (by simp)) st p.isList (by simp; omega) fun h' eb => ⟨rfl, I.turned (t' := s.toks) (fun b o hb e => eb b o hb e) f0 f1 f3 f4 f5⟩
  self := fun _ _ _ _ _ st h => wpAny_pyIter_listiter st h
theorem tTupH (a it : Addr) : L2H.TurnH P w K tg (Itt K a) [it] it (fun i h => h.IsTupleIter it a i) where
  mem := List.mem_cons_self
  obj := fun i h st => (turn_tuple (P := P) (w := w) (K := K) (tg := tg) a it).obj i h st
  keep := fun i h h' => (turn_tuple (P := P) (w := w) (K := K) (tg := tg) a it).keep i h h'
  item := by
    intro X hP hw hK hc i pins s σ H E I hf st ⟨xs, x, hq, hx⟩
    subst hP hw hK
    obtain ⟨its, rv, p, hz⟩ := I.tuple hq; obtain ⟨u, hu, ru⟩ := rv.get hx; obtain ⟨f0, f1, f2, f3, f4, f5⟩ := hf it (by simp)
    refine wpAny_pyNext_tuple_item st (show s.heap.IsTuple a its.toArray from p) (x := u) (by simpa using hu) fun h' st' sb => ?_
    obtain ⟨o, e, c, d⟩ := id st'; have I1 : Inv X pins σ H { s with heap := h' } := I.turned (t' := s.toks) (fun b o hb e => (sb.2 b hb).trans e) f0 f1 f3 f4 f5
    exact ⟨u, rfl, go_of (s := { s with heap := h' }) e c d (by decide) ⟨x, H, I1, ru, ⟨rfl, fun ys hy => (I.tuple_inj hy hq) ▸ hx⟩, st', fun b hb => (hf b hb).1⟩⟩
  done := by
    intro X hP hw hK hc i pins s σ H E I hf st ⟨xs, hq, hx⟩
    subst hP hw hK
    obtain ⟨its, rv, p, hz⟩ := I.tuple hq; obtain ⟨f0, f1, f2, f3, f4, f5⟩ := hf it (by simp); have hl := rv.length
    obtain ⟨x1, hot, ne⟩ := HotC.apart hc I hf
    exact tupEndH hot (ne it (by simp)) st (show s.heap.IsTuple a its.toArray from p) (by simp; omega) fun h' eb => ⟨rfl, I.turned (t' := s.toks) (fun b o hb e => eb b o hb e) f0 f1 f3 f4 f5⟩
  self := fun _ _ _ _ _ st h => wpAny_pyIter_tupleiter st h
theorem tZipH {elts : List Expr} {kk : Nat} {tpos : Pos} {a b z TI TO i1 i2 : Addr} (D : ZipApart z TI TO i1 i2 a b) :
    L2H.TurnH P w K (.Tuple elts kk tpos) (Itz K a b) [z, TI, TO, i1, i2] z (fun i h => IsZip h z TI TO .none ∧ IsPair h TI (.ref i1) (.ref i2) ∧ (∃ x y, IsPair h TO x y) ∧ h.IsListIter i1 a i ∧ h.IsListIter i2 b i) where
  mem := List.mem_cons_self
  obj := fun i h st => (turn_zip (P := P) (w := w) (K := K) (elts := elts) (kk := kk) (tpos := tpos) D).obj i h st
  keep := fun i h h' => (turn_zip (P := P) (w := w) (K := K) (elts := elts) (kk := kk) (tpos := tpos) D).keep i h h'
  item := by
    intro X hP hw hK hc i pins s σ H E I hf ⟨hz, hTI, ⟨x0, y0, hTO⟩, h1, h2⟩ ⟨xs, ys, x, y, hqx, hqy, hx, hy⟩
    subst hP hw hK
    obtain ⟨its, rv, p, _⟩ := I.list hqx; obtain ⟨jts, rv2, p2, _⟩ := I.list hqy; obtain ⟨u, hu, ru⟩ := rv.get hx; obtain ⟨u2, hu2, ru2⟩ := rv2.get hy
    have hzl : z < s.heap.objs.size := Heap.lt_size hz
    refine wpAny_pyNext_zip_item D hz hTI hTO h1 h2 p.isList p2.isList (x := u) (y := u2) (by simpa using hu) (by simpa using hu2) fun h' z' TO' h1' h2' hT hsz hk => ?_
    refine ⟨_, rfl, wpAny_letOwnedTupleGo_zip (s := { s with heap := h' }) z' fun h'' z'' sb => ?_⟩
    have hT2 : h''.get? s.heap.objs.size = some { cls := .type "tuple", data := .seq #[u, u2] } := (sb.2 _ (Nat.ne_of_gt hzl)).trans hT
    have new : ObjOk X.prog X.w (upd H s.heap.objs.size (.tup [x, y])) h'' s.heap.objs.size (.tup [x, y]) := ⟨by show 2 ≤ sizeLine; decide, [u, u2], .cons ru (.cons ru2 .nil), ⟨_, hT2, rfl, _, rfl⟩⟩
    have off : ∀ c : Addr, c ∉ [z, TI, TO, i1, i2] → c ≠ z ∧ c ≠ TO ∧ c ≠ i1 ∧ c ≠ i2 := fun c hb => ⟨fun q => hb (by simp [q]), fun q => hb (by simp [q]), fun q => hb (by simp [q]), fun q => hb (by simp [q])⟩
    have I1 : Inv X pins σ (upd H s.heap.objs.size (.tup [x, y])) { s with heap := h'' } := by
      refine I.turnedNew (t' := s.toks) (ch := [z, TI, TO, i1, i2]) (fun c o hb q => ?_) hf (Nat.le_refl _) new
      have n := off c hb
      exact (sb.2 c n.1).trans (hk c o n.1 n.2.1 n.2.2.1 n.2.2.2 q)
    refine ⟨.ref s.heap.objs.size, _, I1, rfl, ⟨_, x, y, rfl, I.hok.fresh (Nat.le_refl _), rfl, fun l hl => (I.list_inj hl hqx) ▸ hx, fun l hl => (I.list_inj hl hqy) ▸ hy⟩, ⟨z'', (sb.2 _ D.TIz).trans (hk _ _ D.TIz D.TITO D.TIi1 D.TIi2 hTI), ⟨u, u2, (sb.2 _ D.TOz).trans TO'⟩, h1'.at fun o q => (sb.2 _ D.i1z).trans q, h2'.at fun o q => (sb.2 _ D.i2z).trans q⟩, fun c hcm => ?_⟩
    obtain ⟨o, e, _⟩ := (turn_zip (P := X.prog) (w := X.w) (K := X.K) (elts := elts) (kk := kk) (tpos := tpos) D).obj i s.heap ⟨hz, hTI, ⟨x0, y0, hTO⟩, h1, h2⟩ c hcm
    rw [upd_ne (Nat.ne_of_lt (Heap.lt_size e))]
    exact (hf c hcm).1
  done := by
    intro X hP hw hK hc i pins s σ H E I hf ⟨hz, hTI, ⟨x0, y0, hTO⟩, h1, h2⟩ ⟨xs, ys, hqx, hqy, hend⟩
    subst hP hw hK
    obtain ⟨its, rv, p, _⟩ := I.list hqx; obtain ⟨jts, rv2, p2, _⟩ := I.list hqy; have l1 := rv.length; have l2 := rv2.length
    have he : its.toArray[i]? = none ∨ jts.toArray[i]? = none := hend.imp (fun q => by simp; omega) fun q => by simp; omega
    obtain ⟨x1, hot, ne⟩ := HotC.apart hc I hf
    refine zipEndH hot (ne z (by simp)) (ne TO (by simp)) (ne i1 (by simp)) (ne i2 (by simp)) D hz hTI hTO h1 h2 p.isList p2.isList he fun h' hk => ⟨rfl, I.turnedL (t' := s.toks) (ch := [z, TI, TO, i1, i2]) (fun c o hb q => ?_) hf⟩
    have n : c ≠ z ∧ c ≠ TO ∧ c ≠ i1 ∧ c ≠ i2 := ⟨fun q => hb (by simp [q]), fun q => hb (by simp [q]), fun q => hb (by simp [q]), fun q => hb (by simp [q])⟩
    exact hk c o n.1 n.2.1 n.2.2.1 n.2.2.2 q
  self := fun A i s Q E st h => wpAny_pyIter_zip st.1 h
end

/-! text Hot2.lean -/
set_option maxHeartbeats 4000000
/-! Pf, Hot2: comprehensions while an exception is handled -/
open PySem PySem.Spec L2 TL PyProof.Rows HotX
/-! ### what is walked -/
section
variable {X : Cx} {tg : Expr}
theorem pi_listH {l : Expr} {tl : TE} (hl : PE X l tl) : L2H.PIH X tg l (iList X.K tl) := by
  refine ⟨fun pins s σ H R I h => thn (hl.run pins s σ H _ I h) fun v s1 ⟨x, H1, I1, r1, a, e, ⟨xs, hq⟩, q⟩ => ?_⟩
  subst e; cases r1
  obtain ⟨its, rv, p, hz⟩ := I1.list hq
  refine wpAny_pyIter_list p.isList ⟨s1.heap.objs.size, [s1.heap.objs.size], _, _, H1, rfl, I1.kept (t' := s1.toks) fun b o e => Heap.get?_push_of_some _ e, tListH a _, ⟨_, Heap.get?_push_size _ rfl, rfl, rfl⟩, fun b hb => ?_, q⟩
  rw [List.mem_singleton.mp hb]
  exact I1.fpOk (Nat.le_refl _) (I1.hok.fresh (Nat.le_refl _))
theorem pi_tupH {l : Expr} {tl : TE} (hl : PE X l tl) : L2H.PIH X tg l (iTup X.K tl) := by
  refine ⟨fun pins s σ H R I h => thn (hl.run pins s σ H _ I h) fun v s1 ⟨x, H1, I1, r1, a, e, ⟨xs, hq⟩, q⟩ => ?_⟩
  subst e; cases r1
  obtain ⟨its, rv, p, hz⟩ := I1.tuple hq
  refine wpAny_pyIter_tuple (show s1.heap.IsTuple a its.toArray from p) ⟨s1.heap.objs.size, [s1.heap.objs.size], _, _, H1, rfl, I1.kept (t' := s1.toks) fun b o e => Heap.get?_push_of_some _ e, tTupH a _, ⟨_, Heap.get?_push_size _ rfl, rfl, rfl⟩, fun b hb => ?_, q⟩
  rw [List.mem_singleton.mp hb]
  exact I1.fpOk (Nat.le_refl _) (I1.hok.fresh (Nat.le_refl _))
theorem pi_zipH {e e2 : Expr} {ta : TA} {p pos tpos : Pos} {elts : List Expr} {kk : Nat} (hg : Gl X "zip") (hm : X.mg "zip" = none) (ha : PA X [e, e2] ta) (hs : starEach [e, e2] X.env = (false, eval e X.env) :: starEach [e2] X.env) (hpl : (backTo pos (starEach [e2] X.env)).any (·.1) = false) :
    L2H.PIH X (.Tuple elts kk tpos) (.Call (.Name "zip" p) [e, e2] [] pos) (iZip X.K ta) := by
  refine ⟨fun pins s σ H R I h => Call_ (ld_blt I hg hm PyProof.Rows.boot_zip (PyProof.Rows.callWith_type1 (thn (ha.run pos pins s σ H _ I h) fun us s1 ⟨vs, H1, I1, r1, a, b, xs, ys, ex, hqx, hqy, q⟩ => ?_) hs hpl))⟩
  subst ex
  cases r1 with
  | cons r rr =>
    cases rr with
    | cons r' rr =>
      cases rr; cases r; cases r'
      obtain ⟨its, rv, p1, _⟩ := I1.list hqx; obtain ⟨jts, rv2, p2, _⟩ := I1.list hqy
      have la : a < s1.heap.objs.size := p1.lt
      have lb : b < s1.heap.objs.size := p2.lt
      refine call_zip_2 p1.isList p2.isList fun h' hz hTI hTO h1 h2 hsz hk => wpAny_pyIter_zip hz ?_
      have I2 : Inv X pins σ H1 { s1 with heap := h' } := I1.kept (t' := s1.toks) hk
      refine ⟨s1.heap.objs.size + 4, [s1.heap.objs.size + 4, s1.heap.objs.size + 2, s1.heap.objs.size + 3, s1.heap.objs.size, s1.heap.objs.size + 1], _, _, H1, rfl, I2, tZipH (PySem.W.ktu_apart s1.heap.objs.size a b la lb), ⟨hz, hTI, ⟨_, _, hTO⟩, h1, h2⟩, fun c hcm => ?_, q⟩
      have hle : s1.heap.objs.size ≤ c := by
        have e' : c = s1.heap.objs.size + 4 ∨ c = s1.heap.objs.size + 2 ∨ c = s1.heap.objs.size + 3 ∨ c = s1.heap.objs.size ∨ c = s1.heap.objs.size + 1 := by simpa using hcm
        rcases e' with z | z | z | z | z <;> rw [z] <;> first | exact Nat.le_refl _ | exact Nat.le_add_right _ _
      exact I1.fpOk hle (I1.hok.fresh hle)
end
/-! ### a block -/
/-- the context of a block, the handled exception pinned -/
abbrev blkH (X : Cx) (s : Shared) (H : Hp) (scope : Scope) (cenv : Env) (fp : List Addr) (p : Addr × Obj) : Cx := { X.blk s H scope cenv fp with pn := [p] }
section
variable {X : Cx} {pins : List (Addr × Obj)} {σ : L2.St} {H : Hp} {s : Shared}
theorem blkH_start {scope : Scope} {own : List (Str × Nat)} {fp : List Addr} {p : Addr × Obj} (I : Inv X pins σ H s) (hp : p ∈ X.pn) (ok : BlkOk X.N X.env.scope scope own) (hN : X.N.Nodup) (hfp : ∀ b ∈ fp, FpOk X pins H b ∧ b < s.heap.objs.size) :
    Inv (blkH X s H scope (compEnvC scope (cellsFrom (s.heap.objs.size + 1) scope.names (cloFrom X.env.cells scope.names [])) s.heap.objs.size X.env) fp p) [] (wipe σ (own.map (·.2))) H { s with heap := pushCells (s.heap.push { cls := .type "dict", data := .dict #[] }) scope.names } := by
  have B := block_start I ok hN hfp
  obtain ⟨p1, p2, p3, p4, p5⟩ := I.pin p (List.mem_append_left _ hp)
  refine ⟨⟨B.ok.mod, B.ok.kind, B.ok.glob, B.ok.blt, B.ok.above, B.ok.inj, B.ok.has, B.ok.cab, B.ok.hd, B.ok.frames, B.ok.stk, B.ok.exf, B.ok.bs, B.ok.bsz, B.ok.noex, B.ok.exfs, B.ok.funs, B.ok.frf⟩, B.os, B.bare, B.base, B.loc, B.cell, B.free, B.freeC, fun q hq => ?_, B.hok, B.len⟩
  have e : q = p := by simpa using hq
  subst e
  refine ⟨pushCells_keeps _ _ _ _ (Heap.get?_push_of_some _ p1), p2, ?_, fun hm => ?_, p5⟩
  · show q.1 ≠ s.heap.objs.size
    exact Nat.ne_of_lt (Heap.lt_size p1)
  · exact (List.mem_cons.mp (I.stkSub q.1 hm)).elim p3 p4
end
/-- the loop of a comprehension -/
theorem lcH {X : Cx} {pins : List (Addr × Obj)} {s : Shared} {σ : L2.St} {H : Hp} {Q : VK} {elt tg iter : Expr} {ifs : List Expr} {scope : Scope} {own : List (Str × Nat)} {pos pos' : Pos} {wi : TI} {g : TG} {tt : L2.TT} {te : TE} {use : Option (Value → Sem Unit)} {Qf : Value → Shared → Prop} {p : Addr × Obj}
    (h1 : L2H.Hot1 X.A p) (hp : p ∈ X.pn) (hN : X.N.Nodup) (I : Inv X pins σ H s) (hi : L2H.PIH X tg iter wi) (ok : BlkOk X.N X.env.scope scope own)
    (hY : ∀ (s : Shared) (H : Hp) (C : Addr) (cl : List (Str × Addr)) (fp : List Addr), PG (blkH X s H scope (compEnvC scope cl C X.env) fp p) tg g ∧ PTs (blkH X s H scope (compEnvC scope cl C X.env) fp p) ifs tt ∧ PE (blkH X s H scope (compEnvC scope cl C X.env) fp p) elt te)
    (hs : ∀ x, foldedSetIterable iter X.env x = pure x) (h : tLc wi g tt te (own.map (·.2)) σ H Q)
    (hR : ∀ D C s' m H', Inv X pins σ H' s' → Q (.ref D) H' → s'.heap.Ns C m → FpOk X pins H' C → compPost (model X.prog X.w) X.A X.xe use Qf (.ref D) C (.ok .next) s') :
    wpAny (model X.prog X.w) X.A (comprehension (.ListComp elt [⟨tg, iter, ifs, 0⟩] scope pos) scope X.env pos' (newList []) false (eval iter X.env) use) Qf X.xe s := by
  have hfree : ∀ y ∈ scope.names, y.2 = .free → ∃ c, X.env.cells.lookup y.1 = some c := fun y hy e => I.ok.has _ (ok.free y hy e)
  refine wpAny_comprehension_free (use := use) rfl hs (closure_ok hfree) ok.kind (fun y hy e => by rw [ok.uniq y hy, e]) (thn (hi.run pins s σ H _ I h) fun xv s1 hx => thn hx fun itv s2 h2 => ?_)
  obtain ⟨it, fp, tn, J, H2, e, I2, T, st2, f2, q⟩ := h2; subst e
  refine wpAny_newObj_type (newEnv_comp ?_) (by show 0 ≤ sizeLine; decide)
  generalize hD : s2.heap.objs.size = D
  obtain ⟨W, ⟨m0, w0⟩, turn⟩ := q D (I2.hok.fresh (Nat.le_of_eq hD))
  generalize hs3 : ({ s2 with heap := s2.heap.push { cls := .type "list", data := .seq ([] : List Value).toArray } } : Shared) = s3
  have e3 : s3.heap = s2.heap.push { cls := .type "list", data := .seq ([] : List Value).toArray } := by rw [← hs3]
  have I3 : Inv X pins σ (upd H2 D (.lst [])) s3 := by
    rw [← hs3]; refine I2.laid (t' := s2.toks) (fun b o e => Heap.get?_push_of_some _ e) (Nat.le_of_eq hD) ⟨Nat.zero_le _, [], 0, .nil, ?_⟩
    rw [← hD]; exact Heap.get?_push_size _ rfl
  have f3 : ∀ b ∈ fp, FpOk X pins (upd H2 D (.lst [])) b ∧ b < s3.heap.objs.size := fun b hb => by
    obtain ⟨o, e, _⟩ := T.obj _ _ st2 b hb
    have hlt := Heap.lt_size e
    refine ⟨⟨?_, (f2 b hb).2⟩, by rw [e3, Heap.size_push]; exact Nat.lt_succ_of_lt hlt⟩
    rw [upd_ne (by rw [← hD]; exact Nat.ne_of_lt hlt)]; exact (f2 b hb).1
  have st3 : tn 0 s3.heap := T.keep _ _ _ st2 fun b _ o e => by rw [e3]; exact Heap.get?_push_of_some _ e
  have I4 := blkH_start (p := p) I3 hp ok hN f3
  obtain ⟨pg, pt, pe⟩ := hY s3 (upd H2 D (.lst [])) s3.heap.objs.size (cellsFrom (s3.heap.objs.size + 1) scope.names (cloFrom X.env.cells scope.names [])) fp
  have nfp : ∀ b ∈ fp, (upd H2 D (.lst [])) b = none := fun b hb => (f3 b hb).1.1
  show codeAny _ _ (.compStart (.ListComp elt [⟨tg, iter, ifs, 0⟩] scope pos) 0 (.ref it) (.ref D) (compEnvC scope (cellsFrom (s3.heap.objs.size + 1) scope.names (cloFrom X.env.cells scope.names [])) s3.heap.objs.size X.env)) (compPost (model X.prog X.w) X.A X.xe use Qf (.ref D) s3.heap.objs.size) { s3 with heap := pushCells (s3.heap.push { cls := .type "dict", data := .dict #[] }) scope.names }
  generalize hce : compEnvC scope (cellsFrom (s3.heap.objs.size + 1) scope.names (cloFrom X.env.cells scope.names [])) s3.heap.objs.size X.env = ce at I4 pg pt pe ⊢
  have cL : ce.locals = s3.heap.objs.size := by subst hce; rfl
  generalize hH3 : upd H2 D (.lst []) = H3 at I3 I4 pg pt pe w0 nfp f3
  generalize hs4 : ({ s3 with heap := pushCells (s3.heap.push { cls := .type "dict", data := .dict #[] }) scope.names } : Shared) = s4 at I4 ⊢
  have st4 : tn 0 s4.heap := T.keep _ _ _ st3 fun b _ o e => by rw [← hs4]; exact pushCells_keeps _ _ _ _ (Heap.get?_push_of_some _ e)
  have hot : L2H.HotC (blkH X s3 H3 scope ce fp p) := ⟨p, h1, List.mem_cons_self⟩
  have stat : ∀ {σ' : L2.St} {H' : Hp} {s' : Shared}, Inv (blkH X s3 H3 scope ce fp p) [] σ' H' s' → tn 0 s'.heap ∨ True → (∀ b ∈ fp, H' b = none) → ∀ b ∈ fp, FpOk (blkH X s3 H3 scope ce fp p) [] H' b := fun {σ' H' s'} I' _ hn b hb =>
    ⟨hn b hb, (I'.ok.exf b hb).1, I'.ok.exfs b hb, .inl hb, fun x c e => (I'.ok.exf b hb).2 x c e, fun q hq => by
      have e : q = p := by simpa using hq
      subst e
      exact (f3 b hb).1.2.2.2.2.2 q (List.mem_append_left _ hp)⟩
  suffices loop : codeAny (model X.prog X.w) X.A (.compLoop (.ListComp elt [⟨tg, iter, ifs, 0⟩] scope pos) 0 (.ref it) (.ref D) ce) (compPost (model X.prog X.w) X.A X.xe use Qf (.ref D) s3.heap.objs.size) s4 from codeAny_compStart_list loop (T.self X.A 0 _ _ _ st4 loop)
  refine compLoop_any (fun n s' => ∃ i H', Inv (blkH X s3 H3 scope ce fp p) [] (wipe σ (own.map (·.2))) H' s' ∧ tn i s'.heap ∧ (∀ b ∈ fp, H' b = none) ∧ W i n H') ?_ m0 ⟨0, H3, I4, st4, nfp, w0⟩
  rintro n s5 ⟨i, H5, I5, st5, n5, w5⟩
  rcases turn i n H5 w5 with ⟨stop, qq⟩ | ⟨go, Nx, hNx, step⟩
  · refine thnF (T.done (blkH X s3 H3 scope ce fp p) rfl rfl rfl hot i [] s5 _ H5 (fun _ _ => False) I5 (stat I5 (.inr trivial) n5) st5 stop) fun r s6 ⟨hr, I6⟩ => ?_
    subst hr
    have I7 : Inv X pins σ H5 s6 := I3.call' (ch := fp) I6.os I6.base I6.hok I6.bare fun b hb => ⟨(f3 b hb).1.2.2.2.1, (f3 b hb).1.2.1, (f3 b hb).1.2.2.2.2.1, (f3 b hb).1.2.2.2.2.2⟩
    have nC : H5 s3.heap.objs.size = none := by
      have z : H5 ce.locals = none := I6.free
      rwa [cL] at z
    obtain ⟨m, hn, _⟩ := I6.loc
    have hn : s6.heap.Ns ce.locals m := hn; rw [cL] at hn
    exact hR D s3.heap.objs.size s6 m H5 I7 qq hn (I3.fpOk (Nat.le_refl _) nC)
  · refine thnF (T.item (blkH X s3 H3 scope ce fp p) rfl rfl rfl hot i [] s5 _ H5 (fun _ _ => False) I5 (stat I5 (.inr trivial) n5) st5 go) fun r s6 ⟨u, hr, h6⟩ => ?_
    subst hr
    refine thnF h6 fun _ s7 ⟨x, H7, I7, r7, y7, st7, n7⟩ => ?_
    refine thnF (pg.run _ s7 _ H7 x u _ (I7.pinned (stat I7 (.inr trivial) n7) (T.obj _ _ st7)) r7 (step x H7 y7)) fun _ s8 ⟨σ8, H8, I8, hw8, q8⟩ => thnF (pt.run _ s8 σ8 H8 _ I8 q8) fun b s9 ⟨H9, I9, q9⟩ => ?_
    have fin : ∀ {s' : Shared} {H' : Hp}, Inv (blkH X s3 H3 scope ce fp p) ([] ++ pinsAt fp s7.heap) σ8 H' s' → Nx H' → ∃ m, m < n ∧ ∃ i H', Inv (blkH X s3 H3 scope ce fp p) [] (wipe σ (own.map (·.2))) H' s' ∧ tn i s'.heap ∧ (∀ b ∈ fp, H' b = none) ∧ W i m H' := fun {s' H'} I' nx => by
      obtain ⟨m', hm, w'⟩ := hNx H' nx
      have pin' : ∀ b ∈ fp, ∀ o, s7.heap.get? b = some o → s'.heap.get? b = some o ∧ H' b = none := fun b hb o e => (I'.pin (b, o) (List.mem_append_right _ (List.mem_append_right _ (mem_pinsAt hb e)))).imp id And.left
      have hl : (wipe σ (own.map (·.2))).length = σ8.length := by rw [← hw8, wipe_length]
      refine ⟨m', hm, i + 1, H', (I'.unpinned (pins := [])).weak hl (fun j v e => (wipe_some (hw8 ▸ e)).1), T.keep _ _ _ st7 fun b hb o e => (pin' b hb o e).1, fun b hb => ?_, w'⟩
      obtain ⟨o, e, _⟩ := T.obj _ _ st7 b hb
      exact (pin' b hb o e).2
    cases b with
    | false =>
      simp only [Bool.false_eq_true, if_false] at q9 ⊢
      exact fin I9 q9
    | true =>
      simp only [if_true] at q9 ⊢
      exact thnF (pe.run _ s9 σ8 H9 _ I9 q9) fun z s10 ⟨yv, H10, I10, r10, acc, hD10, hz10, nx⟩ => app_ok (X := blkH X s3 H3 scope ce fp p) I10 hD10 hz10 r10 fun s11 I11 => fin I11 nx
section
variable {X : Cx}
/-- [e for t in i if c], as a value -/
theorem pe_lcH {elt tg iter : Expr} {ifs : List Expr} {scope : Scope} {own : List (Str × Nat)} {pos : Pos} {wi : TI} {g : TG} {tt : L2.TT} {te : TE} {p : Addr × Obj} (h1 : L2H.Hot1 X.A p) (hp : p ∈ X.pn) (hN : X.N.Nodup) (hi : L2H.PIH X tg iter wi) (ok : BlkOk X.N X.env.scope scope own)
    (hY : ∀ (s : Shared) (H : Hp) (C : Addr) (cl : List (Str × Addr)) (fp : List Addr), PG (blkH X s H scope (compEnvC scope cl C X.env) fp p) tg g ∧ PTs (blkH X s H scope (compEnvC scope cl C X.env) fp p) ifs tt ∧ PE (blkH X s H scope (compEnvC scope cl C X.env) fp p) elt te)
    (hs : ∀ x, foldedSetIterable iter X.env x = pure x) : PE X (.ListComp elt [⟨tg, iter, ifs, 0⟩] scope pos) (tLc wi g tt te (own.map (·.2))) := by
  refine ⟨fun pins s σ H Q I h => ?_⟩
  rw [eval_ListComp]
  refine lcH h1 hp hN I hi ok hY hs h fun D C s' m H' I' q hn ⟨f0, f1, f2, f3, f4, f5⟩ => ⟨m, hn, fun h'' sb => ?_⟩
  exact ⟨.ref D, H', I'.turned (t' := s'.toks) (fun b o hb e => (sb.2 b hb).trans e) f0 f1 f3 f4 f5, rfl, q⟩
/-- .. stored by a name of its own line -/
theorem ps_setLcH {i : Nat} {y : Str} {py : Pos} {elt tg iter : Expr} {ifs : List Expr} {scope : Scope} {own : List (Str × Nat)} {pos spos : Pos} {wi : TI} {g : TG} {tt : L2.TT} {te : TE} {p : Addr × Obj} (h1 : L2H.Hot1 X.A p) (hp : p ∈ X.pn) (hN : X.N.Nodup) (hy : X.N[i]? = some y) (hyl : X.env.scope.names.lookup y = some .local)
    (hsw : swapsWith (.ListComp elt [⟨tg, iter, ifs, 0⟩] scope pos) (some (.Name y py)) spos.line X.env = pure true) (hi : L2H.PIH X tg iter wi) (ok : BlkOk X.N X.env.scope scope own)
    (hY : ∀ (s : Shared) (H : Hp) (C : Addr) (cl : List (Str × Addr)) (fp : List Addr), PG (blkH X s H scope (compEnvC scope cl C X.env) fp p) tg g ∧ PTs (blkH X s H scope (compEnvC scope cl C X.env) fp p) ifs tt ∧ PE (blkH X s H scope (compEnvC scope cl C X.env) fp p) elt te)
    (hs : ∀ x, foldedSetIterable iter X.env x = pure x) : PS X (.Assign [.Name y py] (.ListComp elt [⟨tg, iter, ifs, 0⟩] scope pos) spos) (tAsg (tLc wi g tt te (own.map (·.2))) (gName i)) := by
  refine ⟨fun pins s σ H D I h => ?_⟩
  rw [exec_Assign_Name_used _ _ _ _ hsw]; refine wpAny_bind (wpAny_standAt (wpAny_bind ?_))
  show wpAny _ X.A (do let _ ← comprehension (.ListComp elt [⟨tg, iter, ifs, 0⟩] scope pos) scope X.env (firstIterPos [⟨tg, iter, ifs, 0⟩] pos) (newList []) false (eval iter X.env) (some (assign (.Name y py) X.env))) _ _ s
  have h : tLc wi g tt te (own.map (·.2)) σ H (fun x H1 => gName i x σ H1 D.nx) := h
  refine wpAny_bind (thn (lcH (Qf := fun _ s' => SP X pins D .next s') h1 hp hN I hi ok hY hs h fun L C s' m H' I' q hn f => ?_) fun _ s' hq => wpAny_pure (wpAny_pure hq))
  show wpAny _ _ (assign (.Name y py) X.env (.ref L)) _ _ _
  refine wpAny_assign_Name (store_ok2 (v := V.ref L) I' hN hy (.inl hyl) rfl (fun s2 I2 ⟨a, sb, ha⟩ => ?_) (.inr hyl))
  obtain ⟨f0, f1, f2, f3, f4, f5⟩ := f
  have haC : C ≠ a := ha.elim (fun z => z ▸ f1) fun z e => f4 y a z e.symm
  exact ⟨m, hn.sameBut sb haC, fun h3 sb3 => ⟨_, H', I2.turned (t' := s2.toks) (fun b o hb e => (sb3.2 b hb).trans e) f0 f1 f3 f4 f5, q⟩⟩
/-- a row of names, one tuple to them -/
theorem pg_tupH {es : List Expr} {k : Nat} {t : TGs} {n : Nat} {pos : Pos} (c : L2H.HotC X) (h : PGs X es t) (hn : (assignEach es X.env).length = n) (hst : (assignEach es X.env).findIdx? (·.1) = none) : PG X (.Tuple es k pos) (gTup X.K n t) := by
  refine ⟨fun pins s σ H v u Q I r ⟨a, xs, e1, hq, hl, hw⟩ => ?_⟩
  subst e1; cases r
  obtain ⟨its, rv, ht, hz⟩ := I.tuple hq
  obtain ⟨p, ⟨hh, v1, e1, c1⟩, hp⟩ := c
  have P1 := (I.pin p (List.mem_append_left _ hp)).1
  have htt : s.heap.IsTuple a its.toArray := ht
  have hn2 : (assignEach es X.env).length = its.toArray.size := by simp [hn, ← hl, rv.length]
  have hlt : a ≠ s.heap.objs.size := by obtain ⟨o, ho, _⟩ := htt; exact Nat.ne_of_lt (Heap.lt_size ho)
  have hx1 : p.1 ≠ s.heap.objs.size := Nat.ne_of_lt (Heap.lt_size P1)
  rw [arm_assign_Tuple]
  refine wpAny_bind (wpAny_standAt ?_)
  unfold unpack
  rw [hn2, hst]
  refine wpAny_bind (wpAny_holding ?_)
  unfold unpackItems notIterableAtAll
  refine wpAny_bind (wpAny_bind (wpAny_specialOf htt.typeIs F.slot_tuple_iter.lookup (wpAny_pure ?_)))
  simp only [Bool.false_eq_true, if_false]
  refine wpAny_bind (wpAny_holding (wpAny_pyIter_tuple htt ?_))
  refine wpAny_bind (wpAny_holding (wpAny_draw_tuple hlt its.toArray.size 0 _ _ ⟨_, Heap.get?_push_size _ rfl, rfl, rfl⟩ (htt.push _) (by omega) fun g1 i1 s1 => ?_))
  rw [List.drop_zero, show List.take its.toArray.size its.toArray.toList = its.toArray.toList from List.take_of_length_le (by simp), if_neg (by simp)]
  have hot1 : HotAt X.A p.1 g1 := ⟨hh, p.2, v1, s1.extBut _ _ hx1 (Heap.get?_push_of_some _ P1), e1, c1⟩
  refine wpAny_bind (wpAny_holding (tupEndH hot1 hx1 i1 ((htt.push _).extBut s1.extBut hlt) (by simp) fun h2 k2 => ?_))
  simp only [Option.isSome_none, Bool.false_eq_true, if_false]
  have I1 : Inv X pins σ H { s with heap := h2 } := I.kept (t' := s.toks) fun b o e => k2 b o (Nat.ne_of_lt (Heap.lt_size e)) (s1.extBut b o (Nat.ne_of_lt (Heap.lt_size e)) (Heap.get?_push_of_some _ e))
  exact wpAny_pure (h.run pins _ σ H xs _ Q I1 (by simpa using rv) hw)
end

/-! text Ev6.lean -/
/-! Pf 6: statements -/
open PySem L2 TL

def ContS (G : Gm) (W : WX) (S : Sta) (r : Rs) (D : Ends) : Prop := match r with
  | .nx sd h => ∀ (S' : Sta) (σ' : L2.St), Stp S S' → S'.h = h → Rh G S' → Rs' G S' sd σ' → D.nx σ' S'.H
  | .rt d h => ∀ (S' : Sta) (v : V), Stp S S' → S'.h = h → Rh G S' → Rv G S' d v → D.rt v S'.H
  | .bk sd h => ∀ (S' : Sta) (σ' : L2.St), Stp S S' → S'.h = h → Rh G S' → Rs' G S' sd σ' → D.bk σ' S'.H
  | .ct sd h => ∀ (S' : Sta) (σ' : L2.St), Stp S S' → S'.h = h → Rh G S' → Rs' G S' sd σ' → D.ct σ' S'.H
  | .exc e sd h => ∀ (S' : Sta) (σ' : L2.St) (cls : Value) (dx : Option Addr), Stp S S' → S'.h = h → Rh G S' → Rs' G S' sd σ' → Rx G S' e cls dx → W cls dx σ' S'.H
  | .stuck => False
/-- a statement's reading by a function -/
def tS (G : Gm) (W : WX) (f : Fs) : TS := fun D σ H => ∃ S sd, S.H = H ∧ Rh G S ∧ Rs' G S sd σ ∧ ContS G W S (f sd S.h) D
theorem PS.imp {X : Cx} {st : Stmt} {t t' : TS} (h : PS X st t) (i : ∀ D σ H, t' D σ H → t D σ H) : PS X st t' := ⟨fun pins s σ H D I q => h.run pins s σ H D I (i D σ H q)⟩
theorem PSs.imp {X : Cx} {st : List Stmt} {t t' : TS} (h : PSs X st t) (i : ∀ D σ H, t' D σ H → t D σ H) : PSs X st t' := ⟨fun pins s σ H D I q => h.run pins s σ H D I (i D σ H q)⟩
abbrev SS (X : Cx) (G : Gm) (W : WX) (st : Stmt) (f : Fs) : Prop := PS X st (tS G W f)
abbrev SSs (X : Cx) (G : Gm) (W : WX) (st : List Stmt) (f : Fs) : Prop := PSs X st (tS G W f)

/-! ### functions -/
def fskip : Fs := fun σ h => .nx σ h
def fseq (a b : Fs) : Fs := fun σ h => match a σ h with
  | .nx σ h => b σ h
  | r => r
def Res.st (r : Res D) (σ : Sl) (k : D → Hd → Rs) : Rs := match r with
  | .ok d h => k d h
  | .exc e h => .exc e σ h
  | .stuck => .stuck
def fret (a : Fe) : Fs := fun σ h => (a σ h).st σ fun d h => .rt d h
def fretN : Fs := fun _ h => .rt .non h
def fdrop (a : Fe) : Fs := fun σ h => (a σ h).st σ fun _ h => .nx σ h
def fset (i : Nat) (a : Fe) : Fs := fun σ h => (a σ h).st σ fun d h => .nx (σ.set i (some d)) h
def fifS (c : Fe) (a b : Fs) : Fs := fun σ h => (c σ h).st σ fun d h => match d with
  | .bl true => a σ h
  | .bl false => b σ h
  | _ => .stuck
def setAll : Sl → List Nat → List D → Option Sl
  | σ, [], [] => some σ
  | σ, i :: is, d :: ds => setAll (σ.set i (some d)) is ds
  | _, _, _ => none
/-- a target: a name, or names in a row -/
inductive Tg where
  | one (i : Nat) | all (is : List Nat)
def unp (d : D) : Option (List D) := match d with
  | .tup ds => some ds
  | .lst ds => some ds
  | _ => none
def Tg.put (t : Tg) (σ : Sl) (d : D) : Option Sl := match t with
  | .one i => some (σ.set i (some d))
  | .all is => match d with
    | .tup ds => setAll σ is ds
    | _ => none
/-- a, b = a tuple -/
def funpT (is : List Nat) (a : Fe) : Fs := fun σ h => (a σ h).st σ fun d h => match d with
  | .tup ds => (match setAll σ is ds with
    | some σ => .nx σ h
    | none => .stuck)
  | _ => .stuck
/-- a, b = a list -/
def funpL (is : List Nat) (a : Fe) : Fs := fun σ h => (a σ h).st σ fun d h => match d with
  | .lst ds => (match setAll σ is ds with
    | some σ => .nx σ h
    | none => .stuck)
  | _ => .stuck
def floop (t : Tg) (body : Fs) : List D → Fs
  | [] => fun σ h => .nx σ h
  | d :: ds => fun σ h => match t.put σ d with
    | none => .stuck
    | some σ => match body σ h with
      | .nx σ h => floop t body ds σ h
      | .ct σ h => floop t body ds σ h
      | .bk σ h => .nx σ h
      | r => r
def fwhile (c : Fe) (body : Fs) : Nat → Fs
  | 0 => fun _ _ => .stuck
  | n + 1 => fun σ h => (c σ h).st σ fun d h => match d with
    | .bl true => (match body σ h with
      | .nx σ h => fwhile c body n σ h
      | .ct σ h => fwhile c body n σ h
      | .bk σ h => .nx σ h
      | r => r)
    | .bl false => .nx σ h
    | _ => .stuck

section
variable {X : Cx} {G : Gm} {W : WX} {a b c e : Expr} {es : List Expr} {fa fb fc : Fe} {fr : Fa} {pos : Pos} {S S1 : Sta} {Dn : Ends} {ss : List Stmt} {stm : Stmt} {f g : Fs}
theorem ContS.step {r : Rs} (t : Stp S S1) (c : ContS G W S r Dn) : ContS G W S1 r Dn := by
  cases r with
  | nx => exact fun S' v t' e hh hv => c S' v (t.trans t') e hh hv
  | rt => exact fun S' v t' e hh hv => c S' v (t.trans t') e hh hv
  | bk => exact fun S' v t' e hh hv => c S' v (t.trans t') e hh hv
  | ct => exact fun S' v t' e hh hv => c S' v (t.trans t') e hh hv
  | exc => exact fun S' v x dx t' e hh hv => c S' v x dx (t.trans t') e hh hv
  | stuck => exact c
theorem Cont.st {σ : L2.St} {sd : Sl} {k : Pf.D → Hd → Rs} {r : Res Pf.D} (rs : Rs' G S sd σ) (c : ContS G W S (r.st sd k) Dn) :
    Cont G W σ S r (fun v H => ∃ S1 d, S1.H = H ∧ Stp S S1 ∧ Rh G S1 ∧ Rv G S1 d v ∧ ContS G W S1 (k d S1.h) Dn) := by
  cases r with
  | ok d h => exact fun S' v t e hh hv => ⟨S', d, rfl, t, hh, hv, by rw [e]; exact ContS.step t c⟩
  | exc e h => exact fun S' cls dx t e' hh hx => c S' σ cls dx t e' hh (rs.mono t) hx
  | stuck => exact c
theorem tE_st {σ : L2.St} {H : Hp} {k : Sl → Pf.D → Hd → Rs} (h : tS G W (fun σ h => (fa σ h).st σ (k σ)) Dn σ H) :
    tE G W fa σ H fun v H1 => ∃ S sd d, S.H = H1 ∧ Rh G S ∧ Rs' G S sd σ ∧ Rv G S d v ∧ ContS G W S (k sd d S.h) Dn := by
  obtain ⟨S, sd, e, hh, rs, c⟩ := h
  exact ⟨S, sd, e, hh, rs, (Cont.st (r := fa sd S.h) rs c).mono fun v H1 ⟨S1, d, e1, t1, hh1, rv, c1⟩ => ⟨S1, sd, d, e1, hh1, rs.mono t1, rv, c1⟩⟩
theorem ss_nil : SSs X G W [] fskip := PSs.imp pss_nil fun Dn σ H ⟨S, sd, e, hh, rs, c⟩ => by
  subst e
  exact c S σ (Stp.refl hh) rfl hh rs
theorem ss_skip {st : Stmt} (h : PS X st tNext) : SS X G W st fskip := PS.imp h fun Dn σ H ⟨S, sd, e, hh, rs, c⟩ => by
  subst e
  exact c S σ (Stp.refl hh) rfl hh rs
theorem tS_seq {σ : L2.St} {H : Hp} (h : tS G W (fseq f g) Dn σ H) : tS G W f { Dn with nx := tS G W g Dn } σ H := by
  obtain ⟨S, sd, e, hh, rs, c⟩ := h
  refine ⟨S, sd, e, hh, rs, ?_⟩
  have c : ContS G W S (match f sd S.h with
    | .nx σ h => g σ h
    | r => r) Dn := c
  cases q : f sd S.h with
  | nx sd1 h1 =>
    rw [q] at c
    exact fun S' σ' t e' hh' rs' => ⟨S', sd1, rfl, hh', rs', by rw [e']; exact ContS.step t c⟩
  | rt => rw [q] at c; exact c
  | bk => rw [q] at c; exact c
  | ct => rw [q] at c; exact c
  | exc => rw [q] at c; exact c
  | stuck => rw [q] at c; exact c
theorem ss_cons (h1 : SS X G W stm f) (h2 : SSs X G W ss g) : SSs X G W (stm :: ss) (fseq f g) := PSs.imp (pss_cons h1 h2) fun Dn σ H h => tS_seq h
theorem ss_one (h1 : SS X G W stm f) : SSs X G W [stm] f := pss_one h1
theorem ss_ret (ha : SE X G W a fa) : SS X G W (.Return (some a) pos) (fret fa) := PS.imp (ps_ret ha) fun Dn σ H h => (tE_st (k := fun _ d h => .rt d h) h).mono fun v H1 ⟨S, sd, d, e, hh, rs, rv, c⟩ => by
  subst e
  exact c S v (Stp.refl hh) rfl hh rv
theorem ss_retN : SS X G W (.Return none pos) fretN := PS.imp ps_retN fun Dn σ H ⟨S, sd, e, hh, rs, c⟩ => by
  subst e
  exact c S .non (Stp.refl hh) rfl hh .non
theorem ss_drop (hs : swapsWith a none pos.line X.env = pure false) (ha : SE X G W a fa) : SS X G W (.Expr a pos) (fdrop fa) := PS.imp (ps_expr ha hs) fun Dn σ H h => (tE_st (k := fun sd _ h => .nx sd h) h).mono fun v H1 ⟨S, sd, d, e, hh, rs, rv, c⟩ => by
  subst e
  exact c S σ (Stp.refl hh) rfl hh rs
theorem nx_set {σ : L2.St} {sd : Sl} {i : Nat} {d : Pf.D} {v : V} (np : Np G i) (hh : Rh G S) (rs : Rs' G S sd σ) (rv : Rv G S d v) (c : ContS G W S (.nx (sd.set i (some d)) S.h) Dn) : Dn.nx (σ.set i (some v)) S.H :=
  c S _ (Stp.refl hh) rfl hh (rs.set np rv)
theorem ss_set {i : Nat} {x : Str} {p : Pos} (np : Np G i) (hN : X.N.Nodup) (hi : X.N[i]? = some x) (hx : Loc X.env.scope x) (hs : swapsWith a (some (.Name x p)) pos.line X.env = pure false) (hf : X.fn x = true ∨ X.env.scope.names.lookup x = some .local) (ha : SE X G W a fa) : SS X G W (.Assign [.Name x p] a pos) (fset i fa) :=
  PS.imp (ps_set hN hi hx ha hs hf) fun Dn σ H h => (tE_st (k := fun sd d h => .nx (sd.set i (some d)) h) h).mono fun v H1 ⟨S, sd, d, e, hh, rs, rv, c⟩ => by
    subst e
    exact nx_set np hh rs rv c
theorem ss_if (hc : ST X G W c fc) (ha : SSs X G W ss f) {ss' : List Stmt} (hb : SSs X G W ss' g) : SS X G W (.If c ss ss' pos) (fifS fc f g) := PS.imp (ps_if hc ha hb) fun Dn σ H h =>
  (tE_st (k := fun sd d h => match d with
    | .bl true => f sd h
    | .bl false => g sd h
    | _ => .stuck) h).mono fun v H1 ⟨S, sd, d, e, hh, rs, rv, c⟩ => by
    cases d with
    | bl b =>
      refine ⟨b, rv.bl_inv, ?_⟩
      cases b with
      | true => rw [if_pos rfl]; exact ⟨S, sd, e, hh, rs, c⟩
      | false => rw [if_neg Bool.false_ne_true]; exact ⟨S, sd, e, hh, rs, c⟩
    | _ => exact c.elim

/-! ### several names -/
theorem rs_all : ∀ {is : List Nat} {ds : List Pf.D} {vs : List V} {sd sd' : Sl} {σ : L2.St}, (∀ i ∈ is, Np G i) → Rl G S ds vs → Rs' G S sd σ → setAll sd is ds = some sd' → ∃ σ', Rs' G S sd' σ' ∧ ∀ H (Q : L2.St → Hp → Prop), Q σ' H → (is.foldr (fun i (t : TGs) => gCons (gName i) t) gNil) vs σ H Q
  | [], _, _, _, _, _, _, .nil, rs, e => by
    cases e
    exact ⟨_, rs, fun H Q q => ⟨rfl, q⟩⟩
  | [], _, _, _, _, _, _, .cons _ _, rs, e => by cases e
  | i :: is, _, _, _, _, _, _, .nil, rs, e => by cases e
  | i :: is, _, _, _, _, _, np, .cons r q, rs, e => by
    obtain ⟨σ', h1, h2⟩ := rs_all (fun j hj => np j (List.mem_cons_of_mem _ hj)) q (rs.set (i := i) (np i List.mem_cons_self) r) e
    exact ⟨σ', h1, fun H Q q => ⟨_, _, rfl, h2 H Q q⟩⟩
theorem setAll_len : ∀ {is : List Nat} {ds : List Pf.D} {sd sd' : Sl}, setAll sd is ds = some sd' → is.length = ds.length
  | [], [], _, _, _ => rfl
  | [], _ :: _, _, _, e => by cases e
  | _ :: _, [], _, _, e => by cases e
  | _ :: is, _ :: ds, _, _, e => by simp [setAll_len (is := is) (ds := ds) e]
/-- names in a row, as targets -/
inductive Nms (X : Cx) (G : Gm) : List Expr → List Nat → Prop where
  | nil : Nms X G [] []
  | cons {x : Str} {p : Pos} {i : Nat} {es : List Expr} {is : List Nat} : X.N[i]? = some x → Loc X.env.scope x → (X.fn x = true ∨ X.env.scope.names.lookup x = some .local) → Np G i → Nms X G es is → Nms X G (.Name x p :: es) (i :: is)
theorem Nms.pgs (hN : X.N.Nodup) : ∀ {es : List Expr} {is : List Nat}, Nms X G es is → PGs X es (is.foldr (fun i (t : TGs) => gCons (gName i) t) gNil)
  | _, _, .nil => pgs_nil
  | _, _, .cons h1 h2 h3 _ r => pgs_cons (pg_name hN h1 h2 h3) (Nms.pgs hN r)
theorem Nms.len : ∀ {es : List Expr} {is : List Nat}, Nms X G es is → (assignEach es X.env).length = is.length
  | _, _, .nil => rfl
  | _, _, .cons h1 h2 h3 _ r => by
    show (_ :: _).length = _
    simp [Nms.len r]
theorem Nms.star : ∀ {es : List Expr} {is : List Nat}, Nms X G es is → (assignEach es X.env).findIdx? (·.1) = none
  | _, _, .nil => rfl
  | _, _, .cons (x := x) (p := p) (es := es) h1 h2 h3 _ r => by
    show List.findIdx? _ ((false, assign (.Name x p) X.env) :: assignEach es X.env) = none
    rw [List.findIdx?_cons, Nms.star r]
    rfl
theorem Nms.np : ∀ {es : List Expr} {is : List Nat}, Nms X G es is → ∀ i ∈ is, Np G i
  | _, _, .nil => fun i hi => (by cases hi)
  | _, _, .cons h1 h2 h3 h4 r => fun i hi => (List.mem_cons.mp hi).elim (fun z => z ▸ h4) (Nms.np r i)
/-- calm (false), or an exception is handled (true) -/
structure Md (m : Bool) (X : Cx) : Prop where
  calm : m = false → X.calm = true
  hot : m = true → L2H.HotC X
theorem Nms.pg {m : Bool} {es : List Expr} {is : List Nat} {k : Nat} {p : Pos} (hc : Md m X) (hN : X.N.Nodup) (n : Nms X G es is) : PG X (.Tuple es k p) (gTup X.K is.length (is.foldr (fun i (t : TGs) => gCons (gName i) t) gNil)) := by
  cases m with
  | false => exact pg_tup (hc.calm rfl) (n.pgs hN) n.len n.star
  | true => exact pg_tupH (hc.hot rfl) (n.pgs hN) n.len n.star
theorem ss_unpT {m : Bool} {is : List Nat} {k : Nat} {p : Pos} (hc : Md m X) (hN : X.N.Nodup) (n : Nms X G es is) (ha : SE X G W a fa) (hs : swapsWithSole [.Tuple es k p] a pos.line X.env = pure false) (hw : swappedStores [.Tuple es k p] a X.env = pure none) (hK : X.K = G.K) :
    SS X G W (.Assign [.Tuple es k p] a pos) (funpT is fa) := by
  refine PS.imp (ps_asg ha (n.pg hc hN) hs hw (by rfl)) fun Dn σ H h => ?_
  refine (tE_st (k := fun sd d h => match d with
    | .tup ds => (match setAll sd is ds with
      | some σ => .nx σ h
      | none => .stuck)
    | _ => .stuck) h).mono fun v H1 ⟨S, sd, d, e, hh, rs, rv, c⟩ => ?_
  subst e
  cases d with
  | tup ds =>
    have c : ContS G W S (match setAll sd is ds with
      | some σ => .nx σ S.h
      | none => .stuck) Dn := c
    cases q : setAll sd is ds with
    | none => rw [q] at c; exact c.elim
    | some sd' =>
      rw [q] at c
      obtain ⟨p, xs, rfl, h2, h3⟩ := rv.tup_inv
      obtain ⟨σ', r1, r2⟩ := rs_all n.np h3 rs q
      refine ⟨p, xs, rfl, by rw [hK]; exact h2, ?_, r2 _ _ (c S σ' (Stp.refl hh) rfl hh r1)⟩
      rw [setAll_len q, h3.length]
  | _ => exact c.elim
theorem ss_unpL {is : List Nat} {k : Nat} {p : Pos} (hc : X.calm = true) (hN : X.N.Nodup) (n : Nms X G es is) (ha : SE X G W a fa) (hs : swapsWithSole [.Tuple es k p] a pos.line X.env = pure false) (hw : swappedStores [.Tuple es k p] a X.env = pure none) (hK : X.K = G.K) :
    SS X G W (.Assign [.Tuple es k p] a pos) (funpL is fa) := by
  refine PS.imp (ps_asg ha (pg_unl hc (n.pgs hN) n.len n.star) hs hw (by rfl)) fun Dn σ H h => ?_
  refine (tE_st (k := fun sd d h => match d with
    | .lst ds => (match setAll sd is ds with
      | some σ => .nx σ h
      | none => .stuck)
    | _ => .stuck) h).mono fun v H1 ⟨S, sd, d, e, hh, rs, rv, c⟩ => ?_
  subst e
  cases d with
  | lst ds =>
    have c : ContS G W S (match setAll sd is ds with
      | some σ => .nx σ S.h
      | none => .stuck) Dn := c
    cases q : setAll sd is ds with
    | none => rw [q] at c; exact c.elim
    | some sd' =>
      rw [q] at c
      obtain ⟨p, xs, rfl, h2, h3⟩ := rv.lst_inv
      obtain ⟨σ', r1, r2⟩ := rs_all n.np h3 rs q
      refine ⟨p, xs, rfl, SqL.of h2, ?_, r2 _ _ (c S σ' (Stp.refl hh) rfl hh r1)⟩
      rw [setAll_len q, h3.length]
  | _ => exact c.elim
/-- a, b = x, y and a, b, c = x, y, z -/
def fpar (is : List Nat) (r : Fa) : Fs := fun σ h => match r σ h with
  | .ok ds h => (match setAll σ is ds with
    | some σ => .nx σ h
    | none => .stuck)
  | .exc e h => .exc e σ h
  | .stuck => .stuck
theorem tA_par {is : List Nat} {σ : L2.St} {H : Hp} (h : tS G W (fpar is fr) Dn σ H) :
    tA G W fr σ H fun vs H1 => ∃ S sd ds sd', S.H = H1 ∧ Rh G S ∧ Rs' G S sd σ ∧ Rl G S ds vs ∧ setAll sd is ds = some sd' ∧ ContS G W S (.nx sd' S.h) Dn := by
  obtain ⟨S, sd, e, hh, rs, c⟩ := h
  refine ⟨S, sd, e, hh, rs, ?_⟩
  have c : ContS G W S (match fr sd S.h with
    | .ok ds h => (match setAll sd is ds with
      | some σ => .nx σ h
      | none => .stuck)
    | .exc e h => .exc e sd h
    | .stuck => .stuck) Dn := c
  cases q : fr sd S.h with
  | ok ds h =>
    rw [q] at c
    have c : ContS G W S (match setAll sd is ds with
      | some σ => .nx σ h
      | none => .stuck) Dn := c
    cases q2 : setAll sd is ds with
    | none => rw [q2] at c; exact c.elim
    | some sd' =>
      rw [q2] at c
      exact fun S' vs t e' hh' rl => ⟨S', sd, ds, sd', rfl, hh', rs.mono t, rl, q2, by rw [e']; exact ContS.step t c⟩
  | exc e h =>
    rw [q] at c
    exact fun S' cls dx t e' hh' hx => c S' σ cls dx t e' hh' (rs.mono t) hx
  | stuck => rw [q] at c; exact c
theorem ss_par {i j : Nat} {x y : Str} {px py pt : Pos} {kt k2 : Nat} {pt2 : Pos} (ni : Np G i) (nj : Np G j) (hc : X.calm = true) (hN : X.N.Nodup) (hi : X.N[i]? = some x) (hj : X.N[j]? = some y) (hij : i ≠ j)
    (hx : X.env.scope.names.lookup x = some .local) (hy : X.env.scope.names.lookup y = some .local) (ha : SA X G W [a, b] fr)
    (hw : swappedStores [.Tuple [.Name x px, .Name y py] kt pt] (.Tuple [a, b] k2 pt2) X.env = pure (some [x, y])) :
    SS X G W (.Assign [.Tuple [.Name x px, .Name y py] kt pt] (.Tuple [a, b] k2 pt2) pos) (fpar [i, j] fr) := by
  refine PS.imp (ps_par hc hN hi hj hij hx hy ha hw rfl) fun Dn σ H h => (tA_par h).mono fun vs H1 ⟨S, sd, ds, sd', e, hh, rs, rl, q, c⟩ => ?_
  subst e
  cases rl with
  | nil => cases q
  | cons r1 q1 =>
    cases q1 with
    | nil => cases q
    | cons r2 q2 =>
      cases q2 with
      | nil =>
        cases q
        exact ⟨_, _, rfl, c S _ (Stp.refl hh) rfl hh ((rs.set ni r1).set nj r2)⟩
      | cons _ _ => cases q
theorem ss_par3 {i j l : Nat} {x y z : Str} {px py pz pt : Pos} {kt k2 : Nat} {pt2 : Pos} (ni : Np G i) (nj : Np G j) (nl : Np G l) (hc : X.calm = true) (hN : X.N.Nodup) (hi : X.N[i]? = some x) (hj : X.N[j]? = some y) (hl : X.N[l]? = some z) (hij : i ≠ j) (hil : i ≠ l) (hjl : j ≠ l)
    (hx : X.env.scope.names.lookup x = some .local) (hy : X.env.scope.names.lookup y = some .local) (hz : X.env.scope.names.lookup z = some .local) (ha : SA X G W [a, b, c] fr)
    (hw : swappedStores [.Tuple [.Name x px, .Name y py, .Name z pz] kt pt] (.Tuple [a, b, c] k2 pt2) X.env = pure (some [x, y, z])) :
    SS X G W (.Assign [.Tuple [.Name x px, .Name y py, .Name z pz] kt pt] (.Tuple [a, b, c] k2 pt2) pos) (fpar [i, j, l] fr) := by
  refine PS.imp (ps_par3 hc hN hi hj hl hij hil hjl hx hy hz ha hw) fun Dn σ H h => (tA_par h).mono fun vs H1 ⟨S, sd, ds, sd', e, hh, rs, rl, q, c⟩ => ?_
  subst e
  cases rl with
  | nil => cases q
  | cons r1 q1 =>
    cases q1 with
    | nil => cases q
    | cons r2 q2 =>
      cases q2 with
      | nil => cases q
      | cons r3 q3 =>
        cases q3 with
        | nil =>
          cases q
          exact ⟨_, _, _, rfl, c S _ (Stp.refl hh) rfl hh (((rs.set ni r1).set nj r2).set nl r3)⟩
        | cons _ _ => cases q

/-! ### while -/
theorem ss_while {n : Nat} (hp : PassesOwn (model X.prog X.w) X.A X.env X.xe) (hc : ST X G W c fc) (hb : SSs X G W ss f) : SS X G W (.While c ss [] pos) (fwhile fc f n) := by
  refine PS.imp (ps_while hp hc hb) fun Dn σ H h => ?_
  refine ⟨fun m σ H => tS G W (fwhile fc f m) Dn σ H, ⟨n, h⟩, fun m σ H w => ?_⟩
  cases m with
  | zero =>
    obtain ⟨S, sd, e, hh, rs, c⟩ := w
    exact c.elim
  | succ m =>
    refine (tE_st (k := fun sd d h => match d with
      | .bl true => (match f sd h with
        | .nx σ h => fwhile fc f m σ h
        | .ct σ h => fwhile fc f m σ h
        | .bk σ h => .nx σ h
        | r => r)
      | .bl false => .nx sd h
      | _ => .stuck) w).mono fun v H1 ⟨S, sd, d, e, hh, rs, rv, c⟩ => ?_
    subst e
    cases d with
    | bl b =>
      refine ⟨b, rv.bl_inv, ?_⟩
      cases b with
      | false =>
        rw [if_neg Bool.false_ne_true]
        exact c S σ (Stp.refl hh) rfl hh rs
      | true =>
        rw [if_pos rfl]
        refine ⟨fun σ' H' => tS G W (fwhile fc f m) Dn σ' H', fun σ' H' w' => ⟨m, Nat.lt_succ_self _, w'⟩, S, sd, rfl, hh, rs, ?_⟩
        have c : ContS G W S (match f sd S.h with
          | .nx σ h => fwhile fc f m σ h
          | .ct σ h => fwhile fc f m σ h
          | .bk σ h => .nx σ h
          | r => r) Dn := c
        cases q : f sd S.h with
        | nx sd1 h1 =>
          rw [q] at c
          exact fun S' σ' t e' hh' rs' => ⟨S', sd1, rfl, hh', rs', by rw [e']; exact ContS.step t c⟩
        | ct sd1 h1 =>
          rw [q] at c
          exact fun S' σ' t e' hh' rs' => ⟨S', sd1, rfl, hh', rs', by rw [e']; exact ContS.step t c⟩
        | rt => rw [q] at c; exact c
        | bk => rw [q] at c; exact c
        | exc => rw [q] at c; exact c
        | stuck => rw [q] at c; exact c
    | _ => exact c.elim

/-! ### for -/
/-- what is walked: the items at the start -/
abbrev Fi := Sl → Hd → Res (List Pf.D)
/-- an iterator over items: turn by turn -/
structure ItOk (G : Gm) (S0 : Sta) (ds : List Pf.D) (J : It) : Prop where
  go : ∀ (i : Nat) (d : Pf.D) (S : Sta), Stp S0 S → Rh G S → ds[i]? = some d → J.go i S.H ∧ ∀ (x : V) (H' : Hp), J.yld i S.H x H' → ∃ S', S'.H = H' ∧ Stp S S' ∧ Rh G S' ∧ S'.h = S.h ∧ Rv G S' d x
  stop : ∀ (i : Nat) (S : Sta), Stp S0 S → Rh G S → ds.length ≤ i → J.stop i S.H
/-- a walked expression's reading -/
def ContI (G : Gm) (W : WX) (σ : L2.St) (S : Sta) (r : Res (List Pf.D)) (R : It → Hp → Prop) : Prop := match r with
  | .ok ds h => ∀ (S' : Sta) (J : It), Stp S S' → S'.h = h → Rh G S' → ItOk G S' ds J → R J S'.H
  | .exc e h => ∀ (S' : Sta) (cls : Value) (dx : Option Addr), Stp S S' → S'.h = h → Rh G S' → Rx G S' e cls dx → W cls dx σ S'.H
  | .stuck => False
def tI (G : Gm) (W : WX) (f : Fi) : TI := fun σ H R => ∃ S sd, S.H = H ∧ Rh G S ∧ Rs' G S sd σ ∧ ContI G W σ S (f sd S.h) R
structure SI (X : Cx) (G : Gm) (W : WX) (m : Bool) (tg iter : Expr) (f : Fi) : Prop where
  pi : m = false → PI X tg iter (tI G W f)
  piH : m = true → L2H.PIH X tg iter (tI G W f)
/-- a target's reading -/
def tTg (t : Tg) (K : PySem.W.Frag) : TG := match t with
  | .one i => gName i
  | .all is => gTup K is.length (is.foldr (fun i (t : TGs) => gCons (gName i) t) gNil)
inductive TgOk (X : Cx) (G : Gm) : Expr → Tg → Prop where
  | one {x : Str} {p : Pos} {i : Nat} : X.N[i]? = some x → Loc X.env.scope x → (X.fn x = true ∨ X.env.scope.names.lookup x = some .local) → Np G i → TgOk X G (.Name x p) (.one i)
  | all {es : List Expr} {is : List Nat} {k : Nat} {p : Pos} : Nms X G es is → TgOk X G (.Tuple es k p) (.all is)
theorem TgOk.pg {m : Bool} {tg : Expr} {t : Tg} (hc : Md m X) (hN : X.N.Nodup) (h : TgOk X G tg t) : PG X tg (tTg t X.K) := by
  cases h with
  | one h1 h2 h3 _ => exact pg_name hN h1 h2 h3
  | all n => exact n.pg hc hN
def Tg.ids (t : Tg) : List Nat := match t with
  | .one i => [i]
  | .all is => is
theorem TgOk.np {tg : Expr} {t : Tg} (h : TgOk X G tg t) : ∀ i ∈ t.ids, Np G i := by
  cases h with
  | one h1 h2 h3 h4 => exact fun i hi => (List.mem_singleton.mp hi) ▸ h4
  | all n => exact n.np
theorem put_ok {t : Tg} {sd sd' : Sl} {σ : L2.St} {d : Pf.D} {x : V} {H : Hp} (np : ∀ i ∈ t.ids, Np G i) (rs : Rs' G S sd σ) (rv : Rv G S d x) (e : t.put sd d = some sd') : ∃ σ', Rs' G S sd' σ' ∧ ∀ (Q : L2.St → Hp → Prop), Q σ' S.H → tTg t G.K x σ S.H Q := by
  cases t with
  | one i =>
    cases e
    exact ⟨_, rs.set (np i (List.mem_singleton.mpr rfl)) rv, fun Q q => q⟩
  | all is =>
    cases d with
    | tup ds =>
      obtain ⟨p, xs, rfl, h2, h3⟩ := rv.tup_inv
      obtain ⟨σ', r1, r2⟩ := rs_all np h3 rs e
      refine ⟨σ', r1, fun Q q => ⟨p, xs, rfl, h2, ?_, r2 _ _ q⟩⟩
      rw [setAll_len e, h3.length]
    | _ => cases e
def ffor (t : Tg) (it : Fi) (body : Fs) : Fs := fun σ h => match it σ h with
  | .ok ds h => floop t body ds σ h
  | .exc e h => .exc e σ h
  | .stuck => .stuck
theorem ps_forM {m : Bool} {tg iter : Expr} {body : List Stmt} {f : Fi} {g : TG} {tb : TS} {pos : Pos} (hp : PassesOwn (model X.prog X.w) X.A X.env X.xe) (hc : Md m X) (hi : SI X G W m tg iter f) (hg : PG X tg g) (hb : PSs X body tb)
    (hs : ∀ x, foldedSetIterable iter X.env x = pure x) : PS X (.For tg iter body [] pos) (tFor (tI G W f) g tb) := by
  cases m with
  | false => exact ps_for hp (hc.calm rfl) (hi.pi rfl) hg hb hs
  | true => exact L2H.ps_forH hp (hc.hot rfl) (hi.piH rfl) hg hb hs
theorem ss_for {m : Bool} {tg iter : Expr} {t : Tg} {it : Fi} (hp : PassesOwn (model X.prog X.w) X.A X.env X.xe) (hc : Md m X) (hN : X.N.Nodup) (hK : X.K = G.K) (hi : SI X G W m tg iter it) (hg : TgOk X G tg t) (hb : SSs X G W ss f)
    (hs : ∀ x, foldedSetIterable iter X.env x = pure x) : SS X G W (.For tg iter ss [] pos) (ffor t it f) := by
  refine PS.imp (ps_forM hp hc hi (hg.pg hc hN) hb hs) fun Dn σ H h => ?_
  obtain ⟨S, sd, e, hh, rs, c⟩ := h
  refine ⟨S, sd, e, hh, rs, ?_⟩
  unfold ContI
  have c : ContS G W S (match it sd S.h with
    | .ok ds h => floop t f ds sd h
    | .exc e h => .exc e sd h
    | .stuck => .stuck) Dn := c
  cases q : it sd S.h with
  | stuck => rw [q] at c; exact c
  | exc e h =>
    rw [q] at c
    exact fun S' cls dx t e' hh' hx => c S' σ cls dx t e' hh' (rs.mono t) hx
  | ok ds h =>
    rw [q] at c
    have c : ContS G W S (floop t f ds sd h) Dn := c
    intro S0 J t0 e0 hh0 ok
    refine ⟨fun i m σ H => m = ds.length - i ∧ i ≤ ds.length ∧ ∃ S sd, S.H = H ∧ Stp S0 S ∧ Rh G S ∧ Rs' G S sd σ ∧ ContS G W S (floop t f (ds.drop i) sd S.h) Dn, ⟨ds.length, by simp, Nat.zero_le _, S0, sd, rfl, Stp.refl hh0, hh0, rs.mono t0, ?_⟩, ?_⟩
    · rw [List.drop_zero, e0]
      exact ContS.step t0 c
    · rintro i m σ1 H1 ⟨rfl, hi, S1, sd1, rfl, t1, hh1, rs1, c1⟩
      by_cases hlt : i < ds.length
      · have ed : ds.drop i = ds[i] :: ds.drop (i + 1) := List.drop_eq_getElem_cons hlt
        rw [ed] at c1
        have c1 : ContS G W S1 (match t.put sd1 ds[i] with
          | none => .stuck
          | some σ => match f σ S1.h with
            | .nx σ h => floop t f (ds.drop (i + 1)) σ h
            | .ct σ h => floop t f (ds.drop (i + 1)) σ h
            | .bk σ h => .nx σ h
            | r => r) Dn := c1
        obtain ⟨g1, g2⟩ := ok.go i ds[i] S1 t1 hh1 (List.getElem?_eq_getElem hlt)
        refine .inr ⟨g1, fun σ' H' => ds.length - (i + 1) = ds.length - (i + 1) ∧ i + 1 ≤ ds.length ∧ ∃ S sd, S.H = H' ∧ Stp S0 S ∧ Rh G S ∧ Rs' G S sd σ' ∧ ContS G W S (floop t f (ds.drop (i + 1)) sd S.h) Dn, fun σ' H' w => ⟨_, by omega, w⟩, fun x H' y => ?_⟩
        obtain ⟨S2, rfl, t2, hh2, eh2, rv2⟩ := g2 x H' y
        cases qp : t.put sd1 ds[i] with
        | none => rw [qp] at c1; exact c1.elim
        | some sd2 =>
          rw [qp] at c1
          obtain ⟨σ2, r1, r2⟩ := put_ok (H := S2.H) hg.np (rs1.mono t2) rv2 qp
          rw [hK]
          refine r2 _ ⟨S2, sd2, rfl, hh2, r1, ?_⟩
          have c2 : ContS G W S2 (match f sd2 S2.h with
            | .nx σ h => floop t f (ds.drop (i + 1)) σ h
            | .ct σ h => floop t f (ds.drop (i + 1)) σ h
            | .bk σ h => .nx σ h
            | r => r) Dn := by
            rw [eh2]
            exact ContS.step t2 c1
          cases qf : f sd2 S2.h with
          | nx sd3 h3 =>
            rw [qf] at c2
            exact fun S' σ' t' e' hh' rs' => ⟨rfl, hlt, S', sd3, rfl, (t1.trans t2).trans t', hh', rs', by rw [e']; exact ContS.step t' c2⟩
          | ct sd3 h3 =>
            rw [qf] at c2
            exact fun S' σ' t' e' hh' rs' => ⟨rfl, hlt, S', sd3, rfl, (t1.trans t2).trans t', hh', rs', by rw [e']; exact ContS.step t' c2⟩
          | bk => rw [qf] at c2; exact c2
          | rt => rw [qf] at c2; exact c2
          | exc => rw [qf] at c2; exact c2
          | stuck => rw [qf] at c2; exact c2
      · have : i = ds.length := by omega
        subst this
        rw [List.drop_length] at c1
        exact .inl ⟨ok.stop _ S1 t1 hh1 (Nat.le_refl _), c1 S1 σ1 (Stp.refl hh1) rfl hh1 rs1⟩
end

/-! text Ev7.lean -/
/-! Pf 7: what is walked; comprehensions -/
open PySem L2 TL

/-! ### functions -/
def giSeq (d : D) (h : Hd) : Res (List D) := match d with
  | .tup ds => .ok ds h
  | .lst ds => .ok ds h
  | .scr ds => .ok ds h
  | _ => .stuck
def fiSeq (a : Fe) : Fi := fun σ h => (a σ h).bind giSeq
def fiA (g : List D → Hd → Res (List D)) (a : Fa) : Fi := fun σ h => (a σ h).bind g
def intsFrom (lo : Int) : Nat → List D
  | 0 => []
  | n + 1 => .int lo :: intsFrom (lo + 1) n
/-- told by Nat.blt: a number not known stays as it is, no big number is counted down -/
def okR (i : Int) : Bool := Nat.blt i.natAbs 4611686018427387904
def gi1 (g : D → Hd → Res (List D)) (ds : List D) (h : Hd) : Res (List D) := match ds with
  | [d] => g d h
  | _ => .stuck
def gi2 (g : D → D → Hd → Res (List D)) (ds : List D) (h : Hd) : Res (List D) := match ds with
  | [d, e] => g d e h
  | _ => .stuck
def giR1 (d : D) (h : Hd) : Res (List D) := match d with
  | .int j => if okR j then .ok (intsFrom 0 j.toNat) h else .stuck
  | _ => .stuck
def giR2 (d e : D) (h : Hd) : Res (List D) := match d, e with
  | .int i, .int j => if okR i && okR j then .ok (intsFrom i (j - i).toNat) h else .stuck
  | _, _ => .stuck
def enumD : Nat → List D → List D
  | _, [] => []
  | i, d :: ds => .tup [.int (i : Nat), d] :: enumD (i + 1) ds
def giEnum (d : D) (h : Hd) : Res (List D) := match d with
  | .lst xs => .ok (enumD 0 xs) h
  | _ => .stuck
def zipD : List D → List D → List D
  | d :: ds, e :: es => .tup [d, e] :: zipD ds es
  | _, _ => []
def giZip (d e : D) (h : Hd) : Res (List D) := match d, e with
  | .lst xs, .lst ys => .ok (zipD xs ys) h
  | .tup xs, .tup ys => .ok (zipD xs ys) h
  | _, _ => .stuck
def giZipL (d e : D) (h : Hd) : Res (List D) := match d, e with
  | .lst xs, .lst ys => .ok (zipD xs ys) h
  | _, _ => .stuck
def wipeS (σ : Sl) : List Nat → Sl
  | [] => σ
  | v :: vs => (wipeS σ vs).set v none
/-- a test of a comprehension -/
abbrev Ft := Option Fe
def testB (t : Ft) (σ : Sl) (h : Hd) (k : Bool → Hd → Res (List D)) : Res (List D) := match t with
  | none => k true h
  | some f => match f σ h with
    | .ok (.bl b) h => k b h
    | _ => .stuck
def cloop (t : Tg) (tst : Ft) (elt : Fe) (σ0 : Sl) : List D → Hd → Res (List D)
  | [], h => .ok [] h
  | d :: ds, h => match t.put σ0 d with
    | none => .stuck
    | some σ => testB tst σ h fun b h => match b with
      | false => cloop t tst elt σ0 ds h
      | true => match elt σ h with
        | .ok y h => (match cloop t tst elt σ0 ds h with
          | .ok ys h => .ok (y :: ys) h
          | _ => .stuck)
        | _ => .stuck
def short (n : Nat) : Bool := Nat.ble n 16777215
theorem short_ok {n : Nat} (h : short n = true) : n < sizeLine := by
  have := Nat.le_of_ble_eq_true h
  rw [sizeLine_eq]
  omega
def fcomp (t : Tg) (it : Fi) (tst : Ft) (elt : Fe) (vs : List Nat) : Fe := fun σ h => match it σ h with
  | .ok ds h => if short ds.length then (match cloop t tst elt (wipeS σ vs) ds h with
    | .ok ys h => .ok (.lst ys) h
    | _ => .stuck) else .stuck
  | .exc e h => .exc e h
  | .stuck => .stuck

section
variable {X : Cx} {G : Gm} {W : WX} {a b c e tg : Expr} {es : List Expr} {fa fb fc : Fe} {fr : Fa} {pos : Pos} {S S1 : Sta}

/-! ### what is walked -/
theorem it_seqT {p : Addr} {xs : List V} {ds : List D} (f : Fz S p (.tup xs) ∨ KT G.K p xs) (r : Rl G S ds xs) : ItOk G S ds (Itt G.K p) := by
  have sq : ∀ S', Stp S S' → SqT G.K S'.H p xs := fun S' t => f.elim (fun f => SqT.of (f.mono t ntT).2) .inr
  refine ⟨fun i d S' t hh e => ?_, fun i S' t hh hl => ⟨xs, sq S' t, by rw [← r.length]; exact hl⟩⟩
  obtain ⟨v, h1, h2⟩ := (r.mono t).get e
  refine ⟨⟨xs, v, sq S' t, h1⟩, fun x H' ⟨y1, y2⟩ => ⟨S', y1.symm, Stp.refl hh, hh, rfl, ?_⟩⟩
  have := y2 xs (sq S' t)
  rw [h1] at this
  cases this
  exact h2
theorem it_seqL {p : Addr} {xs : List V} {ds : List D} (f : ∀ S', Stp S S' → SqL G.K S'.H p xs) (r : Rl G S ds xs) : ItOk G S ds (Itl G.K p) := by
  refine ⟨fun i d S' t hh e => ?_, fun i S' t hh hl => ⟨xs, f S' t, by rw [← r.length]; exact hl⟩⟩
  obtain ⟨v, h1, h2⟩ := (r.mono t).get e
  refine ⟨⟨xs, v, f S' t, h1⟩, fun x H' ⟨y1, y2⟩ => ⟨S', y1.symm, Stp.refl hh, hh, rfl, ?_⟩⟩
  have := y2 xs (f S' t)
  rw [h1] at this
  cases this
  exact h2
/-- a list or a tuple that stays -/
theorem lst_stays {ds : List D} {v : V} (r : Rv G S (.lst ds) v) : ∃ p xs, v = .ref p ∧ (∀ S', Stp S S' → SqL G.K S'.H p xs) ∧ Rl G S ds xs := by
  cases r with
  | lst f q => exact ⟨_, _, rfl, fun S' t => SqL.of (f.mono t ntL).2, q⟩
theorem scr_stays {ds : List D} {v : V} (r : Rv G S (.scr ds) v) : ∃ p xs, v = .ref p ∧ (∀ S', Stp S S' → SqL G.K S'.H p xs) ∧ Rl G S ds xs := by
  cases r with
  | scr f q =>
    refine ⟨_, _, rfl, fun S' t => ?_, q⟩
    rcases f with ⟨u, e, f⟩ | f
    · rcases e with e | ⟨o, e⟩
      · subst e
        exact SqL.of (f.mono t ntL).2
      · subst e
        exact .inl (.inr ⟨o, (f.mono t fun ps z => by cases z).2⟩)
    · exact .inr f
theorem tup_stays {ds : List D} {v : V} (r : Rv G S (.tup ds) v) : ∃ p xs, v = .ref p ∧ (Fz S p (.tup xs) ∨ KT G.K p xs) ∧ Rl G S ds xs := by
  cases r with
  | tup f q => exact ⟨_, _, rfl, f, q⟩
def iAny (K : PySem.W.Frag) (tl : TE) : TI := fun σ H R => tl σ H fun x H1 => ∃ p xs, x = .ref p ∧ ((SqL K H1 p xs ∧ R (Itl K p) H1) ∨ (SqT K H1 p xs ∧ R (Itt K p) H1))
theorem pi_any {tl : TE} (hl : PE X e tl) : PI X tg e (iAny X.K tl) := by
  refine ⟨fun pins s σ H R I h => ?_⟩
  refine thn (hl.run pins s σ H _ I h) fun v s1 ⟨x, H1, I1, r1, p, xs, ex, q⟩ => ?_
  subst ex
  obtain rfl : v = Value.ref p := r1
  have fp1 : ∀ b ∈ [s1.heap.objs.size], FpOk X pins H1 b := fun b hb => by
    rw [List.mem_singleton.mp hb]
    exact I1.fpOk (Nat.le_refl _) (I1.hok.fresh (Nat.le_refl _))
  rcases q with ⟨hq, q⟩ | ⟨hq, q⟩
  · obtain ⟨its, rv, pl, hz⟩ := I1.list hq
    exact wpAny_pyIter_list pl.isList ⟨_, _, _, _, H1, rfl, I1.kept (t' := s1.toks) fun b o z => Heap.get?_push_of_some _ z, turn_list p _, ⟨_, Heap.get?_push_size _ rfl, rfl, rfl⟩, fp1, q⟩
  · obtain ⟨its, rv, pt, hz⟩ := I1.tuple hq
    exact wpAny_pyIter_tuple (show s1.heap.IsTuple p its.toArray from pt) ⟨_, _, _, _, H1, rfl, I1.kept (t' := s1.toks) fun b o z => Heap.get?_push_of_some _ z, turn_tuple p _, ⟨_, Heap.get?_push_size _ rfl, rfl, rfl⟩, fp1, q⟩
theorem PI.imp {t t' : TI} (h : PI X tg e t) (i : ∀ σ H R, t' σ H R → t σ H R) : PI X tg e t' := ⟨fun pins s σ H R I q => h.run pins s σ H R I (i σ H R q)⟩
theorem ContI.step {σ : L2.St} {r : Res (List D)} {R : It → Hp → Prop} (t : Stp S S1) (c : ContI G W σ S r R) : ContI G W σ S1 r R := by
  cases r with
  | ok => exact fun S' J t' => c S' J (t.trans t')
  | exc => exact fun S' cls dx t' => c S' cls dx (t.trans t')
  | stuck => exact c
theorem ContI.bind {σ : L2.St} {r : Res D} {k : D → Hd → Res (List D)} {R : It → Hp → Prop} (c : ContI G W σ S (r.bind k) R) :
    Cont G W σ S r (fun v H => ∃ S1 d, S1.H = H ∧ Stp S S1 ∧ Rh G S1 ∧ Rv G S1 d v ∧ ContI G W σ S1 (k d S1.h) R) := by
  cases r with
  | ok d h => exact fun S' v t e hh hv => ⟨S', d, rfl, t, hh, hv, by rw [e]; exact ContI.step t c⟩
  | exc e h => exact c
  | stuck => exact c
theorem ContI.bindA {σ : L2.St} {r : Res (List D)} {k : List D → Hd → Res (List D)} {R : It → Hp → Prop} (c : ContI G W σ S (r.bind k) R) :
    ContA G W σ S r (fun vs H => ∃ S1 ds, S1.H = H ∧ Stp S S1 ∧ Rh G S1 ∧ Rl G S1 ds vs ∧ ContI G W σ S1 (k ds S1.h) R) := by
  cases r with
  | ok d h => exact fun S' v t e hh hv => ⟨S', d, rfl, t, hh, hv, by rw [e]; exact ContI.step t c⟩
  | exc e h => exact c
  | stuck => exact c
theorem pi_anyH {tl : TE} (hl : PE X e tl) : L2H.PIH X tg e (iAny X.K tl) := by
  refine ⟨fun pins s σ H R I h => thn (hl.run pins s σ H _ I h) fun v s1 ⟨x, H1, I1, r1, p, xs, ex, q⟩ => ?_⟩
  subst ex
  obtain rfl : v = Value.ref p := r1
  have fp1 : ∀ b ∈ [s1.heap.objs.size], FpOk X pins H1 b := fun b hb => by
    rw [List.mem_singleton.mp hb]
    exact I1.fpOk (Nat.le_refl _) (I1.hok.fresh (Nat.le_refl _))
  rcases q with ⟨hq, q⟩ | ⟨hq, q⟩
  · obtain ⟨its, rv, pl, hz⟩ := I1.list hq
    exact wpAny_pyIter_list pl.isList ⟨_, _, _, _, H1, rfl, I1.kept (t' := s1.toks) fun b o z => Heap.get?_push_of_some _ z, tListH p _, ⟨_, Heap.get?_push_size _ rfl, rfl, rfl⟩, fp1, q⟩
  · obtain ⟨its, rv, pt, hz⟩ := I1.tuple hq
    exact wpAny_pyIter_tuple (show s1.heap.IsTuple p its.toArray from pt) ⟨_, _, _, _, H1, rfl, I1.kept (t' := s1.toks) fun b o z => Heap.get?_push_of_some _ z, tTupH p _, ⟨_, Heap.get?_push_size _ rfl, rfl, rfl⟩, fp1, q⟩
theorem PIH.imp {t t' : TI} (h : L2H.PIH X tg e t) (i : ∀ σ H R, t' σ H R → t σ H R) : L2H.PIH X tg e t' := ⟨fun pins s σ H R I q => h.run pins s σ H R I (i σ H R q)⟩
theorem si_seq {m : Bool} (ha : SE X G W a fa) (hK : X.K = G.K) : SI X G W m tg a (fiSeq fa) := by
  have im : ∀ σ H R, tI G W (fiSeq fa) σ H R → iAny X.K (tE G W fa) σ H R := fun σ H R ⟨S, sd, e, hh, rs, c⟩ => by
    refine ⟨S, sd, e, hh, rs, (ContI.bind c).mono fun v H1 ⟨S1, d, e1, t1, hh1, rv, c⟩ => ?_⟩
    subst e1
    rw [hK]
    cases d with
    | tup ds =>
      obtain ⟨p, xs, rfl, f, r⟩ := tup_stays rv
      exact ⟨p, xs, rfl, .inr ⟨f.elim (fun f => SqT.of f.2) .inr, c S1 _ (Stp.refl hh1) rfl hh1 (it_seqT f r)⟩⟩
    | lst ds =>
      obtain ⟨p, xs, rfl, f, r⟩ := lst_stays rv
      exact ⟨p, xs, rfl, .inl ⟨f S1 (Stp.refl hh1), c S1 _ (Stp.refl hh1) rfl hh1 (it_seqL f r)⟩⟩
    | scr ds =>
      obtain ⟨p, xs, rfl, f, r⟩ := scr_stays rv
      exact ⟨p, xs, rfl, .inl ⟨f S1 (Stp.refl hh1), c S1 _ (Stp.refl hh1) rfl hh1 (it_seqL f r)⟩⟩
    | _ => exact c.elim
  exact ⟨fun _ => PI.imp (pi_any ha) im, fun _ => PIH.imp (pi_anyH ha) im⟩
theorem tI_1 {g : D → Hd → Res (List D)} {σ : L2.St} {H : Hp} {R : It → Hp → Prop} (h : tI G W (fiA (gi1 g) fr) σ H R) :
    tA G W fr σ H fun vs H1 => ∃ S d v, vs = [v] ∧ S.H = H1 ∧ Rh G S ∧ Rv G S d v ∧ ContI G W σ S (g d S.h) R := by
  obtain ⟨S, sd, e, hh, rs, c⟩ := h
  refine ⟨S, sd, e, hh, rs, (ContI.bindA c).mono fun vs H1 ⟨S1, ds, e1, t1, hh1, rl, c⟩ => ?_⟩
  cases rl with
  | nil => exact c.elim
  | cons r1 rl =>
    cases rl with
    | nil => exact ⟨S1, _, _, rfl, e1, hh1, r1, c⟩
    | cons _ _ => exact c.elim
theorem tI_2 {g : D → D → Hd → Res (List D)} {σ : L2.St} {H : Hp} {R : It → Hp → Prop} (h : tI G W (fiA (gi2 g) fr) σ H R) :
    tA G W fr σ H fun vs H1 => ∃ S d e v u, vs = [v, u] ∧ S.H = H1 ∧ Rh G S ∧ Rv G S d v ∧ Rv G S e u ∧ ContI G W σ S (g d e S.h) R := by
  obtain ⟨S, sd, e, hh, rs, c⟩ := h
  refine ⟨S, sd, e, hh, rs, (ContI.bindA c).mono fun vs H1 ⟨S1, ds, e1, t1, hh1, rl, c⟩ => ?_⟩
  cases rl with
  | nil => exact c.elim
  | cons r1 rl =>
    cases rl with
    | nil => exact c.elim
    | cons r2 rl =>
      cases rl with
      | nil => exact ⟨S1, _, _, _, _, rfl, e1, hh1, r1, r2, c⟩
      | cons _ _ => exact c.elim
theorem ints_get : ∀ {n i : Nat} {lo : Int} {d : D}, (intsFrom lo n)[i]? = some d → i < n ∧ d = .int (lo + (i : Nat))
  | 0, i, lo, d, e => by simp [intsFrom] at e
  | n + 1, 0, lo, d, e => by
    simp [intsFrom] at e
    subst e
    exact ⟨Nat.succ_pos _, by simp⟩
  | n + 1, i + 1, lo, d, e => by
    have e : (intsFrom (lo + 1) n)[i]? = some d := by simpa [intsFrom] using e
    obtain ⟨h1, h2⟩ := ints_get e
    refine ⟨Nat.succ_lt_succ h1, ?_⟩
    rw [h2]
    congr 1
    omega
theorem ints_len : ∀ (n : Nat) (lo : Int), (intsFrom lo n).length = n
  | 0, _ => rfl
  | n + 1, lo => by simp [intsFrom, ints_len n]
theorem it_range {lo : Int} {n : Nat} : ItOk G S (intsFrom lo n) (Itr lo n) := by
  refine ⟨fun i d S' t hh e => ?_, fun i S' t hh hl => ?_⟩
  · obtain ⟨h1, h2⟩ := ints_get e
    refine ⟨h1, fun x H' ⟨y1, y2⟩ => ⟨S', y1.symm, Stp.refl hh, hh, rfl, ?_⟩⟩
    rw [h2, y2]
    exact .int _
  · rw [ints_len] at hl
    exact hl
theorem okR_ok {i : Int} (h : okR i = true) : -(2 ^ 62) ≤ i ∧ i < 2 ^ 62 := by
  have := Nat.le_of_ble_eq_true (show Nat.ble (i.natAbs + 1) 4611686018427387904 = true from h)
  omega
theorem si_rng1 {m : Bool} {p : Pos} (hg : Gl X "range") (hm : X.mg "range" = none) (ha : SA X G W [a] fr) (hs : starEach [a] X.env = [(false, eval a X.env)]) : SI X G W m tg (.Call (.Name "range" p) [a] [] pos) (fiA (gi1 giR1) fr) := by
  have im : ∀ σ H R, tI G W (fiA (gi1 giR1) fr) σ H R → iRng1 (tA G W fr) σ H R := fun σ H R h => (tI_1 h).mono fun vs H1 ⟨S, d, v, e1, e2, hh, rv, c⟩ => by
      subst e1 e2
      cases d with
      | int j =>
        obtain rfl := rv.int_inv
        have c : ContI G W σ S (if okR j then .ok (intsFrom 0 j.toNat) S.h else .stuck) R := c
        cases z : okR j with
        | false => rw [z] at c; exact c.elim
        | true =>
          rw [z] at c
          obtain ⟨z1, z2⟩ := okR_ok z
          exact ⟨j, rfl, z1, z2, c S _ (Stp.refl hh) rfl hh it_range⟩
      | _ => exact c.elim
  exact ⟨fun _ => PI.imp (pi_range1 hg hm ha hs) im, fun _ => PIH.imp (L2H.pi_range1H hg hm ha hs) im⟩
theorem si_rng2 {p : Pos} (hg : Gl X "range") (hm : X.mg "range" = none) (ha : SA X G W [a, b] fr) (hs : starEach [a, b] X.env = [(false, eval a X.env), (false, eval b X.env)]) (hs2 : starEach [b] X.env = [(false, eval b X.env)]) :
    SI X G W false tg (.Call (.Name "range" p) [a, b] [] pos) (fiA (gi2 giR2) fr) :=
  ⟨fun _ => PI.imp (pi_range2 hg hm ha hs hs2) fun σ H R h => (tI_2 h).mono fun vs H1 ⟨S, d, d', v, v', e1, e2, hh, rv, rv', c⟩ => by
    subst e1 e2
    cases d with
    | int i =>
      cases d' with
      | int j =>
        obtain rfl := rv.int_inv
        obtain rfl := rv'.int_inv
        have c : ContI G W σ S (if okR i && okR j then .ok (intsFrom i (j - i).toNat) S.h else .stuck) R := c
        cases z : okR i && okR j with
        | false => rw [z] at c; exact c.elim
        | true =>
          rw [z] at c
          rw [Bool.and_eq_true] at z
          obtain ⟨z1, z2⟩ := okR_ok z.1
          obtain ⟨z3, z4⟩ := okR_ok z.2
          exact ⟨i, j, rfl, ⟨z1, z2, z3, z4⟩, c S _ (Stp.refl hh) rfl hh it_range⟩
      | _ => exact c.elim
    | _ => cases d' <;> exact c.elim, fun z => nomatch z⟩
theorem enum_get : ∀ {ds : List D} {i k : Nat} {d : D}, (enumD k ds)[i]? = some d → ∃ x, ds[i]? = some x ∧ d = .tup [.int (((k + i : Nat) : Int)), x]
  | [], i, k, d, e => by simp [enumD] at e
  | x :: ds, 0, k, d, e => by
    simp [enumD] at e
    exact ⟨x, rfl, by rw [← e]; simp⟩
  | x :: ds, i + 1, k, d, e => by
    have e : (enumD (k + 1) ds)[i]? = some d := by simpa [enumD] using e
    obtain ⟨y, h1, h2⟩ := enum_get e
    refine ⟨y, by simpa using h1, ?_⟩
    rw [h2]
    have : k + 1 + i = k + (i + 1) := by omega
    rw [this]
theorem enum_len : ∀ (ds : List D) (k : Nat), (enumD k ds).length = ds.length
  | [], _ => rfl
  | _ :: ds, k => by simp [enumD, enum_len ds]
theorem it_enum {p : Addr} {xs : List V} {ds : List D} (f : ∀ S', Stp S S' → SqL G.K S'.H p xs) (r : Rl G S ds xs) : ItOk G S (enumD 0 ds) (Ite G.K p) := by
  refine ⟨fun i d S' t hh e => ?_, fun i S' t hh hl => ⟨xs, f S' t, by rw [← r.length, ← enum_len ds 0]; exact hl⟩⟩
  obtain ⟨y, h1, h2⟩ := enum_get e
  obtain ⟨v, h3, h4⟩ := (r.mono t).get h1
  refine ⟨⟨xs, v, f S' t, h3⟩, fun x H' ⟨T, z, y1, y2, y3, y4⟩ => ?_⟩
  have := y4 xs (f S' t)
  rw [h3] at this
  cases this
  subst y1
  refine ⟨S'.put T (.tup [.int (i : Nat), v]), y3.symm, Stp.put hh y2, hh.put y2, rfl, ?_⟩
  rw [h2, Nat.zero_add]
  exact Rv.newT hh y2 (.cons (.int _) (.cons h4 .nil))
theorem si_enum {p tpos : Pos} {elts : List Expr} {kk : Nat} (hK : X.K = G.K) (hg : Gl X "enumerate") (hm : X.mg "enumerate" = none) (ha : SA X G W [a] fr) (hs : starEach [a] X.env = [(false, eval a X.env)]) :
    SI X G W false (.Tuple elts kk tpos) (.Call (.Name "enumerate" p) [a] [] pos) (fiA (gi1 giEnum) fr) :=
  ⟨fun _ => PI.imp (pi_enum hg hm ha hs) fun σ H R h => (tI_1 h).mono fun vs H1 ⟨S, d, v, e1, e2, hh, rv, c⟩ => by
    subst e1 e2
    rw [hK]
    cases d with
    | lst xs =>
      obtain ⟨p, ys, rfl, f, r⟩ := lst_stays rv
      exact ⟨p, ys, rfl, f S (Stp.refl hh), c S _ (Stp.refl hh) rfl hh (it_enum f r)⟩
    | _ => exact c.elim, fun z => nomatch z⟩
theorem zip_get : ∀ {ds es : List D} {i : Nat} {d : D}, (zipD ds es)[i]? = some d → ∃ x y, ds[i]? = some x ∧ es[i]? = some y ∧ d = .tup [x, y]
  | [], _, i, d, e => by simp [zipD] at e
  | _ :: _, [], i, d, e => by simp [zipD] at e
  | x :: ds, y :: es, 0, d, e => by
    simp [zipD] at e
    exact ⟨x, y, rfl, rfl, e.symm⟩
  | x :: ds, y :: es, i + 1, d, e => by
    have e : (zipD ds es)[i]? = some d := by simpa [zipD] using e
    obtain ⟨x', y', h1, h2, h3⟩ := zip_get e
    exact ⟨x', y', by simpa using h1, by simpa using h2, h3⟩
theorem zip_len : ∀ (ds es : List D) (i : Nat), (zipD ds es).length ≤ i → ds.length ≤ i ∨ es.length ≤ i
  | [], _, i, _ => .inl (Nat.zero_le _)
  | _ :: _, [], i, _ => .inr (Nat.zero_le _)
  | x :: ds, y :: es, i, h => by
    have h : (zipD ds es).length + 1 ≤ i := h
    cases i with
    | zero => omega
    | succ i =>
      rcases zip_len ds es i (by omega) with q | q
      · exact .inl (Nat.succ_le_succ q)
      · exact .inr (Nat.succ_le_succ q)
theorem it_zipL {p q : Addr} {xs ys : List V} {ds es : List D} (f : ∀ S', Stp S S' → SqL G.K S'.H p xs) (r : Rl G S ds xs) (f' : ∀ S', Stp S S' → SqL G.K S'.H q ys) (r' : Rl G S es ys) : ItOk G S (zipD ds es) (Itz G.K p q) := by
  refine ⟨fun i d S' t hh e => ?_, fun i S' t hh hl => ⟨xs, ys, f S' t, f' S' t, by rw [← r.length, ← r'.length]; exact zip_len _ _ _ hl⟩⟩
  obtain ⟨x, y, h1, h2, h3⟩ := zip_get e
  obtain ⟨v, h4, h5⟩ := (r.mono t).get h1
  obtain ⟨u, h6, h7⟩ := (r'.mono t).get h2
  refine ⟨⟨xs, ys, v, u, f S' t, f' S' t, h4, h6⟩, fun z H' ⟨T, x', y', y1, y2, y3, y4, y5⟩ => ?_⟩
  have e1 := y4 xs (f S' t)
  have e2 := y5 ys (f' S' t)
  rw [h4] at e1
  rw [h6] at e2
  cases e1
  cases e2
  subst y1
  refine ⟨S'.put T (.tup [v, u]), y3.symm, Stp.put hh y2, hh.put y2, rfl, ?_⟩
  rw [h3]
  exact Rv.newT hh y2 (.cons h5 (.cons h7 .nil))
theorem it_zipT {p q : Addr} {xs ys : List V} {ds es : List D} (f : ∀ S', Stp S S' → SqT G.K S'.H p xs) (r : Rl G S ds xs) (f' : ∀ S', Stp S S' → SqT G.K S'.H q ys) (r' : Rl G S es ys) : ItOk G S (zipD ds es) (RZ.ItzT G.K p q) := by
  refine ⟨fun i d S' t hh e => ?_, fun i S' t hh hl => ⟨xs, ys, f S' t, f' S' t, by rw [← r.length, ← r'.length]; exact zip_len _ _ _ hl⟩⟩
  obtain ⟨x, y, h1, h2, h3⟩ := zip_get e
  obtain ⟨v, h4, h5⟩ := (r.mono t).get h1
  obtain ⟨u, h6, h7⟩ := (r'.mono t).get h2
  refine ⟨⟨xs, ys, v, u, f S' t, f' S' t, h4, h6⟩, fun z H' ⟨T, x', y', y1, y2, y3, y4, y5⟩ => ?_⟩
  have e1 := y4 xs (f S' t)
  have e2 := y5 ys (f' S' t)
  rw [h4] at e1
  rw [h6] at e2
  cases e1
  cases e2
  subst y1
  refine ⟨S'.put T (.tup [v, u]), y3.symm, Stp.put hh y2, hh.put y2, rfl, ?_⟩
  rw [h3]
  exact Rv.newT hh y2 (.cons h5 (.cons h7 .nil))
theorem tupK_stays {ds : List D} {v : V} (r : Rv G S (.tup ds) v) : ∃ p xs, v = .ref p ∧ (∀ S', Stp S S' → SqT G.K S'.H p xs) ∧ Rl G S ds xs := by
  obtain ⟨p, xs, rfl, f, r⟩ := tup_stays r
  exact ⟨p, xs, rfl, fun S' t => f.elim (fun f => SqT.of (f.mono t ntT).2) .inr, r⟩
theorem si_zip {p tpos : Pos} {elts : List Expr} {kk : Nat} (hK : X.K = G.K) (hg : Gl X "zip") (hm : X.mg "zip" = none) (ha : SA X G W [a, b] fr)
    (hs : starEach [a, b] X.env = (false, eval a X.env) :: starEach [b] X.env) (hpl : (backTo pos (starEach [b] X.env)).any (·.1) = false) :
    SI X G W false (.Tuple elts kk tpos) (.Call (.Name "zip" p) [a, b] [] pos) (fiA (gi2 giZip) fr) :=
  ⟨fun _ => PI.imp (RZ.pi_zipA hg hm ha hs hpl) fun σ H R h => (tI_2 h).mono fun vs H1 ⟨S, d, d', v, v', e1, e2, hh, rv, rv', c⟩ => by
    subst e1 e2
    rw [hK]
    cases d with
    | lst xs =>
      cases d' with
      | lst ys =>
        obtain ⟨p, us, rfl, f, r⟩ := lst_stays rv
        obtain ⟨q, ws, rfl, f', r'⟩ := lst_stays rv'
        exact ⟨p, q, us, ws, rfl, .inl ⟨f S (Stp.refl hh), f' S (Stp.refl hh), c S _ (Stp.refl hh) rfl hh (it_zipL f r f' r')⟩⟩
      | _ => exact c.elim
    | tup xs =>
      cases d' with
      | tup ys =>
        obtain ⟨p, us, rfl, f, r⟩ := tupK_stays rv
        obtain ⟨q, ws, rfl, f', r'⟩ := tupK_stays rv'
        exact ⟨p, q, us, ws, rfl, .inr ⟨f S (Stp.refl hh), f' S (Stp.refl hh), c S _ (Stp.refl hh) rfl hh (it_zipT f r f' r')⟩⟩
      | _ => exact c.elim
    | _ => cases d' <;> exact c.elim, fun z => nomatch z⟩
theorem si_zipH {p tpos : Pos} {elts : List Expr} {kk : Nat} (hK : X.K = G.K) (hg : Gl X "zip") (hm : X.mg "zip" = none) (ha : SA X G W [a, b] fr)
    (hs : starEach [a, b] X.env = (false, eval a X.env) :: starEach [b] X.env) (hpl : (backTo pos (starEach [b] X.env)).any (·.1) = false) :
    SI X G W true (.Tuple elts kk tpos) (.Call (.Name "zip" p) [a, b] [] pos) (fiA (gi2 giZipL) fr) :=
  ⟨fun z => (nomatch z), fun _ => ⟨fun pins s σ H R I h => (pi_zipH hg hm ha hs hpl).run pins s σ H R I ((tI_2 h).mono fun vs H1 ⟨S, d, d', v, v', e1, e2, hh, rv, rv', c⟩ => by
    subst e1 e2
    rw [hK]
    cases d with
    | lst xs =>
      cases d' with
      | lst ys =>
        obtain ⟨p, us, rfl, f, r⟩ := lst_stays rv
        obtain ⟨q, ws, rfl, f', r'⟩ := lst_stays rv'
        exact ⟨p, q, us, ws, rfl, f S (Stp.refl hh), f' S (Stp.refl hh), c S _ (Stp.refl hh) rfl hh (it_zipL f r f' r')⟩
      | _ => exact c.elim
    | _ => cases d' <;> exact c.elim)⟩⟩

/-! ### comprehensions -/
theorem wipe_at {i : Nat} : ∀ {vs : List Nat} {σ : L2.St}, i ∉ vs → (wipe σ vs)[i]? = σ[i]?
  | [], _, _ => rfl
  | v :: vs, σ, h => by
    have h1 : i ≠ v ∧ i ∉ vs := ⟨fun z => h (z ▸ List.mem_cons_self), fun z => h (List.mem_cons_of_mem _ z)⟩
    show ((wipe σ vs).set v none)[i]? = _
    rw [List.getElem?_set_ne (Ne.symm h1.1)]
    exact wipe_at h1.2
theorem wipeS_at {i : Nat} {d : D} : ∀ {vs : List Nat} {σ : Sl}, (wipeS σ vs)[i]? = some (some d) → i ∉ vs ∧ σ[i]? = some (some d)
  | [], _, h => ⟨List.not_mem_nil, h⟩
  | v :: vs, σ, h => by
    have h : ((wipeS σ vs).set v none)[i]? = some (some d) := h
    by_cases hv : v = i
    · subst hv
      by_cases hl : v < (wipeS σ vs).length
      · rw [List.getElem?_set_self hl] at h
        cases h
      · rw [List.getElem?_eq_none (by simpa using hl)] at h
        cases h
    · rw [List.getElem?_set_ne hv] at h
      obtain ⟨h1, h2⟩ := wipeS_at h
      exact ⟨fun z => (List.mem_cons.mp z).elim (fun q => hv q.symm) h1, h2⟩
theorem wipeS_len : ∀ (vs : List Nat) (σ : Sl), (wipeS σ vs).length = σ.length
  | [], _ => rfl
  | v :: vs, σ => by
    show ((wipeS σ vs).set v none).length = _
    rw [List.length_set, wipeS_len vs]
theorem Rs'.wipe {sd : Sl} {σ : L2.St} (r : Rs' G S sd σ) (vs : List Nat) (np : ∀ i ∈ vs, Np G i) : Rs' G S (wipeS sd vs) (L2.wipe σ vs) := by
  refine ⟨by rw [wipeS_len, wipe_length, r.len], fun i d h => ?_, fun p hp => by rw [wipe_at fun z => np _ z p hp rfl]; exact r.pin p hp⟩
  obtain ⟨h1, h2⟩ := wipeS_at h
  rw [wipe_at h1]
  exact r.at_ i d h2
theorem wipe_set {i : Nat} {x : Option V} : ∀ {vs : List Nat} {σ : L2.St}, i ∈ vs → wipe (σ.set i x) vs = wipe σ vs
  | [], _, h => nomatch h
  | v :: vs, σ, h => by
    show (wipe (σ.set i x) vs).set v none = (wipe σ vs).set v none
    by_cases hi : i ∈ vs
    · rw [wipe_set hi]
    · have : i = v := (List.mem_cons.mp h).resolve_right hi
      subst this
      have e : ∀ {vs : List Nat} {σ : L2.St}, i ∉ vs → wipe (σ.set i x) vs = (wipe σ vs).set i x := by
        intro vs
        induction vs with
        | nil => intro σ _; rfl
        | cons w ws ih =>
          intro σ hw
          show (wipe (σ.set i x) ws).set w none = ((wipe σ ws).set w none).set i x
          rw [ih fun z => hw (List.mem_cons_of_mem _ z), List.set_comm]
          exact fun z => hw (z ▸ List.mem_cons_self)
      rw [e hi, List.set_set]
/-- a target's slots are among some -/
def Tg.sub (t : Tg) (vs : List Nat) : Bool := match t with
  | .one i => vs.contains i
  | .all is => is.all fun i => vs.contains i
theorem all_wipe {vs : List Nat} : ∀ {is : List Nat} {us : List V} {σ : L2.St} {H : Hp} {Q : L2.St → Hp → Prop}, (is.all fun i => vs.contains i) = true →
    (is.foldr (fun i (t : TGs) => gCons (gName i) t) gNil) us σ H Q → (is.foldr (fun i (t : TGs) => gCons (gName i) t) gNil) us σ H fun σ' H' => wipe σ' vs = wipe σ vs ∧ Q σ' H'
  | [], _, _, _, _, _, ⟨e, q⟩ => ⟨e, rfl, q⟩
  | i :: is, _, σ, H, Q, hs, ⟨v, r, e, q⟩ => by
    rw [List.all_cons, Bool.and_eq_true] at hs
    have q : (is.foldr (fun i (t : TGs) => gCons (gName i) t) gNil) r (σ.set i (some v)) H Q := q
    refine ⟨v, r, e, ?_⟩
    have := all_wipe hs.2 q
    rw [wipe_set (List.contains_iff_mem.mp hs.1)] at this
    exact this
theorem tTg_wipe {t : Tg} {K : PySem.W.Frag} {vs : List Nat} {x : V} {σ : L2.St} {H : Hp} {Q : L2.St → Hp → Prop} (hs : t.sub vs = true) (q : tTg t K x σ H Q) : tTg t K x σ H fun σ' H' => wipe σ' vs = wipe σ vs ∧ Q σ' H' := by
  cases t with
  | one i => exact ⟨wipe_set (List.contains_iff_mem.mp hs), q⟩
  | all is =>
    obtain ⟨a, xs, e1, e2, e3, q⟩ := q
    exact ⟨a, xs, e1, e2, e3, all_wipe hs q⟩
theorem wipe_wipe (σ : L2.St) (vs : List Nat) : wipe (wipe σ vs) vs = wipe σ vs := by
  have h : ∀ (us : List Nat), (∀ u ∈ us, u ∈ vs) → wipe (wipe σ us) vs = wipe σ vs := by
    intro us
    induction us with
    | nil => intro _; rfl
    | cons u us ih =>
      intro hu
      show wipe ((wipe σ us).set u none) vs = _
      rw [wipe_set (hu u List.mem_cons_self), ih fun w hw => hu w (List.mem_cons_of_mem _ hw)]
  exact h vs fun _ h => h
theorem tTg_wipe' {t : Tg} {K : PySem.W.Frag} {vs : List Nat} {x : V} {σ : L2.St} {H : Hp} {Q : L2.St → Hp → Prop} (hs : t.sub vs = true) (h : wipe σ vs = σ) (q : tTg t K x σ H Q) : tTg t K x σ H fun σ' H' => wipe σ' vs = σ ∧ Q σ' H' := by
  have := tTg_wipe hs q
  rw [h] at this
  exact this
/-- a test of a comprehension, read -/
inductive STs (X : Cx) (G : Gm) (W : WX) : List Expr → Ft → Prop where
  | nil : STs X G W [] none
  | one {c : Expr} {f : Fe} : ST X G W c f → STs X G W [c] (some f)
def tTs (G : Gm) (W : WX) (t : Ft) : TT := match t with
  | none => tYes
  | some f => tT G W f
theorem STs.pts {ifs : List Expr} {t : Ft} (h : STs X G W ifs t) : PTs X ifs (tTs G W t) := by
  cases h with
  | nil => exact pts_nil
  | one h => exact pts_one h
abbrev W0 : WX := fun _ _ _ _ => False
/-- the block's contexts -/
structure BK (X : Cx) (scope : Scope) (m : Bool) (Y : Cx) : Prop where
  is : ∃ (s : Shared) (H : Hp) (C : Addr) (cl : List (Str × Addr)) (fp : List Addr), (m = false ∧ Y = X.blk s H scope (compEnvC scope cl C X.env) fp) ∨ (m = true ∧ ∃ p : Addr × Obj, L2H.Hot1 X.A p ∧ p ∈ X.pn ∧ Y = blkH X s H scope (compEnvC scope cl C X.env) fp p)
theorem BK.md {scope : Scope} {m : Bool} {Y : Cx} (B : BK X scope m Y) (hc : Md m X) : Md m Y := by
  obtain ⟨s, H, C, cl, fp, ⟨rfl, rfl⟩ | ⟨rfl, p, h1, h2, rfl⟩⟩ := B.is
  · exact ⟨fun _ => hc.calm rfl, fun z => nomatch z⟩
  · exact ⟨(fun z => nomatch z), fun _ => ⟨p, h1, List.mem_cons_self⟩⟩
theorem BK.nd {scope : Scope} {m : Bool} {Y : Cx} (B : BK X scope m Y) (hN : X.N.Nodup) : Y.N.Nodup := by
  obtain ⟨s, H, C, cl, fp, ⟨rfl, rfl⟩ | ⟨rfl, p, h1, h2, rfl⟩⟩ := B.is
  · exact hN
  · exact hN
theorem BK.K {scope : Scope} {m : Bool} {Y : Cx} (B : BK X scope m Y) : Y.K = X.K := by
  obtain ⟨s, H, C, cl, fp, ⟨rfl, rfl⟩ | ⟨rfl, p, h1, h2, rfl⟩⟩ := B.is
  · rfl
  · rfl
theorem sub_np {t : Tg} {vs : List Nat} (ht : t.sub vs = true) (np : ∀ i ∈ vs, Np G i) : ∀ i ∈ t.ids, Np G i := fun i hi => by
  cases t with
  | one j =>
    rw [List.mem_singleton.mp hi]
    exact np _ (List.contains_iff_mem.mp ht)
  | all is => exact np _ (List.contains_iff_mem.mp (List.all_eq_true.mp ht i hi))
theorem tLc_of {vs : List Nat} {t : Tg} {tst : Ft} {fi : Fi} {σ : L2.St} {H : Hp} {Q : VK} (np : ∀ i ∈ vs, Np G i) (hK : X.K = G.K) (ht : t.sub vs = true)
    (h : tE G W (fcomp t fi tst fa vs) σ H Q) : tLc (tI G W fi) (tTg t X.K) (tTs G W0 tst) (tE G W0 fa) vs σ H Q := by
  obtain ⟨S, sd, e, hh, rs, c⟩ := h
  refine ⟨S, sd, e, hh, rs, ?_⟩
  have c : Cont G W σ S (match fi sd S.h with
    | .ok ds h => if short ds.length then (match cloop t tst fa (wipeS sd vs) ds h with
      | .ok ys h => .ok (.lst ys) h
      | _ => .stuck) else .stuck
    | .exc e h => .exc e h
    | .stuck => .stuck) Q := c
  unfold ContI
  cases q : fi sd S.h with
  | stuck => rw [q] at c; exact c
  | exc x h =>
    rw [q] at c
    exact c
  | ok ds h =>
    rw [q] at c
    have c : Cont G W σ S (if short ds.length then (match cloop t tst fa (wipeS sd vs) ds h with
      | .ok ys h => .ok (.lst ys) h
      | _ => .stuck) else .stuck) Q := c
    cases hz : short ds.length with
    | false => rw [hz] at c; exact c.elim
    | true =>
      rw [hz, if_pos rfl] at c
      have hz := short_ok hz
      intro S0 J t0 e0 hh0 ok D hD
      have nl0 : D ∉ S0.c := fun z => hh0.notLive hD (.inr z)
      have rs0 := (rs.mono t0).wipe vs np
      -- the turn's word
      refine ⟨fun i m H => m = ds.length - i ∧ i ≤ ds.length ∧ ∃ S1 acc ds1 ys h1, S1.H = H ∧ Stp S0 S1 ∧ Rh G S1 ∧ D ∈ S1.c ∧ S1.H D = some (.lst acc) ∧ Rl G S1 ds1 acc ∧ acc.length ≤ i ∧
        cloop t tst fa (wipeS sd vs) (ds.drop i) S1.h = .ok ys h1 ∧ Cont G W σ S (.ok (.lst (ds1 ++ ys)) h1) Q, ⟨ds.length, by simp, Nat.zero_le _, ?_⟩, ?_⟩
      · refine ⟨S0.mk0 D [], [], [], ?_⟩
        have c : Cont G W σ S (match cloop t tst fa (wipeS sd vs) ds h with
          | .ok ys h => .ok (.lst ys) h
          | _ => .stuck) Q := c
        cases qc : cloop t tst fa (wipeS sd vs) ds h with
        | ok ys h1 =>
          rw [qc] at c
          refine ⟨ys, h1, rfl, Stp.mk0 hh0 hD, hh0.mk0 hD, List.mem_cons_self, upd_same, .nil, Nat.le_refl _, ?_, c⟩
          show cloop t tst fa (wipeS sd vs) (ds.drop 0) S0.h = _
          rw [List.drop_zero, e0]
          exact qc
        | exc x h1 => rw [qc] at c; exact c.elim
        | stuck => rw [qc] at c; exact c.elim
      · rintro i m H1 ⟨rfl, hi, S1, acc, ds1, ys, h1, rfl, t1, hh1, hc1, hD1, rl1, hl1, qc, c1⟩
        by_cases hlt : i < ds.length
        · have ed : ds.drop i = ds[i] :: ds.drop (i + 1) := List.drop_eq_getElem_cons hlt
          rw [ed] at qc
          obtain ⟨g1, g2⟩ := ok.go i ds[i] S1 t1 hh1 (List.getElem?_eq_getElem hlt)
          refine .inr ⟨g1, fun H' => ds.length - (i + 1) = ds.length - (i + 1) ∧ i + 1 ≤ ds.length ∧ ∃ S1 acc ds1 ys h1, S1.H = H' ∧ Stp S0 S1 ∧ Rh G S1 ∧ D ∈ S1.c ∧ S1.H D = some (.lst acc) ∧ Rl G S1 ds1 acc ∧ acc.length ≤ i + 1 ∧
            cloop t tst fa (wipeS sd vs) (ds.drop (i + 1)) S1.h = .ok ys h1 ∧ Cont G W σ S (.ok (.lst (ds1 ++ ys)) h1) Q, fun H' w => ⟨_, by omega, w⟩, fun x H' y => ?_⟩
          obtain ⟨S2, rfl, t2, hh2, eh2, rv2⟩ := g2 x H' y
          have qc : (match t.put (wipeS sd vs) ds[i] with
            | none => .stuck
            | some σ => testB tst σ S1.h fun b h => match b with
              | false => cloop t tst fa (wipeS sd vs) (ds.drop (i + 1)) h
              | true => match fa σ h with
                | .ok y h => (match cloop t tst fa (wipeS sd vs) (ds.drop (i + 1)) h with
                  | .ok ys h => .ok (y :: ys) h
                  | _ => .stuck)
                | _ => .stuck) = Res.ok ys h1 := qc
          cases qp : t.put (wipeS sd vs) ds[i] with
          | none => rw [qp] at qc; cases qc
          | some sd2 =>
            rw [qp] at qc
            obtain ⟨σ2, r1, r2⟩ := put_ok (H := S2.H) (sub_np ht np) ((rs0.mono t1).mono t2) rv2 qp
            rw [hK]
            have hD2 : D ∈ S2.c ∧ S2.H D = some (.lst acc) := ⟨(t2.con D hc1).1, (t2.con D hc1).2.trans hD1⟩
            -- behind the test
            have fin : ∀ (b : Bool) (S3 : Sta), Stp S2 S3 → Rh G S3 → (match b with
                | false => cloop t tst fa (wipeS sd vs) (ds.drop (i + 1)) S3.h
                | true => match fa sd2 S3.h with
                  | .ok y h => (match cloop t tst fa (wipeS sd vs) (ds.drop (i + 1)) h with
                    | .ok ys h => .ok (y :: ys) h
                    | _ => .stuck)
                  | _ => .stuck) = Res.ok ys h1 → (if b = true then tE G W0 fa σ2 S3.H fun y H4 => ∃ acc, H4 D = some (.lst acc) ∧ acc.length < sizeLine ∧
                    (ds.length - (i + 1) = ds.length - (i + 1) ∧ i + 1 ≤ ds.length ∧ ∃ S1 acc1 ds1 ys h1, S1.H = upd H4 D (.lst (acc ++ [y])) ∧ Stp S0 S1 ∧ Rh G S1 ∧ D ∈ S1.c ∧ S1.H D = some (.lst acc1) ∧ Rl G S1 ds1 acc1 ∧ acc1.length ≤ i + 1 ∧
                    cloop t tst fa (wipeS sd vs) (ds.drop (i + 1)) S1.h = .ok ys h1 ∧ Cont G W σ S (.ok (.lst (ds1 ++ ys)) h1) Q)
                  else (ds.length - (i + 1) = ds.length - (i + 1) ∧ i + 1 ≤ ds.length ∧ ∃ S1 acc1 ds1 ys h1, S1.H = S3.H ∧ Stp S0 S1 ∧ Rh G S1 ∧ D ∈ S1.c ∧ S1.H D = some (.lst acc1) ∧ Rl G S1 ds1 acc1 ∧ acc1.length ≤ i + 1 ∧
                    cloop t tst fa (wipeS sd vs) (ds.drop (i + 1)) S1.h = .ok ys h1 ∧ Cont G W σ S (.ok (.lst (ds1 ++ ys)) h1) Q)) := by
              intro b S3 t3 hh3 qb
              have hD3 : D ∈ S3.c ∧ S3.H D = some (.lst acc) := ⟨(t3.con D hD2.1).1, (t3.con D hD2.1).2.trans hD2.2⟩
              cases b with
              | false =>
                rw [if_neg Bool.false_ne_true]
                exact ⟨rfl, hlt, S3, acc, ds1, ys, h1, rfl, (t1.trans t2).trans t3, hh3, hD3.1, hD3.2, (rl1.mono t2).mono t3, Nat.le_succ_of_le hl1, qb, c1⟩
              | true =>
                rw [if_pos rfl]
                refine ⟨S3, sd2, rfl, hh3, r1.mono t3, ?_⟩
                have qb : (match fa sd2 S3.h with
                  | .ok y h => (match cloop t tst fa (wipeS sd vs) (ds.drop (i + 1)) h with
                    | .ok ys h => .ok (y :: ys) h
                    | _ => .stuck)
                  | _ => .stuck) = Res.ok ys h1 := qb
                cases qe : fa sd2 S3.h with
                | stuck => rw [qe] at qb; cases qb
                | exc x h4 => rw [qe] at qb; cases qb
                | ok y h4 =>
                  rw [qe] at qb
                  have qb : (match cloop t tst fa (wipeS sd vs) (ds.drop (i + 1)) h4 with
                    | .ok ys h => .ok (y :: ys) h
                    | _ => .stuck) = Res.ok ys h1 := qb
                  cases qr : cloop t tst fa (wipeS sd vs) (ds.drop (i + 1)) h4 with
                  | stuck => rw [qr] at qb; cases qb
                  | exc x h5 => rw [qr] at qb; cases qb
                  | ok ys2 h5 =>
                    rw [qr] at qb
                    cases qb
                    intro S4 v t4 e4 hh4 rv4
                    have hD4 : D ∈ S4.c ∧ S4.H D = some (.lst acc) := ⟨(t4.con D hD3.1).1, (t4.con D hD3.1).2.trans hD3.2⟩
                    refine ⟨acc, hD4.2, by omega, rfl, hlt, S4.more D (acc ++ [v]), acc ++ [v], ds1 ++ [y], ys2, h1, rfl, Stp.more (((t1.trans t2).trans t3).trans t4) hD hh0, hh4.more hD4.1 ⟨acc, hD4.2⟩, hD4.1, upd_same, ?_, ?_, ?_, ?_⟩
                    · exact (((((rl1.mono t2).mono t3).mono t4).ext (Ext.more hD4.1)).append (.cons (rv4.ext (Ext.more hD4.1)) .nil))
                    · rw [List.length_append, List.length_singleton]
                      omega
                    · show cloop t tst fa (wipeS sd vs) (ds.drop (i + 1)) S4.h = _
                      rw [e4]
                      exact qr
                    · rw [List.append_assoc]
                      exact c1
            have qc : testB tst sd2 S1.h (fun b h => match b with
              | false => cloop t tst fa (wipeS sd vs) (ds.drop (i + 1)) h
              | true => match fa sd2 h with
                | .ok y h => (match cloop t tst fa (wipeS sd vs) (ds.drop (i + 1)) h with
                  | .ok ys h => .ok (y :: ys) h
                  | _ => .stuck)
                | _ => .stuck) = Res.ok ys h1 := qc
            rw [← eh2] at qc
            refine tTg_wipe' ht (wipe_wipe σ vs) (r2 _ ?_)
            cases tst with
            | none => exact fin true S2 (Stp.refl hh2) hh2 qc
            | some f =>
              refine ⟨S2, sd2, rfl, hh2, r1, ?_⟩
              have qc : (match f sd2 S2.h with
                | .ok (.bl b) h => (match b with
                  | false => cloop t (some f) fa (wipeS sd vs) (ds.drop (i + 1)) h
                  | true => match fa sd2 h with
                    | .ok y h => (match cloop t (some f) fa (wipeS sd vs) (ds.drop (i + 1)) h with
                      | .ok ys h => .ok (y :: ys) h
                      | _ => .stuck)
                    | _ => .stuck)
                | _ => .stuck) = Res.ok ys h1 := qc
              cases qf : f sd2 S2.h with
              | stuck => rw [qf] at qc; cases qc
              | exc x h3 => rw [qf] at qc; cases qc
              | ok d h3 =>
                rw [qf] at qc
                cases d with
                | bl b =>
                  intro S3 v t3 e3 hh3 rv3
                  refine ⟨b, rv3.bl_inv, ?_⟩
                  refine fin b S3 t3 hh3 ?_
                  rw [e3]
                  exact qc
                | _ => cases qc
        · have : i = ds.length := by omega
          subst this
          rw [List.drop_length] at qc
          cases qc
          refine .inl ⟨ok.stop _ S1 t1 hh1 (Nat.le_refl _), ?_⟩
          have t2 := Stp.made t1
          have hsub : ∀ a ∈ S0.c, a ∈ S1.c := fun a ha => (t1.con a ha).1
          rw [List.append_nil] at c1
          refine c1 (S1.made S0.c) (.ref D) (t0.trans t2) rfl (hh1.made hsub) (.lst ⟨?_, hD1⟩ (rl1.ext (Ext.made hsub)))
          rintro (⟨j, ob, z1, z2, z3⟩ | z)
          · exact (hh1.con D hc1).2 (List.mem_of_getElem? z1)
          · exact nl0 z
/-- [e for t in i if c] -/
theorem se_comp {elt iter : Expr} {ifs : List Expr} {scope : Scope} {own : List (Str × Nat)} {t : Tg} {fi : Fi} {tst : Ft} {m : Bool} (np : ∀ i ∈ own.map (·.2), Np G i) (hc : Md m X) (hN : X.N.Nodup) (hK : X.K = G.K) (ht : t.sub (own.map (·.2)) = true) (hi : SI X G W m tg iter fi) (ok : BlkOk X.N X.env.scope scope own)
    (hg : ∀ Y, BK X scope m Y → TgOk Y G tg t) (hts : ∀ Y, BK X scope m Y → STs Y G W0 ifs tst) (he : ∀ Y, BK X scope m Y → SE Y G W0 elt fa) (hs : ∀ x, foldedSetIterable iter X.env x = pure x) :
    SE X G W (.ListComp elt [⟨tg, iter, ifs, 0⟩] scope pos) (fcomp t fi tst fa (own.map (·.2))) := by
  cases m with
  | false => exact PE.imp (pe_lc (hc.calm rfl) hN (hi.pi rfl) ok (fun s H C cl fp => TgOk.pg (X := X.blk s H scope (compEnvC scope cl C X.env) fp) (m := false) ⟨fun _ => hc.calm rfl, fun z => nomatch z⟩ hN (hg _ ⟨s, H, C, cl, fp, .inl ⟨rfl, rfl⟩⟩)) (fun s H C cl fp => (hts _ ⟨s, H, C, cl, fp, .inl ⟨rfl, rfl⟩⟩).pts) (fun s H C cl fp => he _ ⟨s, H, C, cl, fp, .inl ⟨rfl, rfl⟩⟩) hs) fun σ H Q h => tLc_of np hK ht h
  | true =>
    obtain ⟨p, h1, h2⟩ := hc.hot rfl
    refine PE.imp (pe_lcH h1 h2 hN (hi.piH rfl) ok (fun s H C cl fp => ?_) hs) fun σ H Q h => tLc_of np hK ht h
    have B : BK X scope true (blkH X s H scope (compEnvC scope cl C X.env) fp p) := ⟨s, H, C, cl, fp, .inr ⟨rfl, p, h1, h2, rfl⟩⟩
    exact ⟨TgOk.pg (B.md hc) hN (hg _ B), (hts _ B).pts, he _ B⟩
/-- x = [e for t in i if c], x a local of the def -/
theorem ss_setComp {i : Nat} (ni : Np G i) {y : Str} {py spos : Pos} {elt iter : Expr} {ifs : List Expr} {scope : Scope} {own : List (Str × Nat)} {t : Tg} {fi : Fi} {tst : Ft} {m : Bool} (np : ∀ i ∈ own.map (·.2), Np G i) (hc : Md m X) (hN : X.N.Nodup) (hK : X.K = G.K) (hy : X.N[i]? = some y) (hyl : X.env.scope.names.lookup y = some .local)
    (hsw : swapsWith (.ListComp elt [⟨tg, iter, ifs, 0⟩] scope pos) (some (.Name y py)) spos.line X.env = pure true) (ht : t.sub (own.map (·.2)) = true) (hi : SI X G W m tg iter fi) (ok : BlkOk X.N X.env.scope scope own)
    (hg : ∀ Y, BK X scope m Y → TgOk Y G tg t) (hts : ∀ Y, BK X scope m Y → STs Y G W0 ifs tst) (he : ∀ Y, BK X scope m Y → SE Y G W0 elt fa) (hs : ∀ x, foldedSetIterable iter X.env x = pure x) :
    SS X G W (.Assign [.Name y py] (.ListComp elt [⟨tg, iter, ifs, 0⟩] scope pos) spos) (fset i (fcomp t fi tst fa (own.map (·.2)))) := by
  have im : ∀ Dn σ H, tS G W (fset i (fcomp t fi tst fa (own.map (·.2)))) Dn σ H → tAsg (tLc (tI G W fi) (tTg t X.K) (tTs G W0 tst) (tE G W0 fa) (own.map (·.2))) (gName i) Dn σ H := fun Dn σ H h => by
    refine tLc_of np hK ht ((tE_st (k := fun sd d h => .nx (sd.set i (some d)) h) h).mono fun v H1 ⟨S, sd, d, e, hh, rs, rv, c⟩ => ?_)
    subst e
    exact nx_set ni hh rs rv c
  cases m with
  | false => exact PS.imp (ps_setLc (hc.calm rfl) hN hy hyl hsw (hi.pi rfl) ok (fun s H C cl fp => TgOk.pg (X := X.blk s H scope (compEnvC scope cl C X.env) fp) (m := false) ⟨fun _ => hc.calm rfl, fun z => nomatch z⟩ hN (hg _ ⟨s, H, C, cl, fp, .inl ⟨rfl, rfl⟩⟩)) (fun s H C cl fp => (hts _ ⟨s, H, C, cl, fp, .inl ⟨rfl, rfl⟩⟩).pts) (fun s H C cl fp => he _ ⟨s, H, C, cl, fp, .inl ⟨rfl, rfl⟩⟩) hs) im
  | true =>
    obtain ⟨p, h1, h2⟩ := hc.hot rfl
    refine PS.imp (ps_setLcH h1 h2 hN hy hyl hsw (hi.piH rfl) ok (fun s H C cl fp => ?_) hs) im
    have B : BK X scope true (blkH X s H scope (compEnvC scope cl C X.env) fp p) := ⟨s, H, C, cl, fp, .inr ⟨rfl, p, h1, h2, rfl⟩⟩
    exact ⟨TgOk.pg (B.md hc) hN (hg _ B), (hts _ B).pts, he _ B⟩
end

/-! text Ev8.lean -/
/-! Pf 8: lists that change -/
open PySem L2 TL PyProof.Rows

/-! ### functions -/
/-- a new list that may change -/
def gnew (ds : List D) (h : Hd) : Res D := if short ds.length then .ok (.obj h.length) (h ++ [⟨true, ds⟩]) else .stuck
def fnewL (fr : Fa) : Fe := fargs gnew fr
def gaddM (x y : D) (h : Hd) : Res D := match lstOf x h, lstOf y h with
  | some a, some b => gnew (a ++ b) h
  | _, _ => .stuck
def gmulM (x y : D) (h : Hd) : Res D := match lstOf x h, y with
  | some a, .int k => if decide (0 ≤ k) && (decide (k ≤ 1000) && Nat.ble a.length 1000) then gnew (List.replicate k.toNat a).flatten h else .stuck
  | _, _ => .stuck
def glist1M (x : D) (h : Hd) : Res D := match seqOf x h with
  | some ds => gnew ds h
  | none => .stuck
/-- read for good: it changes no more -/
def ffrz (i : Nat) : Fe := fun σ h => match σ[i]? with
  | some (some (.obj n)) => (match h[n]? with
    | some ob => .ok (.lst ob.ds) (h.set n ⟨false, ob.ds⟩)
    | none => .stuck)
  | some (some d) => .ok d h
  | _ => .stuck
/-- o[i] = e -/
def gsetIx (o i v : D) (h : Hd) : Option Hd := match o, i with
  | .obj n, .int k => (match h[n]? with
    | some ⟨true, ds⟩ => (match ixN ds.length k with
      | some j => some (h.set n ⟨true, ds.set j v⟩)
      | none => none)
    | _ => none)
  | _, _ => none
def fsetIx (fo fi fe : Fe) : Fs := fun σ h => (fe σ h).st σ fun v h => (fo σ h).st σ fun o h => (fi σ h).st σ fun i h => match gsetIx o i v h with
  | some h => .nx σ h
  | none => .stuck
def gappend (o v : D) (h : Hd) : Res D := match o with
  | .obj n => (match h[n]? with
    | some ⟨true, ds⟩ => if short ds.length then .ok .non (h.set n ⟨true, ds ++ [v]⟩) else .stuck
    | _ => .stuck)
  | _ => .stuck
def fappend (fo fe : Fe) : Fe := fun σ h => (fo σ h).bind fun x h => match x with
  | .obj n => (fe σ h).bind fun y h => gappend (.obj n) y h
  | _ => .stuck

section
variable {X : Cx} {G : Gm} {W : WX} {a b c e tg : Expr} {es : List Expr} {fa fb fc : Fe} {fr : Fa} {pos : Pos} {S S1 : Sta} {σ : L2.St} {Q : VK}
theorem Cont.newM {ds : List D} {xs : List V} (c : Cont G W σ S (gnew ds S.h) Q) (hh : Rh G S) (r : Rl G S ds xs) : xs.length < sizeLine ∧ ∀ p, S.H p = none → Q (.ref p) (upd S.H p (.lst xs)) := by
  unfold gnew at c
  split at c
  · rename_i hz
    refine ⟨by rw [← r.length]; exact short_ok hz, fun p hp => ?_⟩
    refine c (S.add p xs ds) (.ref p) (Stp.add hh hp) rfl (hh.add hp r) (.obj ?_)
    show (S.w ++ [p])[S.h.length]? = _
    rw [← hh.len, List.getElem?_append_right (Nat.le_refl _), Nat.sub_self]
    rfl
  · exact c.elim
theorem se_newL (hr : SA X G W es fr) : SE X G W (.List es pos) (fnewL fr) := by
  refine PE.imp (pe_lst hr) fun σ H Q h => (tA_args h).mono fun vs H1 ⟨S, ds, e, hh, rl, c⟩ => ?_
  subst e
  obtain ⟨h1, h2⟩ := c.newM hh rl
  exact ⟨Nat.le_of_lt h1, h2⟩
theorem gaddM_of : OpD G (rAddAll G.K) gaddM := fun W σ S dx dy x y Q hh rx ry c => by
  unfold gaddM at c
  split at c
  · rename_i a b e1 e2
    obtain ⟨l, xs, rfl, h1, q1⟩ := lstOf_inv hh rx e1
    obtain ⟨m, ys, rfl, h2, q2⟩ := lstOf_inv hh ry e2
    obtain ⟨h3, h4⟩ := c.newM hh (q1.append q2)
    refine .inr (.inr (.inr ⟨l, m, xs, ys, rfl, rfl, h1, h2, ?_, h4⟩))
    rw [List.length_append] at h3
    exact Nat.le_of_lt h3
  · exact c.elim
theorem gmulM_of : OpD G (rMulAll G.K) gmulM := fun W σ S dx dy x y Q hh rx ry c => by
  unfold gmulM at c
  split at c
  · rename_i a k e1
    split at c
    · rename_i hz
      simp only [Bool.and_eq_true, decide_eq_true_eq] at hz
      obtain ⟨h0, h1, h2⟩ := hz
      have h2 := Nat.le_of_ble_eq_true h2
      obtain ⟨l, xs, rfl, e, q1⟩ := lstOf_inv hh rx e1
      obtain ⟨h3, h4⟩ := c.newM hh (q1.rep k.toNat)
      refine .inr (.inr ⟨l, k, xs, rfl, ry.int_inv, e, by omega, by omega, ?_, h4⟩)
      rw [← q1.length, sizeLine_eq]
      have : k.toNat ≤ 1000 := by omega
      calc a.length * k.toNat ≤ 1000 * 1000 := Nat.mul_le_mul h2 this
        _ ≤ 16777216 := by decide
    · exact c.elim
  · exact c.elim
theorem glist1M_of : CalD G (rLstOf G.K) (g1 glist1M) := calD1 fun W σ S d v Q hh rv c => by
  unfold glist1M at c
  cases q : seqOf d S.h with
  | none => rw [q] at c; exact c.elim
  | some ds =>
    rw [q] at c
    obtain ⟨a, xs, rfl, h2, h3⟩ := seqOf_inv hh rv q
    exact ⟨a, xs, rfl, h2, (c.newM hh h3).2⟩
theorem se_frz {i : Nat} {x : Str} (hN : X.N[i]? = some x) (hv : Vis X.env.scope x) (hd : (x == ("__debug__" : Str)) = false) (hcd : (x == ("__classdict__" : Str)) = false) : SE X G W (.Name x pos) (ffrz i) := by
  refine PE.imp (pe_var hN hv hd hcd) fun σ H Q h => ?_
  obtain ⟨S, sd, rfl, hh, rs, c⟩ := h
  unfold ffrz at c
  split at c
  · rename_i n q
    obtain ⟨v, h1, h2⟩ := rs.at_ i _ q
    split at c
    · rename_i ob qo
      have h3 : S.h[n]? = some ⟨ob.live, ob.ds⟩ := qo
      cases h2 with
      | obj hw => exact ⟨_, h1, c (S.frz n ob.ds) _ (Stp.frz hh h3) rfl (hh.frz h3) (Rv.frz hh hw h3)⟩
    · exact c.elim
  · rename_i d hd q
    obtain ⟨v, h1, h2⟩ := rs.at_ i d (by assumption)
    exact ⟨v, h1, c.val rfl hh h2⟩
  · exact c.elim
theorem setIx_of {o i v : D} {x y z : V} {h' : Hd} {R : Hp → Prop} (hh : Rh G S) (ro : Rv G S o x) (ri : Rv G S i y) (rv : Rv G S v z) (e : gsetIx o i v S.h = some h')
    (q : ∀ S', Stp S S' → S'.h = h' → Rh G S' → R S'.H) : rSetL x y z S.H R := by
  unfold gsetIx at e
  split at e
  · rename_i n k
    split at e
    · rename_i ds qo
      split at e
      · rename_i j qj
        cases e
        obtain ⟨a, xs, rfl, hw, hx, rl⟩ := ro.obj_inv hh qo
        refine ⟨a, xs, k, j, rfl, ri.int_inv, hx, by rw [← rl.length]; exact qj, ?_⟩
        exact q (S.set n a (xs.set j z) (ds.set j v)) (Stp.set hh hw qo) rfl (hh.set hw qo (rl.set rv j))
      · cases e
    · cases e
  · cases e
theorem ss_setIx {o i : Expr} {fo fi fe : Fe} {tpos : Pos} (ho : SE X G W o fo) (hi : SE X G W i fi) (he : SE X G W e fe) (hs : swapsWithSole [.Subscript o i tpos] e pos.line X.env = pure false) (hw : swappedStores [.Subscript o i tpos] e X.env = pure none)
    (h1 : (assignEach [.Subscript o i tpos] X.env).map (·.2) = [assign (.Subscript o i tpos) X.env])
    (ha : ∀ v, assign (.Subscript o i tpos) X.env v = (do
      let ov ← holding [v] (eval o X.env)
      let iv ← holding [v, ov] (eval i X.env)
      standAt tpos
      holding [v, ov, iv] (setItem ov iv v)
      release [v, ov, iv] [])) : SS X G W (.Assign [.Subscript o i tpos] e pos) (fsetIx fo fi fe) := by
  refine PS.imp (ps_asg he (pg_sub ho hi set_list ha) hs hw h1) fun Dn σ H h => ?_
  refine (tE_st (k := fun σ v h => (fo σ h).st σ fun o h => (fi σ h).st σ fun i h => match gsetIx o i v h with
    | some h => .nx σ h
    | none => .stuck) h).mono fun v H1 ⟨S, sd, d, e, hh, rs, rv, c⟩ => ?_
  refine ⟨S, sd, e, hh, rs, (Cont.st rs c).mono fun x H2 ⟨S1, d1, e1, t1, hh1, rv1, c1⟩ => ?_⟩
  refine ⟨S1, sd, e1, hh1, rs.mono t1, (Cont.st (rs.mono t1) c1).mono fun y H3 ⟨S2, d2, e2, t2, hh2, rv2, c2⟩ => ?_⟩
  subst e2
  cases q : gsetIx d1 d2 d S2.h with
  | none => rw [q] at c2; exact c2.elim
  | some h' =>
    rw [q] at c2
    exact setIx_of hh2 (rv1.mono t2) rv2 ((rv.mono t1).mono t2) q fun S3 t3 e3 hh3 => c2 S3 σ t3 e3 hh3 (((rs.mono t1).mono t2).mono t3)
theorem se_append {o : Expr} {fo fe : Fe} {apos : Pos} (ho : SE X G W o fo) (he : SE X G W e fe) (hb : attributeBase o "append" X.env (eval o X.env) = eval o X.env)
    (hfew : ((backTo pos (starEach [e] X.env)).all (fun x => !x.1) && (backToKw pos (keywordEach [] X.env)).all (fun x => x.1.isSome) && decide ([e].length + ([] : List Keyword).length + (if ([] : List Keyword).isEmpty then 0 else 1) < 30)) = true)
    (hl : (apos.endLine == pos.line) = true) (hs : starEach [e] X.env = (false, eval e X.env) :: starEach [] X.env) (hp : (backTo pos (starEach [] X.env)).any (·.1) = false) :
    SE X G W (.Call (.Attribute o "append" apos) [e] [] pos) (fappend fo fe) := by
  refine PE.imp (pe_bm F.plainAttrs_list F.slot_list_append F.type_list_append mt_append ho (pa_cons he pa_nil hs) hb hfew hl hs hp) fun σ H Q h => ?_
  obtain ⟨S, sd, e, hh, rs, c⟩ := h
  refine ⟨S, sd, e, hh, rs, (Cont.bind c).mono fun x H1 ⟨S1, d, e1, t1, hh1, rv1, c1⟩ => ?_⟩
  subst e1
  cases d with
  | obj n =>
    have c1 : Cont G W σ S1 ((fe sd S1.h).bind fun y h => gappend (.obj n) y h) Q := c1
    cases rv1 with
    | @obj _ a hw =>
      have hl : n < S1.h.length := by rw [← hh1.len]; exact (List.getElem?_eq_some_iff.mp hw).1
      obtain ⟨xs0, hx0, _⟩ := hh1.ob n _ a (List.getElem?_eq_getElem hl) hw
      refine ⟨.inl ⟨rfl, xs0, SqL.of hx0⟩, S1, sd, rfl, hh1, rs.mono t1, (Cont.bind c1).mono fun y H2 ⟨S2, d2, e2, t2, hh2, rv2, c2⟩ => ?_⟩
      subst e2
      refine ⟨a, ?_⟩
      unfold gappend at c2
      dsimp only at c2
      split at c2
      · rename_i ds qo
        split at c2
        · rename_i hz
          have hw2 := pre_at t2.w hw
          obtain ⟨xs, hx, rl⟩ := hh2.ob n _ a qo hw2
          refine ⟨xs, y, rfl, rfl, hx, by rw [← rl.length]; exact short_ok hz, ?_⟩
          exact c2 (S2.set n a (xs ++ [y]) (ds ++ [d2])) .non (Stp.set hh2 hw2 qo) rfl (hh2.set hw2 qo (rl.append (.cons rv2 .nil))) .non
        · exact c2.elim
      · exact c2.elim
  | _ => exact c1.elim
end

/-! text Ev9.lean -/
/-! Pf 9: calls of defs, raise, try -/
open PySem L2 TL PyProof.Rows

/-! ### calls -/
/-- a def's promise: it does as c does -/
def spD (G : Gm) (c : List D → Hd → Res D) : Sp := fun vs H Q E => ∃ (S : Sta) (ds : List D), S.H = H ∧ Rh G S ∧ Rl G S ds vs ∧ Cont G (fun cls dx _ H => E cls dx H) [] S (c ds S.h) Q
section
variable {X : Cx} {G : Gm} {W : WX} {a b c e tg : Expr} {es : List Expr} {fa fb fc : Fe} {fr : Fa} {pos : Pos} {S S1 : Sta} {σ : L2.St} {Q : VK}
theorem Cont.call {r : Res D} (h : Cont G W σ S r Q) : Cont G (fun cls dx _ H => W cls dx σ H) [] S r Q := by
  cases r with
  | ok => exact h
  | exc => exact h
  | stuck => exact h
theorem tCallS_of {g : List D → Hd → Res D} {H : Hp} (h : tE G W (fargs g fr) σ H Q) : tCallS (spD G g) (WE W) (tA G W fr) σ H Q :=
  (tA_args h).mono fun vs H1 ⟨S, ds, e, hh, rl, c⟩ => ⟨S, ds, e, hh, rl, c.call⟩
/-- a def as the text's calls need it -/
structure DefOk (X : Cx) (G : Gm) (k : Nat) (x : Str) (i : Nat) (c : List D → Hd → Res D) : Prop where
  ex : ∃ (fd : FuncData) (ps : List Str), FnOk X.prog X.w X.K X.mg X.base (L2N.CX X.prog X.w) k (G.fa i) fd ps (spD G c) ∧ Binds X.K fd ps []
  mg : X.mg x = some (.ref (G.fa i))
  kp : PySem.W.keepIn X.K (.ref (G.fa i)) = true
theorem se_call {x : Str} {p : Pos} {i k : Nat} {g : List D → Hd → Res D} (F : DefOk X G k x i g) (hr : Room k X.A) (tk : L2N.Takes X W) (hg : Gl X x) (ha : SA X G W (e :: es) fr) (hdb : (x == ("__debug__" : Str)) = false)
    (he : starEach (e :: es) X.env = (false, eval e X.env) :: starEach es X.env) (hpl : (backTo pos (starEach es X.env)).any (·.1) = false) : SE X G W (.Call (.Name x p) (e :: es) [] pos) (fargs g fr) := by
  obtain ⟨fd, ps, F1, hb⟩ := F.ex
  exact PE.imp (pe_callS F1 hr hg F.mg F.kp hb (fun σ => L2N.passAt tk σ) ha hdb he hpl) fun σ H Q h => tCallS_of h

/-! ### raise -/
def fraise (c : Nat) : Fs := fun σ h => .exc ⟨c, []⟩ σ h
def fraiseI (c : Nat) (f : Str) (fa : Fe) : Fs := fun σ h => (fa σ h).st σ fun d h => .exc ⟨c, [(f, d)]⟩ σ h
theorem tS_raise {c : Nat} {Dn : Ends} {H : Hp} (h : tS G W (fraise c) Dn σ H) : W (.ref (G.ca c)) none σ H := by
  obtain ⟨S, sd, e, hh, rs, q⟩ := h
  subst e
  exact q S σ _ none (Stp.refl hh) rfl hh rs ⟨rfl, .inl ⟨rfl, rfl⟩⟩
/-- raise X('m') -/
theorem ss_raise {x m : Str} {j c : Nat} {p p2 pos' : Pos} (hc : X.calm = true) (tk : L2N.Takes X W) (q : PySem.W.excIn X.K (G.ca c) [.type "ValueError", .type "Exception", .type "BaseException", .type "object"] "ValueError.__new__" = true) (gC : X.mg x = some (.ref (G.ca c))) (kC : PySem.W.keepIn X.K (.ref (G.ca c)) = true)
    (r : Raises X (.ref (G.ca c))) (hg : Gl X x) (hdb : (x == ("__debug__" : Str)) = false) : SS X G W (.Raise (some (.Call (.Name x p) [.Constant (.str m) j p2] [] pos')) none pos) (fraise c) :=
  PS.imp (L2N.ps_raise hc tk (L2N.pmk_own F.excBase_ValueError q gC kC r hg hdb)) fun D σ H h => tS_raise h

/-! ### a class with its own __init__ -/
/-- X.__init__(self, ..), X a class of the text -/
structure VeB (K : PySem.W.Frag) (C : Addr) : Prop where
  rd : PySem.W.readsIn K C (.type "type") = true
  ga : PySem.W.specialIn K (.ref C) "__getattribute__" = some (some (.builtin "type.__getattribute__"))
  at_ : PySem.W.findCls K (.ref C) (.type "type") "__init__" = some (.val (.builtin "ValueError.__init__"))
theorem pe_own_init {C : Addr} {o : Expr} {te : TE} {ta : TA} {p2 : Pos} {pl : Sem Bool} (V : VeB X.K C) (ho : PE X o te) (ha : PA X (e :: es) ta)
    (hc : eval (.Call (.Attribute o "__init__" p2) (e :: es) [] pos) X.env = (do
      let ov ← eval o X.env
      standAt p2.atName
      let (f, first) ← holding [ov] (getMethod ov "__init__" pl)
      callWith pos f first (backTo pos (starEach (e :: es) X.env)) (backToKw pos (keywordEach [] X.env))))
    (he : starEach (e :: es) X.env = (false, eval e X.env) :: starEach es X.env) (hpl : (backTo pos (starEach es X.env)).any (·.1) = false) :
    PE X (.Call (.Attribute o "__init__" p2) (e :: es) [] pos) (fun σ H Q => te σ H fun x H1 => x = .ref C ∧ tVeI X.K ta σ H1 Q) := by
  refine ⟨fun pins s σ H Q I h => PySem.W.methodCall_KW (pl := pl) (thn (ho.run pins s σ H _ I h) fun u s1 ⟨x, H1, I1, rx, ex, q⟩ => ?_) hc⟩
  subst ex
  obtain rfl : u = Value.ref C := rx
  refine PySem.W.method_cls I1.kIn V.ga (PySem.W.cls_value I1.kIn V.rd V.at_ (by decide +kernel) ?_)
  show wpAny _ _ (callWith pos (Value.builtin "ValueError.__init__") [] (backTo pos (starEach (e :: es) X.env)) []) _ _ _
  refine callWith_method1 (thn (ha.run pos pins _ σ H1 _ (I1.tok _) q) fun us s2 ⟨vs, H2, I2, r2, a, C', ws, ev, hl, T, ea, q2⟩ => ?_) he hpl
  subst ev
  cases r2 with
  | @cons _ u0 _ ur ra rw2 =>
    obtain rfl : u0 = Value.ref a := ra
    have hlen : ur.length ≤ sizeLine := by
      rw [← Paired.length rw2, sizeLine_eq]
      omega
    exact oinit_ok T I2 ea hlen fun s' J => ⟨.non, H2, J, rfl, q2⟩
/-- what such an __init__(self, f) does -/
def spI (C : Addr) (f : Str) : Sp := fun vs H Q _ => ∃ (a : Addr) (v : V), vs = [.ref a, v] ∧ H a = some (exo a C none) ∧ ∀ dx, H dx = none → dx ≠ a → Q .non (upd (upd H dx (exd dx [(f, v)])) a (exo a C (some dx)))
end
theorem init_ok {P : Program} {w : World} {K : PySem.W.Frag} {mg : Str → Option Value} {base : Heap} {CX : CXT} {k : Nat} {nm qual : Str} {params : Arguments} {body : List Stmt} {scope : Scope} {f : Addr} {fd : FuncData} {fld : Str} {C B : Addr}
    {p1 p2 p3 p4 p5 p6 p7 p8 p9 p10 : Pos} {m : Str} {j : Nat}
    (F : FunD K nm qual params body scope [] [] f fd) (hb : body = [.Expr (.Call (.Attribute (.Name "WhenError" p1) "__init__" p2) [.Name "self" p3, .Constant (.str m) j p4] [] p5) p6, .Assign [.Attribute (.Name "self" p7) fld p8] (.Name fld p9) p10])
    (hs : FnScope ["self", fld] ["self", fld] scope) (hself : scope.names.lookup ("self" : Str) = some .local) (hfl : scope.names.lookup fld = some .local) (hx : scope.names.lookup ("WhenError" : Str) = some .globalImplicit)
    (hd : (fld == ("__debug__" : Str)) = false) (hcd : (fld == ("__classdict__" : Str)) = false)
    (hc : ∀ env : Env, ∃ pl : Sem Bool, eval (.Call (.Attribute (.Name "WhenError" p1) "__init__" p2) [.Name "self" p3, .Constant (.str m) j p4] [] p5) env = (do
      let ov ← eval (.Name "WhenError" p1) env
      standAt p2.atName
      let (f, first) ← holding [ov] (getMethod ov "__init__" pl)
      callWith p5 f first (backTo p5 (starEach [.Name "self" p3, .Constant (.str m) j p4] env)) (backToKw p5 (keywordEach [] env))))
    (gx : mg ("WhenError" : Str) = some (.ref B)) (V : VeB K B) (T : OexC K C) (hno : PySem.W.findIn K (.ref C) fld = some none) :
    FnOk P w K mg base CX (k + 1) f fd ["self", fld] (spI C fld) := by
  subst hb
  refine F.ok hs (fun vs H Q E h => ?_) (fun cdv A outer s H vs Q E hr h => ?_)
  · obtain ⟨a, v, rfl, _⟩ := h
    rfl
  · obtain ⟨a, v, rfl, ea, q⟩ := h
    obtain ⟨pl, hc⟩ := hc (cxOf CX P w K mg base ["self", fld] qual scope f cdv A outer s H E).env
    have e1 : PE (cxOf CX P w K mg base ["self", fld] qual scope f cdv A outer s H E) (.Name "self" p3) (tVar 0) := pe_var rfl (.inl hself) (by decide) (by decide)
    have e1' : PE (cxOf CX P w K mg base ["self", fld] qual scope f cdv A outer s H E) (.Name "self" p7) (tVar 0) := pe_var rfl (.inl hself) (by decide) (by decide)
    have e2 : PE (cxOf CX P w K mg base ["self", fld] qual scope f cdv A outer s H E) (.Name fld p9) (tVar 1) := pe_var rfl (.inl hfl) hd hcd
    have e3 : PE (cxOf CX P w K mg base ["self", fld] qual scope f cdv A outer s H E) (.Name "WhenError" p1) (tC (.ref B)) := pe_glob (v := .ref B) (u := .ref B) hx gx rfl (by decide)
    refine ⟨_, pss_cons (ps_expr (pe_own_init V e3 (pa_cons e1 (pa_cons pe_str pa_nil)) hc (by rfl) (by rfl))) (pss_one (ps_ost e1' e2)), ?_⟩
    refine ⟨rfl, .ref a, rfl, ?_⟩
    refine ⟨a, C, [L2.V.str m], rfl, (by show (1 : Nat) ≤ 1000; decide), T, ea, ?_⟩
    refine ⟨v, rfl, .ref a, rfl, a, C, rfl, T, hno, .inl ⟨ea, q⟩⟩
section
variable {X : Cx} {G : Gm} {W : WX} {a b c e tg : Expr} {es : List Expr} {fa fb fc : Fe} {fr : Fa} {pos : Pos} {S S1 : Sta} {σ : L2.St} {Q : VK}
/-- C(e, ..), C's own __init__ keeping sp: the exception's context is None -/
theorem pmk_oexN {CX : CXT} {x : Str} {C fI : Addr} {k : Nat} {fd : FuncData} {ps : List Str} {sp : Sp} {ta : TA} {p : Pos} (T : OexC X.K C) (iC : PySem.W.findIn X.K (.ref C) "__init__" = some (some (.ref fI))) (tI : PySem.W.typeIn X.K (.ref fI) = some (.type "function"))
    (F1 : FnOk X.prog X.w X.K X.mg X.base CX k fI fd ps sp) (hr : Room (k + 1) X.A) (hb : Binds X.K fd ps []) (hx : Passes CX X (fun _ _ _ => False)) (hg : Gl X x) (hm : X.mg x = some (.ref C)) (ha : PA X (e :: es) ta)
    (hdb : (x == ("__debug__" : Str)) = false) (he : starEach (e :: es) X.env = (false, eval e X.env) :: starEach es X.env) (hpl : (backTo pos (starEach es X.env)).any (·.1) = false) :
    L2N.PMk X (.Call (.Name x p) (e :: es) [] pos) (tMkO C sp [] ta) := by
  intro pins s σ H Q I h
  obtain ⟨nm, q, N, bs, bm, sn, sub, ab, col, dd, k0, k1, k2, k3, k5, hC, hbm⟩ := T.cls
  refine wpAny_Call_Name_kw (ld_glob I hg hm ?_ hdb)
  refine PySem.W.callWith_K (h₀ := X.base) I.ok.mod.kin T.kC (thn (ha.run pos pins s σ H _ I h) fun us s1 ⟨vs, H1, I1, r1, hz, q1⟩ => ⟨I1.kIn, ?_⟩) he hpl
  show wpAny _ _ (call (.ref C) us) _ _ _
  obtain ⟨hp, g, dr, tk, os⟩ := s1
  have up : hp.objs.size ≤ hp.objs.size + 1 := Nat.le_succ _
  have q0 := q1 (hp.objs.size + 1) (I1.hok.fresh up)
  rw [List.append_nil] at q0
  have stay : ∀ b o, hp.get? b = some o → ((hp.push (PySem.W.kdv_tup us)).push (PySem.HandSPX.excO C hp.objs.size)).get? b = some o := fun b o z => Heap.get?_push_of_some _ (Heap.get?_push_of_some _ z)
  have there : ((hp.push (PySem.W.kdv_tup us)).push (PySem.HandSPX.excO C hp.objs.size)).get? (hp.objs.size + 1) = some (PySem.HandSPX.excO C hp.objs.size) := by heap_get
  have J2 : Inv X pins σ (upd H1 (hp.objs.size + 1) (exo (hp.objs.size + 1) C none)) ⟨(hp.push (PySem.W.kdv_tup us)).push (PySem.HandSPX.excO C hp.objs.size), g, dr, tk, os⟩ :=
    I1.laid (t' := tk) stay up (exo_ok there)
  have rr : Vals (V.ref (hp.objs.size + 1) :: vs) (Value.ref (hp.objs.size + 1) :: us) := .cons rfl r1
  have ln : (Value.ref (hp.objs.size + 1) :: us ++ []).length = ps.length := by
    have z := rr.length
    rw [F1.len _ _ _ _ q0] at z
    rw [List.append_nil, z]
  have few : us.length ≤ sizeLine := by
    rw [← Paired.length r1, sizeLine_eq]
    omega
  have bi := hb _ (Value.ref (hp.objs.size + 1) :: us) J2.kIn ln
  rw [List.append_nil] at bi
  refine wpAny_call (PySem.HandSPX.call_own F.excBase_ValueError (fun Y => PySem.HandSPX.refsVE_contains Y bm hbm) (I1.kIn _ _ hC) (PySem.W.looks_findIn I1.kIn iC) (fun self => PySem.W.bind_fn I1.kIn self tI) few
    (codeAny_mono (F1.run _ X.stack _ _ ⟨Value.ref (hp.objs.size + 1) :: us, []⟩ (Value.ref (hp.objs.size + 1) :: us) _ _ (fun _ _ _ => False) (hr.make C us []) (J2.env0.make C us []) bi rr q0) fun r s' z => ?_))
  cases r with
  | error er => exact hx pins σ _ _ er s' J2 z
  | ok fl =>
    cases fl with
    | ret u =>
      obtain ⟨v, H2, os2, bare2, un2, hok2, rv, ev, d, fs, ea, ed, hd1, q2⟩ := z
      subst ev
      obtain ⟨h2, g2, d2, t2, os'⟩ := s'
      obtain ⟨t0, B, J, kB, nB, isE, na⟩ := mk_end0 (d2 := d2) (t2 := t2) I1 up stay un2 hok2 os2 bare2 ea ed hd1
      exact ⟨rv, ⟨hp.objs.size + 1, _, _, ⟨B, g2, d2, t2, os'⟩, _, .ref C, some d, rfl, J, kB, nB, isE, ⟨rfl, rfl, fun vs hv => by cases hv; rfl⟩, rfl, rfl, na, rfl, bare2, raises_own T.exC T.tyC, q2⟩⟩
    | next => exact False.elim z
    | brk => exact False.elim z
    | cont => exact False.elim z
theorem upd_del {H : Hp} {a d : Addr} {o u : HO} {v : HO} (ha : H a = none) (hd : d ≠ a) : upd (del (upd (upd (upd H a o) d u) a v) a) d = fun w => upd H d w := by
  funext w b
  unfold upd del
  by_cases h1 : b = d
  · simp [h1]
  · by_cases h2 : b = a
    · simp [h1, h2, ha, Ne.symm hd]
    · simp [h1, h2]
/-- a class of the text with its own __init__(self, f) -/
structure IniOk (X : Cx) (G : Gm) (k : Nat) (x : Str) (c : Nat) (f : Str) : Prop where
  T : OexC X.K (G.ca c)
  ex : ∃ (fI : Addr) (fd : FuncData), PySem.W.findIn X.K (.ref (G.ca c)) "__init__" = some (some (.ref fI)) ∧ PySem.W.typeIn X.K (.ref fI) = some (.type "function") ∧
    FnOk X.prog X.w X.K X.mg X.base (L2N.CX X.prog X.w) k fI fd ["self", f] (spI (G.ca c) f) ∧ Binds X.K fd ["self", f] []
  mg : X.mg x = some (.ref (G.ca c))
theorem ss_raiseI {x f : Str} {c k : Nat} {p pos' : Pos} (F : IniOk X G k x c f) (hr : Room (k + 1) X.A) (hc : X.calm = true) (tk : L2N.Takes X W) (hg : Gl X x) (ha : SE X G W a fa) (hdb : (x == ("__debug__" : Str)) = false)
    (he : starEach [a] X.env = (false, eval a X.env) :: starEach [] X.env) (hpl : (backTo pos' (starEach [] X.env)).any (·.1) = false) : SS X G W (.Raise (some (.Call (.Name x p) [a] [] pos')) none pos) (fraiseI c f fa) := by
  obtain ⟨fI, fd, h1, h2, h3, h4⟩ := F.ex
  have hx : Passes (L2N.CX X.prog X.w) X (fun _ _ _ => False) := L2N.passes_call tk fun _ _ _ _ z => z.elim
  refine PS.imp (L2N.ps_raise hc tk (pmk_oexN F.T h1 h2 h3 hr h4 hx hg F.mg (pa_cons ha pa_nil he) hdb he hpl)) fun Dn σ H h => ?_
  refine (tE_st (k := fun sd d h => .exc ⟨c, [(f, d)]⟩ sd h) h).mono fun v H1 ⟨S, sd, d, e, hh, rs, rv, q⟩ => ?_
  subst e
  refine ⟨(by decide : (1 : Nat) ≤ 1000), fun x hx => ⟨x, v, rfl, upd_same, fun dx hdx ne => ⟨rfl, dx, [(f, v)], upd_same, ?_, ?_, ?_⟩⟩⟩
  · rw [upd_ne ne, upd_same]
  · rw [upd_ne ne] at hdx
    exact hdx
  · rw [upd_ne ne] at hdx
    rw [upd_del hx ne]
    refine q (S.put dx (.xd [(f, v)])) σ _ (some dx) (Stp.put hh hdx) rfl (hh.put hdx) (rs.mono (Stp.put hh hdx)) ⟨rfl, .inr ⟨dx, _, rfl, ⟨?_, upd_same⟩, .cons (rv.mono (Stp.put hh hdx)) .nil, fun z => nomatch z⟩⟩
    exact fun l => hh.notLive hdx l

/-! ### try -/
/-- classes that a clause takes: of which numbers it is known -/
abbrev Tk := Nat → Option Bool
def TkOk (G : Gm) (c : Value) (t : Tk) : Prop := ∀ j b, t j = some b → PySem.W.exmOne G.K (.ref (G.ca j)) c = some b
/-- try: .. except X as e: a suite -/
def ftry (t : Tk) (body : Fs) (suite : Ec → Fs) : Fs := fun σ h => match body σ h with
  | .exc e σ h => (match t e.c with
    | some true => suite e σ h
    | some false => .exc e σ h
    | none => .stuck)
  | r => r
/-- return e.f -/
def fretX (c : Nat) (f : Str) (e : Ec) : Fs := fun _ h => if Nat.beq e.c c then (match e.fs.lookup f with
  | some d => .rt d h
  | none => .stuck) else .stuck
theorem Rf.get {ds : List (Str × D)} {vs : List (Str × V)} {f : Str} {d : D} (r : Rf G S ds vs) (e : ds.lookup f = some d) : ∃ v, vs.lookup f = some v ∧ Rv G S d v := by
  induction r with
  | nil => cases e
  | @cons g d0 v0 ds vs r q ih =>
    rw [List.lookup_cons] at e ⊢
    cases z : f == g with
    | true =>
      rw [z] at e
      cases e
      exact ⟨v0, rfl, r⟩
    | false =>
      rw [z] at e
      exact ih e
/-- what the suite is read as -/
def tSu (G : Gm) (i : Nat) (suite : Ec → Fs) (a : Addr) (cls : Value) (dx : Option Addr) : TS := fun Dn σ H => ∃ S sd e, S.H = H ∧ Rh G S ∧ Rs' G S sd σ ∧ Rx G S e cls dx ∧ σ[i]? = some (some (.ref a)) ∧ sd[i]? = some none ∧ S.H a = none ∧ ContS G W0 S (suite e sd S.h) Dn
theorem Rs'.hide {sd : Sl} {σ : L2.St} (r : Rs' G S sd σ) (i : Nat) (np : Np G i) (x : Option V) : Rs' G S (sd.set i none) (σ.set i x) := by
  refine ⟨by simp [r.len], fun j d h => ?_, np.get r.pin⟩
  by_cases hj : i = j
  · subst hj
    by_cases hl : i < sd.length
    · rw [List.getElem?_set_self hl] at h
      cases h
    · rw [List.getElem?_eq_none (by simpa using hl)] at h
      cases h
  · rw [List.getElem?_set_ne hj] at h
    rw [List.getElem?_set_ne hj]
    exact r.at_ j d h
def ftry' (t : Tk) (i : Nat) (body : Fs) (suite : Ec → Fs) : Fs := ftry t body fun e σ h => if Nat.blt i σ.length then (match suite e (σ.set i none) h with
  | .nx σ h => .nx (σ.set i none) h
  | .bk σ h => .bk (σ.set i none) h
  | .ct σ h => .ct (σ.set i none) h
  | .exc _ _ _ => .stuck
  | r => r) else .stuck
theorem Rx.mono (t : Stp S S1) {e : Ec} {cls : Value} {dx : Option Addr} (r : Rx G S e cls dx) : Rx G S1 e cls dx := by
  have go : ∀ {ds : List (Str × D)} {vs : List (Str × V)}, Rf G S ds vs → Rf G S1 ds vs := fun r => by
    induction r with
    | nil => exact .nil
    | cons r _ ih => exact .cons (r.mono t) ih
  exact ⟨r.1, r.2.imp id fun ⟨d, fs, h1, h2, h3, h4⟩ => ⟨d, fs, h1, h2.mono t (fun ps z => by cases z), go h3, h4⟩⟩
theorem try_of {t : Tk} {i : Nat} {c : Value} {f : Fs} {su : Ec → Fs} {Dn : Ends} {H : Hp} (np : Np G i) (hK : X.K = G.K) (ht : TkOk G c t) (h : tS G W (ftry' t i f su) Dn σ H) : tS G (wAs X.K c i (tSu G i su) W Dn) f Dn σ H := by
  obtain ⟨S, sd, e, hh, rs, q⟩ := h
  refine ⟨S, sd, e, hh, rs, ?_⟩
  have q : ContS G W S (match f sd S.h with
    | .exc e σ h => (match t e.c with
      | some true => (if Nat.blt i σ.length then (match su e (σ.set i none) h with
        | .nx σ h => .nx (σ.set i none) h
        | .bk σ h => .bk (σ.set i none) h
        | .ct σ h => .ct (σ.set i none) h
        | .exc _ _ _ => .stuck
        | r => r) else .stuck)
      | some false => .exc e σ h
      | none => .stuck)
    | r => r) Dn := q
  cases z : f sd S.h with
  | nx => rw [z] at q; exact q
  | rt => rw [z] at q; exact q
  | bk => rw [z] at q; exact q
  | ct => rw [z] at q; exact q
  | stuck => rw [z] at q; exact q
  | exc e1 sd1 h1 =>
    rw [z] at q
    intro S' σ' cls dx t1 eh hh1 rs1 rx
    obtain ⟨rc, rf⟩ := id rx
    have q : ContS G W S (match t e1.c with
      | some true => (if Nat.blt i sd1.length then (match su e1 (sd1.set i none) h1 with
        | .nx σ h => .nx (σ.set i none) h
        | .bk σ h => .bk (σ.set i none) h
        | .ct σ h => .ct (σ.set i none) h
        | .exc _ _ _ => .stuck
        | r => r) else .stuck)
      | some false => .exc e1 sd1 h1
      | none => .stuck) Dn := q
    cases zt : t e1.c with
    | none => rw [zt] at q; exact q.elim
    | some b =>
      rw [zt] at q
      refine ⟨b, by rw [hK, rc]; exact ht _ _ zt, fun hb a ha => ?_, fun hb => ?_⟩
      · subst hb
        have q : ContS G W S (if Nat.blt i sd1.length then (match su e1 (sd1.set i none) h1 with
          | .nx σ h => .nx (σ.set i none) h
          | .bk σ h => .bk (σ.set i none) h
          | .ct σ h => .ct (σ.set i none) h
          | .exc _ _ _ => .stuck
          | r => r) else .stuck) Dn := q
        cases zl : Nat.blt i sd1.length with
        | false => rw [zl] at q; exact q.elim
        | true =>
          rw [zl, if_pos rfl] at q
          have hil : i < sd1.length := Nat.le_of_ble_eq_true zl
          refine ⟨S', sd1.set i none, e1, rfl, hh1, rs1.hide i np _, rx, List.getElem?_set_self (by rw [← rs1.len]; exact hil), List.getElem?_set_self hil, ha, ?_⟩
          rw [eh]
          cases zs : su e1 (sd1.set i none) h1 with
          | nx sd2 h2 => rw [zs] at q; exact fun S2 σ2 t2 e2 hh2 rs2 => q S2 _ (t1.trans t2) e2 hh2 (rs2.hide i np none)
          | bk sd2 h2 => rw [zs] at q; exact fun S2 σ2 t2 e2 hh2 rs2 => q S2 _ (t1.trans t2) e2 hh2 (rs2.hide i np none)
          | ct sd2 h2 => rw [zs] at q; exact fun S2 σ2 t2 e2 hh2 rs2 => q S2 _ (t1.trans t2) e2 hh2 (rs2.hide i np none)
          | rt d h2 => rw [zs] at q; exact fun S2 v t2 e2 hh2 rv2 => q S2 v (t1.trans t2) e2 hh2 rv2
          | exc => rw [zs] at q; exact q.elim
          | stuck => rw [zs] at q; exact q.elim
      · subst hb
        exact q S' σ' cls dx t1 eh hh1 rs1 rx
/-- try: body, except x as n: suite; the suite read by tSu -/
theorem ss_try {x n : Str} {c : Value} {i : Nat} {body suite : List Stmt} {b₀ : Stmt} {np pos' : Pos} {t : Tk} {f : Fs} {su : Ec → Fs} (nq : Np G i) (hK : X.K = G.K) (hs : X.stack = X.env :: X.outer) (hf : X.env.frame = some X.env.locals) (hN : X.N.Nodup) (hi : X.N[i]? = some n) (hln : X.env.kindOf n = some .local)
    (hc : Names X x c) (tk : L2N.Takes X W) (ht : TkOk G c t) (hb : ∀ (W : WX) (pn : List (Addr × Obj)) (xe : Value → Shared → Prop), L2N.Takes (X.tr pn xe) W → PassesOwn (model X.prog X.w) X.A X.env xe → SSs (X.tr pn xe) G W body f)
    (hsu : ∀ (a : Addr) (oe : Obj) (cls : Value) (d : Option Addr) (pn : List (Addr × Obj)), L2N.Zn cls d oe → (∃ vs, oe.data = .fields vs) → PSs (X.suite a ((a, oe) :: pn)) (b₀ :: suite) (tSu G i su a cls d)) :
    SS X G W (.Try body [.ExceptHandler (some (.Name x np)) (some n) (b₀ :: suite) pos'] [] [] pos) (ftry' t i f su) :=
  PS.imp (L2N.ps_try_as hs hf hN hi hln hc tk hb hsu) fun Dn σ H h => try_of nq hK ht h
/-- e.f of the exception that is handled -/
theorem xf_of {c i : Nat} {fld : Str} {a : Addr} {cls : Value} {d : Option Addr} {x : Ec} {dd : D} (hc : x.c = c) (rx : Rx G S x cls d) (hf : x.fs.lookup fld = some dd) (h1 : σ[i]? = some (some (.ref a))) (q : ∀ v, Rv G S dd v → Q v S.H) :
    tXf a cls d (G.ca c) fld (tVar i) σ S.H Q := by
  obtain ⟨e1, e2⟩ := rx
  refine ⟨.ref a, h1, rfl, by rw [e1, hc], ?_⟩
  rcases e2 with ⟨z, _⟩ | ⟨ad, fs, z1, z2, z3, _⟩
  · rw [z] at hf
    cases hf
  · obtain ⟨v, z4, z5⟩ := z3.get hf
    exact ⟨ad, fs, v, z1, z2.2, z4, q v z5⟩
/-- return e.f, within the suite -/
theorem su_retX {n fld : Str} {c i : Nat} {p1 p2 p3 : Pos} {a : Addr} {oe : Obj} {cls : Value} {d : Option Addr} {pn : List (Addr × Obj)} (hz : L2N.Zn cls d oe) (hd : ∃ vs, oe.data = .fields vs) (T : XfC X.K (G.ca c)) (hno : PySem.W.findIn X.K (.ref (G.ca c)) fld = some none)
    (hi : X.N[i]? = some n) (hv : Vis X.env.scope n) (hdb : (n == ("__debug__" : Str)) = false) (hcd : (n == ("__classdict__" : Str)) = false) :
    PSs (X.suite a ((a, oe) :: pn)) [.Return (some (.Attribute (.Name n p1) fld p2)) p3] (tSu G i (fretX c fld) a cls d) := by
  have e1 : PE (X.suite a ((a, oe) :: pn)) (.Name n p1) (tVar i) := pe_var hi hv hdb hcd
  refine PSs.imp (pss_one (ps_ret (pe_xf (X := X) T hno hz.zc hd e1))) fun Dn σ H ⟨S, sd, x, e1, hh, rs, rx, h1, h2, h3, q⟩ => ?_
  subst e1
  have q : ContS G W0 S (if Nat.beq x.c c then (match x.fs.lookup fld with
    | some d => .rt d S.h
    | none => .stuck) else .stuck) Dn := q
  cases zc : Nat.beq x.c c with
  | false => rw [zc] at q; exact q.elim
  | true =>
    rw [zc, if_pos rfl] at q
    cases zf : x.fs.lookup fld with
    | none => rw [zf] at q; exact q.elim
    | some dd =>
      rw [zf] at q
      exact xf_of (Nat.eq_of_beq_eq_true zc) rx zf h1 fun v rv => q S v (Stp.refl hh) rfl hh rv
end

/-! text Ev10.lean -/
/-! Pf 10: contexts; the rules by context -/
open PySem L2 TL PyProof.Rows

/-! ### chained comparisons -/
def fchain (g g' : D → D → Hd → Res D) (fa fb fc : Fe) : Fe := fun σ h => (fa σ h).bind fun x h => (fb σ h).bind fun y h => (g x y h).bind fun z h => match z with
  | .bl true => (fc σ h).bind fun w h => g' y w h
  | .bl false => .ok (.bl false) h
  | _ => .stuck
/-- an operator that makes nothing -/
def Pure2 (g : D → D → Hd → Res D) : Prop := ∀ x y h, (∃ b, g x y h = .ok (.bl b) h) ∨ g x y h = .stuck
section
variable {X : Cx} {G : Gm} {W : WX} {a b c e tg : Expr} {es : List Expr} {fa fb fc : Fe} {fr : Fa} {pos : Pos} {S S1 : Sta} {σ : L2.St} {Q : VK}
theorem chain_of {r r' : R2} {g g' : D → D → Hd → Res D} (hr : OpD G r g) (hr' : OpD G r' g') (hp : Pure2 g) {H : Hp} (h : tE G W (fchain g g' fa fb fc) σ H Q) : tChain r r' (tE G W fa) (tE G W fb) (tE G W fc) σ H Q := by
  obtain ⟨S, sd, e, hh, rs, q⟩ := h
  refine ⟨S, sd, e, hh, rs, (Cont.bind q).mono fun x H1 ⟨S1, dx, e1, t1, hh1, rx, q1⟩ => ?_⟩
  refine ⟨S1, sd, e1, hh1, rs.mono t1, (Cont.bind q1).mono fun y H2 ⟨S2, dy, e2, t2, hh2, ry, q2⟩ => ?_⟩
  subst e2
  have rs2 := (rs.mono t1).mono t2
  rcases hp dx dy S2.h with ⟨z, ez⟩ | ez
  · rw [ez] at q2
    refine hr W σ S2 dx dy x y _ hh2 (rx.mono t2) ry ?_
    rw [ez]
    intro S3 v t3 e3 hh3 rv
    refine ⟨z, rv.bl_inv, ?_⟩
    cases z with
    | false =>
      rw [if_neg Bool.false_ne_true]
      have q2 : Cont G W σ S2 (.ok (.bl false) S2.h) Q := q2
      exact q2 S3 _ t3 e3 hh3 (.bl _)
    | true =>
      rw [if_pos rfl]
      have q2 : Cont G W σ S2 ((fc sd S2.h).bind fun w h => g' dy w h) Q := q2
      rw [← e3] at q2
      refine ⟨S3, sd, rfl, hh3, rs2.mono t3, (Cont.bind (Cont.step t3 q2)).mono fun w H4 ⟨S4, dw, e4, t4, hh4, rw4, q4⟩ => ?_⟩
      subst e4
      exact hr' W σ S4 dy dw y w Q hh4 ((ry.mono t3).mono t4) rw4 q4
  · rw [ez] at q2
    exact q2.elim
theorem se_chain {op op' : CmpOp} {r r' : R2} {g g' : D → D → Hd → Res D} (ho : OpR X (compareOp op) r) (ho' : OpR X (compareOp op') r') (hr : OpD G r g) (hr' : OpD G r' g') (hp : Pure2 g) (ha : SE X G W a fa) (hb : SE X G W b fb) (hc : SE X G W c fc)
    (hm : lastMarks [op, op'] [b, c] = false) : SE X G W (.Compare a [op, op'] [b, c] pos) (fchain g g' fa fb fc) := PE.imp (pe_chain ho ho' ha hb hc hm) fun σ H Q h => chain_of hr hr' hp h
theorem st_chain {op op' : CmpOp} {r r' : R2} {g g' : D → D → Hd → Res D} (ho : OpR X (compareOp op) r) (ho' : OpR X (compareOp op') r') (hr : OpD G r g) (hr' : OpD G r' g') (hp : Pure2 g) (ha : SE X G W a fa) (hb : SE X G W b fb) (hc : SE X G W c fc)
    (hm : lastMarks [op, op'] [b, c] = false) : ST X G W (.Compare a [op, op'] [b, c] pos) (fchain g g' fa fb fc) := PT.imp (pt_chain ho ho' ha hb hc hm) fun σ H Q h => chain_of hr hr' hp h
theorem gcmp_pure {f : Int → Int → Bool} : Pure2 (gcmp f) := fun x y h => by
  cases x <;> cases y <;> first | exact .inl ⟨_, rfl⟩ | exact .inr rfl
end

/-! ### contexts -/
/-- where a function is handed in -/
def isPin (x : Str) (i : Nat) : Bool := (x == ("call" : Str) && Nat.beq i 0) || (x == ("deed" : Str) && Nat.beq i 1) || (x == ("good" : Str) && Nat.beq i 2) || ((x == ("action" : Str) && Nat.beq i 1) || x == ("e" : Str))
structure Cs (X : Cx) (G : Gm) (W : WX) (N : List Str) (sc : Scope) (k : Nat) (m : Bool) : Prop where
  hN : X.N = N
  nd : N.Nodup
  hsc : X.env.scope = sc
  kind : sc.kind = .function
  hP : X.prog = G.P
  hw : X.w = G.wd
  hK : X.K = G.K
  hmg : X.mg = G.mg
  hB : X.base = G.base
  md : Md m X
  tk : L2N.Takes X W
  rm : L2H.RoomH k X.A
  hd : m = false → X.A.handled = none
  np : ∀ (i : Nat) (x : Str), N[i]? = some x → isPin x i = false → Np G i
  npE : m = false → ∀ (i : Nat), N[i]? = some ("e" : Str) → Np G i
structure Ct (X : Cx) (G : Gm) (W : WX) (N : List Str) (sc : Scope) (k : Nat) (m : Bool) : Prop where
  cs : Cs X G W N sc k m
  fn : ∀ x, X.fn x = true
  ps : PassesOwn (model X.prog X.w) X.A X.env X.xe
  st : X.stack = X.env :: X.outer
  fr : X.env.frame = some X.env.locals
section
variable {X Y : Cx} {G : Gm} {W : WX} {N : List Str} {sc scope : Scope} {k : Nat} {m : Bool} {a b c e tg : Expr} {es : List Expr} {fa fb fc : Fe} {fr : Fa} {pos : Pos} {fi : Fi}
theorem Cs.calm (C : Cs X G W N sc k false) : X.calm = true := C.md.calm rfl
theorem Cs.room (C : Cs X G W N sc k false) : Room k X.A := ⟨C.hd rfl, C.rm.dp, C.rm.un⟩
theorem Ct.tr (C : Ct X G W N sc k false) {W' : WX} {pn : List (Addr × Obj)} {xe : Value → Shared → Prop} (tk : L2N.Takes (X.tr pn xe) W') (ps : PassesOwn (model X.prog X.w) X.A X.env xe) : Ct (X.tr pn xe) G W' N sc k false :=
  ⟨⟨C.cs.hN, C.cs.nd, C.cs.hsc, C.cs.kind, C.cs.hP, C.cs.hw, C.cs.hK, C.cs.hmg, C.cs.hB, ⟨fun _ => C.cs.calm, fun z => nomatch z⟩, tk, C.cs.rm, C.cs.hd, C.cs.np, C.cs.npE⟩, C.fn, ps, C.st, C.fr⟩
theorem Cs.blk (C : Cs X G W N sc k m) (hk : scope.kind = .function) (B : BK X scope m Y) : Cs Y G W0 N (relS scope sc) k m := by
  have md := B.md C.md
  have tk : L2N.Takes Y W0 := fun u s' h => by
    obtain ⟨_, _, _, _, _, _, _, _, _, _, _, _, _, _, _, _, w⟩ := h
    exact w.elim
  obtain ⟨s, H, Ca, cl, fp, ⟨e0, e⟩ | ⟨e0, p, _, _, e⟩⟩ := B.is
  · subst e
    refine ⟨C.hN, C.nd, ?_, hk, C.hP, C.hw, C.hK, C.hmg, C.hB, md, tk, C.rm, C.hd, C.np, C.npE⟩
    show relS scope X.env.scope = _
    rw [C.hsc]
  · subst e
    refine ⟨C.hN, C.nd, ?_, hk, C.hP, C.hw, C.hK, C.hmg, C.hB, md, tk, C.rm, C.hd, C.np, C.npE⟩
    show relS scope X.env.scope = _
    rw [C.hsc]
theorem Cs.un (C : Cs X G W N sc k m) : X.A.units + 61 < cLine := by
  have := C.rm.un
  omega

/-! ### checks -/
def isK (a : Option NameKind) (b : NameKind) : Bool := match a, b with
  | some .local, .local => true
  | some .cell, .cell => true
  | some .free, .free => true
  | some .globalImplicit, .globalImplicit => true
  | _, _ => false
theorem isK_ok {a : Option NameKind} {b : NameKind} (h : isK a b = true) : a = some b := by
  cases a with
  | none => cases h
  | some k => cases k <;> cases b <;> first | rfl | cases h
def chkV (N : List Str) (sc : Scope) (x : Str) (i : Nat) : Bool := decide (N[i]? = some x) && ((isK (sc.names.lookup x) .local || (isK (sc.names.lookup x) .cell || isK (sc.names.lookup x) .free)) && (!(x == ("__debug__" : Str)) && !(x == ("__classdict__" : Str))))
theorem chkV_ok (C : Cs X G W N sc k m) {x : Str} {i : Nat} (h : chkV N sc x i = true) : X.N[i]? = some x ∧ Vis X.env.scope x ∧ (x == ("__debug__" : Str)) = false ∧ (x == ("__classdict__" : Str)) = false := by
  unfold chkV at h
  simp only [Bool.and_eq_true, Bool.or_eq_true, decide_eq_true_eq, Bool.not_eq_true'] at h
  obtain ⟨h1, h2, h3, h4⟩ := h
  refine ⟨by rw [C.hN]; exact h1, ?_, h3, h4⟩
  rw [C.hsc]
  exact h2.imp isK_ok fun z => z.imp isK_ok isK_ok
def chkG (sc : Scope) (x : Str) : Bool := isK (sc.names.lookup x) .globalImplicit && (!(x == ("__debug__" : Str)) && decide (x ≠ ("__name__" : Str)))
theorem chkG_ok (C : Cs X G W N sc k m) {x : Str} (h : chkG sc x = true) : Gl X x ∧ (x == ("__debug__" : Str)) = false ∧ x ≠ ("__name__" : Str) := by
  unfold chkG at h
  simp only [Bool.and_eq_true, decide_eq_true_eq, Bool.not_eq_true'] at h
  refine ⟨?_, h.2⟩
  show X.env.scope.names.lookup x = _
  rw [C.hsc]
  exact isK_ok h.1
/-- a target that is a plain local -/
def chkL (N : List Str) (sc : Scope) (x : Str) (i : Nat) : Bool := decide (N[i]? = some x) && (isK (sc.names.lookup x) .local && !isPin x i)
theorem chkL_ok (C : Cs X G W N sc k m) {x : Str} {i : Nat} (h : chkL N sc x i = true) : X.N[i]? = some x ∧ X.env.scope.names.lookup x = some .local ∧ Np G i := by
  unfold chkL at h
  simp only [Bool.and_eq_true, decide_eq_true_eq, Bool.not_eq_true'] at h
  exact ⟨by rw [C.hN]; exact h.1, by rw [C.hsc]; exact isK_ok h.2.1, C.np i x h.1 h.2.2⟩
/-- .. or a cell -/
def chkT (N : List Str) (sc : Scope) (x : Str) (i : Nat) : Bool := decide (N[i]? = some x) && ((isK (sc.names.lookup x) .local || isK (sc.names.lookup x) .cell) && !isPin x i)
theorem chkT_ok (C : Cs X G W N sc k m) {x : Str} {i : Nat} (h : chkT N sc x i = true) : X.N[i]? = some x ∧ Loc X.env.scope x ∧ Np G i := by
  unfold chkT at h
  simp only [Bool.and_eq_true, Bool.or_eq_true, decide_eq_true_eq, Bool.not_eq_true'] at h
  exact ⟨by rw [C.hN]; exact h.1, by rw [C.hsc]; exact h.2.1.imp isK_ok isK_ok, C.np i x h.1 h.2.2⟩

/-! ### expressions -/
theorem v_ (C : Cs X G W N sc k m) {x : Str} {i : Nat} (h : chkV N sc x i = true := by kernel_rfl) : SE X G W (.Name x pos) (fvar i) := by
  obtain ⟨h1, h2, h3, h4⟩ := chkV_ok C h
  exact se_var h1 h2 h3 h4
theorem vz_ (C : Cs X G W N sc k m) {x : Str} {i : Nat} (h : chkV N sc x i = true := by kernel_rfl) : SE X G W (.Name x pos) (ffrz i) := by
  obtain ⟨h1, h2, h3, h4⟩ := chkV_ok C h
  exact se_frz h1 h2 h3 h4
theorem ki_ {i : Int} {j : Nat} : SE X G W (.Constant (.int i) j pos) (fcon (.int i)) := se_con (fun _ => .int i) pe_int
theorem ks_ {i : Str} {j : Nat} : SE X G W (.Constant (.str i) j pos) (fcon (.str i)) := se_con (fun _ => .str i) pe_str
theorem kb_ {i : Bool} {j : Nat} : SE X G W (.Constant (.bool i) j pos) (fcon (.bl i)) := se_con (fun _ => .bl i) pe_bl
theorem kn_ {j : Nat} : SE X G W (.Constant .none j pos) (fcon .non) := se_con (fun _ => .non) pe_non
/-- a module's constant -/
structure ConOk (G : Gm) (x : Str) (d : D) : Prop where
  ex : ∃ (u : Value) (v : V), G.mg x = some u ∧ RelV v u ∧ ∀ S, Rv G S d v
theorem g_ (C : Cs X G W N sc k m) {x : Str} {d : D} (F : ConOk G x d) (h : chkG sc x = true := by kernel_rfl) : SE X G W (.Name x pos) (fcon d) := by
  obtain ⟨h1, h2, h3⟩ := chkG_ok C h
  obtain ⟨u, v, e1, e2, e3⟩ := F.ex
  exact se_con e3 (pe_glob h1 (by rw [C.hmg]; exact e1) e2 h2)
theorem n_ : SA X G W [] fnil := sa_nil
theorem c_ (ha : SE X G W e fa) (hr : SA X G W es fr) (hs : starEach (e :: es) X.env = (false, eval e X.env) :: starEach es X.env := by rfl) : SA X G W (e :: es) (fcons fa fr) := sa_cons hs ha hr
theorem add_ (C : Cs X G W N sc k m) (ha : SE X G W a fa) (hb : SE X G W b fb) : SE X G W (.BinOp a .Add b pos) (fbin gadd fa fb) := se_bin op_addAll (by rw [C.hK]; exact gadd_of) ha hb
theorem addM_ (C : Cs X G W N sc k m) (ha : SE X G W a fa) (hb : SE X G W b fb) : SE X G W (.BinOp a .Add b pos) (fbin gaddM fa fb) := se_bin op_addAll (by rw [C.hK]; exact gaddM_of) ha hb
/-- text, many times -/
def gmulS (x y : D) (h : Hd) : Res D := match x, y with
  | .str a, .int k => if (decide (2 ≤ k) && decide (k ≤ 1000)) && (Nat.ble 1 a.length && Nat.ble a.length 10000) then .ok (.str ⟨(List.replicate k.toNat a.cps).foldl (· ++ ·) #[]⟩) h else .stuck
  | _, _ => .stuck
abbrev rMulS : R2 := fun x y H Q => ∃ (a : Str) (k : Int), x = .str a ∧ y = .int k ∧ MulOk a k ∧ Q (.str (Txt.mul a k)) H
theorem op_mulS : OpR X (binaryOp .Mult) rMulS := by
  intro pins s σ H x y v u Q I rx ry h
  obtain ⟨a, k, rfl, rfl, hok, q⟩ := h
  obtain ⟨t, rfl⟩ := rx
  obtain ⟨t', rfl⟩ := ry
  exact SB.mul hok fun t2 k2 => ⟨.str _, H, I.tok _, ⟨_, rfl⟩, q⟩
theorem gmulS_of : OpD G rMulS gmulS := fun W σ S dx dy x y Q hh rx ry c => by
  unfold gmulS at c
  split at c
  · rename_i a k
    split at c
    · rename_i z
      simp only [Bool.and_eq_true, decide_eq_true_eq] at z
      obtain ⟨⟨z1, z2⟩, z3, z4⟩ := z
      have z3 := Nat.le_of_ble_eq_true z3
      have z4 := Nat.le_of_ble_eq_true z4
      have n1 : ¬ k < 1 := by omega
      have n2 : (k == 1 || a.length == 0) = false := by
        have h1 : (k == 1) = false := beq_eq_false_iff_ne.mpr (by omega)
        have h2 : (a.length == 0) = false := beq_eq_false_iff_ne.mpr (by omega)
        rw [h1, h2]
        rfl
      have zk : a.length * k.toNat ≤ 10000 * 1000 := Nat.mul_le_mul z4 (by omega)
      refine ⟨a, k, rx.str_inv, ry.int_inv, ⟨?_, fun _ _ => ?_, fun _ _ => ?_⟩, ?_⟩
      · rw [decide_eq_false (by omega), decide_eq_false (by omega)]
        rfl
      · have : (9223372036854774 : Int) ≤ (2 ^ 63 - 1) / k := by
          rw [Int.le_ediv_iff_mul_le (by omega)]
          have : (9223372036854774 : Int) * k ≤ 9223372036854774 * 1000 := Int.mul_le_mul_of_nonneg_left z2 (by decide)
          omega
        have z5 : (a.length : Int) ≤ 10000 := by omega
        omega
      · exact decide_eq_false (by rw [sizeLine_eq]; omega)
      · have e : Txt.mul a k = ⟨(List.replicate k.toNat a.cps).foldl (· ++ ·) #[]⟩ := by
          unfold Txt.mul
          rw [if_neg n1, if_neg (by rw [n2]; exact Bool.false_ne_true)]
        rw [e]
        exact c.val rfl hh (.str _)
    · exact c.elim
  · exact c.elim
theorem mulS_ (ha : SE X G W a fa) (hb : SE X G W b fb) : SE X G W (.BinOp a .Mult b pos) (fbin gmulS fa fb) := se_bin op_mulS gmulS_of ha hb
abbrev gsub := gint fun i j => i - j
theorem sub_ (ha : SE X G W a fa) (hb : SE X G W b fb) : SE X G W (.BinOp a .Sub b pos) (fbin gsub fa fb) := se_bin op_sub gint_of ha hb
theorem mul_ (C : Cs X G W N sc k m) (ha : SE X G W a fa) (hb : SE X G W b fb) : SE X G W (.BinOp a .Mult b pos) (fbin gmul fa fb) := se_bin op_mulAll (by rw [C.hK]; exact gmul_of) ha hb
theorem mulM_ (C : Cs X G W N sc k m) (ha : SE X G W a fa) (hb : SE X G W b fb) : SE X G W (.BinOp a .Mult b pos) (fbin gmulM fa fb) := se_bin op_mulAll (by rw [C.hK]; exact gmulM_of) ha hb
abbrev gdiv := gintC divOk fun i j => i / j
abbrev gmod := gintC modOk fun i j => i % j
abbrev gpow := gintC powOk fun i j => i ^ j.toNat
theorem div_ (ha : SE X G W a fa) (hb : SE X G W b fb) : SE X G W (.BinOp a .FloorDiv b pos) (fbin gdiv fa fb) := se_bin op_fdivW (gintC_of divOk_of) ha hb
theorem mod_ (ha : SE X G W a fa) (hb : SE X G W b fb) : SE X G W (.BinOp a .Mod b pos) (fbin gmod fa fb) := se_bin op_mod (gintC_of modOk_of) ha hb
theorem pow_ (ha : SE X G W a fa) (hb : SE X G W b fb) : SE X G W (.BinOp a .Pow b pos) (fbin gpow fa fb) := se_bin op_pow (gintC_of powOk_of) ha hb
abbrev glt := gcmp fun i j => decide (i < j)
abbrev gle := gcmp fun i j => decide (i ≤ j)
abbrev ggt := gcmp fun i j => decide (j < i)
abbrev gge := gcmp fun i j => decide (j ≤ i)
/-- an operator of comparison: its reading and its function -/
structure CmpD (X : Cx) (G : Gm) (op : CmpOp) (g : D → D → Hd → Res D) : Prop where
  ex : ∃ r : R2, OpR X (compareOp op) r ∧ OpD G r g
theorem lt_ : CmpD X G .Lt glt := ⟨_, op_lt, gcmp_of⟩
theorem le_ : CmpD X G .LtE gle := ⟨_, op_le, gcmp_of⟩
theorem gt_ : CmpD X G .Gt ggt := ⟨_, op_gt, gcmp_of⟩
theorem ge_ : CmpD X G .GtE gge := ⟨_, op_ge, gcmp_of⟩
theorem eq_ (C : Cs X G W N sc k m) : CmpD X G .Eq geq := ⟨_, op_eqQ (by have := C.un; omega), by rw [C.hK]; exact eqQ_of⟩
theorem ne_ (C : Cs X G W N sc k m) : CmpD X G .NotEq gne := ⟨_, op_neQ (by have := C.un; omega), by rw [C.hK]; exact neQ_of⟩
theorem in_ (C : Cs X G W N sc k m) : CmpD X G .In (gin false) := ⟨_, op_signF.or (op_inQ C.un), by rw [C.hK]; exact gin_of false⟩
theorem ni_ (C : Cs X G W N sc k m) : CmpD X G .NotIn (gin true) := ⟨_, op_signT.or (op_notInQ C.un), by rw [C.hK]; exact gin_of true⟩
theorem is_ : CmpD X G .Is (gis false) := ⟨_, op_isF, gis_of false⟩
theorem isn_ : CmpD X G .IsNot (gis true) := ⟨_, op_isT, gis_of true⟩
theorem cm_ {op : CmpOp} {g : D → D → Hd → Res D} (O : CmpD X G op g) (ha : SE X G W a fa) (hb : SE X G W b fb) (hm : behindInMarks op b = false := by kernel_rfl) : SE X G W (.Compare a [op] [b] pos) (fbin g fa fb) :=
  let ⟨_, ho, hr⟩ := O.ex
  se_cmp ho hr hm ha hb
theorem tcm_ {op : CmpOp} {g : D → D → Hd → Res D} (O : CmpD X G op g) (ha : SE X G W a fa) (hb : SE X G W b fb) (hm : behindInMarks op b = false := by kernel_rfl) : ST X G W (.Compare a [op] [b] pos) (fbin g fa fb) :=
  let ⟨_, ho, hr⟩ := O.ex
  st_cmp ho hr hm ha hb
theorem ch_ {op op' : CmpOp} {g : Int → Int → Bool} {g' : D → D → Hd → Res D} (O : CmpD X G op (gcmp g)) (O' : CmpD X G op' g') (ha : SE X G W a fa) (hb : SE X G W b fb) (hc : SE X G W c fc) (hm : lastMarks [op, op'] [b, c] = false := by kernel_rfl) : SE X G W (.Compare a [op, op'] [b, c] pos) (fchain (gcmp g) g' fa fb fc) :=
  let ⟨_, ho, hr⟩ := O.ex
  let ⟨_, ho', hr'⟩ := O'.ex
  se_chain ho ho' hr hr' gcmp_pure ha hb hc hm
theorem tch_ {op op' : CmpOp} {g : Int → Int → Bool} {g' : D → D → Hd → Res D} (O : CmpD X G op (gcmp g)) (O' : CmpD X G op' g') (ha : SE X G W a fa) (hb : SE X G W b fb) (hc : SE X G W c fc) (hm : lastMarks [op, op'] [b, c] = false := by kernel_rfl) : ST X G W (.Compare a [op, op'] [b, c] pos) (fchain (gcmp g) g' fa fb fc) :=
  let ⟨_, ho, hr⟩ := O.ex
  let ⟨_, ho', hr'⟩ := O'.ex
  st_chain ho ho' hr hr' gcmp_pure ha hb hc hm
theorem tv_ (ha : SE X G W e fa) (he : ∀ whole, isTrue e X.env whole = (do let v ← whole; standAt e.pos; holding [v] (truthy v)) := by intro _; rfl) : ST X G W e fa := st_val he ha
theorem tw_ (h : SW X G W e fa) : ST X G W e fa := h.pt
theorem ix_ (C : Cs X G W N sc k m) (ha : SE X G W a fa) (hb : SE X G W b fb) (hs : PlainIx b := by intro _ _; rfl) : SE X G W (.Subscript a b pos) (fbin gix fa fb) := se_ix hs ha hb C.hK
theorem sl_ (C : Cs X G W N sc k m) {lo hi : Option Expr} {fl fh : Fo} {p2 : Pos} (ha : SE X G W a fa) (hl : SO X G W lo fl) (hu : SO X G W hi fh) : SE X G W (.Subscript a (.Slice lo hi none p2) pos) (fslice fa fl fh) := se_slice ha hl hu C.hK
/-- a def as the text's calls need it -/
structure GDef (G : Gm) (k : Nat) (x : Str) (i : Nat) (c : List D → Hd → Res D) : Prop where
  ex : ∃ (fd : FuncData) (ps : List Str), FnOk G.P G.wd G.K G.mg G.base (L2N.CX G.P G.wd) k (G.fa i) fd ps (spD G c) ∧ Binds G.K fd ps []
  mg : G.mg x = some (.ref (G.fa i))
  kp : PySem.W.keepIn G.K (.ref (G.fa i)) = true
/-- .. and while an exception is handled -/
structure GDefH (G : Gm) (k : Nat) (x : Str) (i : Nat) (c : List D → Hd → Res D) : Prop where
  ex : ∃ (fd : FuncData) (ps : List Str), L2H.FnH G.P G.wd G.K G.mg G.base (L2N.CX G.P G.wd) k (G.fa i) fd ps (spD G c) ∧ Binds G.K fd ps []
  mg : G.mg x = some (.ref (G.fa i))
  kp : PySem.W.keepIn G.K (.ref (G.fa i)) = true
structure GDefM (G : Gm) (m : Bool) (k : Nat) (x : Str) (i : Nat) (c : List D → Hd → Res D) : Prop where
  calm : m = false → GDef G k x i c
  hot : m = true → GDefH G k x i c
theorem GDef.to {kk : Nat} (C : Cs X G W N sc kk m) {x : Str} {i : Nat} {g : List D → Hd → Res D} (F : GDef G k x i g) : DefOk X G k x i g := by
  refine ⟨?_, by rw [C.hmg]; exact F.mg, by rw [C.hK]; exact F.kp⟩
  rw [C.hP, C.hw, C.hK, C.hmg, C.hB]
  exact F.ex
/-- a call of a def -/
theorem f_ {kk : Nat} (C : Cs X G W N sc kk m) {x : Str} {p : Pos} {i : Nat} {g : List D → Hd → Res D} (F : GDefM G m k x i g) (ha : SA X G W (e :: es) fr) (hk : k ≤ kk := by first | exact Nat.le_add_right _ _ | exact Nat.le_refl _) (h : chkG sc x = true := by kernel_rfl)
    (he : starEach (e :: es) X.env = (false, eval e X.env) :: starEach es X.env := by rfl) (hpl : (backTo pos (starEach es X.env)).any (·.1) = false := by rfl) : SE X G W (.Call (.Name x p) (e :: es) [] pos) (fargs g fr) := by
  obtain ⟨h1, h2, h3⟩ := chkG_ok C h
  cases m with
  | false => exact se_call ((F.calm rfl).to C) (C.room.mono hk) C.tk h1 ha h2 he hpl
  | true =>
    obtain ⟨⟨fd, ps, F1, hb⟩, f2, f3⟩ := F.hot rfl
    rw [← C.hP, ← C.hw, ← C.hK, ← C.hmg, ← C.hB] at F1
    rw [← C.hK] at hb f3
    rw [← C.hmg] at f2
    exact PE.imp (L2H.pe_callH F1 (C.rm.mono hk) (C.md.hot rfl) h1 f2 f3 hb (fun σ => L2N.passAt C.tk σ) ha h2 he hpl) fun σ H Q h => tCallS_of h
/-- a built-in: its reading and its function -/
structure BltD (X : Cx) (G : Gm) (x : Str) (g : List D → Hd → Res D) : Prop where
  ex : ∃ r : List V → Hp → VK → Prop, CalD G r g ∧ ((∃ id, CallR X (.builtin id) r ∧ bootBuiltins x = some (.builtin id)) ∨ ∃ T, CallR X (.type T) r ∧ bootBuiltins x = some (.type T))
theorem b_ (C : Cs X G W N sc k m) {x : Str} {p : Pos} {g : List D → Hd → Res D} (B : BltD X G x g) (hm : G.mg x = none) (ha : SA X G W (e :: es) fr) (h : chkG sc x = true := by kernel_rfl)
    (he : starEach (e :: es) X.env = (false, eval e X.env) :: starEach es X.env := by rfl) (hpl : (backTo pos (starEach es X.env)).any (·.1) = false := by rfl) : SE X G W (.Call (.Name x p) (e :: es) [] pos) (fargs g fr) := by
  obtain ⟨h1, h2, h3⟩ := chkG_ok C h
  obtain ⟨r, hd, ⟨id, hc, hv⟩ | ⟨T, hc, hv⟩⟩ := B.ex
  · exact se_callB hc hd h1 (by rw [C.hmg]; exact hm) hv ha h3 h2 he hpl
  · exact se_callTy hc hd h1 (by rw [C.hmg]; exact hm) hv ha h3 h2 he hpl
theorem len_ (C : Cs X G W N sc k m) : BltD X G "len" (g1 glen) := ⟨_, by rw [C.hK]; exact glen_of, .inl ⟨_, call_len, by kernel_rfl⟩⟩
theorem abs_ : BltD X G "abs" (g1 gabs) := ⟨_, gabs_of, .inl ⟨_, call_abs, by kernel_rfl⟩⟩
theorem max_ (C : Cs X G W N sc k false) : BltD X G "max" (g2 gmax2) := ⟨_, gmax2_of, .inl ⟨_, call_max2 C.calm, by kernel_rfl⟩⟩
theorem min_ (C : Cs X G W N sc k false) : BltD X G "min" (g2 gmin2) := ⟨_, gmin2_of, .inl ⟨_, call_min2 C.calm, by kernel_rfl⟩⟩
theorem int_ : BltD X G "int" (g1 gint1) := ⟨_, gint1_of, .inr ⟨_, call_intAll, by kernel_rfl⟩⟩
theorem str_ : BltD X G "str" (g1 gstr1) := ⟨_, gstr1_of, .inr ⟨_, call_strAll, by kernel_rfl⟩⟩
theorem tuple_ (C : Cs X G W N sc k m) : BltD X G "tuple" (g1 gtuple1) := ⟨_, by rw [C.hK]; exact gtuple1_of, .inr ⟨_, call_tuple_of, by kernel_rfl⟩⟩
theorem list_ (C : Cs X G W N sc k m) : BltD X G "list" (g1 glist1) := ⟨_, by rw [C.hK]; exact glist1_of, .inr ⟨_, call_list_of, by kernel_rfl⟩⟩
theorem listM_ (C : Cs X G W N sc k m) : BltD X G "list" (g1 glist1M) := ⟨_, by rw [C.hK]; exact glist1M_of, .inr ⟨_, call_list_of, by kernel_rfl⟩⟩
theorem sum_ (C : Cs X G W N sc k false) : BltD X G "sum" (g1 gsum) := ⟨_, by rw [C.hK]; exact gsum_of, .inl ⟨_, cr_sum C.calm, by kernel_rfl⟩⟩
theorem ii_ (C : Cs X G W N sc k m) (T : Ty) {p p2 : Pos} {y : Str} (hm : G.mg ("isinstance" : Str) = none) (hmy : G.mg y = none) (ha : SE X G W a fa) (hv : bootBuiltins y = some (.type T.name) := by kernel_rfl) (h1 : chkG sc ("isinstance" : Str) = true := by kernel_rfl) (h2 : chkG sc y = true := by kernel_rfl)
    (he : starEach [a, .Name y p2] X.env = (false, eval a X.env) :: starEach [.Name y p2] X.env := by rfl) : SE X G W (.Call (.Name "isinstance" p) [a, .Name y p2] [] pos) (fun1 (gisi T) fa) := by
  obtain ⟨a1, a2, a3⟩ := chkG_ok C h1
  obtain ⟨b1, b2, b3⟩ := chkG_ok C h2
  exact se_isi C.hK rfl a1 (by rw [C.hmg]; exact hm) b1 (by rw [C.hmg]; exact hmy) (by kernel_rfl) hv a3 a2 b3 b2 he ha
theorem split_ {apos : Pos} (ha : SE X G W a fa) (hb : SE X G W b fb) (h1 : attributeBase a "split" X.env (eval a X.env) = eval a X.env := by rfl) (h2 : (apos.endLine == pos.line) = true := by kernel_rfl) (h3 : starEach [b] X.env = [(false, eval b X.env)] := by rfl) :
    SE X G W (.Call (.Attribute a "split" apos) [b] [] pos) (fm1 gsplit fa fb) := se_split h1 h2 h3 ha hb
theorem join_ (C : Cs X G W N sc k m) {apos : Pos} (ha : SE X G W a fa) (hb : SE X G W b fb) (h1 : attributeBase a "join" X.env (eval a X.env) = eval a X.env := by rfl) (h2 : (apos.endLine == pos.line) = true := by kernel_rfl) (h3 : starEach [b] X.env = [(false, eval b X.env)] := by rfl) :
    SE X G W (.Call (.Attribute a "join" apos) [b] [] pos) (fm1 gjoin fa fb) := se_join h1 h2 h3 C.hK ha hb
theorem upper_ {apos : Pos} (ha : SE X G W a fa) (h1 : attributeBase a "upper" X.env (eval a X.env) = eval a X.env := by rfl) (h2 : (apos.endLine == pos.line) = true := by kernel_rfl) : SE X G W (.Call (.Attribute a "upper" apos) [] [] pos) (fun1 gupper fa) := se_upper h1 h2 ha
theorem app_ {apos : Pos} (ha : SE X G W a fa) (hb : SE X G W b fb) (h1 : attributeBase a "append" X.env (eval a X.env) = eval a X.env := by rfl)
    (h2 : ((backTo pos (starEach [b] X.env)).all (fun x => !x.1) && (backToKw pos (keywordEach [] X.env)).all (fun x => x.1.isSome) && decide ([b].length + ([] : List Keyword).length + (if ([] : List Keyword).isEmpty then 0 else 1) < 30)) = true := by rfl)
    (h3 : (apos.endLine == pos.line) = true := by kernel_rfl) (h4 : starEach [b] X.env = (false, eval b X.env) :: starEach [] X.env := by rfl) (h5 : (backTo pos (starEach [] X.env)).any (·.1) = false := by rfl) :
    SE X G W (.Call (.Attribute a "append" apos) [b] [] pos) (fappend fa fb) := se_append ha hb h1 h2 h3 h4 h5

/-! ### what is walked -/
theorem iq_ (C : Cs X G W N sc k m) (ha : SE X G W a fa) : SI X G W m tg a (fiSeq fa) := si_seq ha C.hK
theorem ir1_ (C : Cs X G W N sc k m) {p : Pos} (hm : G.mg ("range" : Str) = none) (ha : SA X G W [a] fr) (h : chkG sc ("range" : Str) = true := by kernel_rfl) (hs : starEach [a] X.env = [(false, eval a X.env)] := by rfl) : SI X G W m tg (.Call (.Name "range" p) [a] [] pos) (fiA (gi1 giR1) fr) :=
  si_rng1 (chkG_ok C h).1 (by rw [C.hmg]; exact hm) ha hs
theorem ir2_ (C : Cs X G W N sc k false) {p : Pos} (hm : G.mg ("range" : Str) = none) (ha : SA X G W [a, b] fr) (h : chkG sc ("range" : Str) = true := by kernel_rfl) (hs : starEach [a, b] X.env = [(false, eval a X.env), (false, eval b X.env)] := by rfl) (hs2 : starEach [b] X.env = [(false, eval b X.env)] := by rfl) :
    SI X G W false tg (.Call (.Name "range" p) [a, b] [] pos) (fiA (gi2 giR2) fr) := si_rng2 (chkG_ok C h).1 (by rw [C.hmg]; exact hm) ha hs hs2
theorem ien_ (C : Cs X G W N sc k false) {p tpos : Pos} {elts : List Expr} {kk : Nat} (hm : G.mg ("enumerate" : Str) = none) (ha : SA X G W [a] fr) (h : chkG sc ("enumerate" : Str) = true := by kernel_rfl) (hs : starEach [a] X.env = [(false, eval a X.env)] := by rfl) :
    SI X G W false (.Tuple elts kk tpos) (.Call (.Name "enumerate" p) [a] [] pos) (fiA (gi1 giEnum) fr) := si_enum C.hK (chkG_ok C h).1 (by rw [C.hmg]; exact hm) ha hs
theorem iz_ (C : Cs X G W N sc k false) {p tpos : Pos} {elts : List Expr} {kk : Nat} (hm : G.mg ("zip" : Str) = none) (ha : SA X G W [a, b] fr) (h : chkG sc ("zip" : Str) = true := by kernel_rfl)
    (hs : starEach [a, b] X.env = (false, eval a X.env) :: starEach [b] X.env := by rfl) (hpl : (backTo pos (starEach [b] X.env)).any (·.1) = false := by rfl) :
    SI X G W false (.Tuple elts kk tpos) (.Call (.Name "zip" p) [a, b] [] pos) (fiA (gi2 giZip) fr) := si_zip C.hK (chkG_ok C h).1 (by rw [C.hmg]; exact hm) ha hs hpl

theorem izH_ (C : Cs X G W N sc k true) {p tpos : Pos} {elts : List Expr} {kk : Nat} (hm : G.mg ("zip" : Str) = none) (ha : SA X G W [a, b] fr) (h : chkG sc ("zip" : Str) = true := by kernel_rfl)
    (hs : starEach [a, b] X.env = (false, eval a X.env) :: starEach [b] X.env := by rfl) (hpl : (backTo pos (starEach [b] X.env)).any (·.1) = false := by rfl) :
    SI X G W true (.Tuple elts kk tpos) (.Call (.Name "zip" p) [a, b] [] pos) (fiA (gi2 giZipL) fr) := si_zipH C.hK (chkG_ok C h).1 (by rw [C.hmg]; exact hm) ha hs hpl

/-! ### targets -/
theorem tl_ (C : Cs X G W N sc k m) {x : Str} {p : Pos} {i : Nat} (h : chkL N sc x i = true := by kernel_rfl) : TgOk X G (.Name x p) (.one i) := .one (chkL_ok C h).1 (.inl (chkL_ok C h).2.1) (.inr (chkL_ok C h).2.1) (chkL_ok C h).2.2
theorem mn_ : Nms X G [] [] := .nil
theorem mc_ (C : Cs X G W N sc k m) {x : Str} {p : Pos} {i : Nat} {is : List Nat} (r : Nms X G es is) (h : chkL N sc x i = true := by kernel_rfl) : Nms X G (.Name x p :: es) (i :: is) := .cons (chkL_ok C h).1 (.inl (chkL_ok C h).2.1) (.inr (chkL_ok C h).2.1) (chkL_ok C h).2.2 r
theorem ta_ {kk : Nat} {p : Pos} {is : List Nat} (n : Nms X G es is) : TgOk X G (.Tuple es kk p) (.all is) := .all n
/-- .. of a def: cells, too -/
theorem tlc_ (C : Ct X G W N sc k m) {x : Str} {p : Pos} {i : Nat} (h : chkT N sc x i = true := by kernel_rfl) : TgOk X G (.Name x p) (.one i) := .one (chkT_ok C.cs h).1 (chkT_ok C.cs h).2.1 (.inl (C.fn x)) (chkT_ok C.cs h).2.2
theorem mcc_ (C : Ct X G W N sc k m) {x : Str} {p : Pos} {i : Nat} {is : List Nat} (r : Nms X G es is) (h : chkT N sc x i = true := by kernel_rfl) : Nms X G (.Name x p :: es) (i :: is) := .cons (chkT_ok C.cs h).1 (chkT_ok C.cs h).2.1 (.inl (C.fn x)) (chkT_ok C.cs h).2.2 r
theorem ts_ {f : Fe} (h : ST X G W c f) : STs X G W [c] (some f) := .one h
theorem tsn_ : STs X G W [] none := .nil
/-- a block's own names are none of those -/
def ownP (N : List Str) (own : List (Str × Nat)) : Bool := own.all fun p => decide (N[p.2]? = some p.1) && !isPin p.1 p.2
theorem ownP_ok (C : Cs X G W N sc k m) {own : List (Str × Nat)} (h : ownP N own = true) : ∀ i ∈ own.map (·.2), Np G i := fun i hi => by
  obtain ⟨p, hp, rfl⟩ := List.mem_map.mp hi
  have := List.all_eq_true.mp h p hp
  simp only [Bool.and_eq_true, decide_eq_true_eq, Bool.not_eq_true'] at this
  exact C.np _ _ this.1 this.2
/-- a comprehension -/
theorem lc_ (C : Cs X G W N sc k m) {iter : Expr} {ifs : List Expr} {own : List (Str × Nat)} {t : Tg} {tst : Ft} (hi : SI X G W m tg iter fi) (hg : ∀ Y, Cs Y G W0 N (relS scope sc) k m → BK X scope m Y → TgOk Y G tg t) (hts : ∀ Y, Cs Y G W0 N (relS scope sc) k m → BK X scope m Y → STs Y G W0 ifs tst) (he : ∀ Y, Cs Y G W0 N (relS scope sc) k m → BK X scope m Y → SE Y G W0 e fa)
    (hk : scope.kind = .function := by rfl) (ok : blkC N sc scope own = true := by kernel_rfl) (ht : t.sub (own.map (·.2)) = true := by kernel_rfl) (hpn : ownP N own = true := by kernel_rfl) (hs : ∀ x, foldedSetIterable iter X.env x = pure x := by intro _; rfl) :
    SE X G W (.ListComp e [⟨tg, iter, ifs, 0⟩] scope pos) (fcomp t fi tst fa (own.map (·.2))) :=
  se_comp (ownP_ok C hpn) C.md (by rw [C.hN]; exact C.nd) C.hK ht hi (by rw [C.hN, C.hsc]; exact blkOk_by ok) (fun Y B => hg Y (C.blk hk B) B) (fun Y B => hts Y (C.blk hk B) B) (fun Y B => he Y (C.blk hk B) B) hs
theorem slc_ (C : Ct X G W N sc k m) {i : Nat} {y : Str} {py spos : Pos} {iter : Expr} {ifs : List Expr} {own : List (Str × Nat)} {t : Tg} {tst : Ft} (hi : SI X G W m tg iter fi) (hg : ∀ Y, Cs Y G W0 N (relS scope sc) k m → BK X scope m Y → TgOk Y G tg t) (hts : ∀ Y, Cs Y G W0 N (relS scope sc) k m → BK X scope m Y → STs Y G W0 ifs tst) (he : ∀ Y, Cs Y G W0 N (relS scope sc) k m → BK X scope m Y → SE Y G W0 e fa)
    (hl : (py.line == pos.line) = true := by kernel_rfl) (hnn : (scope.names.any fun (n, k) => n == y && (k == .local || k == .cell)) = false := by kernel_rfl)
    (hy : chkL N sc y i = true := by kernel_rfl) (hk : scope.kind = .function := by rfl) (ok : blkC N sc scope own = true := by kernel_rfl) (ht : t.sub (own.map (·.2)) = true := by kernel_rfl) (hpn : ownP N own = true := by kernel_rfl) (hs : ∀ x, foldedSetIterable iter X.env x = pure x := by intro _; rfl) :
    SS X G W (.Assign [.Name y py] (.ListComp e [⟨tg, iter, ifs, 0⟩] scope pos) spos) (fset i (fcomp t fi tst fa (own.map (·.2)))) :=
  ss_setComp (chkL_ok C.cs hy).2.2 (ownP_ok C.cs hpn) C.cs.md (by rw [C.cs.hN]; exact C.cs.nd) C.cs.hK (chkL_ok C.cs hy).1 (chkL_ok C.cs hy).2.1 (sw_true (by rw [C.cs.hsc]; exact C.cs.kind) (chkL_ok C.cs hy).2.1 hl hnn) ht hi (by rw [C.cs.hN, C.cs.hsc]; exact blkOk_by ok)
    (fun Y B => hg Y (C.cs.blk hk B) B) (fun Y B => hts Y (C.cs.blk hk B) B) (fun Y B => he Y (C.cs.blk hk B) B) hs

/-! ### statements -/
variable {ss ss2 : List Stmt} {stm : Stmt} {f g : Fs}
theorem e1_ (h1 : SS X G W stm f) : SSs X G W [stm] f := ss_one h1
theorem e_ (h1 : SS X G W stm f) (h2 : SSs X G W ss g) : SSs X G W (stm :: ss) (fseq f g) := ss_cons h1 h2
theorem e0_ : SSs X G W [] fskip := ss_nil
theorem ret_ (ha : SE X G W a fa) : SS X G W (.Return (some a) pos) (fret fa) := ss_ret ha
theorem set_ (C : Ct X G W N sc k m) {i : Nat} {x : Str} {p : Pos} (ha : SE X G W a fa) (h : chkT N sc x i = true := by kernel_rfl) (hs : swapsWith a (some (.Name x p)) pos.line X.env = pure false := by rfl) : SS X G W (.Assign [.Name x p] a pos) (fset i fa) :=
  ss_set (chkT_ok C.cs h).2.2 (by rw [C.cs.hN]; exact C.cs.nd) (chkT_ok C.cs h).1 (chkT_ok C.cs h).2.1 hs (.inl (C.fn x)) ha
theorem if_ (hc : ST X G W c fc) (ha : SSs X G W ss f) (hb : SSs X G W ss2 g) : SS X G W (.If c ss ss2 pos) (fifS fc f g) := ss_if hc ha hb
theorem wh_ (C : Ct X G W N sc k m) {n : Nat} (hc : ST X G W c fc) (hb : SSs X G W ss f) : SS X G W (.While c ss [] pos) (fwhile fc f n) := ss_while C.ps hc hb
theorem for_' (C : Ct X G W N sc k m) {iter : Expr} {t : Tg} (hi : SI X G W m tg iter fi) (hg : TgOk X G tg t) (hb : SSs X G W ss f) (hs : ∀ x, foldedSetIterable iter X.env x = pure x := by intro _; rfl) : SS X G W (.For tg iter ss [] pos) (ffor t fi f) :=
  ss_for C.ps C.cs.md (by rw [C.cs.hN]; exact C.cs.nd) C.cs.hK hi hg hb hs
theorem ex_ (ha : SE X G W a fa) (hs : swapsWith a none pos.line X.env = pure false := by rfl) : SS X G W (.Expr a pos) (fdrop fa) := ss_drop hs ha
theorem sws {env env' : Env} (h : env.scope = env'.scope) (t : List Expr) (v : Expr) : swappedStores t v env = swappedStores t v env' := by
  unfold swappedStores Env.blockKind Env.kindOf
  rw [h]
abbrev eS (sc : Scope) : Env := envOfC Str.empty sc 0 0 .none
theorem sw_ (C : Cs X G W N sc k m) {t : List Expr} {v : Expr} {r : Sem (Option (List Str))} (h : swappedStores t v (eS sc) = r) : swappedStores t v X.env = r := (sws C.hsc t v).trans h
theorem ut_ (C : Ct X G W N sc k m) {is : List Nat} {kk : Nat} {p : Pos} (n : Nms X G es is) (ha : SE X G W a fa) (hs : swapsWithSole [.Tuple es kk p] a pos.line X.env = pure false := by rfl) (hw : swappedStores [.Tuple es kk p] a (eS sc) = pure none := by kernel_rfl) :
    SS X G W (.Assign [.Tuple es kk p] a pos) (funpT is fa) := ss_unpT C.cs.md (by rw [C.cs.hN]; exact C.cs.nd) n ha hs (sw_ C.cs hw) C.cs.hK
theorem ul_ (C : Ct X G W N sc k false) {is : List Nat} {kk : Nat} {p : Pos} (n : Nms X G es is) (ha : SE X G W a fa) (hs : swapsWithSole [.Tuple es kk p] a pos.line X.env = pure false := by rfl) (hw : swappedStores [.Tuple es kk p] a (eS sc) = pure none := by kernel_rfl) :
    SS X G W (.Assign [.Tuple es kk p] a pos) (funpL is fa) := ss_unpL C.cs.calm (by rw [C.cs.hN]; exact C.cs.nd) n ha hs (sw_ C.cs hw) C.cs.hK
theorem pa_ (C : Ct X G W N sc k false) {i j : Nat} {x y : Str} {px py pt pt2 : Pos} {kt k2 : Nat} (ha : SA X G W [a, b] fr) (hx : chkL N sc x i = true := by kernel_rfl) (hy : chkL N sc y j = true := by kernel_rfl) (hij : i ≠ j := by decide)
    (hw : swappedStores [.Tuple [.Name x px, .Name y py] kt pt] (.Tuple [a, b] k2 pt2) (eS sc) = pure (some [x, y]) := by kernel_rfl) :
    SS X G W (.Assign [.Tuple [.Name x px, .Name y py] kt pt] (.Tuple [a, b] k2 pt2) pos) (fpar [i, j] fr) :=
  ss_par (chkL_ok C.cs hx).2.2 (chkL_ok C.cs hy).2.2 C.cs.calm (by rw [C.cs.hN]; exact C.cs.nd) (chkL_ok C.cs hx).1 (chkL_ok C.cs hy).1 hij (chkL_ok C.cs hx).2.1 (chkL_ok C.cs hy).2.1 ha (sw_ C.cs hw)
theorem pa3_ (C : Ct X G W N sc k false) {i j l : Nat} {x y z : Str} {px py pz pt pt2 : Pos} {kt k2 : Nat} (ha : SA X G W [a, b, c] fr) (hx : chkL N sc x i = true := by kernel_rfl) (hy : chkL N sc y j = true := by kernel_rfl) (hz : chkL N sc z l = true := by kernel_rfl) (hij : i ≠ j := by decide) (hil : i ≠ l := by decide) (hjl : j ≠ l := by decide)
    (hw : swappedStores [.Tuple [.Name x px, .Name y py, .Name z pz] kt pt] (.Tuple [a, b, c] k2 pt2) (eS sc) = pure (some [x, y, z]) := by kernel_rfl) :
    SS X G W (.Assign [.Tuple [.Name x px, .Name y py, .Name z pz] kt pt] (.Tuple [a, b, c] k2 pt2) pos) (fpar [i, j, l] fr) :=
  ss_par3 (chkL_ok C.cs hx).2.2 (chkL_ok C.cs hy).2.2 (chkL_ok C.cs hz).2.2 C.cs.calm (by rw [C.cs.hN]; exact C.cs.nd) (chkL_ok C.cs hx).1 (chkL_ok C.cs hy).1 (chkL_ok C.cs hz).1 hij hil hjl (chkL_ok C.cs hx).2.1 (chkL_ok C.cs hy).2.1 (chkL_ok C.cs hz).2.1 ha (sw_ C.cs hw)
theorem six_ {o i : Expr} {fo fi fe : Fe} {tpos : Pos} (ho : SE X G W o fo) (hi : SE X G W i fi) (he : SE X G W e fe) (hs : swapsWithSole [.Subscript o i tpos] e pos.line X.env = pure false := by rfl) (hw : swappedStores [.Subscript o i tpos] e X.env = pure none := by rfl)
    (h1 : (assignEach [.Subscript o i tpos] X.env).map (·.2) = [assign (.Subscript o i tpos) X.env] := by rfl)
    (ha : ∀ v, assign (.Subscript o i tpos) X.env v = (do
      let ov ← holding [v] (eval o X.env)
      let iv ← holding [v, ov] (eval i X.env)
      standAt tpos
      holding [v, ov, iv] (setItem ov iv v)
      release [v, ov, iv] []) := by intro _; rfl) : SS X G W (.Assign [.Subscript o i tpos] e pos) (fsetIx fo fi fe) := ss_setIx ho hi he hs hw h1 ha
/-- a class of errors -/
structure ErrOk (G : Gm) (x : Str) (c : Nat) : Prop where
  q : PySem.W.excIn G.K (G.ca c) [.type "ValueError", .type "Exception", .type "BaseException", .type "object"] "ValueError.__new__" = true
  mg : G.mg x = some (.ref (G.ca c))
  kp : PySem.W.keepIn G.K (.ref (G.ca c)) = true
  sb : PySem.W.subIn G.K (.ref (G.ca c)) (.type "BaseException") = some true
  ty : PySem.W.typeIn G.K (.ref (G.ca c)) = some (.type "type")
theorem rs_ (C : Ct X G W N sc k false) {x m : Str} {j c : Nat} {p p2 pos' : Pos} (F : ErrOk G x c) (h : chkG sc x = true := by kernel_rfl) : SS X G W (.Raise (some (.Call (.Name x p) [.Constant (.str m) j p2] [] pos')) none pos) (fraise c) :=
  ss_raise C.cs.calm C.cs.tk (by rw [C.cs.hK]; exact F.q) (by rw [C.cs.hmg]; exact F.mg) (by rw [C.cs.hK]; exact F.kp) (raises_own (by rw [C.cs.hK]; exact F.sb) (by rw [C.cs.hK]; exact F.ty)) (chkG_ok C.cs h).1 (chkG_ok C.cs h).2.1
/-- a class of the text with its own __init__(self, f) -/
structure GIni (G : Gm) (k : Nat) (x : Str) (c : Nat) (f : Str) : Prop where
  T : OexC G.K (G.ca c)
  ex : ∃ (fI : Addr) (fd : FuncData), PySem.W.findIn G.K (.ref (G.ca c)) "__init__" = some (some (.ref fI)) ∧ PySem.W.typeIn G.K (.ref fI) = some (.type "function") ∧
    FnOk G.P G.wd G.K G.mg G.base (L2N.CX G.P G.wd) k fI fd ["self", f] (spI (G.ca c) f) ∧ Binds G.K fd ["self", f] []
  mg : G.mg x = some (.ref (G.ca c))
theorem GIni.to {j : Nat} (C : Cs X G W N sc k m) {x f : Str} {c : Nat} (F : GIni G j x c f) : IniOk X G j x c f := by
  refine ⟨by rw [C.hK]; exact F.T, ?_, by rw [C.hmg]; exact F.mg⟩
  rw [C.hP, C.hw, C.hK, C.hmg, C.hB]
  exact F.ex
theorem rsI_ (C : Ct X G W N sc (k + 2) false) {x f : Str} {c : Nat} {p pos' : Pos} (F : GIni G 1 x c f) (ha : SE X G W a fa) (h : chkG sc x = true := by kernel_rfl) (he : starEach [a] X.env = (false, eval a X.env) :: starEach [] X.env := by rfl) (hpl : (backTo pos' (starEach [] X.env)).any (·.1) = false := by rfl) :
    SS X G W (.Raise (some (.Call (.Name x p) [a] [] pos')) none pos) (fraiseI c f fa) := ss_raiseI (F.to C.cs) (C.cs.room.mono (by omega)) C.cs.calm C.cs.tk (chkG_ok C.cs h).1 ha (chkG_ok C.cs h).2.1 he hpl
/-- what a clause takes -/
structure ClsOk (G : Gm) (x : Str) (c : Value) (t : Tk) : Prop where
  mg : G.mg x = some c
  tk : TkOk G c t
def chkE (N : List Str) (sc : Scope) (n x : Str) (i : Nat) : Bool := chkG sc x && (decide (N[i]? = some n) && (isK (sc.names.lookup n) .local && n == ("e" : Str))) && (!(n == ("__debug__" : Str)) && !(n == ("__classdict__" : Str)))
theorem chkE_ok (C : Cs X G W N sc k false) {n x : Str} {i : Nat} (h : chkE N sc n x i = true) : chkG sc x = true ∧ X.N[i]? = some n ∧ X.env.scope.names.lookup n = some .local ∧ Np G i ∧ (n == ("__debug__" : Str)) = false ∧ (n == ("__classdict__" : Str)) = false := by
  unfold chkE at h
  simp only [Bool.and_eq_true, Bool.not_eq_true', decide_eq_true_eq] at h
  obtain ⟨⟨h1, h2, h5, h6⟩, h3, h4⟩ := h
  refine ⟨h1, by rw [C.hN]; exact h2, by rw [C.hsc]; exact isK_ok h5, C.npE rfl i ?_, h3, h4⟩
  rw [h2, LawfulBEq.eq_of_beq h6]
/-- try: .. except X as n: return n.fld -/
theorem tryX_ (C : Ct X G W N sc k false) {x n fld : Str} {cv : Value} {i c : Nat} {p1 p2 p3 np pos' : Pos} {t : Tk} (F : ClsOk G x cv t) (T : XfC G.K (G.ca c)) (hno : PySem.W.findIn G.K (.ref (G.ca c)) fld = some none)
    (hb : ∀ (W' : WX) (pn : List (Addr × Obj)) (xe : Value → Shared → Prop), Ct (X.tr pn xe) G W' N sc k false → SSs (X.tr pn xe) G W' ss f) (h : chkE N sc n x i = true := by kernel_rfl) :
    SS X G W (.Try ss [.ExceptHandler (some (.Name x np)) (some n) [.Return (some (.Attribute (.Name n p1) fld p2)) p3] pos'] [] [] pos) (ftry' t i f (fretX c fld)) := by
  obtain ⟨h1, n1, n2, n3, h3, h4⟩ := chkE_ok C.cs h
  exact ss_try n3 C.cs.hK C.st C.fr (by rw [C.cs.hN]; exact C.cs.nd) n1 n2 ⟨(chkG_ok C.cs h1).1, (chkG_ok C.cs h1).2.1, .inl (by rw [C.cs.hmg]; exact F.mg)⟩ C.cs.tk F.tk (fun W' pn xe tk ps => hb W' pn xe (C.tr tk ps)) fun a oe cls d pn hz hd => su_retX hz hd (by rw [C.cs.hK]; exact T) (by rw [C.cs.hK]; exact hno) n1 (.inl n2) h3 h4
end

/-! ### a def -/
/-- behind a def's body -/
def Rs.fin (r : Rs) : Res D := match r with
  | .nx _ h => .ok .non h
  | .rt d h => .ok d h
  | .exc e _ h => .exc e h
  | _ => .stuck
/-- the slots at the entry -/
def slots (n : Nat) (ds : List D) : Sl := ds.map some ++ List.replicate (n - ds.length) none
/-- a def as data: how many parameters, how many names, its body -/
structure Df where
  np : Nat
  nn : Nat
  body : Fs
def Df.run (f : Df) (ds : List D) (h : Hd) : Res D := if Nat.beq ds.length f.np then (f.body (slots f.nn ds) h).fin else .stuck
theorem Rl.slots {G : Gm} {S : Sta} (hp : G.pin = []) : ∀ {ds : List D} {vs : List V} (N : List Str), Rl G S ds vs → Rs' G S (slots N.length ds) (L2.start N vs) := fun {ds vs} N r => by
  refine ⟨by simp [Pf.slots, L2.start, r.length], fun i d h => ?_, fun p z => by rw [hp] at z; cases z⟩
  unfold Pf.slots at h
  unfold L2.start
  by_cases hi : i < ds.length
  · rw [List.getElem?_append_left (by simpa using hi), List.getElem?_map] at h
    cases q : ds[i]? with
    | none => rw [q] at h; cases h
    | some d' =>
      rw [q] at h
      cases h
      obtain ⟨v, h1, h2⟩ := r.get q
      refine ⟨v, ?_, h2⟩
      rw [List.getElem?_append_left (by rw [List.length_map, ← r.length]; exact hi), List.getElem?_map, h1]
      rfl
  · rw [List.getElem?_append_right (by simpa using hi), List.getElem?_replicate] at h
    split at h <;> cases h
theorem fin_of {G : Gm} {E : XK} {Q : VK} {S : Sta} {r : Rs} (h : Cont G (fun cls dx _ H => E cls dx H) [] S r.fin Q) : ContS G (fun cls dx _ H => E cls dx H) S r { nx := fun _ H' => Q .non H', rt := Q } := by
  cases r with
  | nx sd h' => exact fun S' σ' t e hh rs => h S' .non t e hh .non
  | rt d h' => exact h
  | bk => exact h.elim
  | ct => exact h.elim
  | exc e sd h' => exact fun S' σ' cls dx t e hh rs rx => h S' cls dx t e hh rx
  | stuck => exact h.elim
/-- THE RULE: a def whose body does as f does keeps the promise of f.run -/
theorem def_fn {G : Gm} {k i : Nat} {x qual : Str} {params : Arguments} {body : List Stmt} {scope : Scope} {fd : FuncData} {N ps : List Str} {f : Df}
    (hp : G.pin = []) (F : FunD G.K x qual params body scope [] [] (G.fa i) fd) (hS : FnScope N ps scope) (hn : f.np = ps.length) (hN : f.nn = N.length)
    (hb : ∀ (X : Cx) (W : WX), Ct X G W N scope k false → SSs X G W body f.body) : FnOk G.P G.wd G.K G.mg G.base (L2N.CX G.P G.wd) (k + 1) (G.fa i) fd ps (spD G f.run) := by
  refine F.ok hS (fun vs H Q E h => ?_) (fun cdv A outer s H vs Q E hr h => ?_)
  · obtain ⟨S, ds, e, hh, rl, c⟩ := h
    unfold Df.run at c
    split at c
    · rename_i z
      rw [← rl.length, Nat.eq_of_beq_eq_true z, hn]
    · exact c.elim
  · obtain ⟨S, ds, e, hh, rl, c⟩ := h
    refine ⟨tS G (fun cls dx _ H => E cls dx H) f.body, hb _ _ ?_, ?_⟩
    · exact ⟨⟨rfl, hS.nd, rfl, hS.kind, rfl, rfl, rfl, rfl, rfl, ⟨fun _ => rfl, fun z => nomatch z⟩, L2N.takes_of rfl rfl rfl rfl, ⟨hr.dp, hr.un⟩, fun _ => hr.hd, (fun _ _ _ _ p hz => by rw [hp] at hz; cases hz), fun _ _ _ p hz => by rw [hp] at hz; cases hz⟩, fun _ => rfl, passes_of rfl, rfl, rfl⟩
    · refine ⟨S, slots f.nn ds, e, hh, by rw [hN]; exact rl.slots hp N, ?_⟩
      unfold Df.run at c
      split at c
      · exact fin_of c
      · exact c.elim
theorem def_ok {G : Gm} {k i : Nat} {x y qual : Str} {params : Arguments} {body : List Stmt} {scope : Scope} {fd : FuncData} {N ps : List Str} {f : Df} {c : List D → Hd → Res D}
    (hp : G.pin = []) (F : FunD G.K x qual params body scope [] [] (G.fa i) fd) (hm : G.mg y = some (.ref (G.fa i))) (bi : Binds G.K fd ps []) (hS : FnScope N ps scope) (hn : f.np = ps.length) (hN : f.nn = N.length) (hc : c = f.run)
    (hb : ∀ (X : Cx) (W : WX), Ct X G W N scope k false → SSs X G W body f.body) : GDef G (k + 1) y i c := by
  subst hc
  exact ⟨⟨fd, ps, def_fn hp F hS hn hN hb, bi⟩, hm, F.kp⟩
/-- nothing is promised at fuel 0 -/
theorem def_0 {G : Gm} {k i : Nat} {y : Str} {fd : FuncData} {ps : List Str} {c : List D → Hd → Res D} (hm : G.mg y = some (.ref (G.fa i))) (kp : PySem.W.keepIn G.K (.ref (G.fa i)) = true) (bi : Binds G.K fd ps []) (hc : ∀ ds h, c ds h = .stuck) : GDef G k y i c := by
  refine ⟨⟨fd, ps, ⟨fun vs H Q E h => ?_, fun A outer s H args us vs Q E _ _ _ _ h => ?_⟩, bi⟩, hm, kp⟩
  · obtain ⟨S, ds, _, _, _, c⟩ := h
    rw [hc] at c
    exact c.elim
  · obtain ⟨S, ds, _, _, _, c⟩ := h
    rw [hc] at c
    exact c.elim
/-- the same while an exception is handled -/
theorem def_fnH {G : Gm} {k i : Nat} {x qual : Str} {params : Arguments} {body : List Stmt} {scope : Scope} {fd : FuncData} {N ps : List Str} {f : Df}
    (hp : G.pin = []) (F : FunD G.K x qual params body scope [] [] (G.fa i) fd) (hS : FnScope N ps scope) (hn : f.np = ps.length) (hN : f.nn = N.length)
    (hb : ∀ (X : Cx) (W : WX), Ct X G W N scope k true → SSs X G W body f.body) : L2H.FnH G.P G.wd G.K G.mg G.base (L2N.CX G.P G.wd) (k + 1) (G.fa i) fd ps (spD G f.run) := by
  obtain ⟨oc, od, dV, kV, doc, pm, an, cdv, ct, osl, rfl, lk, hcd, _, _⟩ := F.ex
  refine L2H.fn_ofH lk hcd hS (fun vs H Q E h => ?_) fun A outer s H vs Q E p h1 hr h => ?_
  · obtain ⟨S, ds, e, hh, rl, c⟩ := h
    unfold Df.run at c
    split at c
    · rename_i z
      rw [← rl.length, Nat.eq_of_beq_eq_true z, hn]
    · exact c.elim
  · obtain ⟨S, ds, e, hh, rl, c⟩ := h
    refine ⟨tS G (fun cls dx _ H => E cls dx H) f.body, hb _ _ ?_, ?_⟩
    · refine ⟨⟨rfl, hS.nd, rfl, hS.kind, rfl, rfl, rfl, rfl, rfl, ⟨fun z => (nomatch z), fun _ => ⟨p, ⟨h1.1, h1.2⟩, List.mem_cons_self⟩⟩, L2N.takes_of rfl rfl rfl rfl, hr, (fun z => nomatch z), (fun _ _ _ _ p hz => by rw [hp] at hz; cases hz), fun z => nomatch z⟩, fun _ => rfl, passes_of rfl, rfl, rfl⟩
    · refine ⟨S, slots f.nn ds, e, hh, by rw [hN]; exact rl.slots hp N, ?_⟩
      unfold Df.run at c
      split at c
      · exact fin_of c
      · exact c.elim
theorem def_okH {G : Gm} {k i : Nat} {x y qual : Str} {params : Arguments} {body : List Stmt} {scope : Scope} {fd : FuncData} {N ps : List Str} {f : Df} {c : List D → Hd → Res D}
    (hp : G.pin = []) (F : FunD G.K x qual params body scope [] [] (G.fa i) fd) (hm : G.mg y = some (.ref (G.fa i))) (bi : Binds G.K fd ps []) (hS : FnScope N ps scope) (hn : f.np = ps.length) (hN : f.nn = N.length) (hc : c = f.run)
    (hb : ∀ (X : Cx) (W : WX), Ct X G W N scope k true → SSs X G W body f.body) : GDefH G (k + 1) y i c := by
  subst hc
  exact ⟨⟨fd, ps, def_fnH hp F hS hn hN hb, bi⟩, hm, F.kp⟩
theorem def_0H {G : Gm} {k i : Nat} {y : Str} {fd : FuncData} {ps : List Str} {c : List D → Hd → Res D} (hm : G.mg y = some (.ref (G.fa i))) (kp : PySem.W.keepIn G.K (.ref (G.fa i)) = true) (bi : Binds G.K fd ps []) (hc : ∀ ds h, c ds h = .stuck) : GDefH G k y i c := by
  refine ⟨⟨fd, ps, ⟨fun vs H Q E h => ?_, fun A outer s H args us vs Q E p _ _ _ _ _ _ h => ?_⟩, bi⟩, hm, kp⟩
  · obtain ⟨S, ds, _, _, _, c⟩ := h
    rw [hc] at c
    exact c.elim
  · obtain ⟨S, ds, _, _, _, c⟩ := h
    rw [hc] at c
    exact c.elim
/-- the defs that may be called while an exception is handled, by their numbers -/
def hotSet (i : Nat) : Bool := [95, 96, 98, 99, 119].contains i
/-- all defs of a text at fuel k -/
structure Defs (G : Gm) (k : Nat) (nms : List (Nat × Str)) (c : Nat → List D → Hd → Res D) : Prop where
  calm : ∀ (j i : Nat) (x : Str), nms[j]? = some (i, x) → GDef G k x i (c i)
  hot : ∀ (j i : Nat) (x : Str), nms[j]? = some (i, x) → hotSet i = true → GDefH G k x i (c i)
theorem Defs.at_ {G : Gm} {k : Nat} {nms : List (Nat × Str)} {c : Nat → List D → Hd → Res D} {m : Bool} (D : Defs G k nms c) (j i : Nat) (x : Str) (h : nms[j]? = some (i, x)) (hh : m = true → hotSet i = true) : GDefM G m k x i (c i) := ⟨fun _ => D.calm j i x h, fun z => D.hot j i x h (hh z)⟩
abbrev CT := Nat → List D → Hd → Res D
/-- the text's defs by fuel -/
def callD (T : Nat → CT → Nat → Df) : Nat → CT
  | 0, _ => fun _ _ => .stuck
  | k + 1, i => (T k (callD T k) i).run

/-! text Ev12.lean -/
/-! Pf 12: functions that are handed in -/
open PySem PySem.Spec L2 TL PyProof.Rows

abbrev CF := List D → Hd → Res D
/-- the same text, other slots held, more known of a state -/
abbrev Gm.wi (G : Gm) (pin : List (Nat × Addr)) (iv : List Iv) : Gm := ⟨G.P, G.wd, G.K, G.mg, G.base, G.fa, G.ca, pin, iv, G.tb⟩
section
variable {G : Gm} {pin pin' : List (Nat × Addr)} {iv iv' : List Iv} {S S' : Sta} {W : WX} {σ : L2.St} {Q : VK}
mutual
theorem Rv.wi : ∀ {d : D} {v : V}, Rv (G.wi pin iv) S d v → Rv (G.wi pin' iv') S d v
  | _, _, .non => .non
  | _, _, .bl b => .bl b
  | _, _, .int i => .int i
  | _, _, .str x => .str x
  | _, _, .tup f r => .tup f (Rl.wi r)
  | _, _, .lst f r => .lst f (Rl.wi r)
  | _, _, .scr f r => .scr f (Rl.wi r)
  | _, _, .obj e => .obj e
  | _, _, .fn i => .fn i
theorem Rl.wi : ∀ {ds : List D} {vs : List V}, Rl (G.wi pin iv) S ds vs → Rl (G.wi pin' iv') S ds vs
  | _, _, .nil => .nil
  | _, _, .cons r q => .cons (Rv.wi r) (Rl.wi q)
end
theorem Rf.wi {ds : List (Str × D)} {vs : List (Str × V)} (r : Rf (G.wi pin iv) S ds vs) : Rf (G.wi pin' iv') S ds vs := by
  induction r with
  | nil => exact .nil
  | cons r _ ih => exact .cons r.wi ih
theorem Rx.wi {e : Ec} {cls : Value} {dx : Option Addr} (r : Rx (G.wi pin iv) S e cls dx) : Rx (G.wi pin' iv') S e cls dx :=
  ⟨r.1, r.2.imp id fun ⟨d, fs, h1, h2, h3, h4⟩ => ⟨d, fs, h1, h2, h3.wi, h4⟩⟩
theorem Rh.wi (h : Rh (G.wi pin iv) S) (hi : ∀ p ∈ iv', p.φ S) : Rh (G.wi pin' iv') S :=
  ⟨h.len, h.nd, fun i ob a h1 h2 => let ⟨xs, e, r⟩ := h.ob i ob a h1 h2; ⟨xs, e, r.wi⟩, h.con, hi, h.tab⟩
theorem Rh.less (h : Rh (G.wi pin iv) S) (hi : ∀ p ∈ iv', p ∈ iv) : Rh (G.wi pin' iv') S := h.wi fun p hp => h.iv p (hi p hp)
/-- less is known: what is wanted behind an evaluation is the same -/
theorem Cont.wi {r : Res D} (hi : ∀ p ∈ iv', p.φ S) (c : Cont (G.wi pin' iv') W σ S r Q) : Cont (G.wi pin iv) W σ S r Q := by
  have up : ∀ S', Stp S S' → ∀ p ∈ iv', p.φ S' := fun S' t p hp => p.ext _ _ t.ext (hi p hp)
  cases r with
  | ok d h => exact fun S' v t e hh hv => c S' v t e (hh.wi (up S' t)) hv.wi
  | exc e h => exact fun S' cls dx t e' hh hx => c S' cls dx t e' (hh.wi (up S' t)) hx.wi
  | stuck => exact c
theorem spD_wi {c : CF} {vs : List V} {H : Hp} {E : XK} (hs : ∀ p ∈ iv, p ∈ iv') (h : spD (G.wi pin' iv') c vs H Q E) : spD (G.wi pin iv) c vs H Q E := by
  obtain ⟨S, ds, e, hh, rl, q⟩ := h
  exact ⟨S, ds, e, hh.less hs, rl.wi, q.wi hh.iv⟩
theorem GDef.wi {k i : Nat} {x : Str} {c : CF} (hs : ∀ p ∈ iv, p ∈ iv') (F : GDef (G.wi pin iv) k x i c) : GDef (G.wi pin' iv') k x i c := by
  obtain ⟨⟨fd, ps, F1, b⟩, m, kp⟩ := F
  exact ⟨⟨fd, ps, F1.imp fun vs H Q E h => spD_wi hs h, b⟩, m, kp⟩
theorem FnH.imp {P : Program} {w : World} {K : PySem.W.Frag} {mg : Str → Option Value} {base : Heap} {CX : CXT} {k : Nat} {f : Addr} {fd : FuncData} {ps : List Str} {sp sp' : Sp} (F : L2H.FnH P w K mg base CX k f fd ps sp)
    (h : ∀ vs H Q E, sp' vs H Q E → sp vs H Q E) : L2H.FnH P w K mg base CX k f fd ps sp' :=
  ⟨fun vs H Q E q => F.len vs H Q E (h _ _ _ _ q), fun A outer s H args us vs Q E p a b c d e f g => F.run A outer s H args us vs Q E p a b c d e f (h _ _ _ _ g)⟩
theorem GDefH.wi {k i : Nat} {x : Str} {c : CF} (hs : ∀ p ∈ iv, p ∈ iv') (F : GDefH (G.wi pin iv) k x i c) : GDefH (G.wi pin' iv') k x i c := by
  obtain ⟨⟨fd, ps, F1, b⟩, m, kp⟩ := F
  exact ⟨⟨fd, ps, FnH.imp F1 fun vs H Q E h => spD_wi hs h, b⟩, m, kp⟩
theorem Defs.wi {k : Nat} {nms : List (Nat × Str)} {c : Nat → CF} (hs : ∀ p ∈ iv, p ∈ iv') (F : Defs (G.wi pin iv) k nms c) : Defs (G.wi pin' iv') k nms c :=
  ⟨fun j i x h => (F.calm j i x h).wi hs, fun j i x h hh => (F.hot j i x h hh).wi hs⟩
end
/-! ### what a handed function gives -/
structure CloP (G : Gm) (k : Nat) (f : Addr) (s0 : Shared) (H0 : Hp) (fr : List Addr) (c : CF) : Prop where
  fn : ∀ (s : Shared) (H : Hp) (fr' : List Addr), (∀ b ∈ fr', b ∈ fr ∨ s0.heap.objs.size ≤ b) → Un fr' [] H0 H s0.heap s.heap → PySem.W.FnAt f s.heap
  run : ∀ (A : Around) (outer : List Env) (s : Shared) (H : Hp) (us : List Value) (vs : List V) (Q : VK) (E : XK) (fr' : List Addr), Room k A → Env0 G.P G.wd G.K G.mg G.base A outer s H →
    (∀ b ∈ fr', b ∈ fr ∨ s0.heap.objs.size ≤ b) → Un fr' [] H0 H s0.heap s.heap → Vals vs us → spD G c vs H Q E → codeAny (model G.P G.wd) A (.call (.ref f) ⟨us, []⟩) (CR (L2N.CX G.P G.wd) outer G.P G.wd H s Q E) s
/-- from a later state -/
theorem CloP.later {G : Gm} {k : Nat} {f : Addr} {s0 s1 : Shared} {H0 H1 : Hp} {fr fr1 : List Addr} {c : CF} (F : CloP G k f s0 H0 fr c) (hf : ∀ b ∈ fr1, b ∈ fr ∨ s0.heap.objs.size ≤ b) (hz : s0.heap.objs.size ≤ s1.heap.objs.size)
    (u : Un fr [] H0 H1 s0.heap s1.heap) (hx : ∀ b ∈ fr, b ∈ fr1) : CloP G k f s1 H1 fr1 c := by
  have go : ∀ (s : Shared) (H : Hp) (fr' : List Addr), (∀ b ∈ fr', b ∈ fr1 ∨ s1.heap.objs.size ≤ b) → Un fr' [] H1 H s1.heap s.heap →
      (∀ b ∈ fr' ++ fr1, b ∈ fr ∨ s0.heap.objs.size ≤ b) ∧ Un (fr' ++ fr1) [] H0 H s0.heap s.heap := fun s H fr' h v => by
    refine ⟨fun b hb => ?_, (u.mono (fun b hb => List.mem_append_right _ (hx b hb)) fun b hb => hb).trans (v.mono (fun b hb => List.mem_append_left _ hb) fun b hb => hb)⟩
    rcases List.mem_append.mp hb with hb | hb
    · rcases h b hb with z | z
      · exact hf b z
      · exact .inr (Nat.le_trans hz z)
    · exact hf b hb
  exact ⟨fun s H fr' h v => let ⟨a, b⟩ := go s H fr' h v; F.fn s H _ a b, fun A outer s H us vs Q E fr' r e h v => let ⟨a, b⟩ := go s H fr' h v; F.run A outer s H us vs Q E _ r e a b⟩

/-! ### a lambda is made -/
/-- the table before and behind -/
def LamH (H : Hp) (P c' : Addr) (q : Str) (H1 : Hp) : Prop :=
  (H1 = H ∧ H c' = some (LamX.CodeO c' q)) ∨ ∃ ps more : Array Value, H P = some (.tbl ps) ∧ H c' = none ∧ H1 = upd (upd H P (.tbl (ps ++ more))) c' (LamX.CodeO c' q) ∧ LamX.TabS H1 P q
section
variable {X : Cx} {pins : List (Addr × Obj)} {σ : L2.St} {H : Hp} {s : Shared}
theorem lamMk {c P : Addr} {params : Arguments} {body : Expr} {scope : Scope} {pos : Pos} {E : Value → Shared → Prop} {Q : Value → Shared → Prop} (I : Inv X pins σ H s) (TB : LamX.TabB X.base X.mg c P) (hcode : X.env.code = .ref c)
    (hT : LamX.TabS H P (X.env.qual ++ "<lambda>")) (hdef : defaultsOf params X.env = ([], [])) (hfree : ∀ y ∈ scope.names, y.2 = .free → ∃ c, X.env.cells.lookup y.1 = some c)
    (h : ∀ (f c' : Addr) (pm ctv : Value) (H1 : Hp) (s' : Shared), Inv X pins σ H1 s' → LamH H P c' (X.env.qual ++ "<lambda>") H1 →
      s'.heap.get? f = some (PySem.W.kla_obj "<lambda>" (X.env.qual ++ "<lambda>") params body scope (cloFrom X.env.cells scope.names []) pm c' ctv) → H1 f = none → f ∉ frs X.stack → Q (.ref f) s') :
    wpAny (model X.prog X.w) X.A (eval (.Lambda params body scope pos) X.env) Q E s := by
  obtain ⟨ps, hP, ht, ha⟩ := hT
  have hP2 : s.heap.get? P = some { cls := .none, data := .fields ps } := I.hok P _ hP
  have old : ∀ f, s.heap.objs.size ≤ f → f ∉ frs X.stack := fun f hf z => (List.mem_cons.mp (I.stkSub _ z)).elim (fun e => absurd (Nat.lt_of_lt_of_le (e ▸ I.lt : f < s.heap.objs.size) hf) (Nat.lt_irrefl _)) fun e => I.nofs hf e
  apply PySem.W.kla_eval hdef
  cases hc : codeAmong pos ps.toList with
  | some cv =>
    obtain ⟨c', rfl, hco⟩ := ha pos cv hc
    apply PySem.W.kla_makeFunctionHit (mg := X.mg) (c := c) (P := P) (ps := ps) (closure_ok hfree) I.ok.glob (I.mod.glob.keeps I.bk) hcode (TB.code.keeps I.bk) hP2 ht hc (TB.bm.keeps I.bk)
    intro ctv h' tk hx hsz
    exact h _ c' _ ctv H _ (I.kept (t' := tk) fun b o e => Heap.get?_push_of_some _ (hx b o e)) (.inl ⟨rfl, hco⟩) (Heap.get?_push_size _ rfl) (I.hok.fresh hsz) (old _ hsz)
  | none =>
    apply PySem.W.kla_makeFunction (mg := X.mg) (c := c) (P := P) (ps := ps) (closure_ok hfree) I.ok.glob (I.mod.glob.keeps I.bk) hcode (TB.code.keeps I.bk) hP2 ht hc TB.gP (TB.bm.keeps I.bk)
    intro c' ctv h' tk hx hge hlt hrec htb
    obtain ⟨c2, oc, us, t, e2, hoc, hd, hv⟩ := hrec
    cases e2
    have big : s.heap.objs.size ≤ h'.objs.size := Nat.le_trans hge (Nat.le_of_lt hlt)
    have nC : H c' = none := I.hok.fresh hge
    have I1 := LamX.inv_table (t' := tk) (more := #[rawInt pos.line, rawInt pos.col, .ref c']) (h' := h'.push (PySem.W.kla_obj "<lambda>" (X.env.qual ++ "<lambda>") params body scope (cloFrom X.env.cells scope.names []) ((X.mg "__name__").getD .none) c' ctv)) I hP
      (fun b o hb e => Heap.get?_push_of_some _ (hx b o hb e)) (Heap.get?_push_of_some _ htb) hge ⟨oc, us, t, Heap.get?_push_of_some _ hoc, hd, hv⟩
    have nPc : P ≠ c' := ne_of_none hP nC
    refine h _ c' _ ctv _ _ I1 (.inr ⟨ps, _, hP, nC, rfl, _, by rw [upd_ne nPc, upd_same], ?_, fun p' cv hcv => ?_⟩) (Heap.get?_push_size _ rfl) ?_ (old _ big)
    · have eL : (ps ++ #[rawInt pos.line, rawInt pos.col, .ref c']).toList = ps.toList ++ [rawInt pos.line, rawInt pos.col, .ref c'] := by simp
      rw [eL]
      exact PySem.TriplesOk_snoc _ _ _ _ ht
    · have eL : (ps ++ #[rawInt pos.line, rawInt pos.col, .ref c']).toList = ps.toList ++ [rawInt pos.line, rawInt pos.col, .ref c'] := by simp
      rw [eL] at hcv
      rcases LamX.among_app _ ht hcv with z | z
      · obtain ⟨c0, e1, e2⟩ := ha p' cv z
        refine ⟨c0, e1, ?_⟩
        rw [upd_ne (ne_of_none e2 nC), upd_ne]
        · exact e2
        · rintro rfl
          rw [hP] at e2
          exact LamX.codeO_ne _ (Option.some.inj e2).symm
      · exact ⟨c', z, upd_same⟩
    · rw [upd_ne (Nat.ne_of_gt hlt), upd_ne (Nat.ne_of_gt (Nat.lt_of_lt_of_le (Heap.lt_size hP2) big))]
      exact I.hok.fresh big
end
/-- the state behind -/
theorem lam_state {G : Gm} {S : Sta} {P c' : Addr} {q : Str} {H1 : Hp} (hh : Rh G S) (hu : ∀ p ∈ G.tb, p.1 = P → p.2 = q) (h : LamH S.H P c' q H1) :
    Stp S { S with H := H1 } ∧ Rh G { S with H := H1 } ∧ Fz { S with H := H1 } c' (LamX.CodeO c' q) := by
  have nl : ∀ a u, S.H a = some u → (∀ xs, u ≠ .lst xs) → ¬ Live S a := fun a u e n l => by
    rcases l with ⟨i, ob, h1, h2, h3⟩ | hc
    · obtain ⟨xs, e', _⟩ := hh.ob i ob a h2 h1
      rw [e] at e'
      exact n xs (Option.some.inj e')
    · obtain ⟨⟨xs, e'⟩, _⟩ := hh.con a hc
      rw [e] at e'
      exact n xs (Option.some.inj e')
  have cl : ∀ xs, LamX.CodeO c' q ≠ .lst xs := fun xs z => by
    unfold LamX.CodeO at z
    cases z
  rcases h with ⟨rfl, hc⟩ | ⟨ps, more, hP, nC, rfl, hT⟩
  · exact ⟨Stp.refl hh, hh, nl c' _ hc cl, hc⟩
  · have nPc : P ≠ c' := ne_of_none hP nC
    have lP : ¬ Live S P := nl P _ hP fun xs z => by cases z
    have keep : ∀ b o, S.H b = some o → (∀ ps, o ≠ .tbl ps) → upd (upd S.H P (.tbl (ps ++ more))) c' (LamX.CodeO c' q) b = some o := fun b o e n => by
      rw [upd_ne (ne_of_none e nC), upd_ne]
      · exact e
      · rintro rfl
        rw [hP] at e
        exact n ps (Option.some.inj e).symm
    have t : Stp S { S with H := upd (upd S.H P (.tbl (ps ++ more))) c' (LamX.CodeO c' q) } := by
      refine ⟨hh.len, hh.len, List.prefix_refl _, fun _ _ e _ => e, fun i a hi e => ?_, fun b o e _ n => keep b o e n, fun b o e => ?_, fun a ha => ⟨ha, ?_⟩, fun a ha => .inl ha⟩
      · have z : i < S.w.length := (List.getElem?_eq_some_iff.mp e).1
        omega
      · by_cases hb : b = P
        · subst hb
          exact ⟨_, by
            show upd (upd S.H b _) c' _ b = _
            rw [upd_ne nPc, upd_same]⟩
        · exact ⟨o, by
            show upd (upd S.H P _) c' _ b = _
            rw [upd_ne (ne_of_none e nC), upd_ne hb]
            exact e⟩
      · obtain ⟨⟨xs, e⟩, _⟩ := hh.con a ha
        rw [e]
        exact keep a _ e ntL
    refine ⟨t, hh.later t rfl rfl rfl (fun a l => ?_) fun p hp => ?_, ?_, upd_same⟩
    · have : ∃ xs, S.H a = some (.lst xs) := by
        rcases l with ⟨i, ob, h1, h2, h3⟩ | hc
        · obtain ⟨xs, e', _⟩ := hh.ob i ob a h2 h1
          exact ⟨xs, e'⟩
        · exact (hh.con a hc).1
      obtain ⟨xs, e⟩ := this
      rw [e]
      exact keep a _ e ntL
    · by_cases hb : p.1 = P
      · rw [hu p hp hb, hb]
        exact hT
      · obtain ⟨ps', a1, a2, a3⟩ := hh.tab p hp
        refine ⟨ps', ?_, a2, fun p' cv hcv => ?_⟩
        · show upd (upd S.H P _) c' _ p.1 = _
          rw [upd_ne (ne_of_none a1 nC), upd_ne hb]
          exact a1
        · obtain ⟨c0, e1, e2⟩ := a3 p' cv hcv
          exact ⟨c0, e1, keep c0 _ e2 LamX.codeO_ne⟩
    · exact fun l => t.notLive (b := c') (o := LamX.CodeO c' q) (by
        exact (hh.notLive nC l).elim) (hh.notLive nC) l

/-! text Ev13.lean -/
/-! Pf 13: a lambda's body -/
open PySem PySem.Spec L2 TL PyProof.Rows

/-- a lambda's names: its parameters, then what it catches (by the maker's slots) -/
structure LamP (N : List Str) (sc scope : Scope) (ps : List Str) (cap : List Nat) (Nl : List Str) : Prop where
  kind : scope.kind = .function
  co : scope.isCoroutine = false
  gen : scope.isGenerator = false
  noc : ∀ y ∈ scope.names, y.2 ≠ .cell
  nd : Nl.Nodup
  pre : Nl.take ps.length = ps
  par : ∀ y ∈ ps, scope.names.lookup y = some .local
  own : ∀ y ∈ scope.names, y.2 = .local → y.1 ∈ ps
  fre : ∀ y ∈ scope.names, y.2 = .free → sc.names.lookup y.1 = some .cell ∨ sc.names.lookup y.1 = some .free
  len : Nl.length = ps.length + cap.length
  caps : ∀ (j i : Nat), cap[j]? = some i → ∃ x, Nl[ps.length + j]? = some x ∧ N[i]? = some x
def isKd (a b : NameKind) : Bool := match a, b with
  | .local, .local => true
  | .cell, .cell => true
  | .free, .free => true
  | _, _ => false
theorem isKd_no {a : NameKind} (h : isKd a .cell = false) : a ≠ .cell := by
  rintro rfl
  cases h
def lamPB (N : List Str) (sc scope : Scope) (ps : List Str) (cap : List Nat) (Nl : List Str) : Bool :=
  (decide (scope.kind = .function) && (!scope.isCoroutine && !scope.isGenerator)) &&
  ((scope.names.all fun y => (!isKd y.2 .cell && (!isKd y.2 .local || ps.contains y.1)) && (!isKd y.2 .free || (isK (sc.names.lookup y.1) .cell || isK (sc.names.lookup y.1) .free))) &&
  ((decide Nl.Nodup && (decide (Nl.take ps.length = ps) && decide (Nl.length = ps.length + cap.length))) &&
  ((ps.all fun y => isK (scope.names.lookup y) .local) && (List.range cap.length).all fun j => match Nl[ps.length + j]?, cap[j]? with
    | some x, some i => decide (N[i]? = some x)
    | _, _ => false)))
theorem lamP_by {N : List Str} {sc scope : Scope} {ps : List Str} {cap : List Nat} {Nl : List Str} (h : lamPB N sc scope ps cap Nl = true) : LamP N sc scope ps cap Nl := by
  unfold lamPB at h
  simp only [Bool.and_eq_true, Bool.or_eq_true, Bool.not_eq_true', decide_eq_true_eq, List.all_eq_true] at h
  obtain ⟨⟨h1, h2, h3⟩, h4, ⟨h5, h6, h7⟩, h8, h9⟩ := h
  refine ⟨h1, h2, h3, fun y hy => isKd_no (h4 y hy).1.1, h5, h6, fun y hy => isK_ok (h8 y hy), fun y hy e => ?_, fun y hy e => ?_, h7, fun j i e => ?_⟩
  · rcases (h4 y hy).1.2 with z | z
    · rw [e] at z
      cases z
    · exact List.contains_iff_mem.mp z
  · rcases (h4 y hy).2 with z | z | z
    · rw [e] at z
      cases z
    · exact .inl (isK_ok z)
    · exact .inr (isK_ok z)
  · have hj : j < cap.length := (List.getElem?_eq_some_iff.mp e).1
    have q := h9 j (List.mem_range.mpr hj)
    rw [e] at q
    cases z : Nl[ps.length + j]? with
    | none => rw [z] at q; cases q
    | some x =>
      rw [z] at q
      exact ⟨x, rfl, of_decide_eq_true q⟩
theorem LamP.has {N : List Str} {sc scope : Scope} {ps : List Str} {cap : List Nat} {Nl : List Str} {X : Cx} (L : LamP N sc scope ps cap Nl) (hs : X.env.scope = sc) (ok : X.Ok) : ∀ y ∈ scope.names, y.2 = .free → ∃ c, X.env.cells.lookup y.1 = some c := fun y hy e => by
  refine ok.has _ ?_
  show X.env.scope.names.lookup y.1 = some .cell ∨ X.env.scope.names.lookup y.1 = some .free
  rw [hs]
  exact L.fre y hy e
/-- the lambda's frame -/
abbrev lenv (X : Cx) (scope : Scope) (L f c' : Addr) : Env := PySem.W.envX (X.env.qual ++ "<lambda>") scope L f (.ref c') (cloFrom X.env.cells scope.names [])
/-- its context -/
def lcx (X : Cx) (Nl : List Str) (A : Around) (outer : List Env) (s : Shared) (H : Hp) (E : XK) (scope : Scope) (f c' : Addr) : Cx where
  prog := X.prog
  w := X.w
  K := X.K
  mg := X.mg
  base := X.base
  A := A.deeper (lenv X scope s.heap.objs.size f c')
  N := Nl
  s_0 := s
  H_0 := H
  env := lenv X scope s.heap.objs.size f c'
  outer := outer
  stack := lenv X scope s.heap.objs.size f c' :: outer
  ex := []
  calm := true
  fn := fun _ => false
  pn := []
  xe := fun e s' => wpAny (model X.prog X.w) (A.deeper (lenv X scope s.heap.objs.size f c')) (leaving (lenv X scope s.heap.objs.size f c') e) (fun _ s'' => L2N.CX X.prog X.w outer H s E e s'') (fun e' s'' => L2N.CX X.prog X.w outer H s E e' s'') s'
/-- its slots -/
def lslots (vs : List V) (cap : List Nat) (σ : L2.St) : L2.St := vs.map some ++ cap.map fun i => (σ[i]?).join
def lsl (ds : List D) (cap : List Nat) (sd : Sl) : Sl := ds.map some ++ cap.map fun i => (sd[i]?).join
theorem zip_last {ps : List Str} {us : List Value} (hn : ps.Nodup) {i : Nat} {x : Str} {u : Value} (h1 : ps[i]? = some x) (h2 : us[i]? = some u) : (ps.zip us).reverse.lookup x = some u := by
  have hm : (x, u) ∈ (ps.zip us).reverse := by
    rw [List.mem_reverse]
    refine List.mem_of_getElem? (i := i) ?_
    rw [List.getElem?_zip_eq_some]
    exact ⟨h1, h2⟩
  obtain ⟨u', e⟩ := L2.mem_lookup hm
  have hm2 := PySem.mem_of_lookup e
  rw [List.mem_reverse] at hm2
  obtain ⟨j, hj⟩ := List.getElem?_of_mem hm2
  rw [List.getElem?_zip_eq_some] at hj
  have := nodup_at hn h1 hj.1
  subst this
  rw [e]
  exact hj.2.symm.trans h2
section
variable {X : Cx} {G : Gm} {W : WX} {pins : List (Addr × Obj)} {σ : L2.St} {S : Sta} {H H1 : Hp} {s s1 : Shared} {N Nl ps : List Str} {sc scope : Scope} {cap : List Nat}
theorem lam_start {A : Around} {outer : List Env} {E : XK} {f c' : Addr} {h₁ : Heap} {tk : Nat} {fr' : List Addr} {us : List Value} {vs : List V} (I : Inv X pins σ H s) (hs : X.env.scope = sc) (hN : X.N = N) (L : LamP N sc scope ps cap Nl) (e0 : Env0 X.prog X.w X.K X.mg X.base A outer s1 H1) (hd : A.handled = none)
    (un : Un fr' [] H H1 s.heap s1.heap) (hns : h₁.Ns s1.heap.objs.size fun y => (ps.zip us).reverse.lookup y) (kp : ∀ b o, s1.heap.get? b = some o → h₁.get? b = some o) (r : Vals vs us) (hl : vs.length = ps.length) :
    Inv (lcx X Nl A outer s1 H1 E scope f c') [] (lslots vs cap σ) H1 { s1 with heap := h₁, toks := tk } := by
  have hfree := L.has hs I.ok
  have cm : ∀ {y c}, (cloFrom X.env.cells scope.names []).lookup y = some c → X.env.cells.lookup y = some c := fun {y c} e => by
    rcases cloFrom_mem (PySem.mem_of_lookup e) with hm | ⟨h1, h2⟩
    · cases hm
    · obtain ⟨c1, hc⟩ := hfree _ h1 rfl
      have hc : X.env.cells.lookup y = some c1 := hc
      rw [hc] at h2
      rw [hc, h2]
      rfl
  have look : ∀ {y}, scope.names.lookup y = some .free → ∃ c, (cloFrom X.env.cells scope.names []).lookup y = some c := fun {y} hl => L2.mem_lookup (cloFrom_has (cells := X.env.cells) (acc := []) (PySem.mem_of_lookup hl))
  have cellK : ∀ {c : Addr} {v : Option Value}, H c = none → s.heap.IsCell c v → h₁.IsCell c v := fun {c v} n ⟨o, ho, hd⟩ => by
    obtain ⟨sl, q⟩ := un.any ho n (by simp)
    exact ⟨_, kp _ _ q, hd⟩
  have noA : ∀ b : Addr, b ∉ (lcx X Nl A outer s1 H1 E scope f c').ex := fun b z => absurd (show b ∈ ([] : List Addr) from z) (by simp)
  have ndP : ps.Nodup := by rw [← L.pre]; exact L.nd.sublist (List.take_sublist _ _)
  refine ⟨⟨e0.mod, L.kind, rfl, rfl, Nat.le_refl _, fun y z c e1 e2 => I.ok.inj y z c (cm e1) (cm e2), fun y hy => ?_, fun y c z _ => ?_, fun _ => hd, Around.frames_deeper e0.frames, .inr ⟨rfl, rfl⟩, fun b z => absurd z (noA b), e0.bs, e0.bsz, fun b _ _ => noA b,
      fun b z => absurd z (noA b), e0.funs, e0.frf⟩,
    rfl, e0.bare, Un.kept kp, ⟨_, hns, fun i y v e1 e2 e3 => ?_⟩, fun y c e => ?_, e0.hok.fresh (Nat.le_refl _), fun y c e => ?_, fun q hq => absurd (show q ∈ ([] : List (Addr × Obj)) ++ [] from hq) (by simp), e0.hok.kept kp, ?_⟩
  · have hy : scope.names.lookup y = some .cell ∨ scope.names.lookup y = some .free := hy
    rcases hy with hy | hy
    · exact absurd rfl (L.noc _ (PySem.mem_of_lookup hy))
    · exact look hy
  · have z : false = true := z
    cases z
  · have e1 : Nl[i]? = some y := e1
    have e3 : Vis scope y := e3
    unfold lslots at e2
    by_cases hi : i < vs.length
    · rw [List.getElem?_append_left (by simpa using hi), List.getElem?_map] at e2
      cases q : vs[i]? with
      | none => rw [q] at e2; cases e2
      | some a =>
        rw [q] at e2
        cases e2
        obtain ⟨u, hu, rv⟩ := r.get q
        have hp : ps[i]? = some y := by
          rw [← L.pre, List.getElem?_take_of_lt (by omega)]
          exact e1
        exact ⟨u, rv, .inl ⟨L.par y (List.mem_of_getElem? hp), zip_last ndP hp hu⟩⟩
    · rw [List.getElem?_append_right (by simpa using hi), List.length_map, List.getElem?_map] at e2
      cases q : cap[i - vs.length]? with
      | none => rw [q] at e2; cases e2
      | some i0 =>
        rw [q] at e2
        have e2 : some ((σ[i0]?).join) = some (some v) := e2
        have e4 : σ[i0]? = some (some v) := by
          cases z : σ[i0]? with
          | none => rw [z] at e2; cases e2
          | some w =>
            rw [z] at e2
            exact e2
        obtain ⟨x, x1, x2⟩ := L.caps _ _ q
        have : ps.length + (i - vs.length) = i := by omega
        rw [this, e1] at x1
        cases x1
        rcases e3 with k | k | k
        · have hp := L.own _ (PySem.mem_of_lookup k) rfl
          obtain ⟨j, hj⟩ := List.getElem?_of_mem hp
          have hj2 : Nl[j]? = some y := by
            have hlt : j < ps.length := (List.getElem?_eq_some_iff.mp hj).1
            rw [← L.pre, List.getElem?_take_of_lt hlt] at hj
            exact hj
          have := nodup_at L.nd e1 hj2
          have hlt : j < ps.length := (List.getElem?_eq_some_iff.mp hj).1
          omega
        · exact absurd rfl (L.noc _ (PySem.mem_of_lookup k))
        · obtain ⟨m, hn, hlk⟩ := I.loc
          have hk2 : X.env.scope.names.lookup y = some .cell ∨ X.env.scope.names.lookup y = some .free := by
            rw [hs]
            exact L.fre _ (PySem.mem_of_lookup k) rfl
          obtain ⟨w', r', q'⟩ := hlk i0 y v (by rw [hN]; exact x2) e4 (.inr hk2)
          obtain ⟨c2, h2⟩ := look k
          refine ⟨w', r', .inr ⟨.inr k, c2, h2, ?_⟩⟩
          have c1 := cm h2
          rcases q' with ⟨k', _⟩ | ⟨_, c3, e', z⟩
          · have k' : X.env.scope.names.lookup y = some .local := k'
            rcases hk2 with k2 | k2 <;> rw [k2] at k' <;> cases k'
          · rw [c1] at e'
            cases e'
            exact cellK (I.freeC y _ c1) z
  · obtain ⟨w', z⟩ := I.cell y c (cm e)
    exact ⟨w', cellK (I.freeC y c (cm e)) z⟩
  · obtain ⟨v, o, ho, hd⟩ := I.cell y c (cm e)
    exact un.free c o ho (I.freeC y c (cm e)) (by simp)
  · show (lslots vs cap σ).length = Nl.length
    unfold lslots
    rw [List.length_append, List.length_map, List.length_map, hl, L.len]
theorem lsl_ok {sd : Sl} {ds : List D} {vs : List V} {pin : List (Nat × Addr)} {iv iv' : List Iv} (rs : Rs' (G.wi pin iv) S sd σ) (rl : Rl (G.wi [] iv') S ds vs) : Rs' (G.wi [] iv') S (lsl ds cap sd) (lslots vs cap σ) := by
  refine ⟨by simp [lsl, lslots, rl.length], fun i d h => ?_, fun p z => nomatch z⟩
  unfold lsl at h
  unfold lslots
  by_cases hi : i < ds.length
  · rw [List.getElem?_append_left (by simpa using hi), List.getElem?_map] at h
    cases q : ds[i]? with
    | none => rw [q] at h; cases h
    | some d' =>
      rw [q] at h
      cases h
      obtain ⟨v, h1, h2⟩ := rl.get q
      refine ⟨v, ?_, h2⟩
      rw [List.getElem?_append_left (by rw [List.length_map, ← rl.length]; exact hi), List.getElem?_map, h1]
      rfl
  · rw [List.getElem?_append_right (by simpa using hi), List.length_map, List.getElem?_map] at h
    cases q : cap[i - ds.length]? with
    | none => rw [q] at h; cases h
    | some i0 =>
      rw [q] at h
      have h : some ((sd[i0]?).join) = some (some d) := h
      have h4 : sd[i0]? = some (some d) := by
        cases z : sd[i0]? with
        | none => rw [z] at h; cases h
        | some w =>
          rw [z] at h
          exact h
      obtain ⟨v, h1, h2⟩ := rs.at_ i0 d h4
      refine ⟨v, ?_, h2.wi⟩
      rw [List.getElem?_append_right (by rw [List.length_map, ← rl.length]; omega), List.length_map, List.getElem?_map, ← rl.length, q]
      show some ((σ[i0]?).join) = _
      rw [h1]
      rfl
/-- what the lambda does -/
def flam (np : Nat) (cap : List Nat) (fb : Fe) (sd : Sl) : CF := fun ds h => if Nat.beq ds.length np then fb (lsl ds cap sd) h else .stuck
/-- what is so while the lambda may be called -/
def ivL (G : Gm) (sd : Sl) (σ : L2.St) (c' : Addr) (q : Str) : Iv := ⟨fun S => Rs' G S sd σ ∧ Fz S c' (LamX.CodeO c' q), fun S S' t ⟨a, b⟩ => ⟨⟨a.len, fun i d e => by
  obtain ⟨v, h1, h2⟩ := a.at_ i d e
  exact ⟨v, h1, h2.ext t⟩, a.pin⟩, t.fz _ _ (fun ps z => by
    unfold LamX.CodeO at z
    cases z) b⟩⟩
/-- the lambda's promise -/
theorem lam_clo {k : Nat} {f c' : Addr} {pm ctv : Value} {params : Arguments} {body : Expr} {fb : Fe} {sd : Sl} {pin : List (Nat × Addr)} {iv : List Iv}
    (hP : X.prog = G.P) (hw : X.w = G.wd) (hK : X.K = G.K) (hmg : X.mg = G.mg) (hB : X.base = G.base)
    (I : Inv X pins σ H s) (hs : X.env.scope = sc) (hN : X.N = N) (L : LamP N sc scope ps cap Nl)
    (hf : s.heap.get? f = some (PySem.W.kla_obj "<lambda>" (X.env.qual ++ "<lambda>") params body scope (cloFrom X.env.cells scope.names []) pm c' ctv)) (hfn : H f = none) (hfr : f ∉ frs X.stack)
    (hbind : ∀ (q : Str) (cl : List (Str × Addr)) (pm cv ctv : Value) (us : List Value), us.length = ps.length → bindArgs (PySem.W.kla_fn "<lambda>" q params body scope cl pm cv ctv) ⟨us, []⟩ = pure (ps.zip us))
    (hb : ∀ (Y : Cx) (W : WX), Cs Y (G.wi [] iv) W Nl scope k false → SE Y (G.wi [] iv) W body fb) :
    CloP (G.wi [] (ivL (G.wi pin iv) sd σ c' (X.env.qual ++ "<lambda>") :: iv)) (k + 1) f s H (frs X.stack) (flam ps.length cap fb sd) := by
  have fk : ∀ (s1 : Shared) (H1 : Hp) (fr' : List Addr), (∀ b ∈ fr', b ∈ frs X.stack ∨ s.heap.objs.size ≤ b) → Un fr' [] H H1 s.heap s1.heap →
      s1.heap.get? f = some (PySem.W.kla_obj "<lambda>" (X.env.qual ++ "<lambda>") params body scope (cloFrom X.env.cells scope.names []) pm c' ctv) := fun s1 H1 fr' h u => by
    refine u.keep f _ hf hfn (fun z => ?_) (by simp)
    rcases h f z with z | z
    · exact hfr z
    · exact Nat.lt_irrefl _ (Nat.lt_of_lt_of_le (Heap.lt_size hf) z)
  refine ⟨fun s1 H1 fr' h u => ⟨_, _, _, _, fk s1 H1 fr' h u⟩, fun A outer s1 H1 us vs Q E fr' hr e0 h u rv hsp => ?_⟩
  obtain ⟨S, ds, rfl, hh, rl, c⟩ := hsp
  have c : Cont _ (fun cls dx _ H => E cls dx H) [] S (if Nat.beq ds.length ps.length then fb (lsl ds cap sd) S.h else .stuck) Q := c
  cases hz : Nat.beq ds.length ps.length with
  | false => rw [hz] at c; exact c.elim
  | true =>
    rw [hz, if_pos rfl] at c
    have hz := Nat.eq_of_beq_eq_true hz
    have lv : vs.length = ps.length := by rw [← rl.length, hz]
    have lu : us.length = ps.length := by rw [← rv.length, lv]
    obtain ⟨i1, i2⟩ : Rs' (G.wi pin iv) S sd σ ∧ Fz S c' (LamX.CodeO c' (X.env.qual ++ "<lambda>")) := hh.iv _ List.mem_cons_self
    have of1 := fk s1 S.H fr' h u
    rw [← hP, ← hw, ← hK, ← hmg, ← hB] at e0
    obtain ⟨⟨oc, ws, t, hoc, hdc, hvc⟩, _, _⟩ := e0.hok c' _ i2.2
    show codeAny (model G.P G.wd) A (.call (.ref f) ⟨us, []⟩) (CR (L2N.CX G.P G.wd) outer G.P G.wd S.H s1 Q E) s1
    rw [← hP, ← hw]
    refine PySem.W.kla_callFunE hr.depth of1 rfl L.co L.gen rfl ⟨c', oc, ws, t, rfl, hoc, hdc, hvc⟩ ?_
    rw [hbind _ _ _ _ _ us lu]
    have lim : s1.heap.NoLimit := e0.mod.nolimit.keeps fun b o e => (e0.bs b o e).1
    refine wpAny_pure (wpAny_newFunctionEnv L.noc (fun y hy => L.par _ (List.of_mem_zip (a := y.1) (b := y.2) hy).1) (fun h₁ hns hsb => ⟨lim.fresh _ hsb, ?_⟩) L.kind)
    show codeAny _ _ (.expr body (lenv X scope s1.heap.objs.size f c')) _ _
    have kp : ∀ b o, s1.heap.get? b = some o → h₁.get? b = some o := fun b o e => hsb.extBut b o (Nat.ne_of_lt (Heap.lt_size e)) (Heap.get?_push_of_some _ e)
    have J : Inv (lcx X Nl A outer s1 S.H E scope f c') [] (lslots vs cap σ) S.H { s1 with heap := h₁, toks := s1.toks + (ps.zip us).length } := lam_start I hs hN L e0 hr.hd u hns kp rv lv
    have rm := hr.deeper (lenv X scope s1.heap.objs.size f c')
    have C : Cs (lcx X Nl A outer s1 S.H E scope f c') (G.wi [] iv) (fun cls dx _ H => E cls dx H) Nl scope k false :=
      ⟨rfl, L.nd, rfl, L.kind, hP, hw, hK, hmg, hB, ⟨fun _ => rfl, fun z => (nomatch z)⟩, L2N.takes_of rfl rfl rfl rfl, ⟨rm.dp, rm.un⟩, fun _ => rm.hd, (fun _ _ _ _ p hz => nomatch hz), fun _ _ _ p hz => nomatch hz⟩
    have hi : ∀ p ∈ ivL (G.wi pin iv) sd σ c' (X.env.qual ++ "<lambda>") :: iv, p.φ S := hh.iv
    have rl' : Rl (G.wi [] iv) S ds vs := rl.wi
    refine PySem.W.kla_codeExpr (wpAny_mono ((hb _ _ C).run [] _ _ S.H Q J ⟨S, lsl ds cap sd, rfl, hh.less (fun p hp => List.mem_cons_of_mem _ hp), lsl_ok i1 rl', ?_⟩) (fun v s' hq => ?_) fun e s' hq => hq)
    · have c2 := Cont.wi (pin := []) (iv := iv) hi c
      revert c2
      cases fb (lsl ds cap sd) S.h with
      | ok => exact fun z => z
      | exc => exact fun z => z
      | stuck => exact fun z => z
    · obtain ⟨w', H', J', rv', q⟩ := hq
      exact ⟨w', H', J'.os, J'.bare, J'.base, J'.hok, rv', q⟩
end

/-! text Ev14.lean -/
/-! Pf 14: where functions are handed in, and called -/
open PySem PySem.Spec L2 TL PyProof.Rows

/-- a def that gets a function as its last argument -/
structure GHo (G : Gm) (k kr : Nat) (x : Str) (i : Nat) (gH : CF → CF) : Prop where
  run : ∀ (A : Around) (outer : List Env) (s : Shared) (us : List Value) (vs : List V) (f : Addr) (S : Sta) (ds : List D) (Q : VK) (E : XK) (iv : List Iv) (deed : CF), Room kr A → Env0 G.P G.wd G.K G.mg G.base A outer s S.H →
    (∀ p ∈ G.iv, p ∈ iv) → (∀ p ∈ iv, p.φ S) → CloP (G.wi [] iv) k f s S.H (frs outer) deed → Vals vs us → Rh G S → Rl G S ds vs → Cont G (fun cls dx _ H => E cls dx H) [] S (gH deed ds S.h) Q →
    codeAny (model G.P G.wd) A (.call (.ref (G.fa i)) ⟨us ++ [.ref f], []⟩) (CR (L2N.CX G.P G.wd) outer G.P G.wd S.H s Q E) s
  mg : G.mg x = some (.ref (G.fa i))
  kp : PySem.W.keepIn G.K (.ref (G.fa i)) = true
theorem GHo.wi {G : Gm} {k kr i : Nat} {x : Str} {gH : CF → CF} {pin pin' : List (Nat × Addr)} {iv iv' : List Iv} (hs : ∀ p ∈ iv, p ∈ iv') (F : GHo (G.wi pin iv) k kr x i gH) : GHo (G.wi pin' iv') k kr x i gH :=
  ⟨fun A outer s us vs f S ds Q E iv2 deed hr e0 h1 h2 cl rv hh rl c => F.run A outer s us vs f S ds Q E iv2 deed hr e0 (fun p hp => h1 p (hs p hp)) h2 cl rv (hh.less hs) rl.wi (c.wi hh.iv), F.mg, F.kp⟩
/-- the arguments, a function the last: its reading -/
def ContF (G : Gm) (W : WX) (σ : L2.St) (S : Sta) (r : Res (List D)) (P : List D → Hd → Prop) : Prop := match r with
  | .ok ds h => P ds h
  | .exc e h => ∀ (S' : Sta) (cls : Value) (dx : Option Addr), Stp S S' → S'.h = h → Rh G S' → Rx G S' e cls dx → W cls dx σ S'.H
  | .stuck => False
/-- what is wanted behind them -/
def PF (X : Cx) (G : Gm) (k : Nat) (pins : List (Addr × Obj)) (σ : L2.St) (S : Sta) (c : CF) (Fin : List Value → Shared → Prop) (ds : List D) (h : Hd) : Prop :=
  ∀ (S' : Sta) (s' : Shared) (us : List Value) (vs : List V) (f : Addr) (iv : List Iv), Inv X pins σ S'.H s' → Stp S S' → S'.h = h → Rh G S' → Rl G S' ds vs → Vals vs us →
    (∀ p ∈ G.iv, p ∈ iv) → (∀ p ∈ iv, p.φ S') → CloP (G.wi [] iv) k f s' S'.H (frs X.stack) c → Fin (us ++ [.ref f]) s'
structure SF (X : Cx) (G : Gm) (W : WX) (k : Nat) (es : List Expr) (fr : Fa) (fn : Sl → CF) : Prop where
  run : ∀ (pos : Pos) (pins : List (Addr × Obj)) (s : Shared) (σ : L2.St) (S : Sta) (sd : Sl) (Fin : List Value → Shared → Prop), Inv X pins σ S.H s → Rh G S → Rs' G S sd σ →
    ContF G W σ S (fr sd S.h) (PF X G k pins σ S (fn sd) Fin) → wpAny (model X.prog X.w) X.A (spliced (backTo pos (starEach es X.env))) Fin X.xe s
section
variable {X : Cx} {G : Gm} {W : WX} {N Nl ps : List Str} {sc scope : Scope} {cap : List Nat} {k kk kr : Nat} {m : Bool} {a b e : Expr} {es : List Expr} {fa fb : Fe} {fr : Fa} {pos : Pos} {fn : Sl → CF}
/-- where a lambda's code object lies -/
structure Lt (X : Cx) (G : Gm) : Prop where
  ex : ∃ c P, LamX.TabB X.base X.mg c P ∧ X.env.code = .ref c ∧ (P, X.env.qual ++ "<lambda>") ∈ G.tb ∧ ∀ p ∈ G.tb, p.1 = P → p.2 = X.env.qual ++ "<lambda>"
theorem fl_ (C : Cs X G W N sc kk m) (T : Lt X G) (hp : G.pin = []) {params : Arguments} {body : Expr} {lpos : Pos}
    (hb : ∀ (Y : Cx) (W : WX), Cs Y G W Nl scope k false → SE Y G W body fb) (L : lamPB N sc scope ps cap Nl = true := by kernel_rfl) (hdef : defaultsOf params X.env = ([], []) := by rfl)
    (hbind : ∀ (q : Str) (cl : List (Str × Addr)) (pm cv ctv : Value) (us : List Value), us.length = ps.length → bindArgs (PySem.W.kla_fn "<lambda>" q params body scope cl pm cv ctv) ⟨us, []⟩ = pure (ps.zip us))
    (hst : starEach [.Lambda params body scope lpos] X.env = [(false, eval (.Lambda params body scope lpos) X.env)] := by rfl) : SF X G W (k + 1) [.Lambda params body scope lpos] fnil (flam ps.length cap fb) := by
  obtain ⟨P, wd, K, mg, base, fa, ca, pin, iv, tb⟩ := G
  have hp : pin = [] := hp
  subst hp
  let G : Gm := ⟨P, wd, K, mg, base, fa, ca, [], iv, tb⟩
  obtain ⟨c, Pt, TB, hcode, hm, hu⟩ := T.ex
  have L := lamP_by L
  refine ⟨fun pos pins s σ S sd Fin I hh rs h => ?_⟩
  rw [hst]
  show wpAny _ _ (spliced ((false, eval (.Lambda params body scope lpos) X.env) :: [])) _ _ s
  refine Calls.spliced_cons (lamMk I TB hcode (hh.tab _ hm) hdef (L.has C.hsc I.ok) fun f c' pm ctv H1 s' I1 hl hf hfn hfr => ?_)
  obtain ⟨t1, hh1, fz⟩ := lam_state hh hu hl
  have cl := lam_clo (G := G) (pin := []) (iv := iv) (sd := sd) (fb := fb) C.hP C.hw C.hK C.hmg C.hB I1 C.hsc C.hN L hf hfn hfr hbind hb
  refine Calls.spliced_nil (h { S with H := H1 } s' [] [] f _ I1 t1 rfl hh1 .nil .nil (fun p hp => List.mem_cons_of_mem _ hp) (fun p hp => ?_) cl)
  rcases List.mem_cons.mp hp with z | z
  · subst z
    exact ⟨rs.mono t1, fz⟩
  · exact hh1.iv p z
theorem fc_ (ha : SE X G W e fa) (hr : SF X G W k es fr fn) (hs : starEach (e :: es) X.env = (false, eval e X.env) :: starEach es X.env := by rfl) : SF X G W k (e :: es) (fcons fa fr) fn := by
  refine ⟨fun pos pins s σ S sd Fin I hh rs h => ?_⟩
  rw [hs]
  show wpAny _ _ (spliced ((false, eval e X.env) :: backTo pos (starEach es X.env))) _ _ s
  have h : ContF G W σ S ((fa sd S.h).bind fun x h => (fr sd h).bind fun xs h => .ok (x :: xs) h) (PF X G k pins σ S (fn sd) Fin) := h
  refine Calls.spliced_cons (thn (ha.run pins s σ S.H (fun v H1 => ∃ S1 d, S1.H = H1 ∧ Stp S S1 ∧ Rh G S1 ∧ Rv G S1 d v ∧ ContF G W σ S1 (fr sd S1.h) fun ds h => PF X G k pins σ S (fn sd) Fin (d :: ds) h) I ⟨S, sd, rfl, hh, rs, ?_⟩) fun u s1 z => ?_)
  · revert h
    cases fa sd S.h with
    | ok d h1 =>
      intro h S1 v t1 eh hh1 rv
      refine ⟨S1, d, rfl, t1, hh1, rv, ?_⟩
      rw [eh]
      have h : ContF G W σ S ((fr sd h1).bind fun xs h => .ok (d :: xs) h) (PF X G k pins σ S (fn sd) Fin) := h
      revert h
      cases fr sd h1 with
      | ok ds h2 => exact fun h => h
      | exc x h2 => exact fun h S' cls dx t e hh rx => h S' cls dx (t1.trans t) e hh rx
      | stuck => exact fun h => h
    | exc x h1 => exact fun h => h
    | stuck => exact fun h => h.elim
  · obtain ⟨v, H1, I1, rv, S1, d, e1, t1, hh1, rd, q⟩ := z
    subst e1
    refine hr.run pos pins s1 σ S1 sd _ I1 hh1 (rs.mono t1) ?_
    revert q
    cases fr sd S1.h with
    | ok ds h2 => exact fun q S2 s2 us vs f iv I2 t2 e2 hh2 rl2 rv2 h1 h2 cl => q S2 s2 (u :: us) (v :: vs) f iv I2 (t1.trans t2) e2 hh2 (.cons (rd.mono t2) rl2) (.cons rv rv2) h1 h2 cl
    | exc x h2 => exact fun q => q
    | stuck => exact fun q => q
/-- x(.., a function) -/
def fho (gH : CF → CF) (fr : Fa) (fn : Sl → CF) : Fe := fun σ h => (fr σ h).bind fun ds h => gH (fn σ) ds h
theorem ho_ (C : Cs X G W N sc kk false) {x : Str} {p : Pos} {i : Nat} {gH : CF → CF} (F : GHo G k kr x i gH) (ha : SF X G W k (e :: es) fr fn) (hk : kr ≤ kk := by omega) (h : chkG sc x = true := by kernel_rfl)
    (he : starEach (e :: es) X.env = (false, eval e X.env) :: starEach es X.env := by rfl) (hpl : (backTo pos (starEach es X.env)).any (·.1) = false := by rfl) : SE X G W (.Call (.Name x p) (e :: es) [] pos) (fho gH fr fn) := by
  obtain ⟨h1, h2, h3⟩ := chkG_ok C h
  refine ⟨fun pins s σ H Q I q => ?_⟩
  obtain ⟨S, sd, rfl, hh, rs, c⟩ := q
  refine wpAny_Call_Name_kw (ld_glob I h1 (by rw [C.hmg]; exact F.mg) ?_ h2)
  refine PySem.W.callWith_K (h₀ := X.base) (K := X.K) I.ok.mod.kin (by rw [C.hK]; exact F.kp) (ha.run pos pins s σ S sd _ I hh rs ?_) he hpl
  have c : Cont G W σ S ((fr sd S.h).bind fun ds h => gH (fn sd) ds h) Q := c
  revert c
  cases fr sd S.h with
  | stuck => exact fun c => c
  | exc => exact fun c => c
  | ok ds h =>
    intro c S' s' us vs f iv I' t' e' hh' rl' rv hs hi cl
    refine ⟨I'.kIn, wpAny_call (codeAny_mono (?_ : codeAny (model X.prog X.w) X.A (.call (.ref (G.fa i)) ⟨us ++ [.ref f], []⟩) (CR (L2N.CX X.prog X.w) X.stack X.prog X.w S'.H s' Q (WE W σ)) s') fun r s2 hq => ?_)⟩
    · rw [C.hP, C.hw]
      have e0 := I'.env0
      rw [C.hP, C.hw, C.hK, C.hmg, C.hB] at e0
      refine F.run X.A X.stack s' us vs f S' ds Q (WE W σ) iv (fn sd) (C.room.mono hk) e0 hs hi cl rv hh' rl' ?_
      rw [e']
      exact Cont.call (Cont.step t' c)
    · cases r with
      | error e => exact L2N.passAt C.tk σ pins S'.H s' e s2 I' hq
      | ok fl =>
        cases fl with
        | ret u => exact I'.after hq
        | next => exact False.elim hq
        | brk => exact False.elim hq
        | cont => exact False.elim hq
/-- a function that was handed in, in the def that got it -/
structure Cl (X : Cx) (G : Gm) (k : Nat) (j : Nat) (deed : CF) : Prop where
  ex : X.ex = []
  pin : ∃ f, (j, f) ∈ G.pin ∧ CloP (G.wi [] G.iv) k f X.s_0 X.H_0 (frs X.outer) deed
theorem Cl.tr {j : Nat} {deed : CF} (D : Cl X G k j deed) {pn : List (Addr × Obj)} {xe : Value → Shared → Prop} : Cl (X.tr pn xe) G k j deed := ⟨D.ex, D.pin⟩
/-- from here on -/
theorem Cl.here {j : Nat} {deed : CF} (D : Cl X G k j deed) : ∃ f, (j, f) ∈ G.pin ∧ ∀ (pins : List (Addr × Obj)) (σ : L2.St) (H : Hp) (s : Shared), Inv X pins σ H s → CloP (G.wi [] G.iv) k f s H (frs X.stack) deed := by
  obtain ⟨f, h1, h2⟩ := D.pin
  refine ⟨f, h1, fun pins σ H s I => ?_⟩
  have u : Un (frs X.outer) [] X.H_0 H X.s_0.heap s.heap := by
    have := I.base
    rw [D.ex] at this
    exact this
  refine h2.later (fun b hb => ?_) I.sz u fun b hb => ?_
  · rcases List.mem_cons.mp (I.stkSub b hb) with z | z
    · subst z
      exact .inr I.ok.above
    · exact .inl z
  · rcases I.ok.stk with z | ⟨z, hf⟩
    · rw [z]
      exact hb
    · rw [z]
      unfold frs
      rw [List.filterMap_cons, hf]
      exact List.mem_cons_of_mem _ hb
/-- .. handed on -/
theorem fp_ (C : Cs X G W N sc kk m) {j : Nat} {deed : CF} {y : Str} {p : Pos} (D : Cl X G k j deed) (h : chkV N sc y j = true := by kernel_rfl) (hst : starEach [.Name y p] X.env = [(false, eval (.Name y p) X.env)] := by rfl) : SF X G W k [.Name y p] fnil fun _ => deed := by
  obtain ⟨h1, h2, h3, h4⟩ := chkV_ok C h
  obtain ⟨f, hf, here⟩ := D.here
  refine ⟨fun pos pins s σ S sd Fin I hh rs q => ?_⟩
  rw [hst]
  show wpAny _ _ (spliced ((false, eval (.Name y p) X.env) :: [])) _ _ s
  refine Calls.spliced_cons (thn ((pe_var (pos := p) (i := j) h1 h2 h3 h4).run pins s σ S.H (fun v H1 => v = .ref f ∧ H1 = S.H) I ⟨.ref f, rs.pin _ hf, rfl, rfl⟩) fun u s1 ⟨v, H1, I1, r1, ev, eH⟩ => ?_)
  subst ev eH
  obtain rfl : u = Value.ref f := r1
  exact Calls.spliced_nil (q S s1 [] [] f G.iv I1 (Stp.refl hh) rfl hh .nil .nil (fun p hp => hp) hh.iv (here _ _ _ _ I1))
/-- f(e, ..) -/
theorem cl_ (C : Cs X G W N sc kk false) {j : Nat} {deed : CF} {y : Str} {p : Pos} (D : Cl X G k j deed) (ha : SA X G W (e :: es) fr) (hk : k ≤ kk := by omega) (h : chkV N sc y j = true := by kernel_rfl)
    (he : starEach (e :: es) X.env = (false, eval e X.env) :: starEach es X.env := by rfl) (hpl : (backTo pos (starEach es X.env)).any (·.1) = false := by rfl) : SE X G W (.Call (.Name y p) (e :: es) [] pos) (fargs deed fr) := by
  obtain ⟨h1, h2, h3, h4⟩ := chkV_ok C h
  obtain ⟨f, hf, here⟩ := D.here
  refine ⟨fun pins s σ H Q I q => ?_⟩
  obtain ⟨S, sd, rfl, hh, rs, c⟩ := id q
  refine wpAny_Call_Name_kw (thn ((pe_var (pos := p) (i := j) h1 h2 h3 h4).run pins s σ S.H (fun v H1 => v = .ref f ∧ H1 = S.H) I ⟨.ref f, rs.pin _ hf, rfl, rfl⟩) fun u s1 ⟨v, H1, I1, r1, ev, eH⟩ => ?_)
  subst ev eH
  obtain rfl : u = Value.ref f := r1
  have fa : ∀ {σ H s}, Inv X pins σ H s → PySem.W.FnAt f s.heap := fun I => (here _ _ _ _ I).fn _ _ (frs X.stack) (fun b hb => .inl hb) Un.refl
  refine PySem.W.callWith_F (fa I1) (thn (ha.run pos pins s1 σ S.H _ I1 (tA_args q)) fun us s2 ⟨vs, H2, I2, r2, S2, ds, e2, hh2, rl2, c2⟩ => ⟨fa I2, ?_⟩) he hpl
  subst e2
  refine wpAny_call (codeAny_mono (?_ : codeAny (model X.prog X.w) X.A (.call (.ref f) ⟨us, []⟩) (CR (L2N.CX X.prog X.w) X.stack X.prog X.w S2.H s2 Q (WE W σ)) s2) fun r s3 hq => ?_)
  · rw [C.hP, C.hw]
    have e0 := I2.env0
    rw [C.hP, C.hw, C.hK, C.hmg, C.hB] at e0
    exact (here _ _ _ _ I2).run X.A X.stack s2 S2.H us vs Q (WE W σ) (frs X.stack) (C.room.mono hk) e0 (fun b hb => .inl hb) Un.refl r2 ⟨S2, ds, rfl, hh2.less fun p hp => hp, rl2.wi, (Cont.wi hh2.iv c2.call)⟩
  · cases r with
    | error e => exact L2N.passAt C.tk σ pins S2.H s2 e s3 I2 hq
    | ok fl =>
      cases fl with
      | ret u => exact I2.after hq
      | next => exact False.elim hq
      | brk => exact False.elim hq
      | cont => exact False.elim hq
/-- f() -/
theorem cl0_ (C : Cs X G W N sc kk false) {j : Nat} {deed : CF} {y : Str} {p : Pos} (D : Cl X G k j deed) (hk : k ≤ kk := by omega) (h : chkV N sc y j = true := by kernel_rfl) : SE X G W (.Call (.Name y p) [] [] pos) (fargs deed fnil) := by
  obtain ⟨h1, h2, h3, h4⟩ := chkV_ok C h
  obtain ⟨f, hf, here⟩ := D.here
  refine ⟨fun pins s σ H Q I q => ?_⟩
  obtain ⟨S, sd, rfl, hh, rs, c⟩ := id q
  refine wpAny_Call_Name_kw (thn ((pe_var (pos := p) (i := j) h1 h2 h3 h4).run pins s σ S.H (fun v H1 => v = .ref f ∧ H1 = S.H) I ⟨.ref f, rs.pin _ hf, rfl, rfl⟩) fun u s1 ⟨v, H1, I1, r1, ev, eH⟩ => ?_)
  subst ev eH
  obtain rfl : u = Value.ref f := r1
  have fa : ∀ {σ H s}, Inv X pins σ H s → PySem.W.FnAt f s.heap := fun I => (here _ _ _ _ I).fn _ _ (frs X.stack) (fun b hb => .inl hb) Un.refl
  refine PySem.W.callWith_F0 (fa I1) ?_
  have c : Cont G W σ S (deed [] S.h) Q := c
  refine wpAny_call (codeAny_mono (?_ : codeAny (model X.prog X.w) X.A (.call (.ref f) ⟨[], []⟩) (CR (L2N.CX X.prog X.w) X.stack X.prog X.w S.H s1 Q (WE W σ)) s1) fun r s3 hq => ?_)
  · rw [C.hP, C.hw]
    have e0 := I1.env0
    rw [C.hP, C.hw, C.hK, C.hmg, C.hB] at e0
    exact (here _ _ _ _ I1).run X.A X.stack s1 S.H [] [] Q (WE W σ) (frs X.stack) (C.room.mono hk) e0 (fun b hb => .inl hb) Un.refl .nil ⟨S, [], rfl, hh.less fun p hp => hp, .nil, (Cont.wi hh.iv c.call)⟩
  · cases r with
    | error e => exact L2N.passAt C.tk σ pins S.H s1 e s3 I1 hq
    | ok fl =>
      cases fl with
      | ret u => exact I1.after hq
      | next => exact False.elim hq
      | brk => exact False.elim hq
      | cont => exact False.elim hq
end
/-! ### a def that gets a function -/
/-- as data: it runs with the last slot empty -/
def Df.runH (f : Df) (ds : List D) (h : Hd) : Res D := if Nat.beq (ds.length + 1) f.np then (f.body (slots f.nn ds) h).fin else .stuck
theorem slots_pin {G : Gm} {S : Sta} {iv iv' : List Iv} {f : Addr} {ds : List D} {vs : List V} (N : List Str) (r : Rl (G.wi [] iv) S ds vs) (hl : ds.length < N.length) : Rs' (G.wi [(ds.length, f)] iv') S (slots N.length ds) (L2.start N (vs ++ [.ref f])) := by
  have r0 : Rs' (G.wi [] iv) S (slots N.length ds) (L2.start N vs) := Rl.slots rfl N r
  have e : L2.start N (vs ++ [.ref f]) = (L2.start N vs).set ds.length (some (.ref f)) := by
    unfold L2.start
    rw [r.length] at hl ⊢
    rw [List.map_append, List.append_assoc, List.length_append, List.set_append, if_neg (by simp), List.length_map, Nat.sub_self]
    congr 1
    obtain ⟨n, hn⟩ : ∃ n, N.length - vs.length = n + 1 := ⟨N.length - vs.length - 1, by omega⟩
    rw [hn, List.replicate_succ, List.set_cons_zero]
    show some (V.ref f) :: List.replicate (N.length - (vs.length + 1)) none = _
    rw [show N.length - (vs.length + 1) = n by omega]
  rw [e]
  refine ⟨by rw [List.length_set]; exact r0.len, fun i d h => ?_, fun p hp => ?_⟩
  · have hi : i ≠ ds.length := fun z => by
      subst z
      unfold slots at h
      rw [List.getElem?_append_right (by simp)] at h
      simp [List.getElem?_replicate] at h
    obtain ⟨v, h1, h2⟩ := r0.at_ i d h
    exact ⟨v, by rw [List.getElem?_set_ne (Ne.symm hi)]; exact h1, h2.wi⟩
  · rw [List.mem_singleton.mp hp]
    refine List.getElem?_set_self ?_
    rw [← r0.len]
    unfold slots
    simp
    omega
/-- THE RULE -/
theorem hdef_ok {G : Gm} {k kr i : Nat} {x y qual a : Str} {params : Arguments} {body : List Stmt} {scope : Scope} {fd : FuncData} {N ps : List Str} {f : CF → Df}
    (F : FunD G.K x qual params body scope [] [] (G.fa i) fd) (hm : G.mg y = some (.ref (G.fa i))) (bi : Binds G.K fd ps []) (hS : FnScope N ps scope) (hn : ∀ d, (f d).np = ps.length) (hN : ∀ d, (f d).nn = N.length) {j : Nat} (hj : ps.length = j + 1) (ha : N[j]? = some a) (hpn : isPin a j = true) (hne : a ≠ ("e" : Str))
    (hb : ∀ (X : Cx) (W : WX) (g : Addr) (iv : List Iv) (deed : CF), (∀ p ∈ G.iv, p ∈ iv) → Ct X (G.wi [(j, g)] iv) W N scope kr false → Cl X (G.wi [(j, g)] iv) k j deed → SSs X (G.wi [(j, g)] iv) W body (f deed).body) : GHo G k (kr + 1) y i fun deed => (f deed).runH := by
  refine ⟨fun A outer s us vs g S ds Q E iv deed hr e0 hs hi cl rv hh rl c => ?_, hm, F.kp⟩
  obtain ⟨oc, od, dV, kV, doc, pm, an, cdv, ct, osl, rfl, lk, hcd, _, _⟩ := F.ex
  have c : Cont G (fun cls dx _ H => E cls dx H) [] S (if Nat.beq (ds.length + 1) (f deed).np then ((f deed).body (slots (f deed).nn ds) S.h).fin else .stuck) Q := c
  cases hz : Nat.beq (ds.length + 1) (f deed).np with
  | false => rw [hz] at c; exact c.elim
  | true =>
    rw [hz, if_pos rfl] at c
    have hz := Nat.eq_of_beq_eq_true hz
    rw [hn, hj] at hz
    have hz : ds.length = j := by omega
    have lv : vs.length = j := by rw [← rl.length, hz]
    have lu : us.length = j := by rw [← rv.length, lv]
    have KX : G.K.In s.heap := e0.mod.kin.keeps fun b o e => (e0.bs b o e).1
    have bt := bi s (us ++ [.ref g]) KX (by simp [lu, hj])
    rw [List.append_nil] at bt
    have rv2 : Vals (vs ++ [V.ref g]) (us ++ [Value.ref g]) := rv.append (.cons rfl .nil)
    refine LamX.run_ofS (N := N) (ps := ps) (vs := vs ++ [.ref g]) lk hcd hS hr e0 bt rv2 (by simp [lv, hj]) fun hr' => ?_
    refine ⟨tS (G.wi [(j, g)] iv) (fun cls dx _ H => E cls dx H) (f deed).body, hb _ _ g iv deed hs ?_ ⟨rfl, g, List.mem_singleton.mpr rfl, cl⟩, ?_⟩
    · exact ⟨⟨rfl, hS.nd, rfl, hS.kind, rfl, rfl, rfl, rfl, rfl, ⟨fun _ => rfl, fun z => (nomatch z)⟩, L2N.takes_of rfl rfl rfl rfl, ⟨hr'.dp, hr'.un⟩, fun _ => hr'.hd, (fun i z h1 h2 p hp => by
        rw [List.mem_singleton.mp hp]
        rintro rfl
        rw [ha] at h1
        cases h1
        rw [hpn] at h2
        cases h2), fun _ i h1 p hp => by
        rw [List.mem_singleton.mp hp]
        rintro rfl
        rw [ha] at h1
        cases h1
        exact hne rfl⟩, fun _ => rfl, passes_of rfl, rfl, rfl⟩
    · have hlN : ds.length < N.length := by
        rw [hz]
        exact (List.getElem?_eq_some_iff.mp ha).1
      have rs := slots_pin (G := G) (iv := G.iv) (iv' := iv) (f := g) N (rl : Rl (G.wi G.pin G.iv) S ds vs).wi hlN
      rw [hz] at rs
      refine ⟨S, slots (f deed).nn ds, rfl, (hh : Rh (G.wi G.pin G.iv) S).wi hi, by rw [hN]; exact rs, ?_⟩
      exact fin_of (Cont.wi (G := G) (pin' := G.pin) (iv' := G.iv) hh.iv c)

/-! text Ev15.lean -/
/-! Pf 15: exceptions in hand -/
open PySem PySem.Spec L2 TL PyProof.Rows

/-- slot i holds the handled exception, told by e -/
structure Xc (X : Cx) (G : Gm) (i : Nat) (e : Ec) : Prop where
  ex : ∃ (a : Addr) (oe : Obj) (cls : Value) (d : Option Addr), (a, oe) ∈ X.pn ∧ X.A.handled = some (.ref a) ∧ L2N.Zn cls d oe ∧ (∃ vs, oe.data = .fields vs) ∧ (i, a) ∈ G.pin ∧ ∃ p ∈ G.iv, ∀ S, p.φ S → Rx G S e cls d
theorem Rx.ext {G : Gm} {S S1 : Sta} (t : Ext S S1) {e : Ec} {cls : Value} {dx : Option Addr} (r : Rx G S e cls dx) : Rx G S1 e cls dx := by
  have go : ∀ {ds : List (Str × D)} {vs : List (Str × V)}, Rf G S ds vs → Rf G S1 ds vs := fun r => by
    induction r with
    | nil => exact .nil
    | cons r _ ih => exact .cons (r.ext t) ih
  exact ⟨r.1, r.2.imp id fun ⟨d, fs, h1, h2, h3, h4⟩ => ⟨d, fs, h1, t.fz _ _ (fun ps z => by cases z) h2, go h3, h4⟩⟩
def ivX (G : Gm) (e : Ec) (cls : Value) (d : Option Addr) : Iv := ⟨fun S => Rx G S e cls d, fun S S' t r => r.ext t⟩
/-- an own class, for isinstance -/
structure KOk (G : Gm) (y : Str) (t : Tk) : Prop where
  ex : ∃ (v : V) (u : Value), RelV v u ∧ (∀ w, RelV v w → w = u) ∧ (G.mg y = some u ∨ (G.mg y = none ∧ bootBuiltins y = some u)) ∧ ∀ j b, t j = some b → PySem.W.kitOne G.K (.ref (G.ca j)) u = some b ∧ ExcC G.K (G.ca j)
/-- isinstance(e, X) -/
def fisE (t : Tk) (e : Ec) : Fe := fun _ h => match e.fs with
  | [] => (match t e.c with
    | some b => .ok (.bl b) h
    | none => .stuck)
  | _ => .stuck
/-- e.f -/
def ffld (c : Nat) (f : Str) (e : Ec) : Fe := fun _ h => if Nat.beq e.c c then (match e.fs.lookup f with
  | some d => .ok d h
  | none => .stuck) else .stuck
section
variable {X : Cx} {G : Gm} {W : WX} {N ps : List Str} {sc scope : Scope} {k kk i : Nat} {m : Bool} {e : Expr} {es : List Expr} {pos : Pos} {x : Ec}
theorem call_isP {a D : Addr} {oe : Obj} (hp : (a, oe) ∈ X.pn) (C : ExcC X.K D) (hz : Zc (.ref D) none oe) (hf : ∃ vs, oe.data = .fields vs) : CallR X (.builtin "isinstance") (rIsE X.K D a) := by
  intro pins s σ H xs us Q I r h
  obtain ⟨c, cv, b, rfl, hcv, e, q⟩ := h
  cases r with
  | cons rx rr =>
    cases rr with
    | cons rt rr =>
      cases rr
      cases rx
      have ec := hcv _ rt
      subst ec
      obtain ⟨hget, _⟩ := I.pin (a, oe) (List.mem_append.mpr (.inl hp))
      obtain ⟨vs, hv⟩ := hf
      have J : PySem.W.InstAt s.heap a oe D none := by
        obtain ⟨oc, od, oda, osl⟩ := oe
        obtain ⟨h1, h2⟩ := hz
        dsimp only at h1 h2 hv
        subst h1 h2 hv
        exact ⟨hget, rfl, rfl, trivial⟩
      exact PySem.W.kia_one (PySem.W.handS_kitx_exc C.hg C.hk C.hs C.hd C.ha C.hn C.ht C.hm) I.kIn J e (fun z => nomatch z) fun tk => ⟨.bl b, H, I.kept (t' := tk) fun _ _ z => z, rfl, q⟩
theorem isx_ (C : Cs X G W N sc k m) (E : Xc X G i x) {t : Tk} {n y : Str} {p p1 p2 : Pos} (hm : G.mg ("isinstance" : Str) = none) (F : KOk G y t) (h1 : chkG sc ("isinstance" : Str) = true := by kernel_rfl) (h2 : chkG sc y = true := by kernel_rfl) (h3 : chkV N sc n i = true := by kernel_rfl)
    (he : starEach [.Name n p1, .Name y p2] X.env = (false, eval (.Name n p1) X.env) :: starEach [.Name y p2] X.env := by rfl) (he2 : starEach [.Name y p2] X.env = (false, eval (.Name y p2) X.env) :: starEach [] X.env := by rfl) : SE X G W (.Call (.Name "isinstance" p) [.Name n p1, .Name y p2] [] pos) (fisE t x) := by
  obtain ⟨a, oe, cls, d, hp, _, hz, hf, hpin, q, hq, hx⟩ := E.ex
  obtain ⟨vy, cy, ry, uy, hy, hk⟩ := F.ex
  obtain ⟨v1, v2, v3, v4⟩ := chkV_ok C h3
  obtain ⟨a1, a2, a3⟩ := chkG_ok C h1
  obtain ⟨b1, b2, b3⟩ := chkG_ok C h2
  by_cases hx0 : x.fs = [] ∧ ∃ b, t x.c = some b ∧ cls = .ref (G.ca x.c) ∧ d = none
  · obtain ⟨e0, b, tb, ec, ed⟩ := hx0
    subst ec ed
    obtain ⟨k1, k2⟩ := hk _ _ tb
    have hp1 : PE X (.Name n p1) (tVar i) := pe_var v1 v2 v3 v4
    have hp2 : PE X (.Name y p2) (tC vy) := by
      rcases hy with hy | ⟨hy1, hy2⟩
      · exact pe_glob b1 (by rw [C.hmg]; exact hy) ry b2
      · exact pe_bltn b1 (by rw [C.hmg]; exact hy1) hy2 ry b3 b2
    refine PE.imp (pe_callB (id := "isinstance") (call_isP (D := G.ca x.c) hp (by rw [C.hK]; exact k2) hz.zc hf) a1 (by rw [C.hmg]; exact hm) (by kernel_rfl) (pa_cons hp1 (pa_cons hp2 pa_nil he2) he) a3 a2 he (by rfl)) fun σ H Q h => ?_
    obtain ⟨S, sd, rfl, hh, rs, c⟩ := h
    have c : Cont G W σ S (match x.fs with
      | [] => (match t x.c with
        | some b => .ok (.bl b) S.h
        | none => .stuck)
      | _ => .stuck) Q := c
    rw [e0, tb] at c
    refine ⟨.ref a, rs.pin _ hpin, ?_⟩
    exact ⟨vy, cy, b, rfl, uy, by rw [C.hK]; exact k1, c.val rfl hh (.bl b)⟩
  · refine ⟨fun pins s σ H Q I h => False.elim ?_⟩
    obtain ⟨S, sd, rfl, hh, rs, c⟩ := h
    have c : Cont G W σ S (match x.fs with
      | [] => (match t x.c with
        | some b => .ok (.bl b) S.h
        | none => .stuck)
      | _ => .stuck) Q := c
    obtain ⟨r1, r2⟩ := hx S (hh.iv q hq)
    cases z : x.fs with
    | cons => rw [z] at c; exact c
    | nil =>
      rw [z] at c
      cases zt : t x.c with
      | none => rw [zt] at c; exact c
      | some b =>
        refine hx0 ⟨z, b, zt, r1, ?_⟩
        rcases r2 with ⟨_, r2⟩ | ⟨dd, fs, r3, r4, r5, r6⟩
        · exact r2
        · exact absurd z r6

theorem Rs'.wi {pin pin' : List (Nat × Addr)} {iv iv' : List Iv} {S : Sta} {sd : Sl} {σ : L2.St} (hs : ∀ p ∈ pin', p ∈ pin) (r : Rs' (G.wi pin iv) S sd σ) : Rs' (G.wi pin' iv') S sd σ :=
  ⟨r.len, fun i d h => let ⟨v, h1, h2⟩ := r.at_ i d h; ⟨v, h1, h2.wi⟩, fun p hp => r.pin p (hs p hp)⟩
theorem ContS.wi {pin pin' : List (Nat × Addr)} {iv iv' : List Iv} {S : Sta} {r : Rs} {Dn : Ends} (hs : ∀ p ∈ pin', p ∈ pin) (hi : ∀ p ∈ iv', p.φ S) (c : ContS (G.wi pin' iv') W S r Dn) : ContS (G.wi pin iv) W S r Dn := by
  have up : ∀ S', Stp S S' → ∀ p ∈ iv', p.φ S' := fun S' t p hp => p.ext _ _ t.ext (hi p hp)
  cases r with
  | nx sd h => exact fun S' σ' t e hh rs => c S' σ' t e (hh.wi (up S' t)) (rs.wi hs)
  | rt d h => exact fun S' v t e hh rv => c S' v t e (hh.wi (up S' t)) rv.wi
  | bk sd h => exact fun S' σ' t e hh rs => c S' σ' t e (hh.wi (up S' t)) (rs.wi hs)
  | ct sd h => exact fun S' σ' t e hh rs => c S' σ' t e (hh.wi (up S' t)) (rs.wi hs)
  | exc x sd h => exact fun S' σ' cls dx t e hh rs rx => c S' σ' cls dx t e (hh.wi (up S' t)) (rs.wi hs) rx.wi
  | stuck => exact c
/-- in an except suite: slot i holds the exception -/
structure Xs (Y : Cx) (G : Gm) (i : Nat) (e : Ec) : Prop where
  ex : ∃ (X : Cx) (a : Addr) (oe : Obj) (cls : Value) (d : Option Addr) (pn : List (Addr × Obj)), Y = X.suite a ((a, oe) :: pn) ∧ L2N.Zn cls d oe ∧ (∃ vs, oe.data = .fields vs) ∧ (i, a) ∈ G.pin ∧ ∃ p ∈ G.iv, ∀ S, p.φ S → Rx G S e cls d
theorem Xs.xc {Y : Cx} (E : Xs Y G i x) : Xc Y G i x := by
  obtain ⟨X, a, oe, cls, d, pn, rfl, h1, h2, h3, h4⟩ := E.ex
  exact ⟨a, oe, cls, d, List.mem_cons_self, rfl, h1, h2, h3, h4⟩
/-- what may be read of an exception -/
structure FldOk (G : Gm) (c : Nat) (fld : Str) : Prop where
  T : XfC G.K (G.ca c)
  no : PySem.W.findIn G.K (.ref (G.ca c)) fld = some none
theorem xf_ (C : Cs X G W N sc k m) (E : Xs X G i x) {n fld : Str} {p1 : Pos} {c : Nat} (F : FldOk G c fld) (h3 : chkV N sc n i = true := by kernel_rfl) (hb : attributeBase (.Name n p1) fld X.env (eval (.Name n p1) X.env) = eval (.Name n p1) X.env := by rfl) : SE X G W (.Attribute (.Name n p1) fld pos) (ffld c fld x) := by
  obtain ⟨X0, a, oe, cls, d, pn, rfl, hz, hf, hpin, q, hq, hx⟩ := E.ex
  obtain ⟨v1, v2, v3, v4⟩ := chkV_ok C h3
  have e1 : PE (X0.suite a ((a, oe) :: pn)) (.Name n p1) (tVar i) := pe_var v1 v2 v3 v4
  have hK : X0.K = G.K := C.hK
  refine PE.imp (pe_xf (X := X0) (C := G.ca c) (by rw [hK]; exact F.T) (by rw [hK]; exact F.no) hz.zc hf e1 hb) fun σ H Q h => ?_
  obtain ⟨S, sd, rfl, hh, rs, co⟩ := h
  have co : Cont G W σ S (if Nat.beq x.c c then (match x.fs.lookup fld with
    | some d => .ok d S.h
    | none => .stuck) else .stuck) Q := co
  cases zc : Nat.beq x.c c with
  | false => rw [zc] at co; exact co.elim
  | true =>
    rw [zc, if_pos rfl] at co
    cases zf : x.fs.lookup fld with
    | none => rw [zf] at co; exact co.elim
    | some dd =>
      rw [zf] at co
      exact xf_of (Nat.eq_of_beq_eq_true zc) (hx S (hh.iv q hq)) zf (rs.pin _ hpin) fun v rv => co.val rfl hh rv
/-- try: .. except X as e: a suite -/
theorem try_ (C : Ct X G W N sc k false) {y n : Str} {cv : Value} {ss suite : List Stmt} {b0 : Stmt} {np pos' : Pos} {t : Tk} {f : Fs} {su : Ec → Fs} (F : ClsOk G y cv t)
    (hb : ∀ (W' : WX) (pn : List (Addr × Obj)) (xe : Value → Shared → Prop), Ct (X.tr pn xe) G W' N sc k false → SSs (X.tr pn xe) G W' ss f)
    (hsu : ∀ (Y : Cx) (a : Addr) (iv : List Iv) (e : Ec), (∀ p ∈ G.iv, p ∈ iv) → Ct Y (G.wi ((i, a) :: G.pin) iv) W0 N sc k true → Xs Y (G.wi ((i, a) :: G.pin) iv) i e → SSs Y (G.wi ((i, a) :: G.pin) iv) W0 (b0 :: suite) (su e)) (h : chkE N sc n y i = true := by kernel_rfl) :
    SS X G W (.Try ss [.ExceptHandler (some (.Name y np)) (some n) (b0 :: suite) pos'] [] [] pos) (ftry' t i f su) := by
  obtain ⟨h1, n1, n2, n3, h3, h4⟩ := chkE_ok C.cs h
  have hn : n = ("e" : Str) := by
    unfold chkE at h
    simp only [Bool.and_eq_true] at h
    exact LawfulBEq.eq_of_beq h.1.2.2.2
  refine ss_try n3 C.cs.hK C.st C.fr (by rw [C.cs.hN]; exact C.cs.nd) n1 n2 ⟨(chkG_ok C.cs h1).1, (chkG_ok C.cs h1).2.1, .inl (by rw [C.cs.hmg]; exact F.mg)⟩ C.cs.tk F.tk (fun W' pn xe tk ps => hb W' pn xe (C.tr tk ps)) fun a oe cls d pn hz hd => ⟨fun pins s σ H D I q => ?_⟩
  obtain ⟨S, sd, e, rfl, hh, rs, rx, g1, g2, g3, c⟩ := q
  have hi : ∀ p ∈ ivX G e cls d :: G.iv, p.φ S := fun p hp => by
    rcases List.mem_cons.mp hp with z | z
    · subst z
      exact rx
    · exact hh.iv p z
  have hi0 : ∀ p ∈ G.iv, p.φ S := hh.iv
  obtain ⟨vs, hvs⟩ := hd
  have C2 : Ct (X.suite a ((a, oe) :: pn)) (G.wi ((i, a) :: G.pin) (ivX G e cls d :: G.iv)) W0 N sc k true := by
    refine ⟨⟨C.cs.hN, C.cs.nd, C.cs.hsc, C.cs.kind, C.cs.hP, C.cs.hw, C.cs.hK, C.cs.hmg, C.cs.hB, ⟨fun z => (nomatch z), fun _ => ⟨(a, oe), ⟨rfl, vs, hvs, hz.2.2 vs hvs⟩, List.mem_cons_self⟩⟩, fun u s' q => ?_, ⟨C.cs.rm.dp, C.cs.rm.un⟩, (fun z => nomatch z), fun j z h5 h6 p hp => ?_, fun z => nomatch z⟩, C.fn, ?_, C.st, C.fr⟩
    · obtain ⟨_, _, _, _, _, _, _, _, _, _, _, _, _, _, _, _, w⟩ := q
      exact w.elim
    · rcases List.mem_cons.mp hp with q | q
      · subst q
        rintro rfl
        have e1 : N[i]? = some n := by rw [← C.cs.hN]; exact n1
        rw [e1] at h5
        cases h5
        rw [hn] at h6
        revert h6
        unfold isPin
        simp
      · exact C.cs.np j z h5 h6 p q
    · exact PassesOwn.never
  exact (hsu _ a _ e (fun p hp => List.mem_cons_of_mem _ hp) C2 ⟨X, a, oe, cls, d, pn, rfl, hz, ⟨vs, hvs⟩, List.mem_cons_self, ivX G e cls d, List.mem_cons_self, fun S h => Rx.wi (G := G) (pin := G.pin) (iv := G.iv) h⟩).run pins s σ S.H D I
    ⟨S, sd, rfl, Rh.wi (G := G) (pin := G.pin) (iv := G.iv) hh hi, ⟨rs.len, fun j d h => let ⟨v, z1, z2⟩ := rs.at_ j d h; ⟨v, z1, Rv.wi (G := G) (pin := G.pin) (iv := G.iv) z2⟩, fun p hp => by
      rcases List.mem_cons.mp hp with q | q
      · subst q
        exact g1
      · exact rs.pin p q⟩, ContS.wi (G := G) (pin' := G.pin) (iv' := G.iv) (fun p hp => List.mem_cons_of_mem _ hp) hi0 c⟩
end

/-! text Ev16.lean -/
/-! Pf 16: a def that gets the handled exception -/
open PySem PySem.Spec L2 TL PyProof.Rows

structure GNm (G : Gm) (k : Nat) (x : Str) (i : Nat) (g : Ec → Hd → Res D) : Prop where
  run : ∀ (A : Around) (outer : List Env) (s : Shared) (S : Sta) (a : Addr) (oe : Obj) (cls : Value) (d : Option Addr) (e : Ec) (Q : VK) (E : XK), L2H.RoomH k A → A.handled = some (.ref a) → L2H.PinOk outer S.H s (a, oe) → Env0 G.P G.wd G.K G.mg G.base A outer s S.H →
    L2N.Zn cls d oe → (∃ vs, oe.data = .fields vs) → Rx G S e cls d → Rh G S → Cont G (fun cls dx _ H => E cls dx H) [] S (g e S.h) Q → codeAny (model G.P G.wd) A (.call (.ref (G.fa i)) ⟨[.ref a], []⟩) (CR (L2N.CX G.P G.wd) outer G.P G.wd S.H s Q E) s
  mg : G.mg x = some (.ref (G.fa i))
  kp : PySem.W.keepIn G.K (.ref (G.fa i)) = true
theorem GNm.wi {G : Gm} {k i : Nat} {x : Str} {g : Ec → Hd → Res D} {pin pin' : List (Nat × Addr)} {iv iv' : List Iv} (hs : ∀ p ∈ iv, p ∈ iv') (F : GNm (G.wi pin iv) k x i g) : GNm (G.wi pin' iv') k x i g :=
  ⟨fun A outer s S a oe cls d e Q E r h p e0 z hf rx hh c => F.run A outer s S a oe cls d e Q E r h p e0 z hf rx.wi (hh.less hs) (c.wi hh.iv), F.mg, F.kp⟩
/-- as data -/
def Df.runX (f : Ec → Df) (e : Ec) (h : Hd) : Res D := ((f e).body (slots (f e).nn []) h).fin
section
variable {X : Cx} {G : Gm} {W : WX} {N ps : List Str} {sc scope : Scope} {k kk i j : Nat} {m : Bool} {pos : Pos} {x : Ec}
/-- x(e) -/
theorem nm_ (C : Cs X G W N sc kk true) (E : Xc X G i x) {y n : Str} {p p1 : Pos} {g : Ec → Hd → Res D} (F : GNm G k y j g) (hk : k ≤ kk := by omega) (h1 : chkG sc y = true := by kernel_rfl) (h3 : chkV N sc n i = true := by kernel_rfl)
    (he : starEach [.Name n p1] X.env = (false, eval (.Name n p1) X.env) :: starEach [] X.env := by rfl) : SE X G W (.Call (.Name y p) [.Name n p1] [] pos) (fun _ h => g x h) := by
  obtain ⟨a, oe, cls, d, hp, hh0, hz, hf, hpin, q, hq, hx⟩ := E.ex
  obtain ⟨v1, v2, v3, v4⟩ := chkV_ok C h3
  obtain ⟨a1, a2, a3⟩ := chkG_ok C h1
  have hp1 : PE X (.Name n p1) (tVar i) := pe_var v1 v2 v3 v4
  refine ⟨fun pins s σ H Q I h => ?_⟩
  obtain ⟨S, sd, rfl, hh, rs, c⟩ := h
  refine wpAny_Call_Name_kw (ld_glob I a1 (by rw [C.hmg]; exact F.mg) ?_ a2)
  refine PySem.W.callWith_K (h₀ := X.base) (K := X.K) I.ok.mod.kin (by rw [C.hK]; exact F.kp) (thn ((pa_cons hp1 pa_nil he).run pos pins s σ S.H (fun vs H1 => vs = [V.ref a] ∧ H1 = S.H) I ⟨.ref a, rs.pin _ hpin, rfl, rfl⟩) fun us s1 hu => ?_) he (by rfl)
  obtain ⟨vs, H1, I1, r, e1, e2⟩ := hu
  subst e1 e2
  obtain ⟨u, rfl⟩ : ∃ u, us = [u] := by
    cases r with
    | cons r1 r2 => cases r2; exact ⟨_, rfl⟩
  obtain rfl : u = Value.ref a := by
    cases r with
    | cons r1 r2 => exact r1
  have P1 := I1.pin (a, oe) (List.mem_append_left _ hp)
  have hpo : L2H.PinOk X.stack S.H s1 (a, oe) := ⟨P1.1, P1.2.1, fun hm => (List.mem_cons.mp (I1.stkSub a hm)).elim P1.2.2.1 P1.2.2.2.1, P1.2.2.2.2⟩
  refine ⟨I1.kIn, wpAny_call (codeAny_mono (?_ : codeAny (model X.prog X.w) X.A (.call (.ref (G.fa j)) ⟨[.ref a], []⟩) (CR (L2N.CX X.prog X.w) X.stack X.prog X.w S.H s1 Q (WE W σ)) s1) fun r s2 hq => ?_)⟩
  · rw [C.hP, C.hw]
    have e0 := I1.env0
    rw [C.hP, C.hw, C.hK, C.hmg, C.hB] at e0
    exact F.run X.A X.stack s1 S a oe cls d x Q (WE W σ) (C.rm.mono hk) hh0 hpo e0 hz hf (hx S (hh.iv q hq)) hh (Cont.call c)
  · cases r with
    | error e => exact L2N.passAt C.tk σ pins S.H s1 e s2 I1 hq
    | ok fl =>
      cases fl with
      | ret u => exact I1.after hq
      | next => exact False.elim hq
      | brk => exact False.elim hq
      | cont => exact False.elim hq
/-- a hot def's run, its pin at hand -/
theorem run_ofHS {P : Program} {w : World} {K : PySem.W.Frag} {mg : Str → Option Value} {base : Heap} {f : Addr} {name qual : Str} {params : Arguments} {body : List Stmt} {dV kV doc pm cdv ct oc : Value} {an od : Option Addr}
    {osl : Array (Option Value)} (lk : K.lookup f = some ⟨oc, od, .func (PySem.W.fnOf name qual params body scope dV kV doc pm an cdv ct), osl⟩) (hcd : PySem.W.codeIn K cdv qual = true) (S : FnScope N ps scope)
    {A : Around} {outer : List Env} {s : Shared} {H : Hp} {args : Args} {us : List Value} {vs : List V} {Q : VK} {E : XK} {p : Addr × Obj} (hr : L2H.RoomH (k + 1) A) (hpin : L2H.PinOk outer H s p) (e0 : Env0 P w K mg base A outer s H)
    (hb : BindsTo s (PySem.W.fnOf name qual params body scope dV kV doc pm an cdv ct) args (ps.zip us)) (r : Vals vs us) (hl : vs.length = ps.length)
    (hbody : ∃ t, PSs (L2H.cxH (L2N.CX P w) P w K mg base N qual scope f cdv A outer s H E p) body t ∧ t { nx := fun _ H' => Q .non H', rt := Q } (L2.start N vs) H) :
    codeAny (model P w) A (.call (.ref f) args) (CR (L2N.CX P w) outer P w H s Q E) s := by
  have KX : K.In s.heap := e0.mod.kin.keeps fun b o e => (e0.bs b o e).1
  have lim : s.heap.NoLimit := e0.mod.nolimit.keeps fun b o e => (e0.bs b o e).1
  refine codeAny_call_function hr.depth (KX _ _ lk) rfl S.co S.gen rfl (PySem.W.codeRec_of KX hcd) (hb _ _ _ _ ?_)
  refine wpAny_newFunctionEnv_cells S.kind (fun y hy => ?_) fun env he s1 x => ?_
  · rcases S.par y.1 (List.of_mem_zip (a := y.1) (b := y.2) hy).1 with q | q
    · exact .inl q
    · exact .inr ⟨q, PySem.W.cellsFrom_some _ _ _ (.inl q)⟩
  · subst he
    refine ⟨lim.keeps x.toInCall.keep, codeAny_func ?_⟩
    obtain ⟨t, ht, hq⟩ := hbody
    have I : Inv (L2H.cxH (L2N.CX P w) P w K mg base N qual scope f cdv A outer s H E p) [] (L2.start N vs) H s1 := L2H.inv_startH S hpin e0 hl r x
    refine wpAny_mono (ht.run [] s1 (L2.start N vs) H _ I hq) (fun fl s' hs => ?_) fun e s' hs => hs
    cases fl with
    | ret u =>
      obtain ⟨v, σ', H', J, rv, q⟩ := hs
      exact ⟨v, H', J.os, J.bare, J.base, J.hok, rv, q⟩
    | next =>
      obtain ⟨σ', H', J, q⟩ := hs
      exact ⟨V.non, H', J.os, J.bare, J.base, J.hok, (rfl : Value.none = Value.none), q⟩
    | brk =>
      obtain ⟨_, _, _, q⟩ := hs
      exact False.elim q
    | cont =>
      obtain ⟨_, _, _, q⟩ := hs
      exact False.elim q
end
/-- THE RULE -/
theorem ndef_ok {G : Gm} {k i : Nat} {x y qual : Str} {params : Arguments} {body : List Stmt} {scope : Scope} {fd : FuncData} {N : List Str} {f : Ec → Df}
    (F : FunD G.K x qual params body scope [] [] (G.fa i) fd) (hm : G.mg y = some (.ref (G.fa i))) (bi : Binds G.K fd ["e"] []) (hS : FnScope N ["e"] scope) (hN : ∀ e, (f e).nn = N.length)
    (hb : ∀ (X : Cx) (W : WX) (a : Addr) (iv : List Iv) (e : Ec), (∀ p ∈ G.iv, p ∈ iv) → Ct X (G.wi [(0, a)] iv) W N scope k true → Xc X (G.wi [(0, a)] iv) 0 e → SSs X (G.wi [(0, a)] iv) W body (f e).body) : GNm G (k + 1) y i (Df.runX f) := by
  refine ⟨fun A outer s S a oe cls d e Q E hr hh0 hpo e0 hz hf rx hh c => ?_, hm, F.kp⟩
  obtain ⟨oc, od, dV, kV, doc, pm, an, cdv, ct, osl, rfl, lk, hcd, _, _⟩ := F.ex
  have KX : G.K.In s.heap := e0.mod.kin.keeps fun b o e => (e0.bs b o e).1
  have bt := bi s [.ref a] KX rfl
  rw [List.append_nil] at bt
  have hlN : N[0]? = some ("e" : Str) := by
    have := hS.pre
    cases N with
    | nil => cases this
    | cons z zs =>
      have : [z] = [("e" : Str)] := by simpa using this
      cases this
      rfl
  obtain ⟨vs0, hv0⟩ := hf
  have hi : ∀ p ∈ ivX G e cls d :: G.iv, p.φ S := fun p hp => by
    rcases List.mem_cons.mp hp with z | z
    · subst z
      exact rx
    · exact hh.iv p z
  have hi0 : ∀ p ∈ G.iv, p.φ S := hh.iv
  refine run_ofHS (p := (a, oe)) (N := N) (ps := ["e"]) (vs := [.ref a]) lk hcd hS hr hpo e0 bt (.cons rfl .nil) rfl ⟨tS (G.wi [(0, a)] (ivX G e cls d :: G.iv)) (fun cls dx _ H => E cls dx H) (f e).body, hb _ _ a _ e (fun p hp => List.mem_cons_of_mem _ hp) ?_ ?_, ?_⟩
  · have hr' := hr.deeper (envOfC qual scope s.heap.objs.size (G.fa i) cdv)
    refine ⟨⟨rfl, hS.nd, rfl, hS.kind, rfl, rfl, rfl, rfl, rfl, ⟨fun z => (nomatch z), fun _ => ⟨(a, oe), ⟨hh0, vs0, hv0, hz.2.2 vs0 hv0⟩, List.mem_cons_self⟩⟩, L2N.takes_of rfl rfl rfl rfl, hr', (fun z => nomatch z), fun j z h5 h6 p hp => ?_, fun z => nomatch z⟩, fun _ => rfl, passes_of rfl, rfl, rfl⟩
    rw [List.mem_singleton.mp hp]
    rintro rfl
    have h5 : N[0]? = some z := h5
    rw [hlN] at h5
    cases h5
    revert h6
    unfold isPin
    simp
  · exact ⟨a, oe, cls, d, List.mem_cons_self, hh0, hz, ⟨vs0, hv0⟩, List.mem_singleton.mpr rfl, ivX G e cls d, List.mem_cons_self, fun S h => Rx.wi (G := G) (pin := G.pin) (iv := G.iv) h⟩
  · have rs := slots_pin (G := G) (iv := G.iv) (iv' := ivX G e cls d :: G.iv) (f := a) (ds := []) (vs := []) (S := S) N .nil (List.getElem?_eq_some_iff.mp hlN).1
    refine ⟨S, slots (f e).nn [], rfl, Rh.wi (G := G) (pin := G.pin) (iv := G.iv) hh hi, by rw [hN]; exact rs, ?_⟩
    exact fin_of (Cont.wi (G := G) (pin' := G.pin) (iv' := G.iv) hi0 c)

/-! ### more is known, other slots are held -/
section
variable {G : Gm} {pin : List (Nat × Addr)} {iv : List Iv} {k kr i : Nat} {x : Str}
theorem Defs.up {nms : List (Nat × Str)} {c : Nat → CF} (F : Defs G k nms c) (hs : ∀ p ∈ G.iv, p ∈ iv) : Defs (G.wi pin iv) k nms c := Defs.wi (G := G) (pin := G.pin) (iv := G.iv) hs F
theorem GHo.up {gH : CF → CF} (F : GHo G k kr x i gH) (hs : ∀ p ∈ G.iv, p ∈ iv) : GHo (G.wi pin iv) k kr x i gH := GHo.wi (G := G) (pin := G.pin) (iv := G.iv) hs F
theorem GNm.up {g : Ec → Hd → Res D} (F : GNm G k x i g) (hs : ∀ p ∈ G.iv, p ∈ iv) : GNm (G.wi pin iv) k x i g := GNm.wi (G := G) (pin := G.pin) (iv := G.iv) hs F
theorem ConOk.up {d : D} (F : ConOk G x d) : ConOk (G.wi pin iv) x d := let ⟨u, v, h1, h2, h3⟩ := F.ex; ⟨u, v, h1, h2, fun S => Rv.wi (G := G) (pin := G.pin) (iv := G.iv) (h3 S)⟩
theorem ErrOk.up {c : Nat} (F : ErrOk G x c) : ErrOk (G.wi pin iv) x c := ⟨F.q, F.mg, F.kp, F.sb, F.ty⟩
theorem GIni.up {c : Nat} {f : Str} (F : GIni G k x c f) : GIni (G.wi pin iv) k x c f := ⟨F.T, F.ex, F.mg⟩
theorem ClsOk.up {c : Value} {t : Tk} (F : ClsOk G x c t) : ClsOk (G.wi pin iv) x c t := ⟨F.mg, F.tk⟩
theorem KOk.up {t : Tk} (F : KOk G x t) : KOk (G.wi pin iv) x t := ⟨F.ex⟩
theorem FldOk.up {c : Nat} {f : Str} (F : FldOk G c f) : FldOk (G.wi pin iv) c f := ⟨F.T, F.no⟩
end
theorem stuck_run {ds : List D} {h : Hd} : (⟨0, 0, fun _ _ => .stuck⟩ : Df).run ds h = .stuck := by
  unfold Df.run
  cases Nat.beq ds.length _ <;> rfl
/-- where a def's table of code objects lies -/
structure Lk (G : Gm) (i : Nat) (qual : Str) : Prop where
  ex : ∃ p : He.Defn, He.fAd G.K p = G.fa i ∧ LamX.TabB G.base G.mg (He.cT G.K p).1 (He.cT G.K p).2 ∧ ((He.cT G.K p).2, (qual ++ ".<locals>.") ++ "<lambda>") ∈ G.tb ∧ ∀ q ∈ G.tb, q.1 = (He.cT G.K p).2 → q.2 = (qual ++ ".<locals>.") ++ "<lambda>"
/-- a def that makes lambdas -/
theorem def_fnL {G : Gm} {k i : Nat} {x qual : Str} {params : Arguments} {body : List Stmt} {scope : Scope} {fd : FuncData} {N ps : List Str} {f : Df} (hp : G.pin = []) (T : Lk G i qual)
    (F : FunD G.K x qual params body scope [] [] (G.fa i) fd) (hS : FnScope N ps scope) (hn : f.np = ps.length) (hN : f.nn = N.length)
    (hb : ∀ (X : Cx) (W : WX), Ct X G W N scope k false → Lt X G → SSs X G W body f.body) : FnOk G.P G.wd G.K G.mg G.base (L2N.CX G.P G.wd) (k + 1) (G.fa i) fd ps (spD G f.run) := by
  obtain ⟨p, hfa, hTB, hmem, hu⟩ := T.ex
  obtain ⟨oc, od, dV, kV, doc, pm, an, cdv, ct, osl, rfl, lk, hcd, _, _⟩ := F.ex
  obtain ⟨cc, ecc⟩ := He.codeIn_ref hcd
  subst ecc
  have ec : He.codeOf G.K p = cc := He.codeOf_eq (by rw [hfa]; exact lk) rfl
  refine fn_of lk hcd hS (fun vs H Q E h => ?_) fun A outer s H vs Q E hr h => ?_
  · obtain ⟨S, ds, e, hh, rl, c⟩ := h
    unfold Df.run at c
    split at c
    · rename_i z
      rw [← rl.length, Nat.eq_of_beq_eq_true z, hn]
    · exact c.elim
  · obtain ⟨S, ds, e, hh, rl, c⟩ := h
    refine ⟨tS G (fun cls dx _ H => E cls dx H) f.body, hb _ _ ?_ ⟨(He.cT G.K p).1, (He.cT G.K p).2, hTB, ?_, hmem, hu⟩, ?_⟩
    · exact ⟨⟨rfl, hS.nd, rfl, hS.kind, rfl, rfl, rfl, rfl, rfl, ⟨fun _ => rfl, fun z => (nomatch z)⟩, L2N.takes_of rfl rfl rfl rfl, ⟨hr.dp, hr.un⟩, fun _ => hr.hd, (fun _ _ _ _ p hz => by rw [hp] at hz; cases hz), fun _ _ _ p hz => by rw [hp] at hz; cases hz⟩, fun _ => rfl, passes_of rfl, rfl, rfl⟩
    · show Value.ref cc = Value.ref (He.codeOf G.K p)
      rw [ec]
    · refine ⟨S, slots f.nn ds, e, hh, by rw [hN]; exact rl.slots hp N, ?_⟩
      unfold Df.run at c
      split at c
      · exact fin_of c
      · exact c.elim
theorem def_okL {G : Gm} {k i : Nat} {x y qual : Str} {params : Arguments} {body : List Stmt} {scope : Scope} {fd : FuncData} {N ps : List Str} {f : Df} {c : List D → Hd → Res D} (hp : G.pin = []) (T : Lk G i qual)
    (F : FunD G.K x qual params body scope [] [] (G.fa i) fd) (hm : G.mg y = some (.ref (G.fa i))) (bi : Binds G.K fd ps []) (hS : FnScope N ps scope) (hn : f.np = ps.length) (hN : f.nn = N.length) (hc : c = f.run)
    (hb : ∀ (X : Cx) (W : WX), Ct X G W N scope k false → Lt X G → SSs X G W body f.body) : GDef G (k + 1) y i c := by
  subst hc
  exact ⟨⟨fd, ps, def_fnL hp T F hS hn hN hb, bi⟩, hm, F.kp⟩
/-- the rooms by fuel -/
def rm : Nat → Nat
  | 0 => 2
  | k + 1 => rm k + 4

/-! text Ev11.lean -/
/-! Pf 11: the head -/
open PySem L2 TL PyProof.Rows

/-! ### what the head's facts give -/
def dvOf : D → Option He.Dv
  | .non => some .non
  | .bl b => some (.bl b)
  | .int i => some (.int i)
  | .str x => some (.str x)
  | _ => none
def dvsOf : List D → Option (List He.Dv)
  | [] => some []
  | d :: ds => match dvOf d, dvsOf ds with
    | some v, some vs => some (v :: vs)
    | _, _ => none
theorem dvOf_rv {G : Gm} {S : Sta} {d : D} {v : He.Dv} (e : dvOf d = some v) : Rv G S d (v.v G.K) := by
  cases d <;> first | (cases e; constructor) | cases e
theorem dvsOf_rl {G : Gm} {S : Sta} : ∀ {ds : List D} {vs : List He.Dv}, dvsOf ds = some vs → Rl G S ds (vs.map (He.Dv.v G.K))
  | [], _, e => by cases e; exact .nil
  | d :: ds, vs, e => by
    unfold dvsOf at e
    cases q : dvOf d with
    | none => rw [q] at e; cases e
    | some v =>
      cases q2 : dvsOf ds with
      | none => rw [q, q2] at e; cases e
      | some us =>
        rw [q, q2] at e
        cases e
        exact .cons (dvOf_rv q) (dvsOf_rl q2)
theorem con_tup {G : Gm} {x : Str} {ds : List D} {vs : List He.Dv} (hm : G.mg x = some (.ref (He.ga G.K x))) (h : He.tupB G.K x vs = true) (e : dvsOf ds = some vs) : ConOk G x (.tup ds) := by
  refine ⟨_, .ref (He.ga G.K x), hm, rfl, fun S => .tup (xs := vs.map (He.Dv.v G.K)) (.inr ?_) (dvsOf_rl e)⟩
  have q := He.tupB_ok h (fun _ => none)
  rcases q with q | q
  · rcases q with q | ⟨o, q⟩ <;> cases q
  · exact q
theorem con_int {G : Gm} {x : Str} {i : Int} (h : ∃ t, G.mg x = some (.int i t)) : ConOk G x (.int i) := by
  obtain ⟨t, e⟩ := h
  exact ⟨_, .int i, e, ⟨t, rfl⟩, fun S => .int i⟩
def isOexObj (C : Addr) : Obj → Bool
  | ⟨.type c, _, .cls cd, sl⟩ => c == "type" && (match cd.mro, sl.toList with
    | .ref C' :: bm, [_, _, _, _, some (.builtin n), _] => C' == C && (n == "ValueError.__new__" && (!cd.hasDel && (cd.hasDict && PySem.HandSPX.refsVE bm)))
    | _, _ => false)
  | _ => false
def oexB (K : PySem.W.Frag) (C : Addr) : Bool := (match K.lookup C with
    | some o => isOexObj C o
    | none => false) && (decide (PySem.W.findIn K (.ref C) "__setattr__" = some (some (.builtin "object.__setattr__"))) && (decide (PySem.W.subIn K (.ref C) (.type "BaseException") = some true) && (decide (PySem.W.typeIn K (.ref C) = some (.type "type")) && PySem.W.keepIn K (.ref C))))
theorem isOex_ok {C : Addr} {o : Obj} (h : isOexObj C o = true) : ∃ nm q N bs bm sn sub ab col dd k0 k1 k2 k3 k5, o = excClassObj nm q C N bs bm true sn sub ab col dd k0 k1 k2 k3 k5 "ValueError.__new__" ∧ PySem.HandSPX.refsVE bm = true := by
  unfold isOexObj at h
  split at h
  · rename_i c dd cd sl
    simp only [Bool.and_eq_true, beq_iff_eq] at h
    obtain ⟨rfl, h⟩ := h
    split at h
    · rename_i C' bm k0 k1 k2 k3 n k5 hm hs
      simp only [Bool.and_eq_true, beq_iff_eq, Bool.not_eq_true'] at h
      obtain ⟨rfl, rfl, hdel, hdct, hr⟩ := h
      obtain ⟨nm, bs, mro, ns, qn, hd, sn, sub, ab, col, del⟩ := cd
      dsimp only at hm hdel hdct
      subst hm hdel hdct
      obtain ⟨l⟩ := sl
      dsimp only at hs
      subst hs
      exact ⟨nm, qn, ns, bs, bm, sn, sub, ab, col, dd, k0, k1, k2, k3, k5, rfl, hr⟩
    · cases h
  · cases h
theorem oexB_ok {K : PySem.W.Frag} {C : Addr} (h : oexB K C = true) : OexC K C := by
  unfold oexB at h
  simp only [Bool.and_eq_true, decide_eq_true_eq] at h
  obtain ⟨h1, h2, h3, h4, h5⟩ := h
  refine ⟨?_, h2, h3, h4, h5⟩
  cases q : K.lookup C with
  | none => rw [q] at h1; cases h1
  | some o =>
    rw [q] at h1
    obtain ⟨nm, qn, ns, bs, bm, sn, sub, ab, col, dd, k0, k1, k2, k3, k5, e, hr⟩ := isOex_ok h1
    exact ⟨nm, qn, ns, bs, bm, sn, sub, ab, col, dd, k0, k1, k2, k3, k5, by rw [e], hr⟩
def veB (K : PySem.W.Frag) (C : Addr) : Bool := PySem.W.readsIn K C (.type "type") && (decide (PySem.W.specialIn K (.ref C) "__getattribute__" = some (some (.builtin "type.__getattribute__"))) &&
  (match PySem.W.findCls K (.ref C) (.type "type") "__init__" with
    | some (.val (.builtin n)) => n == "ValueError.__init__"
    | _ => false))
theorem veB_ok {K : PySem.W.Frag} {C : Addr} (h : veB K C = true) : VeB K C := by
  unfold veB at h
  simp only [Bool.and_eq_true, decide_eq_true_eq] at h
  obtain ⟨h1, h2, h3⟩ := h
  refine ⟨h1, h2, ?_⟩
  split at h3
  · rename_i n q
    rw [q, beq_iff_eq.mp h3]
  · cases h3
/-! ### the Hook: the module's things and the statics -/
def reach (g : Addr → Option Obj) (n : Nat) : PySem.W.Frag := He.frT g (cStatics :: He.asD g n)
structure Says (fa : List He.Fa) (fn : List He.DefD) (tf : List He.Defn) (ex : PySem.W.Frag → Bool) (h : Heap) (K : PySem.W.Frag) : Prop where
  d : He.SaysD fa fn K
  more : ex K = true
  tab : ∀ p ∈ tf, PySem.W.codeHdIn K (He.cT K p).1 (He.cT K p).2 = true ∧ K.lookup (He.cT K p).2 = none ∧ h.get? (He.cT K p).2 = some { cls := .none, data := .fields #[] }
abbrev AlC : Type := He.AlD × Bool
def obsC (n : Nat) (fa : List He.Fa) (fn : List He.DefD) (tf : List He.Defn) (ex : PySem.W.Frag → Bool) (g : Addr → Option Obj) : AlC := (He.obsD fa fn (reach g n), ex (reach g n) && He.tabsB g tf (reach g n))
theorem says_of {n : Nat} {fa : List He.Fa} {fn : List He.DefD} {tf : List He.Defn} {ex : PySem.W.Frag → Bool} {h : Heap} (e : obsC n fa fn tf ex h.get? = (He.valD fn, true)) : Says fa fn tf ex h (reach h.get? n) := by
  have e1 : He.obsD fa fn (reach h.get? n) = He.valD fn := congrArg Prod.fst e
  have e2 : (ex (reach h.get? n) && He.tabsB h.get? tf (reach h.get? n)) = true := congrArg Prod.snd e
  rw [Bool.and_eq_true] at e2
  refine ⟨e1, e2.1, fun p hp => ?_⟩
  have q := List.all_eq_true.mp e2.2 p hp
  rw [Bool.and_eq_true] at q
  obtain ⟨q1, q2⟩ := q
  cases z : h.get? (He.cT (reach h.get? n) p).2 with
  | none => rw [z] at q2; cases q2
  | some o =>
    rw [z] at q2
    exact ⟨q1, He.frT_none z q2, by rw [He.emptyTab_eq q2]⟩
def hookC (n : Nat) (fa : List He.Fa) (fn : List He.DefD) (tf : List He.Defn) (ex : PySem.W.Frag → Bool) : PySem.W.Hook where
  α := AlC
  obs := fun s => obsC n fa fn tf ex s.heap.get?
  val := fun _ => (He.valD fn, true)
  says := fun _ h => ∃ K : PySem.W.Frag, K.In h ∧ Says fa fn tf ex h K
  of := fun _ _ e => ⟨_, He.frT_in, says_of e⟩
  keeps := fun _ _ _ ⟨K, hK, c⟩ k => ⟨K, PySem.W.Frag.In.keeps hK k, c.d, c.more, fun p hp => ⟨(c.tab p hp).1, (c.tab p hp).2.1, k _ _ (c.tab p hp).2.2⟩⟩
theorem obsC_eq {n : Nat} {fa : List He.Fa} {fn : List He.DefD} {tf : List He.Defn} {ex : PySem.W.Frag → Bool} {g : Addr → Option Obj} {s : Shared} (h : ∀ a, g a = s.heap.get? a) : obsC n fa fn tf ex g = (hookC n fa fn tf ex).obs s := by
  have e : g = s.heap.get? := funext h
  rw [e]
  rfl
/-- a def's name in full -/
def qn (p : He.Defn) : Str := match p.2 with
  | none => p.1
  | some m => p.1 ++ "." ++ m
/-- the tables of code objects -/
def tbOf (K : PySem.W.Frag) (tf : List He.Defn) : List (Addr × Str) := tf.map fun p => ((He.cT K p).2, (qn p ++ ".<locals>.") ++ "<lambda>")
/-- no table twice -/
def tfB (K : PySem.W.Frag) (tf : List He.Defn) : Bool := decide (tf.map fun p => (He.cT K p).2).Nodup
theorem tb_mem {K : PySem.W.Frag} {tf : List He.Defn} {p : He.Defn} (h : p ∈ tf) : ((He.cT K p).2, (qn p ++ ".<locals>.") ++ "<lambda>") ∈ tbOf K tf := List.mem_map.mpr ⟨p, h, rfl⟩
theorem tb_uni {K : PySem.W.Frag} {tf : List He.Defn} (hn : tfB K tf = true) {p : He.Defn} (h : p ∈ tf) : ∀ q ∈ tbOf K tf, q.1 = (He.cT K p).2 → q.2 = (qn p ++ ".<locals>.") ++ "<lambda>" := fun q hq e => by
  obtain ⟨p', hp', rfl⟩ := List.mem_map.mp hq
  have hn := of_decide_eq_true hn
  obtain ⟨i, hi⟩ := List.getElem?_of_mem h
  obtain ⟨j, hj⟩ := List.getElem?_of_mem hp'
  have e1 : (tf.map fun p => (He.cT K p).2)[i]? = some (He.cT K p).2 := by rw [List.getElem?_map, hi]; rfl
  have e2 : (tf.map fun p => (He.cT K p).2)[j]? = some (He.cT K p).2 := by rw [List.getElem?_map, hj, ← e]; rfl
  have := nodup_at hn e1 e2
  subst this
  rw [hi] at hj
  cases hj
  rfl
/-- the module, as data -/
abbrev gm (P : Program) (w : World) (K : PySem.W.Frag) (mg : Str → Option Value) (base : Heap) (fs cs : Nat → Str) (tf : List He.Defn) : Gm := ⟨P, w, K, mg, base, fun i => He.ga K (fs i), fun j => He.ga K (cs j), [], [], tbOf K tf⟩
/-- the law's def does so: the law holds -/
theorem law_at {l : PySem.W.OpenLaw} {w : World} {K : PySem.W.Frag} {k i : Nat} {mg : Str → Option Value} {fa : Addr} {h : Heap} {fs cs : Nat → Str} {c : List D → Hd → Res D} {fd : FuncData} {x : Str} {Fa : List He.Fa} {Fn : List He.DefD} {tf : List He.Defn} {ex : PySem.W.Frag → Bool}
    (X : K.In h) (Sy : Says Fa Fn tf ex h K) (hfa : fa = He.ga K (fs i)) (hb : ∀ (s : Shared) (u : Value), BindsTo s fd ⟨[u], []⟩ [(x, u)])
    (F : ∀ base : Heap, K.In base → base.Ns mainGlobals mg → (∀ p ∈ tf, LamX.TabB base mg (He.cT K p).1 (He.cT K p).2) → FnOk l.prog w K mg base (L2N.CX l.prog w) k fa fd [x] (spD (gm l.prog w K mg base fs cs tf) c))
    (hc : ∀ ns : List Int, ns.length ≤ 63 → (∀ z ∈ ns, Builtin.Int.intBits z ≤ 1048576) → ∃ h, c [.scr (ns.map .int)] [] = .ok (.bl true) h) :
    LamX.LawAtS l w K (L2N.CX l.prog w) k 63 x mg fa h := by
  have all : ∀ {P : Addr × Addr → Prop}, (∀ p ∈ tf, P (He.cT K p)) → ∀ q ∈ tf.map (He.cT K), P q := fun h q hq => by
    obtain ⟨p, hp, rfl⟩ := List.mem_map.mp hq
    exact h p hp
  refine ⟨fd, tf.map (He.cT K), fun vs H Q E => ∀ base, spD (gm l.prog w K mg base fs cs tf) c vs H Q E, all (P := fun q => h.get? q.2 = some { cls := .none, data := .fields #[] }) fun p hp => (Sy.tab p hp).2.2, all (P := fun q => K.lookup q.2 = none) fun p hp => (Sy.tab p hp).2.1, all (P := fun q => PySem.W.CodeHd h q.1 q.2) fun p hp => PySem.W.codeHd_of_K X (Sy.tab p hp).1, hb, fun H a ns hl hbits hT hS base => ?_,
    fun base hK hN hTB => (F base hK hN fun p hp => hTB _ (List.mem_map.mpr ⟨p, hp, rfl⟩)).imp fun vs H Q E q => q base⟩
  obtain ⟨h', e⟩ := hc ns hl hbits
  have hh : Rh (gm l.prog w K mg base fs cs tf) ⟨[], [], H, []⟩ := ⟨rfl, List.nodup_nil, (fun i ob a z => by simp at z), (fun a z => nomatch z), (fun p z => nomatch z), fun q hq => by
    obtain ⟨p, hp, rfl⟩ := List.mem_map.mp hq
    exact LamX.TabS.nil (hT _ (List.mem_map.mpr ⟨p, hp, rfl⟩))⟩
  have nl : ∀ a, ¬ Live ⟨[], [], H, []⟩ a := fun a z => by
    rcases z with ⟨i, ob, z, _⟩ | z
    · simp at z
    · cases z
  have rl : ∀ ns : List Int, Rl (gm l.prog w K mg base fs cs tf) ⟨[], [], H, []⟩ (ns.map .int) (ns.map V.int) := fun ns => by
    induction ns with
    | nil => exact .nil
    | cons n ns ih => exact .cons (.int n) ih
  refine ⟨⟨[], [], H, []⟩, [.scr (ns.map .int)], rfl, hh, .cons (.scr ?_ (rl ns)) .nil, ?_⟩
  · rcases hS with hS | hS
    · rcases hS with hS | ⟨o, hS⟩
      · exact .inl ⟨_, .inl rfl, nl a, hS⟩
      · exact .inl ⟨_, .inr ⟨o, rfl⟩, nl a, hS⟩
    · exact .inr hS
  · rw [e]
    exact fun S' v t e2 hh2 rv => rv.bl_inv
/-- what a class of errors says, for isinstance -/
def excB (K : PySem.W.Frag) (D : Addr) : Bool := decide (PySem.W.findIn K (.ref D) "__getattribute__" = some (some (.builtin "BaseException.__getattribute__"))) && (decide (PySem.W.findIn K (.ref D) "__getattr__" = some none) && (decide (PySem.W.subIn K (.ref D) (.type "BaseException") = some true) && (PySem.W.hasDictIn K D &&
  (decide (PySem.W.findIn K (.ref D) "__class__" = some (some (.builtin "object.__class__"))) && (decide (PySem.W.specialIn K (.builtin "object.__class__") "__get__" = some (some (.builtin "getset_descriptor.__get__"))) && (decide (PySem.W.takesIn K (.builtin "object.__class__") = some true) && decide (PySem.W.mroIn K D (.type "object") = some true)))))))
theorem excB_ok {K : PySem.W.Frag} {D : Addr} (h : excB K D = true) : ExcC K D := by
  unfold excB at h
  simp only [Bool.and_eq_true, decide_eq_true_eq] at h
  obtain ⟨h1, h2, h3, h4, h5, h6, h7, h8⟩ := h
  exact ⟨h1, h2, h3, h4, h5, h6, h7, h8⟩
/-- isinstance's answers for an own class y, told by a table of the classes' numbers -/
def kokB (K : PySem.W.Frag) (cs : Nat → Str) (y : Value) (l : List (Nat × Bool)) : Bool := l.all fun p => decide (PySem.W.kitOne K (.ref (He.ga K (cs p.1))) y = some p.2) && excB K (He.ga K (cs p.1))
def tkOf (l : List (Nat × Bool)) : Tk := fun j => l.lookup j
theorem kok_ok {K : PySem.W.Frag} {cs : Nat → Str} {y : Value} {l : List (Nat × Bool)} (h : kokB K cs y l = true) : ∀ j b, tkOf l j = some b → PySem.W.kitOne K (.ref (He.ga K (cs j))) y = some b ∧ ExcC K (He.ga K (cs j)) := fun j b e => by
  have hm : (j, b) ∈ l := by
    unfold tkOf at e
    induction l with
    | nil => cases e
    | cons p l ih =>
      obtain ⟨a, b'⟩ := p
      rw [List.lookup_cons] at e
      cases z : j == a with
      | true =>
        rw [z] at e
        cases e
        rw [LawfulBEq.eq_of_beq z]
        exact List.mem_cons_self
      | false =>
        rw [z] at e
        unfold kokB at h
        rw [List.all_cons, Bool.and_eq_true] at h
        exact List.mem_cons_of_mem _ (ih h.2 e)
  have := List.all_eq_true.mp h _ hm
  simp only [Bool.and_eq_true, decide_eq_true_eq] at this
  exact ⟨this.1, excB_ok this.2⟩
theorem cx_no {P : Program} (w : World) (H : Hp) (s : Shared) (e : Value) (s' : Shared) (h : L2N.CX P w [] H s (fun _ _ _ => False) e s') : False := by
  obtain ⟨_, _, _, _, _, _, _, _, _, _, _, _, z⟩ := h
  exact z

/-! text Com.lean -/
set_option maxHeartbeats 0
open PySem L2 TL PyProof.Rows
def tk_InvalidText : Tk
  | 0 => some false
  | 1 => none
  | 2 => none
  | 3 => none
  | 4 => none
  | 5 => none
  | 6 => none
  | 7 => none
  | 8 => none
  | 9 => none
  | 10 => none
  | 11 => none
  | 12 => none
  | 13 => none
  | 14 => some true
  | _ => none
def tk_Undecided : Tk
  | 0 => some false
  | 1 => some false
  | 2 => none
  | 3 => some false
  | 4 => none
  | 5 => none
  | 6 => none
  | 7 => none
  | 8 => none
  | 9 => none
  | 10 => none
  | 11 => none
  | 12 => none
  | 13 => none
  | 14 => none
  | 15 => some true
  | _ => none
def tk_WhenError : Tk
  | 0 => some true
  | 1 => some true
  | 2 => some true
  | 3 => some true
  | 4 => some true
  | 5 => some true
  | 6 => some true
  | 7 => some true
  | 8 => some true
  | 9 => some true
  | 10 => some true
  | 11 => some true
  | 12 => some true
  | 13 => some true
  | 14 => some true
  | _ => none
def kt_Impossible : List (Nat × Bool) := [(0, false), (1, false), (2, false), (3, false), (4, false), (5, false), (6, false), (7, false), (8, false), (9, false), (10, false), (11, true), (12, false)]
def kt_InvalidFact : List (Nat × Bool) := [(0, false), (1, false), (2, false), (3, false), (4, true), (5, false), (6, false), (7, false), (8, false), (9, false), (10, false), (11, false), (12, false)]
def kt_InvalidFacts : List (Nat × Bool) := [(0, false), (1, false), (2, false), (3, true), (4, false), (5, false), (6, false), (7, false), (8, false), (9, false), (10, false), (11, false), (12, false)]
def kt_InvalidIndex : List (Nat × Bool) := [(0, false), (1, false), (2, false), (3, false), (4, false), (5, false), (6, false), (7, false), (8, false), (9, false), (10, true), (11, false), (12, false)]
def kt_InvalidMoments : List (Nat × Bool) := [(0, false), (1, false), (2, false), (3, false), (4, false), (5, true), (6, false), (7, false), (8, false), (9, false), (10, false), (11, false), (12, false)]
def kt_InvalidNumber : List (Nat × Bool) := [(0, false), (1, false), (2, false), (3, false), (4, false), (5, false), (6, false), (7, true), (8, false), (9, false), (10, false), (11, false), (12, false)]
def kt_InvalidScript : List (Nat × Bool) := [(0, false), (1, true), (2, false), (3, false), (4, false), (5, false), (6, false), (7, false), (8, false), (9, false), (10, false), (11, false), (12, false)]
def kt_InvalidSeen : List (Nat × Bool) := [(0, false), (1, false), (2, false), (3, false), (4, false), (5, false), (6, false), (7, false), (8, true), (9, false), (10, false), (11, false), (12, false)]
def kt_InvalidSpan : List (Nat × Bool) := [(0, false), (1, false), (2, false), (3, false), (4, false), (5, false), (6, false), (7, false), (8, false), (9, true), (10, false), (11, false), (12, false)]
def kt_InvalidStep : List (Nat × Bool) := [(0, false), (1, false), (2, true), (3, false), (4, false), (5, false), (6, false), (7, false), (8, false), (9, false), (10, false), (11, false), (12, false)]
def kt_InvalidTerm : List (Nat × Bool) := [(0, false), (1, false), (2, false), (3, false), (4, false), (5, false), (6, true), (7, false), (8, false), (9, false), (10, false), (11, false), (12, false)]
def kt_InvalidText : List (Nat × Bool) := [(0, false), (1, false), (2, false), (3, false), (4, false), (5, false), (6, false), (7, false), (8, false), (9, false), (10, false), (11, false), (12, false)]
def kt_NothingToUndo : List (Nat × Bool) := [(0, false), (1, false), (2, false), (3, false), (4, false), (5, false), (6, false), (7, false), (8, false), (9, false), (10, false), (11, false), (12, true)]
def kt_TooMany : List (Nat × Bool) := [(0, false), (1, false), (2, false), (3, false), (4, false), (5, false), (6, false), (7, false), (8, false), (9, false), (10, false), (11, false), (12, false)]
def kt_ValueError : List (Nat × Bool) := [(0, true), (1, true), (2, true), (3, true), (4, true), (5, true), (6, true), (7, true), (8, true), (9, true), (10, true), (11, true), (12, true)]
/-- _law_names -/
def b__law_names (c : CT) (e : Ec) : Fs := (fseq (fset 1 (flst (fcons (fisE (tkOf kt_InvalidScript) e) (fcons (fisE (tkOf kt_InvalidStep) e) (fcons (fisE (tkOf kt_InvalidFacts) e) (fcons (fisE (tkOf kt_InvalidFact) e) (fcons (fisE (tkOf kt_InvalidMoments) e) (fcons (fisE (tkOf kt_InvalidTerm) e) (fcons (fisE (tkOf kt_InvalidNumber) e) (fcons (fisE (tkOf kt_InvalidSeen) e) (fcons (fisE (tkOf kt_InvalidSpan) e) (fcons (fisE (tkOf kt_InvalidIndex) e) (fcons (fisE (tkOf kt_Impossible) e) (fcons (fisE (tkOf kt_NothingToUndo) e) (fcons (fisE (tkOf kt_TooMany) e) (fcons (fisE (tkOf kt_InvalidText) e) (fcons (fisE (tkOf kt_ValueError) e) fnil)))))))))))))))))
  (fseq (fset 2 (fcon (.str "script step facts fact moments term number seen span index impossible undo many text value")))
  (fret (fm1 gjoin (fcon (.str " ")) (fcomp (.all [3, 4]) (fiA (gi2 giZipL) (fcons (fm1 gsplit (fvar 2) (fcon (.str " "))) (fcons (fvar 1) fnil))) (some (fvar 4)) (fvar 3) [3, 4])))))
def x__law_names (c : CT) : Ec → Hd → Res D := Df.runX fun e => ⟨1, 5, b__law_names c e⟩
/-- _law_error -/
def b__law_error (c : CT) (g : CF) : Fs := (fseq (ftry' tk_WhenError 1 (fdrop (fargs g fnil)) (fun e => (fret (fun _ h => x__law_names c e h))))
  (fret (fcon (.str ""))))
def h__law_error (c : CT) (g : CF) : CF := (⟨1, 2, b__law_error c g⟩ : Df).runH
/-- explored -/
def b_explored (c : CT) (g : CF) : Fs := (fseq (fpar [2, 3] (fcons (fargs (c 101) (fcons (fvar 0) fnil)) (fcons (flst fnil) fnil)))
  (fseq (fwhile (fbin gne (fvar 2) (flst fnil)) (fseq (fpar [4, 2] (fcons (fbin gix (fvar 2) (fun1 gneg (fcon (.int 1)))) (fcons (fslice (fvar 2) none (some (fun1 gneg (fcon (.int 1))))) fnil)))
  (ftry' tk_Undecided 6 (fseq (fset 5 (fargs g (fcons (fvar 4) fnil)))
  (fset 3 (fbin gadd (fvar 3) (flst (fcons (ftup (fcons (fvar 4) (fcons (fvar 5) fnil))) fnil))))) (fun e => (fset 2 (fbin gadd (fvar 2) (fargs (c 119) (fcons (fvar 4) (fcons (ffld 15 "one" e) (fcons (ffld 15 "other" e) fnil))))))))) 1000)
  (fret (fvar 3))))
def h_explored (c : CT) (g : CF) : CF := (⟨2, 7, b_explored c g⟩ : Df).runH
/-- first_bad -/
def b_first_bad (c : CT) (g : CF) : Fs := (fseq (fset 2 (fcomp (.all [3, 4]) (fiSeq (fho (h_explored c) (fcons (fvar 0) fnil) (fun _ => g))) (some (fnot (fvar 4))) (fvar 3) [3, 4]))
  (fret (fif (fbin gne (fvar 2) (flst fnil)) (fargs (c 105) (fcons (fbin gix (fvar 2) (fcon (.int 0))) fnil)) (fcon .non))))
def h_first_bad (c : CT) (g : CF) : CF := (⟨2, 5, b_first_bad c g⟩ : Df).runH
/-- parted_by -/
def b_parted_by (c : CT) : Fs := (fret (fho (h_first_bad c) (fcons (fvar 2) fnil) (flam 1 [0, 1] (fargs (c 148) (fcons (fvar 0) (fcons (fvar 1) (fcons (fvar 2) fnil)))))))
/-- need_all -/
def b_need_all (c : CT) : Fs := (fseq (fdrop (fargs (c 16) (fcons (fvar 0) fnil)))
  (fseq (fdrop (fargs (c 16) (fcons (fvar 1) fnil)))
  (fdrop (fargs (c 91) (fcons (fvar 2) fnil)))))
/-- alike -/
def b_alike (c : CT) : Fs := (fseq (fdrop (fargs (c 152) (fcons (fvar 0) (fcons (fvar 1) (fcons (fvar 2) fnil)))))
  (fret (fbin (gis false) (fargs (c 151) (fcons (fvar 0) (fcons (fvar 1) (fcons (fvar 2) fnil)))) (fcon .non))))
/-- parting -/
def b_parting (c : CT) : Fs := (fseq (fdrop (fargs (c 152) (fcons (fvar 0) (fcons (fvar 1) (fcons (fvar 2) fnil)))))
  (fret (fargs (c 151) (fcons (fvar 0) (fcons (fvar 1) (fcons (fvar 2) fnil))))))
/-- poked_by -/
def b_poked_by (c : CT) : Fs := (fret (fho (h_first_bad c) (fcons (fvar 2) fnil) (flam 1 [0, 1] (fargs (c 149) (fcons (fvar 0) (fcons (fvar 1) (fcons (fvar 2) fnil)))))))
/-- inside -/
def b_inside (c : CT) : Fs := (fseq (fdrop (fargs (c 152) (fcons (fvar 0) (fcons (fvar 1) (fcons (fvar 2) fnil)))))
  (fret (fbin (gis false) (fargs (c 155) (fcons (fvar 0) (fcons (fvar 1) (fcons (fvar 2) fnil)))) (fcon .non))))
/-- poking -/
def b_poking (c : CT) : Fs := (fseq (fdrop (fargs (c 152) (fcons (fvar 0) (fcons (fvar 1) (fcons (fvar 2) fnil)))))
  (fret (fargs (c 155) (fcons (fvar 0) (fcons (fvar 1) (fcons (fvar 2) fnil))))))
/-- _law_poked -/
def b__law_poked (c : CT) : Fs := (fseq (ffor (.all [2, 3]) (fiSeq (fvar 0)) (fifS (fbin geq (fcomp (.one 4) (fiSeq (fvar 1)) (some (fand (fbin gle (fbin gix (fvar 4) (fcon (.int 0))) (fvar 2)) (fbin gle (fvar 3) (fbin gix (fvar 4) (fcon (.int 1)))))) (fvar 4) [4]) (flst fnil)) (fret (fcon (.bl true))) fskip))
  (fret (fcon (.bl false))))
/-- _law_told -/
def b__law_told (c : CT) : Fs := (fseq (fifS (fnot (fargs (c 114) (fcons (fvar 2) (fcons (fvar 3) fnil)))) (fret (fcon (.bl false))) fskip)
  (fseq (funpT [5, 6] (fargs (c 88) (fcons (fvar 3) fnil)))
  (fseq (fpar [7, 8] (fcons (fargs (c 87) (fcons (fbin gix (fargs (c 86) (fcons (fvar 0) (fcons (fvar 5) (fcons (fvar 6) fnil)))) (fcon (.int 0))) fnil)) (fcons (fargs (c 87) (fcons (fbin gix (fargs (c 86) (fcons (fvar 1) (fcons (fvar 5) (fcons (fvar 6) fnil)))) (fcon (.int 0))) fnil)) fnil)))
  (fret (fif (fbin geq (fvar 4) (fcon (.int 0))) (fbin gne (fvar 7) (fvar 8)) (fargs (c 159) (fcons (fvar 7) (fcons (fvar 8) fnil))))))))
/-- _law_calm -/
def b__law_calm (c : CT) : Fs := (fseq (fset 2 (fvar 0))
  (fseq (fwhile (fbin ggt (fbin gix (fargs (c 42) (fcons (fvar 2) fnil)) (fcon (.int 1))) (fvar 1)) (fset 2 (fslice (fvar 2) none (some (fun1 gneg (fcon (.int 1)))))) 1000)
  (fret (fvar 2))))
/-- _law_pair_right -/
def b__law_pair_right (c : CT) : Fs := (fseq (funpT [3, 4, 5] (ftup (fcons (fcon (.bl false)) (fcons (fcon (.bl false)) (fcons (fcon (.bl false)) fnil)))))
  (fseq (ffor (.one 6) (fiSeq (fargs (c 113) (fcons (fvar 2) (fcons (fargs (c 112) (fcons (ftup (fcons (fvar 0) (fcons (fvar 1) (fcons (fvar 2) fnil)))) fnil)) fnil)))) (fseq (fpar [7, 8] (fcons (fargs (c 87) (fcons (fbin gix (fargs (c 86) (fcons (fvar 0) (fcons (fvar 6) (fcons (fcon (.int 3)) fnil)))) (fcon (.int 0))) fnil)) (fcons (fargs (c 87) (fcons (fbin gix (fargs (c 86) (fcons (fvar 1) (fcons (fvar 6) (fcons (fcon (.int 3)) fnil)))) (fcon (.int 0))) fnil)) fnil)))
  (fifS (fbin gne (fvar 7) (fvar 8)) (fpar [3, 4, 5] (fcons (fcon (.bl true)) (fcons (for_ (fvar 4) (fargs (c 159) (fcons (fvar 7) (fcons (fvar 8) fnil)))) (fcons (for_ (fvar 5) (fargs (c 159) (fcons (fvar 8) (fcons (fvar 7) fnil)))) fnil)))) fskip)))
  (fret (fand (fargs (c 163) (fcons (fvar 0) (fcons (fvar 1) (fcons (fvar 2) (fcons (fvar 3) (fcons (fvar 4) fnil)))))) (fargs (c 163) (fcons (fvar 1) (fcons (fvar 0) (fcons (fvar 2) (fcons (fvar 3) (fcons (fvar 5) fnil))))))))))
/-- _law_beside -/
def b__law_beside (c : CT) : Fs := (fseq (fifS (fnot (fargs (c 22) (fcons (fargs (c 153) (fcons (fvar 0) (fcons (fvar 1) (fcons (fvar 2) fnil)))) (fcons (fnot (fvar 3)) fnil)))) (fret (fcon (.bl false))) fskip)
  (fseq (fifS (fnot (fargs (c 22) (fcons (fargs (c 156) (fcons (fvar 0) (fcons (fvar 1) (fcons (fvar 2) fnil)))) (fcons (fnot (fvar 4)) fnil)))) (fret (fcon (.bl false))) fskip)
  (fseq (fpar [5, 6] (fcons (fargs (c 154) (fcons (fvar 0) (fcons (fvar 1) (fcons (fvar 2) fnil)))) (fcons (fargs (c 157) (fcons (fvar 0) (fcons (fvar 1) (fcons (fvar 2) fnil)))) fnil)))
  (fseq (fifS (for_ (fbin gne (fbin (gis false) (fvar 5) (fcon .non)) (fnot (fvar 3))) (fbin gne (fbin (gis false) (fvar 6) (fcon .non)) (fnot (fvar 4)))) (fret (fcon (.bl false))) fskip)
  (fseq (fifS (fand (fbin (gis true) (fvar 5) (fcon .non)) (fnot (fargs (c 160) (fcons (fvar 0) (fcons (fvar 1) (fcons (fvar 2) (fcons (fvar 5) (fcons (fcon (.int 0)) fnil)))))))) (fret (fcon (.bl false))) fskip)
  (fret (for_ (fbin (gis false) (fvar 6) (fcon .non)) (fargs (c 160) (fcons (fvar 0) (fcons (fvar 1) (fcons (fvar 2) (fcons (fvar 6) (fcons (fcon (.int 1)) fnil)))))))))))))
/-- needless -/
def b_needless (c : CT) : Fs := (fseq (fdrop (fargs (c 16) (fcons (fvar 0) fnil)))
  (fseq (fdrop (fargs (c 91) (fcons (fvar 1) fnil)))
  (fret (fcomp (.one 2) (fiA (gi1 giR1) (fcons (fargs (g1 glen) (fcons (fvar 0) fnil)) fnil)) (some (fbin (gis false) (fargs (c 151) (fcons (fvar 0) (fcons (fbin gadd (fslice (fvar 0) none (some (fvar 2))) (fslice (fvar 0) (some (fbin gadd (fvar 2) (fcon (.int 1)))) none)) (fcons (fvar 1) fnil)))) (fcon .non))) (fvar 2) [2]))))
/-- exchanged -/
def b_exchanged (c : CT) : Fs := (fret (fbin gadd (fbin gadd (fslice (fvar 0) none (some (fvar 1))) (ftup (fcons (fbin gix (fvar 0) (fbin gadd (fvar 1) (fcon (.int 1)))) (fcons (fbin gix (fvar 0) (fvar 1)) fnil)))) (fslice (fvar 0) (some (fbin gadd (fvar 1) (fcon (.int 2)))) none)))
/-- exchangeable -/
def b_exchangeable (c : CT) : Fs := (fseq (fdrop (fargs (c 16) (fcons (fvar 0) fnil)))
  (fseq (fdrop (fargs (c 91) (fcons (fvar 1) fnil)))
  (fret (fcomp (.one 2) (fiA (gi1 giR1) (fcons (fbin gsub (fargs (g1 glen) (fcons (fvar 0) fnil)) (fcon (.int 1))) fnil)) (some (fbin (gis false) (fargs (c 151) (fcons (fvar 0) (fcons (fargs (c 165) (fcons (fvar 0) (fcons (fvar 2) fnil))) (fcons (fvar 1) fnil)))) (fcon .non))) (fvar 2) [2]))))
/-- _law_same -/
def b__law_same (c : CT) : Fs := (fseq (ffor (.one 3) (fiSeq (fvar 2)) (fifS (fbin gne (fargs (c 87) (fcons (fbin gix (fargs (c 86) (fcons (fvar 0) (fcons (fvar 3) (fcons (fcon (.int 3)) fnil)))) (fcon (.int 0))) fnil)) (fargs (c 87) (fcons (fbin gix (fargs (c 86) (fcons (fvar 1) (fcons (fvar 3) (fcons (fcon (.int 3)) fnil)))) (fcon (.int 0))) fnil))) (fret (fcon (.bl false))) fskip))
  (fret (fcon (.bl true))))
/-- _law_is_enough -/
def b__law_is_enough (c : CT) : Fs := (fseq (fset 2 (fcomp (.all [3, 4]) (fiSeq (fvar 0)) (some (fbin geq (fcomp (.one 5) (fiSeq (fvar 1)) (some (fbin (gin true) (fvar 5) (fvar 3))) (fvar 5) [5]) (flst fnil))) (fvar 4) [3, 4]))
  (fret (fand (fbin gne (fvar 2) (flst fnil)) (fbin (gin true) (fcon (.bl false)) (fvar 2)))))
/-- _law_lots -/
def b__law_lots (c : CT) : Fs := (fseq (fpar [1, 2] (fcons (flst (fcons (ftup fnil) fnil)) (fcons (flst (fcons (ftup fnil) fnil)) fnil)))
  (fseq (fwhile (fbin gne (fvar 2) (flst fnil)) (fseq (fset 3 (flst fnil))
  (fseq (ffor (.one 4) (fiSeq (fvar 2)) (fseq (fset 5 (fif (fbin gne (fvar 4) (ftup fnil)) (fbin gadd (fbin gix (fvar 4) (fun1 gneg (fcon (.int 1)))) (fcon (.int 1))) (fcon (.int 0))))
  (fset 3 (fbin gadd (fvar 3) (fcomp (.one 6) (fiA (gi2 giR2) (fcons (fvar 5) (fcons (fvar 0) fnil))) none (fbin gadd (fvar 4) (ftup (fcons (fvar 6) fnil))) [6])))))
  (fpar [1, 2] (fcons (fbin gadd (fvar 1) (fvar 3)) (fcons (fvar 3) fnil))))) 1000)
  (fret (fvar 1))))
/-- is_sight -/
def b_is_sight (c : CT) : Fs := (fseq (fifS (for_ (fnot (fun1 (gisi .tuple) (fvar 1))) (for_ (fbin (gin true) (fargs (g1 glen) (fcons (fvar 1) fnil)) (ftup (fcons (fcon (.int 2)) (fcons (fcon (.int 3)) fnil)))) (fnot (fun1 (gisi .str) (fbin gix (fvar 1) (fcon (.int 0))))))) (fret (fcon (.bl false))) fskip)
  (fseq (fifS (fbin geq (fbin gix (fvar 1) (fcon (.int 0))) (fcon (.str "said"))) (fseq (fset 2 (fargs (g1 glen) (fcons (fcomp (.one 3) (fiSeq (fvar 0)) (some (fbin geq (fbin gix (fvar 3) (fcon (.int 0))) (fcon (.str "if")))) (fvar 3) [3]) fnil)))
  (fret (fand (fbin geq (fargs (g1 glen) (fcons (fvar 1) fnil)) (fcon (.int 3))) (fand (fargs (c 0) (fcons (fbin gix (fvar 1) (fcon (.int 1))) (fcons (fcon (.int 0)) (fcons (fbin gsub (fvar 2) (fcon (.int 1))) fnil)))) (fun1 (gisi .bool) (fbin gix (fvar 1) (fcon (.int 2)))))))) fskip)
  (fseq (fifS (fbin geq (fbin gix (fvar 1) (fcon (.int 0))) (fcon (.str "many"))) (fret (fand (fbin geq (fargs (g1 glen) (fcons (fvar 1) fnil)) (fcon (.int 2))) (fargs (c 0) (fcons (fbin gix (fvar 1) (fcon (.int 1))) (fcons (fcon (.int 0)) (fcons (fcon (.int 20)) fnil)))))) fskip)
  (fret (fand (fbin (gin false) (fbin gix (fvar 1) (fcon (.int 0))) (ftup (fcons (fcon (.str "in")) (fcons (fcon (.str "out")) fnil)))) (fand (fbin geq (fargs (g1 glen) (fcons (fvar 1) fnil)) (fcon (.int 2))) (fargs (c 2) (fcons (fbin gix (fvar 1) (fcon (.int 1))) fnil))))))))
/-- need_seen -/
def b_need_seen (c : CT) : Fs := (fifS (for_ (fnot (fun1 (gisi .tuple) (fvar 1))) (for_ (fbin ggt (fargs (g1 glen) (fcons (fvar 1) fnil)) (fcon (.int 6))) (fbin gne (fcomp (.one 2) (fiSeq (fvar 1)) (some (fnot (fargs (c 171) (fcons (fvar 0) (fcons (fvar 2) fnil))))) (fvar 2) [2]) (flst fnil)))) (fraise 8) fskip)
/-- is_seen -/
def b_is_seen (c : CT) : Fs := (fseq (funpT [3, 4] (fvar 1))
  (fseq (fifS (fbin geq (fbin gix (fvar 2) (fcon (.int 0))) (fcon (.str "many"))) (fret (fbin geq (fargs (g1 glen) (fcons (fvar 3) fnil)) (fbin gix (fvar 2) (fcon (.int 1))))) fskip)
  (fseq (fifS (fbin geq (fbin gix (fvar 2) (fcon (.int 0))) (fcon (.str "said"))) (fret (fbin geq (fbin gix (fvar 4) (fbin gix (fvar 2) (fcon (.int 1)))) (fbin gix (fvar 2) (fcon (.int 2))))) fskip)
  (fret (fbin geq (fargs (c 68) (fcons (fvar 0) (fcons (fvar 3) (fcons (fargs (c 54) (fcons (fbin gix (fvar 2) (fcon (.int 1))) fnil)) fnil)))) (fbin geq (fbin gix (fvar 2) (fcon (.int 0))) (fcon (.str "in"))))))))
/-- all_seen -/
def b_all_seen (c : CT) : Fs := (fseq (fset 3 (fargs (c 72) (fcons (fvar 0) (fcons (fcon .non) (fcons (fvar 1) fnil)))))
  (fseq (ffor (.one 4) (fiSeq (fvar 2)) (fifS (fnot (fargs (c 173) (fcons (fvar 0) (fcons (fvar 3) (fcons (fvar 4) fnil))))) (fret (fcon (.bl false))) fskip))
  (fret (fcon (.bl true)))))
/-- tables_with -/
def b_tables_with (c : CT) : Fs := (fret (fcomp (.all [3, 4]) (fiSeq (fho (h_explored c) (fcons (fvar 1) fnil) (flam 1 [0, 2] (fargs (c 174) (fcons (fvar 0) (fcons (fvar 1) (fcons (fvar 2) fnil))))))) (some (fvar 4)) (fvar 3) [3, 4]))
/-- fits -/
def b_fits (c : CT) : Fs := (fseq (fdrop (fargs (c 16) (fcons (fvar 0) fnil)))
  (fseq (fdrop (fargs (c 91) (fcons (fvar 1) fnil)))
  (fseq (fdrop (fargs (c 172) (fcons (fvar 0) (fcons (fvar 2) fnil))))
  (fseq (fset 3 (fargs (c 175) (fcons (fvar 0) (fcons (fvar 1) (fcons (fvar 2) fnil)))))
  (fret (fif (fbin gne (fvar 3) (flst fnil)) (fargs (c 105) (fcons (fbin gix (fvar 3) (fcon (.int 0))) fnil)) (fcon .non)))))))
/-- learnt -/
def b_learnt (c : CT) : Fs := (fseq (fdrop (fargs (c 16) (fcons (fvar 0) fnil)))
  (fseq (fdrop (fargs (c 91) (fcons (fvar 1) fnil)))
  (fseq (fdrop (fargs (c 172) (fcons (fvar 0) (fcons (fvar 2) fnil))))
  (fseq (fdrop (fargs (c 118) (fcons (fvar 3) fnil)))
  (fseq (fdrop (fargs (c 118) (fcons (fvar 4) fnil)))
  (fseq (fset 5 (fargs (c 175) (fcons (fvar 0) (fcons (fvar 1) (fcons (fvar 2) fnil)))))
  (fseq (fset 6 (fcomp (.one 7) (fiSeq (fvar 5)) none (fargs (c 121) (fcons (fvar 7) (fcons (fargs (c 54) (fcons (fvar 3) fnil)) (fcons (fargs (c 54) (fcons (fvar 4) fnil)) fnil)))) [7]))
  (fret (fif (fbin gne (fvar 6) (flst fnil)) (fargs (c 123) (fcons (fvar 6) fnil)) (fcon .non))))))))))
/-- _law_seen_by -/
def b__law_seen_by (c : CT) : Fs := (fseq (funpT [4, 5] (fargs (c 86) (fcons (fvar 0) (fcons (fvar 1) (fcons (fvar 2) fnil)))))
  (fseq (ffor (.one 6) (fiSeq (fvar 3)) (fseq (fifS (fbin geq (fbin gix (fvar 6) (fcon (.int 0))) (fcon (.str "many"))) (fset 7 (fbin geq (fargs (g1 glen) (fcons (fvar 4) fnil)) (fbin gix (fvar 6) (fcon (.int 1))))) (fifS (fbin geq (fbin gix (fvar 6) (fcon (.int 0))) (fcon (.str "said"))) (fset 7 (fbin geq (fbin gix (fvar 5) (fbin gix (fvar 6) (fcon (.int 1)))) (fbin gix (fvar 6) (fcon (.int 2))))) (fset 7 (fbin geq (fargs (c 84) (fcons (fvar 4) (fcons (fbin gix (fargs (c 82) (fcons (fvar 1) (fcons (fvar 2) (fcons (flst (fcons (fbin gix (fvar 6) (fcon (.int 1))) fnil)) fnil)))) (fcon (.int 0))) fnil))) (fbin geq (fbin gix (fvar 6) (fcon (.int 0))) (fcon (.str "in")))))))
  (fifS (fnot (fvar 7)) (fret (fcon (.bl false))) fskip)))
  (fret (fcon (.bl true)))))
/-- _law_sights -/
def b__law_sights (c : CT) : Fs := (fseq (fset 2 (ftup (fcons (fcon (.int 0)) (fcons (fbin gsub (fargs (c 19) (fcons (fvar 0) (fcons (fcon (.int 13)) fnil))) (fcon (.int 6))) (fcons (fbin gsub (fargs (c 19) (fcons (fvar 0) (fcons (fcon (.int 13)) fnil))) (fcon (.int 6))) fnil)))))
  (fseq (funpT [3, 4] (fargs (c 86) (fcons (fvar 1) (fcons (fvar 2) (fcons (fcon (.int 3)) fnil)))))
  (fseq (fset 5 (ftup fnil))
  (fseq (ffor (.one 6) (fiA (gi1 giR1) (fcons (fargs (c 19) (fcons (fvar 0) (fcons (fcon (.int 4)) fnil))) fnil)) (fseq (fpar [7, 8] (fcons (fargs (c 35) (fcons (fvar 0) fnil)) (fcons (fargs (c 19) (fcons (fvar 0) (fcons (fcon (.int 3)) fnil))) fnil)))
  (fseq (fset 9 (fargs (c 84) (fcons (fvar 3) (fcons (fbin gix (fargs (c 82) (fcons (fvar 2) (fcons (fcon (.int 3)) (fcons (flst (fcons (fvar 7) fnil)) fnil)))) (fcon (.int 0))) fnil))))
  (fseq (fset 10 (fif (fbin ggt (fvar 8) (fcon (.int 0))) (ftup (fcons (fif (fvar 9) (fcon (.str "in")) (fcon (.str "out"))) (fcons (fvar 7) fnil))) (ftup (fcons (fcon (.str "many")) (fcons (fargs (g1 glen) (fcons (fvar 3) fnil)) fnil)))))
  (fseq (fifS (fand (fbin gne (fvar 4) (ftup fnil)) (fbin geq (fargs (c 19) (fcons (fvar 0) (fcons (fcon (.int 3)) fnil))) (fcon (.int 0)))) (fset 10 (ftup (fcons (fcon (.str "said")) (fcons (fcon (.int 0)) (fcons (fbin gix (fvar 4) (fcon (.int 0))) fnil))))) fskip)
  (fset 5 (fbin gadd (fvar 5) (ftup (fcons (fvar 10) fnil)))))))))
  (fret (fbin gadd (fvar 5) (fbin gmul (ftup (fcons (ftup (fcons (fcon (.str "many")) (fcons (fargs (c 19) (fcons (fvar 0) (fcons (fcon (.int 3)) fnil))) fnil))) fnil)) (fargs (g1 gint1) (fcons (fbin geq (fargs (c 19) (fcons (fvar 0) (fcons (fcon (.int 4)) fnil))) (fcon (.int 0))) fnil)))))))))
/-- _law_moved -/
def b__law_moved (c : CT) : Fs := (fret (ftup (fcons (fbin gadd (fbin gix (fvar 0) (fcon (.int 0))) (fbin gmul (fvar 1) (fbin gix (fvar 0) (fcon (.int 1))))) (fcons (fbin gix (fvar 0) (fcon (.int 1))) fnil))))
/-- _law_all_told -/
def b__law_all_told (c : CT) : Fs := (fseq (fpar [3, 4] (fcons (fargs (c 134) (fcons (fvar 0) (fcons (fvar 1) fnil))) (fcons (fargs (c 135) (fcons (fvar 0) (fcons (fvar 1) fnil))) fnil)))
  (fseq (fpar [5, 6] (fcons (fargs (c 141) (fcons (fvar 0) (fcons (fvar 1) fnil))) (fcons (fargs (c 137) (fcons (fvar 0) (fcons (fvar 1) (fcons (ftup (fcons (fcon (.str "b")) (fcons (fcon (.int 0)) fnil))) fnil)))) fnil)))
  (fseq (ffor (.one 7) (fiSeq (fvar 2)) (fseq (fset 8 (fargs (g1 gtuple1) (fcons (fcomp (.one 12) (fiSeq (fvar 7)) none (fargs (c 23) (fcons (fvar 12) (fcons (fcon (.int 3)) fnil))) [12]) fnil)))
  (fseq (fpar [9, 10] (fcons (fargs (c 75) (fcons (fvar 0) (fcons (fvar 8) fnil))) (fcons (fargs (c 77) (fcons (fvar 0) (fcons (fvar 8) fnil))) fnil)))
  (fseq (fifS (for_ (fbin (gin true) (fargs (g1 glen) (fcons (fvar 9) fnil)) (fvar 3)) (fbin (gin true) (fargs (c 76) (fcons (fvar 0) (fcons (fvar 8) fnil))) (fvar 4))) (fret (fcon (.bl false))) fskip)
  (fseq (fifS (for_ (fbin glt (fbin gix (fvar 10) (fcon (.int 0))) (fbin gmul (fbin gix (fbin gix (fvar 5) (fcon (.int 0))) (fcon (.int 0))) (fbin gix (fvar 10) (fcon (.int 1))))) (fand (fbin (gis true) (fbin gix (fvar 5) (fcon (.int 1))) (fcon .non)) (fbin ggt (fbin gix (fvar 10) (fcon (.int 0))) (fbin gmul (fbin gix (fbin gix (fvar 5) (fcon (.int 1))) (fcon (.int 0))) (fbin gix (fvar 10) (fcon (.int 1))))))) (fret (fcon (.bl false))) fskip)
  (fseq (fset 11 (fcomp (.one 13) (fiSeq (fvar 9)) (some (fargs (c 182) (fcons (fvar 13) (fcons (fbin gix (fvar 8) (fcon (.int 1))) fnil)))) (fvar 13) [13]))
  (fifS (fand (fbin (gis true) (fvar 6) (fcon .non)) (fbin gne (fvar 6) (fbin gne (fvar 11) (flst fnil)))) (fret (fcon (.bl false))) fskip)))))))
  (fret (fcon (.bl true))))))
/-- _law_between -/
def b__law_between (c : CT) : Fs := (fseq (funpT [2, 3] (fvar 0))
  (fseq (fifS (fbin glt (fbin gmul (fbin gix (fvar 1) (fcon (.int 0))) (fbin gix (fvar 2) (fcon (.int 1)))) (fbin gmul (fbin gix (fvar 2) (fcon (.int 0))) (fbin gix (fvar 1) (fcon (.int 1))))) (fret (fcon (.bl false))) fskip)
  (fret (fbin glt (fbin gmul (fbin gix (fvar 1) (fcon (.int 0))) (fbin gix (fvar 3) (fcon (.int 1)))) (fbin gmul (fbin gix (fvar 3) (fcon (.int 0))) (fbin gix (fvar 1) (fcon (.int 1))))))))
/-- union -/
def b_union (c : CT) : Fs := (fseq (ffor (.all [3, 4]) (fiSeq (fvar 2)) (fset 1 (fargs (c 59) (fcons (fvar 0) (fcons (fvar 1) (fcons (fvar 3) (fcons (fvar 4) fnil)))))))
  (fret (fvar 1)))
/-- shared -/
def b_shared (c : CT) : Fs := (fseq (fset 3 (ftup fnil))
  (fseq (ffor (.all [4, 5]) (fiSeq (fvar 2)) (fset 3 (fargs (c 183) (fcons (fvar 0) (fcons (fvar 3) (fcons (fargs (c 61) (fcons (fvar 0) (fcons (fvar 1) (fcons (fvar 4) (fcons (fvar 5) fnil))))) fnil))))))
  (fret (fvar 3))))
/-- is_span -/
def b_is_span (c : CT) : Fs := (fseq (fifS (for_ (fnot (fun1 (gisi .tuple) (fvar 0))) (fbin gne (fargs (g1 glen) (fcons (fvar 0) fnil)) (fcon (.int 2)))) (fret (fcon (.bl false))) fskip)
  (fret (fand (fargs (c 6) (fcons (fbin gix (fvar 0) (fcon (.int 0))) fnil)) (fand (fargs (c 6) (fcons (fbin gix (fvar 0) (fcon (.int 1))) fnil)) (fargs (c 53) (fcons (fbin gix (fvar 0) (fcon (.int 0))) (fcons (fbin gix (fvar 0) (fcon (.int 1))) fnil)))))))
/-- lot_of -/
def b_lot_of (c : CT) : Fs := (fseq (fset 1 (ftup fnil))
  (fseq (ffor (.one 2) (fiSeq (fvar 0)) (fseq (fifS (fnot (fargs (c 185) (fcons (fvar 2) fnil))) (fraise 9) fskip)
  (fset 1 (fargs (c 59) (fcons (fcon .non) (fcons (fvar 1) (fcons (fbin gix (fvar 2) (fcon (.int 0))) (fcons (fbin gix (fvar 2) (fcon (.int 1))) fnil))))))))
  (fret (fvar 1))))
/-- need_place -/
def b_need_place (c : CT) : Fs := (fifS (fand (fbin (gis true) (fvar 0) (fcon .non)) (for_ (fnot (fun1 (gisi .int) (fvar 0))) (fun1 (gisi .bool) (fvar 0)))) (fraise 10) fskip)
/-- need_index -/
def b_need_index (c : CT) : Fs := (fifS (fnot (fargs (c 0) (fcons (fvar 1) (fcons (fun1 gneg (fargs (g1 glen) (fcons (fvar 0) fnil))) (fcons (fbin gsub (fargs (g1 glen) (fcons (fvar 0) fnil)) (fcon (.int 1))) fnil))))) (fraise 10) fskip)
/-- _law_put -/
def b__law_put (c : CT) : Fs := (fsetIx (fvar 0) (fvar 1) (fvar 2))
/-- written -/
def b_written (c : CT) : Fs := (fret (fif (fbin geq (fbin gix (fvar 0) (fcon (.int 1))) (fcon (.int 1))) (fargs (g1 gstr1) (fcons (fbin gix (fvar 0) (fcon (.int 0))) fnil)) (fbin gadd (fbin gadd (fargs (g1 gstr1) (fcons (fbin gix (fvar 0) (fcon (.int 0))) fnil)) (fcon (.str "/"))) (fargs (g1 gstr1) (fcons (fbin gix (fvar 0) (fcon (.int 1))) fnil)))))
/-- _law_part_text -/
def b__law_part_text (c : CT) : Fs := (fret (fif (fbin geq (fbin gix (fvar 0) (fcon (.int 1))) (fcon (.int 1))) (fargs (g1 gstr1) (fcons (fbin gix (fvar 0) (fcon (.int 0))) fnil)) (fbin gadd (fbin gadd (fargs (g1 gstr1) (fcons (fbin gix (fvar 0) (fcon (.int 0))) fnil)) (fcon (.str "/"))) (fargs (g1 gstr1) (fcons (fbin gix (fvar 0) (fcon (.int 1))) fnil)))))
/-- part_text -/
def b_part_text (c : CT) : Fs := (fseq (fifS (fbin (gis false) (fvar 0) (fcon .non)) (fret (fcon (.str "*"))) fskip)
  (fseq (fifS (fun1 (gisi .tuple) (fvar 0)) (fret (fbin gadd (fbin gadd (fbin gix (fvar 0) (fcon (.int 0))) (fif (fbin glt (fbin gix (fvar 0) (fcon (.int 1))) (fcon (.int 0))) (fcon (.str "-")) (fcon (.str "+")))) (fargs (g1 gstr1) (fcons (fargs (g1 gabs) (fcons (fbin gix (fvar 0) (fcon (.int 1))) fnil)) fnil)))) fskip)
  (fret (fargs (g1 gstr1) (fcons (fvar 0) fnil)))))
/-- line_of -/
def b_line_of (c : CT) : Fs := (fret (fm1 gjoin (fcon (.str " ")) (fcomp (.one 1) (fiSeq (fvar 0)) none (fargs (c 213) (fcons (fvar 1) fnil)) [1])))
/-- lines_of -/
def b_lines_of (c : CT) : Fs := (fseq (fset 1 (flst fnil))
  (fseq (ffor (.one 2) (fiSeq (fvar 0)) (fifS (fbin geq (fbin gix (fvar 2) (fcon (.int 0))) (fcon (.str "if"))) (fseq (fset 1 (fbin gadd (fbin gadd (fvar 1) (flst (fcons (fargs (c 214) (fcons (fbin gadd (ftup (fcons (fcon (.str "if")) fnil)) (fbin gix (fvar 2) (fcon (.int 1)))) fnil)) fnil))) (fargs (c 215) (fcons (fbin gix (fvar 2) (fcon (.int 2))) fnil))))
  (fset 1 (fbin gadd (fbin gadd (fbin gadd (fvar 1) (flst (fcons (fcon (.str "else")) fnil))) (fargs (c 215) (fcons (fbin gix (fvar 2) (fcon (.int 3))) fnil))) (flst (fcons (fcon (.str "end")) fnil))))) (fset 1 (fbin gadd (fvar 1) (flst (fcons (fargs (c 214) (fcons (fvar 2) fnil)) fnil))))))
  (fret (fvar 1))))
/-- script_text -/
def b_script_text (c : CT) : Fs := (fseq (fdrop (fargs (c 16) (fcons (fvar 0) fnil)))
  (fret (fm1 gjoin (fcon (.str "\n")) (fargs (c 215) (fcons (fvar 0) fnil)))))
/-- part_of -/
def b_part_of (c : CT) : Fs := (fseq (fifS (fbin geq (fvar 0) (fcon (.str "*"))) (fret (fcon .non)) fskip)
  (fseq (fifS (fbin (gin false) (fvar 0) (ftup (fcons (fcon (.str "0")) (fcons (fcon (.str "1")) (fcons (fcon (.str "2")) (fcons (fcon (.str "3")) (fcons (fcon (.str "4")) (fcons (fcon (.str "-1")) (fcons (fcon (.str "-2")) (fcons (fcon (.str "-3")) (fcons (fcon (.str "-4")) fnil))))))))))) (fret (fargs (g1 gint1) (fcons (fvar 0) fnil))) fskip)
  (fseq (fifS (fand (fbin geq (fargs (g1 glen) (fcons (fvar 0) fnil)) (fcon (.int 3))) (fand (fbin (gin false) (fbin gix (fvar 0) (fcon (.int 0))) (fcon (.tup [.str "a", .str "b", .str "c"]))) (fand (fbin (gin false) (fbin gix (fvar 0) (fcon (.int 1))) (ftup (fcons (fcon (.str "+")) (fcons (fcon (.str "-")) fnil)))) (fbin (gin false) (fbin gix (fvar 0) (fcon (.int 2))) (fcon (.str "0123456789")))))) (fret (fif (fbin geq (fslice (fvar 0) (some (fcon (.int 1))) none) (fcon (.str "-0"))) (fvar 0) (ftup (fcons (fbin gix (fvar 0) (fcon (.int 0))) (fcons (fargs (g1 gint1) (fcons (fslice (fvar 0) (some (fcon (.int 1))) none) fnil)) fnil))))) fskip)
  (fret (fvar 0)))))
/-- parts_of -/
def b_parts_of (c : CT) : Fs := (fret (fargs (g1 gtuple1) (fcons (fcomp (.one 1) (fiSeq (fm1 gsplit (fvar 0) (fcon (.str " ")))) none (fargs (c 217) (fcons (fvar 1) fnil)) [1]) fnil)))
/-- is_line -/
def b_is_line (c : CT) : Fs := (fseq (fset 1 (fargs (c 218) (fcons (fvar 0) fnil)))
  (fseq (fifS (for_ (fbin (gin false) (fvar 0) (ftup (fcons (fcon (.str "else")) (fcons (fcon (.str "end")) fnil)))) (fargs (c 10) (fcons (fvar 1) fnil))) (fret (fcon (.bl true))) fskip)
  (fret (fand (fbin geq (fbin gix (fvar 1) (fcon (.int 0))) (fcon (.str "if"))) (fargs (c 8) (fcons (fslice (fvar 1) (some (fcon (.int 1))) none) fnil))))))
/-- steps_of -/
def b_steps_of (c : CT) : Fs := (fseq (funpT [1, 2] (ftup (fcons (ftup fnil) (fcons (fcon .non) fnil))))
  (fseq (ffor (.one 3) (fiSeq (fvar 0)) (fseq (fset 4 (fargs (c 218) (fcons (fvar 3) fnil)))
  (fifS (fand (fbin geq (fbin gix (fvar 4) (fcon (.int 0))) (fcon (.str "if"))) (fbin (gis false) (fvar 2) (fcon .non))) (fpar [2, 5] (fcons (fslice (fvar 4) (some (fcon (.int 1))) none) (fcons (flst (fcons (ftup fnil) fnil)) fnil))) (fifS (fand (fbin geq (fvar 3) (fcon (.str "else"))) (fand (fbin (gis true) (fvar 2) (fcon .non)) (fbin geq (fargs (g1 glen) (fcons (fvar 5) fnil)) (fcon (.int 1))))) (fset 5 (fbin gadd (fvar 5) (flst (fcons (ftup fnil) fnil)))) (fifS (fand (fbin geq (fvar 3) (fcon (.str "end"))) (fand (fbin (gis true) (fvar 2) (fcon .non)) (fbin geq (fargs (g1 glen) (fcons (fvar 5) fnil)) (fcon (.int 2))))) (fpar [1, 2] (fcons (fbin gadd (fvar 1) (ftup (fcons (ftup (fcons (fcon (.str "if")) (fcons (fvar 2) (fcons (fbin gix (fvar 5) (fcon (.int 0))) (fcons (fbin gix (fvar 5) (fcon (.int 1))) fnil))))) fnil))) (fcons (fcon .non) fnil))) (fifS (for_ (fbin (gin false) (fvar 3) (ftup (fcons (fcon (.str "else")) (fcons (fcon (.str "end")) fnil)))) (fbin geq (fbin gix (fvar 4) (fcon (.int 0))) (fcon (.str "if")))) (fret (fcon .non)) (fifS (fbin (gis true) (fvar 2) (fcon .non)) (fset 5 (fbin gadd (fslice (fvar 5) none (some (fun1 gneg (fcon (.int 1))))) (flst (fcons (fbin gadd (fbin gix (fvar 5) (fun1 gneg (fcon (.int 1)))) (ftup (fcons (fvar 4) fnil))) fnil)))) (fset 1 (fbin gadd (fvar 1) (ftup (fcons (fvar 4) fnil)))))))))))
  (fret (fif (fbin (gis false) (fvar 2) (fcon .non)) (fvar 1) (fcon .non)))))
/-- read_script -/
def b_read_script (c : CT) : Fs := (fseq (fifS (fnot (fun1 (gisi .str) (fvar 0))) (fraiseI 14 "line" (fcon (.int 0))) fskip)
  (fseq (fset 1 (fif (fbin gne (fvar 0) (fcon (.str ""))) (fm1 gsplit (fvar 0) (fcon (.str "\n"))) (flst fnil)))
  (fseq (ffor (.all [2, 3]) (fiA (gi1 giEnum) (fcons (fvar 1) fnil)) (fifS (fnot (fargs (c 219) (fcons (fvar 3) fnil))) (fraiseI 14 "line" (fbin gadd (fvar 2) (fcon (.int 1)))) fskip))
  (fseq (fset 4 (fargs (c 220) (fcons (fvar 1) fnil)))
  (fseq (fifS (fnot (fargs (c 15) (fcons (fvar 4) fnil))) (fraiseI 14 "line" (fbin gadd (fargs (g1 glen) (fcons (fvar 1) fnil)) (fcon (.int 1)))) fskip)
  (fret (fvar 4)))))))
/-- _law_term_text -/
def b__law_term_text (c : CT) : Fs := (fret (fbin gadd (fbin gadd (fbin gix (fvar 0) (fcon (.int 0))) (fif (fbin gge (fbin gix (fvar 0) (fcon (.int 1))) (fcon (.int 0))) (fcon (.str "+")) (fcon (.str "-")))) (fargs (g1 gstr1) (fcons (fargs (g1 gabs) (fcons (fbin gix (fvar 0) (fcon (.int 1))) fnil)) fnil))))
/-- _law_word -/
def b__law_word (c : CT) : Fs := (fseq (fifS (fbin (gis false) (fvar 0) (fcon .non)) (fret (fcon (.str "*"))) fskip)
  (fret (fif (fun1 (gisi .tuple) (fvar 0)) (fargs (c 222) (fcons (fvar 0) fnil)) (fargs (g1 gstr1) (fcons (fvar 0) fnil)))))
/-- _law_rows -/
def b__law_rows (c : CT) : Fs := (fseq (fset 1 (fnewL fnil))
  (fseq (ffor (.one 2) (fiSeq (fvar 0)) (fifS (fbin geq (fbin gix (fvar 2) (fcon (.int 0))) (fcon (.str "if"))) (fseq (fdrop (fappend (fvar 1) (fm1 gjoin (fcon (.str " ")) (fbin gadd (flst (fcons (fcon (.str "if")) fnil)) (fcomp (.one 3) (fiSeq (fbin gix (fvar 2) (fcon (.int 1)))) none (fargs (c 223) (fcons (fvar 3) fnil)) [3])))))
  (fset 1 (fbin gaddM (fbin gadd (fbin gadd (fbin gadd (ffrz 1) (fargs (c 224) (fcons (fbin gix (fvar 2) (fcon (.int 2))) fnil))) (flst (fcons (fcon (.str "else")) fnil))) (fargs (c 224) (fcons (fbin gix (fvar 2) (fcon (.int 3))) fnil))) (flst (fcons (fcon (.str "end")) fnil))))) (fdrop (fappend (fvar 1) (fm1 gjoin (fcon (.str " ")) (fcomp (.one 3) (fiSeq (fvar 2)) none (fargs (c 223) (fcons (fvar 3) fnil)) [3]))))))
  (fret (ffrz 1))))
/-- _law_read -/
def b__law_read (c : CT) : Fs := (ftry' tk_InvalidText 1 (fret (fargs (c 221) (fcons (fvar 0) fnil))) (fretX 14 "line"))
/-- _law_part -/
def b__law_part (c : CT) : Fs := (fseq (fifS (fbin geq (fvar 0) (fcon (.str "*"))) (fret (fcon .non)) fskip)
  (fseq (fifS (fbin (gin false) (fvar 0) (ftup (fcons (fcon (.str "0")) (fcons (fcon (.str "1")) (fcons (fcon (.str "2")) (fcons (fcon (.str "3")) (fcons (fcon (.str "4")) (fcons (fcon (.str "-1")) (fcons (fcon (.str "-2")) (fcons (fcon (.str "-3")) (fcons (fcon (.str "-4")) fnil))))))))))) (fret (fargs (g1 gint1) (fcons (fvar 0) fnil))) fskip)
  (fseq (fifS (fand (fbin geq (fargs (g1 glen) (fcons (fvar 0) fnil)) (fcon (.int 3))) (fand (fbin (gin false) (fbin gix (fvar 0) (fcon (.int 0))) (fcon (.str "abc"))) (fand (fbin gne (fslice (fvar 0) (some (fcon (.int 1))) none) (fcon (.str "-0"))) (fbin (gin false) (fbin gix (fvar 0) (fcon (.int 2))) (fcon (.str "0123456789")))))) (fifS (fbin (gin false) (fbin gix (fvar 0) (fcon (.int 1))) (fcon (.str "+-"))) (fret (ftup (fcons (fbin gix (fvar 0) (fcon (.int 0))) (fcons (fif (fbin geq (fbin gix (fvar 0) (fcon (.int 1))) (fcon (.str "+"))) (fargs (g1 gint1) (fcons (fbin gix (fvar 0) (fcon (.int 2))) fnil)) (fun1 gneg (fargs (g1 gint1) (fcons (fbin gix (fvar 0) (fcon (.int 2))) fnil)))) fnil)))) fskip) fskip)
  (fret (fvar 0)))))
/-- _law_is_row -/
def b__law_is_row (c : CT) : Fs := (fseq (fset 1 (fargs (c 300) (fcons (fvar 0) fnil)))
  (fseq (fifS (for_ (fbin (gin false) (fvar 0) (ftup (fcons (fcon (.str "else")) (fcons (fcon (.str "end")) fnil)))) (fargs (c 31) (fcons (fvar 1) fnil))) (fret (fcon (.bl true))) fskip)
  (fret (fand (fbin geq (fbin gix (fvar 1) (fcon (.int 0))) (fcon (.str "if"))) (fargs (c 30) (fcons (fslice (fvar 1) (some (fcon (.int 1))) none) fnil))))))
/-- _law_spoilt -/
def b__law_spoilt (c : CT) : Fs := (fseq (fpar [2, 3] (fcons (fargs (c 19) (fcons (fvar 0) (fcons (fbin gadd (fargs (g1 glen) (fcons (fvar 1) fnil)) (fcon (.int 1))) fnil))) (fcons (fargs (c 19) (fcons (fvar 0) (fcons (fcon (.int 6)) fnil))) fnil)))
  (fseq (fifS (fbin glt (fvar 3) (fcon (.int 2))) (fseq (fset 4 (flst (fcons (fcon (.str "")) (fcons (fcon (.str " ")) (fcons (fcon (.str "0")) (fcons (fcon (.str "1")) (fcons (fcon (.str "a")) (fcons (fcon (.str "\n")) (fcons (fcon (.str "\ngaps")) (fcons (fcon (.str "\nend")) (fcons (fcon (.str "+")) (fcons (fcon (.str "-")) (fcons (fcon (.str "*")) (fcons (fcon (.str " b+1")) (fcons (fcon (.str "\nelse")) fnil)))))))))))))))
  (fret (fbin gadd (fbin gadd (fslice (fvar 1) none (some (fvar 2))) (fargs (c 20) (fcons (fvar 0) (fcons (fvar 4) fnil)))) (fslice (fvar 1) (some (fbin gadd (fvar 2) (fvar 3))) none)))) fskip)
  (fseq (fset 5 (fm1 gsplit (fvar 1) (fcon (.str "\n"))))
  (fseq (fset 6 (fargs (c 19) (fcons (fvar 0) (fcons (fargs (g1 glen) (fcons (fvar 5) fnil)) fnil))))
  (fseq (fifS (fbin geq (fvar 3) (fcon (.int 2))) (fret (fm1 gjoin (fcon (.str "\n")) (fbin gadd (fslice (fvar 5) none (some (fvar 6))) (fslice (fvar 5) (some (fbin gadd (fvar 6) (fcon (.int 1)))) none)))) fskip)
  (fseq (fifS (fbin geq (fvar 3) (fcon (.int 3))) (fret (fm1 gjoin (fcon (.str "\n")) (fbin gadd (fslice (fvar 5) none (some (fbin gadd (fvar 6) (fcon (.int 1))))) (fslice (fvar 5) (some (fvar 6)) none)))) fskip)
  (fseq (fifS (fbin geq (fvar 3) (fcon (.int 4))) (fret (fm1 gjoin (fcon (.str "\n")) (fbin gadd (fslice (fvar 5) (some (fvar 6)) none) (fslice (fvar 5) none (some (fvar 6)))))) fskip)
  (fseq (fset 7 (flst (fcons (fcon (.str "gaps")) (fcons (fcon (.str "if many 2")) (fcons (fcon (.str "else")) (fcons (fcon (.str "end")) (fcons (fcon (.str "shift 5")) (fcons (fcon (.str "keep * 3")) (fcons (fcon (.str "join a+0 b-0")) (fcons (fcon (.str "cut a+1  b+1")) (fcons (fcon (.str "Gaps")) fnil)))))))))))
  (fret (fm1 gjoin (fcon (.str "\n")) (fbin gadd (fbin gadd (fslice (fvar 5) none (some (fvar 6))) (flst (fcons (fargs (c 20) (fcons (fvar 0) (fcons (fvar 7) fnil))) fnil))) (fslice (fvar 5) (some (fbin gadd (fvar 6) (fcon (.int 1)))) none))))))))))))
/-- _law_known -/
def b__law_known (c : CT) : Fs := (fseq (funpT [0, 1, 2] (ftup (fcons (ftup (fcons (fcon (.str "a")) (fcons (fcon (.int 0)) fnil))) (fcons (ftup (fcons (fcon (.str "b")) (fcons (fcon (.int 0)) fnil))) (fcons (ftup (fcons (fcon (.str "c")) (fcons (fcon (.int 0)) fnil))) fnil)))))
  (fseq (fset 3 (ftup (fcons (ftup (fcons (fcon (.str "join")) (fcons (fvar 0) (fcons (fvar 1) fnil)))) (fcons (ftup (fcons (fcon (.str "join")) (fcons (fvar 1) (fcons (fvar 2) fnil)))) fnil))))
  (fseq (fset 4 (ftup (fcons (ftup (fcons (fcon (.str "join")) (fcons (fvar 0) (fcons (fvar 2) fnil)))) (fcons (ftup (fcons (fcon (.str "less")) (fcons (fvar 1) (fcons (ftup (fcons (fcon (.str "b")) (fcons (fcon (.int 1)) fnil))) fnil)))) fnil))))
  (fseq (fset 5 (ftup (fcons (ftup (fcons (fcon (.str "if")) (fcons (ftup (fcons (fcon (.str "before")) (fcons (fvar 0) (fcons (fvar 1) fnil)))) (fcons (ftup (fcons (ftup (fcons (fcon (.str "join")) (fcons (fvar 0) (fcons (fvar 1) fnil)))) fnil)) (fcons (ftup (fcons (ftup (fcons (fcon (.str "join")) (fcons (fvar 1) (fcons (fvar 0) fnil)))) fnil)) fnil))))) fnil)))
  (fseq (fset 6 (ftup (fcons (ftup (fcons (fcon (.str "before")) (fcons (fvar 0) (fcons (fvar 1) fnil)))) (fcons (ftup (fcons (fcon (.str "before")) (fcons (fvar 1) (fcons (fvar 2) fnil)))) fnil))))
  (fret (ftup (fcons (fvar 3) (fcons (fvar 4) (fcons (fvar 5) (fcons (fvar 6) (fcons (fbin gadd (fvar 6) (ftup (fcons (ftup (fcons (fcon (.str "same")) (fcons (fvar 2) (fcons (ftup (fcons (fcon (.str "a")) (fcons (fcon (.int 3)) fnil))) fnil)))) fnil))) fnil))))))))))))
/-- is_whole -/
def b_is_whole (c : CT) : Fs := (fret (fand (fun1 (gisi .int) (fvar 0)) (fand (fnot (fun1 (gisi .bool) (fvar 0))) (fchain gle gle (fvar 1) (fvar 0) (fvar 2)))))
/-- is_word -/
def b_is_word (c : CT) : Fs := (fret (fand (fun1 (gisi .str) (fvar 0)) (fbin (gin false) (fvar 0) (fvar 1))))
/-- is_term -/
def b_is_term (c : CT) : Fs := (fseq (fifS (for_ (fnot (fun1 (gisi .tuple) (fvar 0))) (fbin gne (fargs (g1 glen) (fcons (fvar 0) fnil)) (fcon (.int 2)))) (fret (fcon (.bl false))) fskip)
  (fret (fand (fargs (c 1) (fcons (fbin gix (fvar 0) (fcon (.int 0))) (fcons (fcon (.tup [.str "a", .str "b", .str "c"])) fnil))) (fargs (c 0) (fcons (fbin gix (fvar 0) (fcon (.int 1))) (fcons (fun1 gneg (fcon (.int 9))) (fcons (fcon (.int 9)) fnil)))))))
/-- is_fact -/
def b_is_fact (c : CT) : Fs := (fseq (fifS (for_ (fnot (fun1 (gisi .tuple) (fvar 0))) (for_ (fbin gne (fargs (g1 glen) (fcons (fvar 0) fnil)) (fcon (.int 3))) (fnot (fargs (c 1) (fcons (fbin gix (fvar 0) (fcon (.int 0))) (fcons (ftup (fcons (fcon (.str "before")) (fcons (fcon (.str "upto")) (fcons (fcon (.str "same")) fnil)))) fnil)))))) (fret (fcon (.bl false))) fskip)
  (fret (fand (fargs (c 2) (fcons (fbin gix (fvar 0) (fcon (.int 1))) fnil)) (fargs (c 2) (fcons (fbin gix (fvar 0) (fcon (.int 2))) fnil)))))
/-- is_facts -/
def b_is_facts (c : CT) : Fs := (fret (fand (fun1 (gisi .tuple) (fvar 0)) (fand (fbin gle (fargs (g1 glen) (fcons (fvar 0) fnil)) (fcon (.int 6))) (fbin geq (fcomp (.one 1) (fiSeq (fvar 0)) (some (fnot (fargs (c 3) (fcons (fvar 1) fnil)))) (fvar 1) [1]) (flst fnil)))))
/-- divisor -/
def b_divisor (c : CT) : Fs := (fseq (fpar [2, 3] (fcons (fargs (g1 gabs) (fcons (fvar 0) fnil)) (fcons (fargs (g1 gabs) (fcons (fvar 1) fnil)) fnil)))
  (fseq (fwhile (fbin ggt (fvar 3) (fcon (.int 0))) (fpar [2, 3] (fcons (fvar 3) (fcons (fbin gmod (fvar 2) (fvar 3)) fnil))) 1000)
  (fret (fvar 2))))
/-- is_fraction -/
def b_is_fraction (c : CT) : Fs := (fseq (fifS (for_ (fnot (fun1 (gisi .tuple) (fvar 0))) (fbin gne (fargs (g1 glen) (fcons (fvar 0) fnil)) (fcon (.int 2)))) (fret (fcon (.bl false))) fskip)
  (fseq (fifS (for_ (fnot (fargs (c 0) (fcons (fbin gix (fvar 0) (fcon (.int 0))) (fcons (fun1 gneg (fcon (.int 1000000000000000000000000000000))) (fcons (fcon (.int 1000000000000000000000000000000)) fnil))))) (fnot (fargs (c 0) (fcons (fbin gix (fvar 0) (fcon (.int 1))) (fcons (fcon (.int 1)) (fcons (fcon (.int 1000000000000000000000000000000)) fnil)))))) (fret (fcon (.bl false))) fskip)
  (fret (fbin geq (fargs (c 5) (fcons (fbin gix (fvar 0) (fcon (.int 0))) (fcons (fbin gix (fvar 0) (fcon (.int 1))) fnil))) (fcon (.int 1))))))
/-- is_moments -/
def b_is_moments (c : CT) : Fs := (fseq (fifS (for_ (fnot (fun1 (gisi .tuple) (fvar 0))) (fbin gne (fargs (g1 glen) (fcons (fvar 0) fnil)) (fcon (.int 3)))) (fret (fcon (.bl false))) fskip)
  (fret (fbin geq (fcomp (.one 1) (fiSeq (fvar 0)) (some (fnot (fargs (c 6) (fcons (fvar 1) fnil)))) (fvar 1) [1]) (flst fnil))))
/-- is_condition -/
def b_is_condition (c : CT) : Fs := (fseq (fifS (for_ (fnot (fun1 (gisi .tuple) (fvar 0))) (for_ (fbin geq (fvar 0) (ftup fnil)) (fnot (fun1 (gisi .str) (fbin gix (fvar 0) (fcon (.int 0))))))) (fret (fcon (.bl false))) fskip)
  (fseq (fifS (fbin (gin false) (fbin gix (fvar 0) (fcon (.int 0))) (ftup (fcons (fcon (.str "before")) (fcons (fcon (.str "free")) (fcons (fcon (.str "full")) fnil))))) (fret (fand (fbin geq (fargs (g1 glen) (fcons (fvar 0) fnil)) (fcon (.int 3))) (fand (fargs (c 2) (fcons (fbin gix (fvar 0) (fcon (.int 1))) fnil)) (fargs (c 2) (fcons (fbin gix (fvar 0) (fcon (.int 2))) fnil))))) fskip)
  (fseq (fifS (fbin geq (fbin gix (fvar 0) (fcon (.int 0))) (fcon (.str "in"))) (fret (fand (fbin geq (fargs (g1 glen) (fcons (fvar 0) fnil)) (fcon (.int 2))) (fargs (c 2) (fcons (fbin gix (fvar 0) (fcon (.int 1))) fnil)))) fskip)
  (fret (fand (fbin geq (fbin gix (fvar 0) (fcon (.int 0))) (fcon (.str "many"))) (fand (fbin geq (fargs (g1 glen) (fcons (fvar 0) fnil)) (fcon (.int 2))) (fargs (c 0) (fcons (fbin gix (fvar 0) (fcon (.int 1))) (fcons (fcon (.int 1)) (fcons (fcon (.int 4)) fnil))))))))))
/-- is_end -/
def b_is_end (c : CT) : Fs := (fret (for_ (fbin (gis false) (fvar 0) (fcon .non)) (fargs (c 0) (fcons (fvar 0) (fcons (fun1 gneg (fcon (.int 3))) (fcons (fcon (.int 3)) fnil))))))
/-- is_plain -/
def b_is_plain (c : CT) : Fs := (fseq (fifS (for_ (fnot (fun1 (gisi .tuple) (fvar 0))) (for_ (fbin geq (fvar 0) (ftup fnil)) (fnot (fun1 (gisi .str) (fbin gix (fvar 0) (fcon (.int 0))))))) (fret (fcon (.bl false))) fskip)
  (fseq (fifS (fbin (gin false) (fbin gix (fvar 0) (fcon (.int 0))) (ftup (fcons (fcon (.str "join")) (fcons (fcon (.str "less")) (fcons (fcon (.str "cut")) fnil))))) (fret (fand (fbin geq (fargs (g1 glen) (fcons (fvar 0) fnil)) (fcon (.int 3))) (fand (fargs (c 2) (fcons (fbin gix (fvar 0) (fcon (.int 1))) fnil)) (fargs (c 2) (fcons (fbin gix (fvar 0) (fcon (.int 2))) fnil))))) fskip)
  (fseq (fifS (fbin (gin false) (fbin gix (fvar 0) (fcon (.int 0))) (ftup (fcons (fcon (.str "shift")) (fcons (fcon (.str "widen")) fnil)))) (fret (fand (fbin geq (fargs (g1 glen) (fcons (fvar 0) fnil)) (fcon (.int 2))) (fargs (c 0) (fcons (fbin gix (fvar 0) (fcon (.int 1))) (fcons (fun1 gneg (fcon (.int 4))) (fcons (fcon (.int 4)) fnil)))))) fskip)
  (fseq (fifS (fbin (gin false) (fbin gix (fvar 0) (fcon (.int 0))) (ftup (fcons (fcon (.str "keep")) (fcons (fcon (.str "drop")) fnil)))) (fret (fand (fbin geq (fargs (g1 glen) (fcons (fvar 0) fnil)) (fcon (.int 3))) (fand (fargs (c 9) (fcons (fbin gix (fvar 0) (fcon (.int 1))) fnil)) (fargs (c 9) (fcons (fbin gix (fvar 0) (fcon (.int 2))) fnil))))) fskip)
  (fret (fbin geq (fvar 0) (ftup (fcons (fcon (.str "gaps")) fnil))))))))
/-- is_body -/
def b_is_body (c : CT) : Fs := (fret (fand (fun1 (gisi .tuple) (fvar 0)) (fand (fbin gle (fargs (g1 glen) (fcons (fvar 0) fnil)) (fcon (.int 3))) (fbin geq (fcomp (.one 1) (fiSeq (fvar 0)) (some (fnot (fargs (c 10) (fcons (fvar 1) fnil)))) (fvar 1) [1]) (flst fnil)))))
/-- is_step -/
def b_is_step (c : CT) : Fs := (fseq (fifS (for_ (fnot (fun1 (gisi .tuple) (fvar 0))) (for_ (fbin gne (fargs (g1 glen) (fcons (fvar 0) fnil)) (fcon (.int 4))) (fnot (fargs (c 1) (fcons (fbin gix (fvar 0) (fcon (.int 0))) (fcons (ftup (fcons (fcon (.str "if")) fnil)) fnil)))))) (fret (fargs (c 10) (fcons (fvar 0) fnil))) fskip)
  (fret (fand (fargs (c 8) (fcons (fbin gix (fvar 0) (fcon (.int 1))) fnil)) (fand (fargs (c 11) (fcons (fbin gix (fvar 0) (fcon (.int 2))) fnil)) (fargs (c 11) (fcons (fbin gix (fvar 0) (fcon (.int 3))) fnil))))))
/-- size_of -/
def b_size_of (c : CT) : Fs := (fret (fif (fbin geq (fbin gix (fvar 0) (fcon (.int 0))) (fcon (.str "if"))) (fbin gadd (fbin gadd (fcon (.int 1)) (fargs (g1 glen) (fcons (fbin gix (fvar 0) (fcon (.int 2))) fnil))) (fargs (g1 glen) (fcons (fbin gix (fvar 0) (fcon (.int 3))) fnil))) (fcon (.int 1))))
/-- steps_in -/
def b_steps_in (c : CT) : Fs := (fret (fargs (g1 gsum) (fcons (fcomp (.one 1) (fiSeq (fvar 0)) none (fargs (c 13) (fcons (fvar 1) fnil)) [1]) fnil)))
/-- is_script -/
def b_is_script (c : CT) : Fs := (fseq (fifS (for_ (fnot (fun1 (gisi .tuple) (fvar 0))) (for_ (fbin ggt (fargs (g1 glen) (fcons (fvar 0) fnil)) (fcon (.int 8))) (fbin gne (fcomp (.one 1) (fiSeq (fvar 0)) (some (fnot (fargs (c 12) (fcons (fvar 1) fnil)))) (fvar 1) [1]) (flst fnil)))) (fret (fcon (.bl false))) fskip)
  (fret (fbin gle (fargs (c 14) (fcons (fvar 0) fnil)) (fcon (.int 12)))))
/-- need_script -/
def b_need_script (c : CT) : Fs := (fifS (fnot (fargs (c 15) (fcons (fvar 0) fnil))) (fraise 1) fskip)
/-- count_steps -/
def b_count_steps (c : CT) : Fs := (fseq (fdrop (fargs (c 16) (fcons (fvar 0) fnil)))
  (fret (fargs (c 14) (fcons (fvar 0) fnil))))
/-- _law_vat -/
def b__law_vat (c : CT) : Fs := (fseq (fset 2 (fbin gadd (fbin gmul (fcon (.int 7919)) (fvar 1)) (fcon (.int 43))))
  (fseq (fifS (fbin glt (fvar 1) (fargs (g1 glen) (fcons (fvar 0) fnil))) (fset 2 (fargs (g1 gabs) (fcons (fargs (g1 gint1) (fcons (fbin gix (fvar 0) (fvar 1)) fnil)) fnil))) fskip)
  (fret (fnewL (fcons (fif (fbin gge (fvar 2) (fbin gpow (fcon (.int 10)) (fcon (.int 18)))) (fvar 2) (fcon (.int 0))) (fcons (fbin gadd (fbin gmod (fargs (g1 gint1) (fcons (fbin gadd (fbin gadd (fbin gmul (fvar 2) (fcon (.int 131071))) (fbin gmul (fcon (.int 8191)) (fvar 1))) (fcon (.int 5))) fnil)) (fcon (.int 2147483629))) (fcon (.int 1))) fnil))))))
/-- _law_under -/
def b__law_under (c : CT) : Fs := (fseq (fifS (fbin ggt (fbin gix (fvar 0) (fcon (.int 0))) (fcon (.int 0))) (fseq (fset 2 (fbin gmod (fargs (g1 gint1) (fcons (fbin gix (fvar 0) (fcon (.int 0))) fnil)) (fvar 1)))
  (fseq (fsetIx (fvar 0) (fcon (.int 0)) (fbin gdiv (fbin gix (fvar 0) (fcon (.int 0))) (fvar 1)))
  (fret (fvar 2)))) fskip)
  (fseq (fsetIx (fvar 0) (fcon (.int 1)) (fbin gmod (fargs (g1 gint1) (fcons (fbin gadd (fbin gmul (fbin gix (fvar 0) (fcon (.int 1))) (fcon (.int 39373))) (fcon (.int 101))) fnil)) (fcon (.int 2147483629))))
  (fseq (fset 3 (fbin gmod (fargs (g1 gint1) (fcons (fbin gmul (fbin gix (fvar 0) (fcon (.int 1))) (fbin gadd (fbin gdiv (fbin gix (fvar 0) (fcon (.int 1))) (fcon (.int 5))) (fcon (.int 9)))) fnil)) (fcon (.int 2147483587))))
  (fret (fbin gmod (fargs (g1 gint1) (fcons (fbin gdiv (fvar 3) (fcon (.int 32))) fnil)) (fvar 1))))))
/-- _law_some -/
def b__law_some (c : CT) : Fs := (fret (fbin gix (fvar 1) (fargs (c 19) (fcons (fvar 0) (fcons (fargs (g1 glen) (fcons (fvar 1) fnil)) fnil)))))
/-- _law_is_whole -/
def b__law_is_whole (c : CT) : Fs := (fret (fand (fun1 (gisi .int) (fvar 0)) (fand (fnot (fun1 (gisi .bool) (fvar 0))) (fchain gle gle (fvar 1) (fvar 0) (fvar 2)))))
/-- _law_truly -/
def b__law_truly (c : CT) : Fs := (fret (fand (fun1 (gisi .bool) (fvar 0)) (fbin geq (fvar 0) (fvar 1))))
/-- _law_lowest -/
def b__law_lowest (c : CT) : Fs := (fseq (fpar [2, 3] (fcons (fargs (g1 gabs) (fcons (fvar 0) fnil)) (fcons (fvar 1) fnil)))
  (fseq (fwhile (fbin gne (fvar 3) (fcon (.int 0))) (fpar [2, 3] (fcons (fvar 3) (fcons (fbin gmod (fargs (g1 gint1) (fcons (fvar 2) fnil)) (fvar 3)) fnil))) 1000)
  (fret (ftup (fcons (fbin gdiv (fvar 0) (fvar 2)) (fcons (fbin gdiv (fvar 1) (fvar 2)) fnil))))))
/-- _law_is_term -/
def b__law_is_term (c : CT) : Fs := (fseq (fifS (for_ (fnot (fun1 (gisi .tuple) (fvar 0))) (for_ (fbin gne (fargs (g1 glen) (fcons (fvar 0) fnil)) (fcon (.int 2))) (fnot (fun1 (gisi .str) (fbin gix (fvar 0) (fcon (.int 0))))))) (fret (fcon (.bl false))) fskip)
  (fret (fand (fbin (gin false) (fbin gix (fvar 0) (fcon (.int 0))) (ftup (fcons (fcon (.str "a")) (fcons (fcon (.str "b")) (fcons (fcon (.str "c")) fnil))))) (fargs (c 21) (fcons (fbin gix (fvar 0) (fcon (.int 1))) (fcons (fun1 gneg (fcon (.int 9))) (fcons (fcon (.int 9)) fnil)))))))
/-- _law_are_terms -/
def b__law_are_terms (c : CT) : Fs := (fret (fand (fbin geq (fargs (g1 glen) (fcons (fvar 0) fnil)) (fcon (.int 3))) (fand (fargs (c 24) (fcons (fbin gix (fvar 0) (fcon (.int 1))) fnil)) (fargs (c 24) (fcons (fbin gix (fvar 0) (fcon (.int 2))) fnil)))))
/-- _law_is_fact -/
def b__law_is_fact (c : CT) : Fs := (fseq (fifS (for_ (fnot (fun1 (gisi .tuple) (fvar 0))) (for_ (fbin gne (fargs (g1 glen) (fcons (fvar 0) fnil)) (fcon (.int 3))) (fnot (fun1 (gisi .str) (fbin gix (fvar 0) (fcon (.int 0))))))) (fret (fcon (.bl false))) fskip)
  (fret (fand (fbin (gin false) (fbin gix (fvar 0) (fcon (.int 0))) (ftup (fcons (fcon (.str "before")) (fcons (fcon (.str "upto")) (fcons (fcon (.str "same")) fnil))))) (fargs (c 25) (fcons (fvar 0) fnil)))))
/-- _law_are_facts -/
def b__law_are_facts (c : CT) : Fs := (fseq (fifS (for_ (fnot (fun1 (gisi .tuple) (fvar 0))) (fbin ggt (fargs (g1 glen) (fcons (fvar 0) fnil)) (fcon (.int 6)))) (fret (fcon (.bl false))) fskip)
  (fret (fbin geq (fcomp (.one 1) (fiSeq (fvar 0)) (some (fnot (fargs (c 26) (fcons (fvar 1) fnil)))) (fvar 1) [1]) (flst fnil))))
/-- _law_is_part -/
def b__law_is_part (c : CT) : Fs := (fseq (fifS (for_ (fnot (fun1 (gisi .tuple) (fvar 0))) (fbin gne (fargs (g1 glen) (fcons (fvar 0) fnil)) (fcon (.int 2)))) (fret (fcon (.bl false))) fskip)
  (fseq (fifS (for_ (fnot (fargs (c 21) (fcons (fbin gix (fvar 0) (fcon (.int 0))) (fcons (fun1 gneg (fbin gpow (fcon (.int 10)) (fcon (.int 30)))) (fcons (fbin gpow (fcon (.int 10)) (fcon (.int 30))) fnil))))) (fnot (fargs (c 21) (fcons (fbin gix (fvar 0) (fcon (.int 1))) (fcons (fcon (.int 1)) (fcons (fbin gpow (fcon (.int 10)) (fcon (.int 30))) fnil)))))) (fret (fcon (.bl false))) fskip)
  (fret (fbin geq (fargs (c 23) (fcons (fbin gix (fvar 0) (fcon (.int 0))) (fcons (fbin gix (fvar 0) (fcon (.int 1))) fnil))) (fvar 0)))))
/-- _law_are_moments -/
def b__law_are_moments (c : CT) : Fs := (fseq (fifS (for_ (fnot (fun1 (gisi .tuple) (fvar 0))) (fbin gne (fargs (g1 glen) (fcons (fvar 0) fnil)) (fcon (.int 3)))) (fret (fcon (.bl false))) fskip)
  (fret (fbin geq (fcomp (.one 1) (fiSeq (fvar 0)) (some (fnot (fargs (c 28) (fcons (fvar 1) fnil)))) (fvar 1) [1]) (flst fnil))))
/-- _law_is_condition -/
def b__law_is_condition (c : CT) : Fs := (fseq (fifS (for_ (fnot (fun1 (gisi .tuple) (fvar 0))) (for_ (fbin (gin true) (fargs (g1 glen) (fcons (fvar 0) fnil)) (ftup (fcons (fcon (.int 2)) (fcons (fcon (.int 3)) fnil)))) (fnot (fun1 (gisi .str) (fbin gix (fvar 0) (fcon (.int 0))))))) (fret (fcon (.bl false))) fskip)
  (fseq (fifS (fbin geq (fargs (g1 glen) (fcons (fvar 0) fnil)) (fcon (.int 3))) (fret (fand (fbin (gin false) (fbin gix (fvar 0) (fcon (.int 0))) (ftup (fcons (fcon (.str "before")) (fcons (fcon (.str "free")) (fcons (fcon (.str "full")) fnil))))) (fargs (c 25) (fcons (fvar 0) fnil)))) fskip)
  (fseq (fifS (fbin geq (fbin gix (fvar 0) (fcon (.int 0))) (fcon (.str "in"))) (fret (fargs (c 24) (fcons (fbin gix (fvar 0) (fcon (.int 1))) fnil))) fskip)
  (fret (fand (fbin geq (fbin gix (fvar 0) (fcon (.int 0))) (fcon (.str "many"))) (fargs (c 21) (fcons (fbin gix (fvar 0) (fcon (.int 1))) (fcons (fcon (.int 1)) (fcons (fcon (.int 4)) fnil)))))))))
/-- _law_is_simple -/
def b__law_is_simple (c : CT) : Fs := (fseq (fifS (for_ (fnot (fun1 (gisi .tuple) (fvar 0))) (for_ (fbin (gin true) (fargs (g1 glen) (fcons (fvar 0) fnil)) (ftup (fcons (fcon (.int 1)) (fcons (fcon (.int 2)) (fcons (fcon (.int 3)) fnil))))) (fnot (fun1 (gisi .str) (fbin gix (fvar 0) (fcon (.int 0))))))) (fret (fcon (.bl false))) fskip)
  (fseq (fifS (fbin geq (fargs (g1 glen) (fcons (fvar 0) fnil)) (fcon (.int 1))) (fret (fbin geq (fbin gix (fvar 0) (fcon (.int 0))) (fcon (.str "gaps")))) fskip)
  (fseq (fifS (fbin geq (fargs (g1 glen) (fcons (fvar 0) fnil)) (fcon (.int 2))) (fret (fand (fbin (gin false) (fbin gix (fvar 0) (fcon (.int 0))) (ftup (fcons (fcon (.str "shift")) (fcons (fcon (.str "widen")) fnil)))) (fargs (c 21) (fcons (fbin gix (fvar 0) (fcon (.int 1))) (fcons (fun1 gneg (fcon (.int 4))) (fcons (fcon (.int 4)) fnil)))))) fskip)
  (fseq (fifS (fbin (gin false) (fbin gix (fvar 0) (fcon (.int 0))) (ftup (fcons (fcon (.str "keep")) (fcons (fcon (.str "drop")) fnil)))) (fret (fbin geq (fcomp (.one 1) (fiSeq (fslice (fvar 0) (some (fcon (.int 1))) none)) (some (fand (fbin (gis true) (fvar 1) (fcon .non)) (fnot (fargs (c 21) (fcons (fvar 1) (fcons (fun1 gneg (fcon (.int 3))) (fcons (fcon (.int 3)) fnil))))))) (fvar 1) [1]) (flst fnil))) fskip)
  (fret (fand (fbin (gin false) (fbin gix (fvar 0) (fcon (.int 0))) (ftup (fcons (fcon (.str "join")) (fcons (fcon (.str "less")) (fcons (fcon (.str "cut")) fnil))))) (fargs (c 25) (fcons (fvar 0) fnil))))))))
/-- _law_is_step -/
def b__law_is_step (c : CT) : Fs := (fseq (fifS (for_ (fnot (fun1 (gisi .tuple) (fvar 0))) (for_ (fbin gne (fargs (g1 glen) (fcons (fvar 0) fnil)) (fcon (.int 4))) (fnot (fun1 (gisi .str) (fbin gix (fvar 0) (fcon (.int 0))))))) (fret (fargs (c 31) (fcons (fvar 0) fnil))) fskip)
  (fseq (fifS (for_ (fbin gne (fbin gix (fvar 0) (fcon (.int 0))) (fcon (.str "if"))) (fnot (fargs (c 30) (fcons (fbin gix (fvar 0) (fcon (.int 1))) fnil)))) (fret (fcon (.bl false))) fskip)
  (fseq (ffor (.one 1) (fiSeq (fslice (fvar 0) (some (fcon (.int 2))) none)) (fseq (fifS (for_ (fnot (fun1 (gisi .tuple) (fvar 1))) (fbin ggt (fargs (g1 glen) (fcons (fvar 1) fnil)) (fcon (.int 3)))) (fret (fcon (.bl false))) fskip)
  (fifS (fbin gne (fcomp (.one 2) (fiSeq (fvar 1)) (some (fnot (fargs (c 31) (fcons (fvar 2) fnil)))) (fvar 2) [2]) (flst fnil)) (fret (fcon (.bl false))) fskip)))
  (fret (fcon (.bl true))))))
/-- _law_size -/
def b__law_size (c : CT) : Fs := (fseq (fset 1 (fcon (.int 0)))
  (fseq (ffor (.one 2) (fiSeq (fvar 0)) (fset 1 (fbin gadd (fvar 1) (fif (fbin gne (fbin gix (fvar 2) (fcon (.int 0))) (fcon (.str "if"))) (fcon (.int 1)) (fbin gadd (fbin gadd (fcon (.int 1)) (fargs (g1 glen) (fcons (fbin gix (fvar 2) (fcon (.int 2))) fnil))) (fargs (g1 glen) (fcons (fbin gix (fvar 2) (fcon (.int 3))) fnil)))))))
  (fret (fvar 1))))
/-- _law_is_script -/
def b__law_is_script (c : CT) : Fs := (fseq (fifS (for_ (fnot (fun1 (gisi .tuple) (fvar 0))) (fbin ggt (fargs (g1 glen) (fcons (fvar 0) fnil)) (fcon (.int 8)))) (fret (fcon (.bl false))) fskip)
  (fret (fand (fbin geq (fcomp (.one 1) (fiSeq (fvar 0)) (some (fnot (fargs (c 32) (fcons (fvar 1) fnil)))) (fvar 1) [1]) (flst fnil)) (fbin glt (fargs (c 33) (fcons (fvar 0) fnil)) (fcon (.int 13))))))
/-- _law_term -/
def b__law_term (c : CT) : Fs := (fret (ftup (fcons (fargs (c 20) (fcons (fvar 0) (fcons (flst (fcons (fcon (.str "a")) (fcons (fcon (.str "b")) (fcons (fcon (.str "c")) fnil)))) fnil))) (fcons (fargs (c 20) (fcons (fvar 0) (fcons (flst (fcons (fcon (.int 0)) (fcons (fcon (.int 0)) (fcons (fcon (.int 0)) (fcons (fcon (.int 1)) (fcons (fun1 gneg (fcon (.int 1))) (fcons (fcon (.int 1)) fnil))))))) fnil))) fnil))))
/-- _law_fact -/
def b__law_fact (c : CT) : Fs := (fret (ftup (fcons (fargs (c 20) (fcons (fvar 0) (fcons (flst (fcons (fcon (.str "before")) (fcons (fcon (.str "before")) (fcons (fcon (.str "upto")) (fcons (fcon (.str "same")) fnil))))) fnil))) (fcons (fargs (c 35) (fcons (fvar 0) fnil)) (fcons (fargs (c 35) (fcons (fvar 0) fnil)) fnil)))))
/-- _law_facts -/
def b__law_facts (c : CT) : Fs := (fret (fargs (g1 gtuple1) (fcons (fcomp (.one 2) (fiA (gi1 giR1) (fcons (fargs (c 19) (fcons (fvar 0) (fcons (fbin gadd (fvar 1) (fcon (.int 1))) fnil))) fnil)) none (fargs (c 36) (fcons (fvar 0) fnil)) [2]) fnil)))
/-- _law_condition -/
def b__law_condition (c : CT) : Fs := (fseq (fset 1 (fargs (c 20) (fcons (fvar 0) (fcons (flst (fcons (fcon (.str "before")) (fcons (fcon (.str "before")) (fcons (fcon (.str "in")) (fcons (fcon (.str "free")) (fcons (fcon (.str "full")) (fcons (fcon (.str "many")) fnil))))))) fnil))))
  (fseq (fifS (fbin geq (fvar 1) (fcon (.str "many"))) (fret (ftup (fcons (fcon (.str "many")) (fcons (fbin gadd (fcon (.int 1)) (fargs (c 19) (fcons (fvar 0) (fcons (fcon (.int 3)) fnil)))) fnil)))) fskip)
  (fseq (fifS (fbin geq (fvar 1) (fcon (.str "in"))) (fret (ftup (fcons (fcon (.str "in")) (fcons (fargs (c 35) (fcons (fvar 0) fnil)) fnil)))) fskip)
  (fret (ftup (fcons (fvar 1) (fcons (fargs (c 35) (fcons (fvar 0) fnil)) (fcons (fargs (c 35) (fcons (fvar 0) fnil)) fnil))))))))
/-- _law_simple -/
def b__law_simple (c : CT) : Fs := (fseq (fset 1 (fargs (c 20) (fcons (fvar 0) (fcons (flst (fcons (fcon (.str "join")) (fcons (fcon (.str "join")) (fcons (fcon (.str "join")) (fcons (fcon (.str "less")) (fcons (fcon (.str "less")) (fcons (fcon (.str "cut")) (fcons (fcon (.str "gaps")) (fcons (fcon (.str "keep")) (fcons (fcon (.str "drop")) (fcons (fcon (.str "move")) fnil))))))))))) fnil))))
  (fseq (fifS (fbin geq (fvar 1) (fcon (.str "gaps"))) (fret (ftup (fcons (fcon (.str "gaps")) fnil))) fskip)
  (fseq (fifS (fbin geq (fvar 1) (fcon (.str "move"))) (fret (ftup (fcons (fargs (c 20) (fcons (fvar 0) (fcons (flst (fcons (fcon (.str "shift")) (fcons (fcon (.str "widen")) (fcons (fcon (.str "widen")) fnil)))) fnil))) (fcons (fargs (c 20) (fcons (fvar 0) (fcons (flst (fcons (fcon (.int 1)) (fcons (fun1 gneg (fcon (.int 1))) (fcons (fcon (.int 1)) fnil)))) fnil))) fnil)))) fskip)
  (fseq (fifS (fbin (gin false) (fvar 1) (ftup (fcons (fcon (.str "keep")) (fcons (fcon (.str "drop")) fnil)))) (fret (ftup (fcons (fvar 1) (fcons (fargs (c 20) (fcons (fvar 0) (fcons (flst (fcons (fcon .non) (fcons (fcon (.int 0)) (fcons (fcon (.int 1)) (fcons (fun1 gneg (fcon (.int 1))) fnil))))) fnil))) (fcons (fargs (c 20) (fcons (fvar 0) (fcons (flst (fcons (fcon .non) (fcons (fcon (.int 1)) (fcons (fcon (.int 2)) (fcons (fun1 gneg (fcon (.int 1))) fnil))))) fnil))) fnil))))) fskip)
  (fret (ftup (fcons (fvar 1) (fcons (fargs (c 35) (fcons (fvar 0) fnil)) (fcons (fargs (c 35) (fcons (fvar 0) fnil)) fnil)))))))))
/-- _law_step -/
def b__law_step (c : CT) : Fs := (fseq (fifS (fbin ggt (fargs (c 19) (fcons (fvar 0) (fcons (fcon (.int 6)) fnil))) (fcon (.int 0))) (fret (fargs (c 39) (fcons (fvar 0) fnil))) fskip)
  (fseq (fset 1 (ftup fnil))
  (fseq (ffor (.one 2) (fiA (gi1 giR1) (fcons (fcon (.int 2)) fnil)) (fset 1 (fbin gadd (fvar 1) (ftup (fcons (fargs (g1 gtuple1) (fcons (fcomp (.one 3) (fiA (gi1 giR1) (fcons (fargs (c 19) (fcons (fvar 0) (fcons (fcon (.int 3)) fnil))) fnil)) none (fargs (c 39) (fcons (fvar 0) fnil)) [3]) fnil)) fnil)))))
  (fret (fbin gadd (ftup (fcons (fcon (.str "if")) (fcons (fargs (c 38) (fcons (fvar 0) fnil)) fnil))) (fvar 1))))))
/-- _law_script -/
def b__law_script (c : CT) : Fs := (fseq (fset 2 (ftup fnil))
  (fseq (ffor (.one 3) (fiA (gi1 giR1) (fcons (fargs (c 19) (fcons (fvar 0) (fcons (fbin gadd (fvar 1) (fcon (.int 1))) fnil))) fnil)) (fseq (fset 4 (ftup (fcons (fcon (.str "join")) (fcons (fargs (c 35) (fcons (fvar 0) fnil)) (fcons (fargs (c 35) (fcons (fvar 0) fnil)) fnil)))))
  (fset 2 (fbin gadd (fvar 2) (ftup (fcons (fif (fbin gne (fvar 2) (ftup fnil)) (fargs (c 40) (fcons (fvar 0) fnil)) (fvar 4)) fnil))))))
  (fseq (fset 2 (fif (fbin glt (fargs (c 33) (fcons (fvar 2) fnil)) (fcon (.int 13))) (fvar 2) (fslice (fvar 2) none (some (fcon (.int 3))))))
  (fseq (fwhile (fbin ggt (fbin gix (fargs (c 42) (fcons (fvar 2) fnil)) (fcon (.int 1))) (fcon (.int 4))) (fset 2 (fslice (fvar 2) none (some (fun1 gneg (fcon (.int 1)))))) 1000)
  (fret (fvar 2))))))
/-- _law_numbers -/
def b__law_numbers (c : CT) : Fs := (fseq (funpT [1, 2] (ftup (fcons (fcon (.int 0)) (fcons (fcon (.int 0)) fnil))))
  (fseq (ffor (.one 3) (fiSeq (fvar 0)) (fifS (fand (fun1 (gisi .tuple) (fvar 3)) (fand (fbin geq (fargs (g1 glen) (fcons (fvar 3) fnil)) (fcon (.int 2))) (fbin (gin false) (fbin gix (fvar 3) (fcon (.int 0))) (ftup (fcons (fcon (.str "shift")) (fcons (fcon (.str "widen")) fnil)))))) (fset 2 (fbin gadd (fvar 2) (fargs (g1 gabs) (fcons (fbin gix (fvar 3) (fcon (.int 1))) fnil)))) (fifS (fargs (c 24) (fcons (fvar 3) fnil)) (fset 1 (fargs (g2 gmax2) (fcons (fvar 1) (fcons (fargs (g1 gabs) (fcons (fbin gix (fvar 3) (fcon (.int 1))) fnil)) fnil)))) (fifS (fun1 (gisi .tuple) (fvar 3)) (fseq (funpT [4, 5] (fargs (c 42) (fcons (fvar 3) fnil)))
  (fpar [1, 2] (fcons (fargs (g2 gmax2) (fcons (fvar 1) (fcons (fvar 4) fnil))) (fcons (fbin gadd (fvar 2) (fvar 5)) fnil)))) fskip))))
  (fret (ftup (fcons (fvar 1) (fcons (fvar 2) fnil))))))
/-- _law_moments -/
def b__law_moments (c : CT) : Fs := (fseq (fset 1 (ftup fnil))
  (fseq (ffor (.one 2) (fiA (gi1 giR1) (fcons (fcon (.int 3)) fnil)) (fseq (fpar [3, 4] (fcons (fbin gsub (fargs (c 19) (fcons (fvar 0) (fcons (fcon (.int 19)) fnil))) (fcon (.int 9))) (fcons (fargs (c 20) (fcons (fvar 0) (fcons (flst (fcons (fcon (.int 1)) (fcons (fcon (.int 1)) (fcons (fcon (.int 2)) (fcons (fcon (.int 3)) (fcons (fcon (.int 4)) fnil)))))) fnil))) fnil)))
  (fset 1 (fbin gadd (fvar 1) (ftup (fcons (fargs (c 23) (fcons (fvar 3) (fcons (fvar 4) fnil))) fnil))))))
  (fret (fvar 1))))
/-- _law_odd -/
def b__law_odd (c : CT) : Fs := (fseq (fset 2 (flst (fcons (fcon .non) (fcons (fcon (.bl true)) (fcons (fcon (.bl false)) (fcons (fcon (.int 0)) (fcons (fcon (.int 1)) (fcons (fcon (.int 3)) (fcons (fcon (.int 9)) (fcons (fun1 gneg (fcon (.int 1))) (fcons (fbin gpow (fcon (.int 10)) (fcon (.int 31))) (fcons (fcon (.str "")) (fcons (fcon (.str "a")) (fcons (fcon (.str "gaps")) (fcons (fcon (.str "if")) (fcons (ftup fnil) (fcons (flst fnil) (fcons (ftup (fcons (fcon (.int 1)) (fcons (fcon (.int 1)) fnil))) (fcons (ftup (fcons (fcon (.int 0)) (fcons (fcon (.int 1)) fnil))) fnil)))))))))))))))))))
  (fseq (fset 2 (fbin gadd (fvar 2) (flst (fcons (ftup (fcons (fcon (.str "a")) (fcons (fcon (.int 0)) fnil))) (fcons (ftup (fcons (fcon (.str "c")) (fcons (fun1 gneg (fcon (.int 9))) fnil))) (fcons (ftup (fcons (fcon (.str "d")) (fcons (fcon (.int 0)) fnil))) (fcons (ftup (fcons (fcon (.str "gaps")) fnil)) (fcons (ftup (fcons (fcon (.str "shift")) (fcons (fcon (.int 1)) fnil))) (fcons (ftup (fcons (fcon (.str "many")) (fcons (fcon (.int 2)) fnil))) (fcons (ftup (fcons (fcon (.str "keep")) (fcons (fcon .non) (fcons (fcon (.int 1)) fnil)))) fnil))))))))))
  (fseq (fset 2 (fbin gadd (fvar 2) (flst (fcons (ftup (fcons (fcon (.str "before")) (fcons (ftup (fcons (fcon (.str "a")) (fcons (fcon (.int 0)) fnil))) (fcons (ftup (fcons (fcon (.str "b")) (fcons (fcon (.int 0)) fnil))) fnil)))) (fcons (ftup (fcons (ftup (fcons (fcon (.int 0)) (fcons (fcon (.int 1)) fnil))) (fcons (ftup (fcons (fcon (.int 1)) (fcons (fcon (.int 1)) fnil))) (fcons (ftup (fcons (fcon (.int 2)) (fcons (fcon (.int 1)) fnil))) fnil)))) (fcons (ftup (fcons (fcon (.int 2)) (fcons (fcon (.int 4)) fnil))) fnil))))))
  (fseq (fifS (for_ (fbin geq (fvar 1) (fcon (.int 0))) (fbin glt (fargs (c 19) (fcons (fvar 0) (fcons (fcon (.int 9)) fnil))) (fcon (.int 6)))) (fret (fargs (c 20) (fcons (fvar 0) (fcons (fvar 2) fnil)))) fskip)
  (fseq (fset 3 (fcomp (.one 4) (fiA (gi1 giR1) (fcons (fargs (c 19) (fcons (fvar 0) (fcons (fcon (.int 4)) fnil))) fnil)) none (fargs (c 46) (fcons (fvar 0) (fcons (fbin gsub (fvar 1) (fcon (.int 1))) fnil))) [4]))
  (fret (fif (fbin geq (fargs (c 19) (fcons (fvar 0) (fcons (fcon (.int 3)) fnil))) (fcon (.int 0))) (fvar 3) (fargs (g1 gtuple1) (fcons (fvar 3) fnil)))))))))
/-- _law_judged -/
def b__law_judged (c : CT) : Fs := (fseq (fifS (fnot (fargs (c 22) (fcons (fargs (c 15) (fcons (fvar 0) fnil)) (fcons (fargs (c 34) (fcons (fvar 0) fnil)) fnil)))) (fret (fcon (.bl false))) fskip)
  (fseq (fifS (fnot (fargs (c 22) (fcons (fargs (c 4) (fcons (fvar 0) fnil)) (fcons (fargs (c 27) (fcons (fvar 0) fnil)) fnil)))) (fret (fcon (.bl false))) fskip)
  (fseq (fifS (fnot (fargs (c 22) (fcons (fargs (c 7) (fcons (fvar 0) fnil)) (fcons (fargs (c 29) (fcons (fvar 0) fnil)) fnil)))) (fret (fcon (.bl false))) fskip)
  (fseq (fifS (fargs (c 34) (fcons (fvar 0) fnil)) (fret (fbin geq (fargs (c 17) (fcons (fvar 0) fnil)) (fargs (c 33) (fcons (fvar 0) fnil)))) fskip)
  (fret (fbin geq (fho (h__law_error c) fnil (flam 0 [0] (fargs (c 17) (fcons (fvar 0) fnil)))) (fcon (.str "script value"))))))))
/-- need_moments -/
def b_need_moments (c : CT) : Fs := (fifS (fnot (fargs (c 7) (fcons (fvar 0) fnil))) (fraise 5) fskip)
/-- lowest -/
def b_lowest (c : CT) : Fs := (fseq (fset 2 (fargs (c 5) (fcons (fvar 0) (fcons (fvar 1) fnil))))
  (fret (ftup (fcons (fbin gdiv (fvar 0) (fvar 2)) (fcons (fbin gdiv (fvar 1) (fvar 2)) fnil)))))
/-- added -/
def b_added (c : CT) : Fs := (fret (fargs (c 50) (fcons (fbin gadd (fbin gmul (fbin gix (fvar 0) (fcon (.int 0))) (fbin gix (fvar 1) (fcon (.int 1)))) (fbin gmul (fbin gix (fvar 1) (fcon (.int 0))) (fbin gix (fvar 0) (fcon (.int 1))))) (fcons (fbin gmul (fbin gix (fvar 0) (fcon (.int 1))) (fbin gix (fvar 1) (fcon (.int 1)))) fnil))))
/-- later -/
def b_later (c : CT) : Fs := (fret (ftup (fcons (fbin gadd (fbin gix (fvar 0) (fcon (.int 0))) (fbin gmul (fvar 1) (fbin gix (fvar 0) (fcon (.int 1))))) (fcons (fbin gix (fvar 0) (fcon (.int 1))) fnil))))
/-- less -/
def b_less (c : CT) : Fs := (fret (fbin glt (fbin gmul (fbin gix (fvar 0) (fcon (.int 0))) (fbin gix (fvar 1) (fcon (.int 1)))) (fbin gmul (fbin gix (fvar 1) (fcon (.int 0))) (fbin gix (fvar 0) (fcon (.int 1))))))
/-- sign_of -/
def b_sign_of (c : CT) : Fs := (fseq (fifS (fbin (gis false) (fvar 0) (fcon .non)) (fret (fif (fbin geq (fvar 1) (fvar 2)) (fcon (.int 0)) (fif (fargs (c 53) (fcons (fvar 1) (fcons (fvar 2) fnil))) (fun1 gneg (fcon (.int 1))) (fcon (.int 1))))) fskip)
  (fseq (fset 3 (fbin gsub (fbin gix (fvar 2) (fcon (.int 1))) (fbin gix (fvar 1) (fcon (.int 1)))))
  (fseq (fpar [4, 5] (fcons (fbin gix (fbin gix (fvar 0) (fbin gix (fvar 1) (fcon (.int 0)))) (fbin gix (fvar 2) (fcon (.int 0)))) (fcons (fbin gix (fbin gix (fvar 0) (fbin gix (fvar 2) (fcon (.int 0)))) (fbin gix (fvar 1) (fcon (.int 0)))) fnil)))
  (fseq (fifS (fand (fbin (gis true) (fvar 4) (fcon .non)) (for_ (fbin glt (fbin gix (fvar 4) (fcon (.int 0))) (fvar 3)) (fbin geq (fvar 4) (ftup (fcons (fvar 3) (fcons (fcon (.bl true)) fnil)))))) (fret (fun1 gneg (fcon (.int 1)))) fskip)
  (fseq (fifS (fand (fbin (gis true) (fvar 5) (fcon .non)) (for_ (fbin glt (fbin gix (fvar 5) (fcon (.int 0))) (fun1 gneg (fvar 3))) (fbin geq (fvar 5) (ftup (fcons (fun1 gneg (fvar 3)) (fcons (fcon (.bl true)) fnil)))))) (fret (fcon (.int 1))) fskip)
  (fseq (fifS (fand (fbin geq (fvar 4) (ftup (fcons (fvar 3) (fcons (fcon (.bl false)) fnil)))) (fbin geq (fvar 5) (ftup (fcons (fun1 gneg (fvar 3)) (fcons (fcon (.bl false)) fnil))))) (fret (fcon (.int 0))) fskip)
  (fraise 15)))))))
/-- is_ahead -/
def b_is_ahead (c : CT) : Fs := (fret (fbin glt (fargs (c 55) (fcons (fvar 0) (fcons (fvar 1) (fcons (fvar 2) fnil)))) (fcon (.int 0))))
/-- first_of -/
def b_first_of (c : CT) : Fs := (fret (fif (fargs (c 56) (fcons (fvar 0) (fcons (fvar 2) (fcons (fvar 1) fnil)))) (fvar 2) (fvar 1)))
/-- last_of -/
def b_last_of (c : CT) : Fs := (fret (fif (fargs (c 56) (fcons (fvar 0) (fcons (fvar 1) (fcons (fvar 2) fnil)))) (fvar 2) (fvar 1)))
/-- joined -/
def b_joined (c : CT) : Fs := (fseq (fifS (fnot (fargs (c 56) (fcons (fvar 0) (fcons (fvar 2) (fcons (fvar 3) fnil))))) (fret (fvar 1)) fskip)
  (fseq (funpT [4, 5] (ftup (fcons (ftup fnil) (fcons (ftup fnil) fnil))))
  (fseq (ffor (.one 6) (fiSeq (fvar 1)) (fifS (fargs (c 56) (fcons (fvar 0) (fcons (fbin gix (fvar 6) (fcon (.int 1))) (fcons (fvar 2) fnil)))) (fset 4 (fbin gadd (fvar 4) (ftup (fcons (fvar 6) fnil)))) (fifS (fargs (c 56) (fcons (fvar 0) (fcons (fvar 3) (fcons (fbin gix (fvar 6) (fcon (.int 0))) fnil)))) (fset 5 (fbin gadd (fvar 5) (ftup (fcons (fvar 6) fnil)))) (fpar [2, 3] (fcons (fargs (c 57) (fcons (fvar 0) (fcons (fvar 2) (fcons (fbin gix (fvar 6) (fcon (.int 0))) fnil)))) (fcons (fargs (c 58) (fcons (fvar 0) (fcons (fvar 3) (fcons (fbin gix (fvar 6) (fcon (.int 1))) fnil)))) fnil))))))
  (fret (fbin gadd (fbin gadd (fvar 4) (ftup (fcons (ftup (fcons (fvar 2) (fcons (fvar 3) fnil))) fnil))) (fvar 5))))))
/-- lessened -/
def b_lessened (c : CT) : Fs := (fseq (fifS (fnot (fargs (c 56) (fcons (fvar 0) (fcons (fvar 2) (fcons (fvar 3) fnil))))) (fret (fvar 1)) fskip)
  (fseq (fset 4 (ftup fnil))
  (fseq (ffor (.one 5) (fiSeq (fvar 1)) (fseq (fpar [6, 7] (fcons (fargs (c 57) (fcons (fvar 0) (fcons (fbin gix (fvar 5) (fcon (.int 1))) (fcons (fvar 2) fnil)))) (fcons (fargs (c 58) (fcons (fvar 0) (fcons (fbin gix (fvar 5) (fcon (.int 0))) (fcons (fvar 3) fnil)))) fnil)))
  (fseq (fifS (fargs (c 56) (fcons (fvar 0) (fcons (fbin gix (fvar 5) (fcon (.int 0))) (fcons (fvar 6) fnil)))) (fset 4 (fbin gadd (fvar 4) (ftup (fcons (ftup (fcons (fbin gix (fvar 5) (fcon (.int 0))) (fcons (fvar 6) fnil))) fnil)))) fskip)
  (fifS (fargs (c 56) (fcons (fvar 0) (fcons (fvar 7) (fcons (fbin gix (fvar 5) (fcon (.int 1))) fnil)))) (fset 4 (fbin gadd (fvar 4) (ftup (fcons (ftup (fcons (fvar 7) (fcons (fbin gix (fvar 5) (fcon (.int 1))) fnil))) fnil)))) fskip))))
  (fret (fvar 4)))))
/-- clipped -/
def b_clipped (c : CT) : Fs := (fseq (fset 4 (ftup fnil))
  (fseq (fifS (fargs (c 56) (fcons (fvar 0) (fcons (fvar 2) (fcons (fvar 3) fnil)))) (ffor (.one 5) (fiSeq (fvar 1)) (fseq (fpar [6, 7] (fcons (fargs (c 58) (fcons (fvar 0) (fcons (fbin gix (fvar 5) (fcon (.int 0))) (fcons (fvar 2) fnil)))) (fcons (fargs (c 57) (fcons (fvar 0) (fcons (fbin gix (fvar 5) (fcon (.int 1))) (fcons (fvar 3) fnil)))) fnil)))
  (fifS (fargs (c 56) (fcons (fvar 0) (fcons (fvar 6) (fcons (fvar 7) fnil)))) (fset 4 (fbin gadd (fvar 4) (ftup (fcons (ftup (fcons (fvar 6) (fcons (fvar 7) fnil))) fnil)))) fskip))) fskip)
  (fret (fvar 4))))
/-- without -/
def b_without (c : CT) : Fs := (fseq (ffor (.all [3, 4]) (fiSeq (fvar 2)) (fset 1 (fargs (c 60) (fcons (fvar 0) (fcons (fvar 1) (fcons (fvar 3) (fcons (fvar 4) fnil)))))))
  (fret (fvar 1)))
/-- moved -/
def b_moved (c : CT) : Fs := (fret (fif (fbin (gis false) (fvar 0) (fcon .non)) (fargs (c 52) (fcons (fvar 1) (fcons (fvar 2) fnil))) (ftup (fcons (fbin gix (fvar 1) (fcon (.int 0))) (fcons (fbin gadd (fbin gix (fvar 1) (fcon (.int 1))) (fvar 2)) fnil)))))
/-- shifted -/
def b_shifted (c : CT) : Fs := (fret (fargs (g1 gtuple1) (fcons (fcomp (.all [3, 4]) (fiSeq (fvar 1)) none (ftup (fcons (fargs (c 63) (fcons (fvar 0) (fcons (fvar 3) (fcons (fvar 2) fnil)))) (fcons (fargs (c 63) (fcons (fvar 0) (fcons (fvar 4) (fcons (fvar 2) fnil)))) fnil))) [3, 4]) fnil)))
/-- widened -/
def b_widened (c : CT) : Fs := (fseq (fset 3 (ftup fnil))
  (fseq (ffor (.all [4, 5]) (fiSeq (fvar 1)) (fset 3 (fargs (c 59) (fcons (fvar 0) (fcons (fvar 3) (fcons (fargs (c 63) (fcons (fvar 0) (fcons (fvar 4) (fcons (fun1 gneg (fvar 2)) fnil)))) (fcons (fargs (c 63) (fcons (fvar 0) (fcons (fvar 5) (fcons (fvar 2) fnil)))) fnil)))))))
  (fret (fvar 3))))
/-- gaps_of -/
def b_gaps_of (c : CT) : Fs := (fret (fargs (g1 gtuple1) (fcons (fcomp (.all [1, 2]) (fiA (gi2 giZip) (fcons (fvar 0) (fcons (fslice (fvar 0) (some (fcon (.int 1))) none) fnil))) none (ftup (fcons (fbin gix (fvar 1) (fcon (.int 1))) (fcons (fbin gix (fvar 2) (fcon (.int 0))) fnil))) [1, 2]) fnil)))
/-- has -/
def b_has (c : CT) : Fs := (fseq (fset 3 (fcon (.bl false)))
  (fseq (ffor (.all [4, 5]) (fiSeq (fvar 1)) (fifS (fand (fnot (fvar 3)) (fnot (fargs (c 56) (fcons (fvar 0) (fcons (fvar 2) (fcons (fvar 4) fnil)))))) (fset 3 (fargs (c 56) (fcons (fvar 0) (fcons (fvar 2) (fcons (fvar 5) fnil))))) fskip))
  (fret (fvar 3))))
/-- ends_in -/
def b_ends_in (c : CT) : Fs := (fseq (fset 2 (fcomp (.one 3) (fiSeq (fvar 0)) none (fargs (c 54) (fcons (fvar 3) fnil)) [3]))
  (fret (fif (fbin (gis false) (fvar 1) (fcon .non)) (fvar 2) (fcomp (.all [4, 5]) (fiSeq (fvar 2)) none (fargs (c 52) (fcons (fbin gix (fvar 1) (fvar 4)) (fcons (fvar 5) fnil))) [4, 5]))))
/-- is_met -/
def b_is_met (c : CT) : Fs := (fseq (fifS (fbin geq (fbin gix (fvar 3) (fcon (.int 0))) (fcon (.str "many"))) (fret (fbin gge (fargs (g1 glen) (fcons (fvar 2) fnil)) (fbin gix (fvar 3) (fcon (.int 1))))) fskip)
  (fseq (fset 4 (fargs (c 69) (fcons (fslice (fvar 3) (some (fcon (.int 1))) none) (fcons (fvar 1) fnil))))
  (fseq (fifS (fbin geq (fbin gix (fvar 3) (fcon (.int 0))) (fcon (.str "before"))) (fret (fargs (c 56) (fcons (fvar 0) (fcons (fbin gix (fvar 4) (fcon (.int 0))) (fcons (fbin gix (fvar 4) (fcon (.int 1))) fnil))))) fskip)
  (fseq (fifS (fbin geq (fbin gix (fvar 3) (fcon (.int 0))) (fcon (.str "in"))) (fret (fargs (c 68) (fcons (fvar 0) (fcons (fvar 2) (fcons (fbin gix (fvar 4) (fcon (.int 0))) fnil))))) fskip)
  (fseq (fifS (fbin geq (fbin gix (fvar 3) (fcon (.int 0))) (fcon (.str "free"))) (fret (fbin geq (fargs (c 61) (fcons (fvar 0) (fcons (fvar 2) (fcons (fbin gix (fvar 4) (fcon (.int 0))) (fcons (fbin gix (fvar 4) (fcon (.int 1))) fnil))))) (ftup fnil))) fskip)
  (fret (fbin geq (fargs (c 62) (fcons (fvar 0) (fcons (fargs (c 59) (fcons (fvar 0) (fcons (ftup fnil) (fcons (fbin gix (fvar 4) (fcon (.int 0))) (fcons (fbin gix (fvar 4) (fcon (.int 1))) fnil))))) (fcons (fvar 2) fnil)))) (ftup fnil))))))))
/-- behind_plain -/
def b_behind_plain (c : CT) : Fs := (fseq (fifS (fbin geq (fbin gix (fvar 3) (fcon (.int 0))) (fcon (.str "shift"))) (fret (fargs (c 64) (fcons (fvar 0) (fcons (fvar 2) (fcons (fbin gix (fvar 3) (fcon (.int 1))) fnil))))) fskip)
  (fseq (fifS (fbin geq (fbin gix (fvar 3) (fcon (.int 0))) (fcon (.str "widen"))) (fret (fargs (c 65) (fcons (fvar 0) (fcons (fvar 2) (fcons (fbin gix (fvar 3) (fcon (.int 1))) fnil))))) fskip)
  (fseq (fifS (fbin geq (fbin gix (fvar 3) (fcon (.int 0))) (fcon (.str "gaps"))) (fret (fargs (c 66) (fcons (fvar 2) fnil))) fskip)
  (fseq (fifS (fbin geq (fbin gix (fvar 3) (fcon (.int 0))) (fcon (.str "keep"))) (fret (fslice (fvar 2) (some (fbin gix (fvar 3) (fcon (.int 1)))) (some (fbin gix (fvar 3) (fcon (.int 2)))))) fskip)
  (fseq (fifS (fbin geq (fbin gix (fvar 3) (fcon (.int 0))) (fcon (.str "drop"))) (fret (fargs (c 67) (fcons (fvar 2) (fcons (fbin gix (fvar 3) (fcon (.int 1))) (fcons (fbin gix (fvar 3) (fcon (.int 2))) fnil))))) fskip)
  (fseq (funpT [4, 5] (fargs (c 69) (fcons (fslice (fvar 3) (some (fcon (.int 1))) none) (fcons (fvar 1) fnil))))
  (fseq (fifS (fbin geq (fbin gix (fvar 3) (fcon (.int 0))) (fcon (.str "join"))) (fret (fargs (c 59) (fcons (fvar 0) (fcons (fvar 2) (fcons (fvar 4) (fcons (fvar 5) fnil)))))) fskip)
  (fret (fif (fbin geq (fbin gix (fvar 3) (fcon (.int 0))) (fcon (.str "less"))) (fargs (c 60) (fcons (fvar 0) (fcons (fvar 2) (fcons (fvar 4) (fcons (fvar 5) fnil))))) (fargs (c 61) (fcons (fvar 0) (fcons (fvar 2) (fcons (fvar 4) (fcons (fvar 5) fnil))))))))))))))
/-- run -/
def b_run (c : CT) : Fs := (fseq (funpT [3, 4] (ftup (fcons (ftup fnil) (fcons (ftup fnil) fnil))))
  (fseq (ffor (.one 5) (fiSeq (fvar 2)) (fseq (fset 6 (ftup (fcons (fvar 5) fnil)))
  (fseq (fifS (fbin geq (fbin gix (fvar 5) (fcon (.int 0))) (fcon (.str "if"))) (fseq (fset 7 (fargs (c 70) (fcons (fvar 0) (fcons (fvar 1) (fcons (fvar 3) (fcons (fbin gix (fvar 5) (fcon (.int 1))) fnil))))))
  (fseq (fset 4 (fbin gadd (fvar 4) (ftup (fcons (fvar 7) fnil))))
  (fset 6 (fif (fvar 7) (fbin gix (fvar 5) (fcon (.int 2))) (fbin gix (fvar 5) (fcon (.int 3))))))) fskip)
  (ffor (.one 8) (fiSeq (fvar 6)) (fset 3 (fargs (c 71) (fcons (fvar 0) (fcons (fvar 1) (fcons (fvar 3) (fcons (fvar 8) fnil))))))))))
  (fret (ftup (fcons (fvar 3) (fcons (fvar 4) fnil))))))
/-- pieces_at -/
def b_pieces_at (c : CT) : Fs := (fret (fbin gix (fargs (c 72) (fcons (fcon .non) (fcons (fvar 1) (fcons (fvar 0) fnil)))) (fcon (.int 0))))
/-- measure -/
def b_measure (c : CT) : Fs := (fseq (fset 1 (ftup (fcons (fcon (.int 0)) (fcons (fcon (.int 1)) fnil))))
  (fseq (ffor (.all [2, 3]) (fiSeq (fvar 0)) (fset 1 (fargs (c 51) (fcons (fvar 1) (fcons (fargs (c 51) (fcons (fvar 3) (fcons (ftup (fcons (fun1 gneg (fbin gix (fvar 2) (fcon (.int 0)))) (fcons (fbin gix (fvar 2) (fcon (.int 1))) fnil))) fnil))) fnil)))))
  (fret (fvar 1))))
/-- result -/
def b_result (c : CT) : Fs := (fseq (fdrop (fargs (c 16) (fcons (fvar 0) fnil)))
  (fseq (fdrop (fargs (c 49) (fcons (fvar 1) fnil)))
  (fret (fargs (g1 glist1) (fcons (fargs (c 73) (fcons (fvar 0) (fcons (fvar 1) fnil))) fnil)))))
/-- answers -/
def b_answers (c : CT) : Fs := (fseq (fdrop (fargs (c 16) (fcons (fvar 0) fnil)))
  (fseq (fdrop (fargs (c 49) (fcons (fvar 1) fnil)))
  (fret (fbin gix (fargs (c 72) (fcons (fcon .non) (fcons (fvar 1) (fcons (fvar 0) fnil)))) (fcon (.int 1))))))
/-- length -/
def b_length (c : CT) : Fs := (fseq (fdrop (fargs (c 16) (fcons (fvar 0) fnil)))
  (fseq (fdrop (fargs (c 49) (fcons (fvar 1) fnil)))
  (fret (fargs (c 74) (fcons (fargs (c 73) (fcons (fvar 0) (fcons (fvar 1) fnil))) fnil)))))
/-- _law_taken -/
def b__law_taken (c : CT) : Fs := (fseq (fset 3 (fnewL fnil))
  (fseq (ffor (.all [4, 5]) (fiSeq (fvar 0)) (fseq (fifS (fbin glt (fbin gix (fvar 4) (fcon (.int 0))) (fbin gix (fvar 1) (fcon (.int 0)))) (fdrop (fappend (fvar 3) (ftup (fcons (fvar 4) (fcons (fargs (g2 gmin2) (fcons (fvar 5) (fcons (fvar 1) fnil))) fnil))))) fskip)
  (fifS (fbin glt (fbin gix (fvar 2) (fcon (.int 0))) (fbin gix (fvar 5) (fcon (.int 0)))) (fdrop (fappend (fvar 3) (ftup (fcons (fargs (g2 gmax2) (fcons (fvar 4) (fcons (fvar 2) fnil))) (fcons (fvar 5) fnil))))) fskip)))
  (fret (ffrz 3))))
/-- _law_kept -/
def b__law_kept (c : CT) : Fs := (fseq (fset 3 (fcomp (.all [4, 5]) (fiSeq (fvar 0)) none (ftup (fcons (fargs (g2 gmax2) (fcons (fvar 4) (fcons (fvar 1) fnil))) (fcons (fargs (g2 gmin2) (fcons (fvar 5) (fcons (fvar 2) fnil))) fnil))) [4, 5]))
  (fret (fcomp (.all [4, 5]) (fiSeq (fvar 3)) (some (fbin glt (fbin gix (fvar 4) (fcon (.int 0))) (fbin gix (fvar 5) (fcon (.int 0))))) (ftup (fcons (fvar 4) (fcons (fvar 5) fnil))) [4, 5])))
/-- _law_later -/
def b__law_later (c : CT) : Fs := (fret (ftup (fcons (fbin gadd (fbin gix (fvar 0) (fcon (.int 0))) (fbin gmul (fvar 1) (fvar 2))) (fcons (fbin gix (fvar 0) (fcon (.int 1))) (fcons (fbin gadd (fbin gix (fvar 0) (fcon (.int 2))) (fvar 1)) fnil)))))
/-- _law_does -/
def b__law_does (c : CT) : Fs := (fseq (fset 4 (fbin gix (fvar 3) (fcon (.int 0))))
  (fseq (fifS (fbin (gin false) (fvar 4) (ftup (fcons (fcon (.str "shift")) (fcons (fcon (.str "widen")) fnil)))) (fseq (fset 5 (fif (fbin geq (fvar 4) (fcon (.str "widen"))) (fun1 gneg (fbin gix (fvar 3) (fcon (.int 1)))) (fbin gix (fvar 3) (fcon (.int 1)))))
  (fseq (fset 6 (flst fnil))
  (fseq (ffor (.all [7, 8]) (fiSeq (fvar 2)) (fseq (fpar [9, 10] (fcons (fargs (c 81) (fcons (fvar 7) (fcons (fvar 5) (fcons (fvar 1) fnil)))) (fcons (fargs (c 81) (fcons (fvar 8) (fcons (fbin gix (fvar 3) (fcon (.int 1))) (fcons (fvar 1) fnil)))) fnil)))
  (fset 6 (fbin gadd (fvar 6) (fbin gmul (flst (fcons (ftup (fcons (fvar 9) (fcons (fvar 10) fnil))) fnil)) (fargs (g1 gint1) (fcons (fbin glt (fbin gix (fvar 9) (fcon (.int 0))) (fbin gix (fvar 10) (fcon (.int 0)))) fnil)))))))
  (fret (fif (fbin geq (fvar 4) (fcon (.str "widen"))) (fargs (c 78) (fcons (fvar 6) fnil)) (fvar 6)))))) fskip)
  (fseq (fifS (fbin geq (fvar 4) (fcon (.str "gaps"))) (fret (fcomp (.all [7, 8]) (fiA (gi2 giZip) (fcons (fvar 2) (fcons (fslice (fvar 2) (some (fcon (.int 1))) none) fnil))) none (ftup (fcons (fbin gix (fvar 7) (fcon (.int 1))) (fcons (fbin gix (fvar 8) (fcon (.int 0))) fnil))) [7, 8])) fskip)
  (fseq (fifS (fbin (gin false) (fvar 4) (ftup (fcons (fcon (.str "keep")) (fcons (fcon (.str "drop")) fnil)))) (fseq (fset 6 (fslice (fvar 2) (some (fbin gix (fvar 3) (fcon (.int 1)))) (some (fbin gix (fvar 3) (fcon (.int 2))))))
  (fseq (fset 11 (fcomp (.one 14) (fiSeq (fvar 2)) (some (fbin (gin true) (fvar 14) (fvar 6))) (fvar 14) [14]))
  (fret (fif (fbin geq (fvar 4) (fcon (.str "keep"))) (fvar 6) (fvar 11))))) fskip)
  (fseq (funpT [12, 13] (fargs (c 82) (fcons (fvar 0) (fcons (fvar 1) (fcons (fslice (fvar 3) (some (fcon (.int 1))) none) fnil)))))
  (fseq (fifS (fbin gge (fbin gix (fvar 12) (fcon (.int 0))) (fbin gix (fvar 13) (fcon (.int 0)))) (fret (fif (fbin geq (fvar 4) (fcon (.str "cut"))) (flst fnil) (fvar 2))) fskip)
  (fseq (fifS (fbin geq (fvar 4) (fcon (.str "cut"))) (fret (fargs (c 80) (fcons (fvar 2) (fcons (fvar 12) (fcons (fvar 13) fnil))))) fskip)
  (fret (fif (fbin geq (fvar 4) (fcon (.str "join"))) (fargs (c 78) (fcons (fbin gadd (fvar 2) (flst (fcons (ftup (fcons (fvar 12) (fcons (fvar 13) fnil))) fnil))) fnil)) (fargs (c 79) (fcons (fvar 2) (fcons (fvar 12) (fcons (fvar 13) fnil)))))))))))))
/-- _law_has -/
def b__law_has (c : CT) : Fs := (fret (fbin gne (fcomp (.all [2, 3]) (fiSeq (fvar 0)) (some (fand (fbin gle (fbin gix (fvar 2) (fcon (.int 0))) (fbin gix (fvar 1) (fcon (.int 0)))) (fbin glt (fbin gix (fvar 1) (fcon (.int 0))) (fbin gix (fvar 3) (fcon (.int 0)))))) (fvar 2) [2, 3]) (flst fnil)))
/-- _law_met -/
def b__law_met (c : CT) : Fs := (fseq (fifS (fbin geq (fbin gix (fvar 3) (fcon (.int 0))) (fcon (.str "many"))) (fret (fbin gge (fargs (g1 glen) (fcons (fvar 2) fnil)) (fbin gix (fvar 3) (fcon (.int 1))))) fskip)
  (fseq (fset 4 (fargs (c 82) (fcons (fvar 0) (fcons (fvar 1) (fcons (fslice (fvar 3) (some (fcon (.int 1))) none) fnil)))))
  (fseq (fifS (fbin geq (fbin gix (fvar 3) (fcon (.int 0))) (fcon (.str "in"))) (fret (fargs (c 84) (fcons (fvar 2) (fcons (fbin gix (fvar 4) (fcon (.int 0))) fnil)))) fskip)
  (fseq (fifS (fbin geq (fbin gix (fvar 3) (fcon (.int 0))) (fcon (.str "before"))) (fret (fbin glt (fbin gix (fbin gix (fvar 4) (fcon (.int 0))) (fcon (.int 0))) (fbin gix (fbin gix (fvar 4) (fcon (.int 1))) (fcon (.int 0))))) fskip)
  (fseq (fifS (fbin gge (fbin gix (fbin gix (fvar 4) (fcon (.int 0))) (fcon (.int 0))) (fbin gix (fbin gix (fvar 4) (fcon (.int 1))) (fcon (.int 0)))) (fret (fcon (.bl true))) fskip)
  (fseq (fset 5 (fargs (c 80) (fcons (fvar 2) (fcons (fbin gix (fvar 4) (fcon (.int 0))) (fcons (fbin gix (fvar 4) (fcon (.int 1))) fnil)))))
  (fseq (fifS (fbin geq (fbin gix (fvar 3) (fcon (.int 0))) (fcon (.str "free"))) (fret (fbin geq (fvar 5) (flst fnil))) fskip)
  (fret (fbin geq (fcomp (.all [6, 7]) (fiSeq (fvar 5)) none (ftup (fcons (fbin gix (fvar 6) (fcon (.int 0))) (fcons (fbin gix (fvar 7) (fcon (.int 0))) fnil))) [6, 7]) (flst (fcons (ftup (fcons (fbin gix (fbin gix (fvar 4) (fcon (.int 0))) (fcon (.int 0))) (fcons (fbin gix (fbin gix (fvar 4) (fcon (.int 1))) (fcon (.int 0))) fnil))) fnil)))))))))))
/-- _law_run -/
def b__law_run (c : CT) : Fs := (fseq (fpar [3, 4] (fcons (flst fnil) (fcons (ftup fnil) fnil)))
  (fseq (ffor (.one 5) (fiSeq (fvar 0)) (fseq (fset 6 (ftup (fcons (fvar 5) fnil)))
  (fseq (fifS (fbin geq (fbin gix (fvar 5) (fcon (.int 0))) (fcon (.str "if"))) (fseq (fset 7 (fargs (c 85) (fcons (fvar 1) (fcons (fvar 2) (fcons (fvar 3) (fcons (fbin gix (fvar 5) (fcon (.int 1))) fnil))))))
  (fpar [4, 6] (fcons (fbin gadd (fvar 4) (ftup (fcons (fvar 7) fnil))) (fcons (fif (fvar 7) (fbin gix (fvar 5) (fcon (.int 2))) (fbin gix (fvar 5) (fcon (.int 3)))) fnil)))) fskip)
  (ffor (.one 8) (fiSeq (fvar 6)) (fset 3 (fargs (c 83) (fcons (fvar 1) (fcons (fvar 2) (fcons (fvar 3) (fcons (fvar 8) fnil))))))))))
  (fret (ftup (fcons (fvar 3) (fcons (fvar 4) fnil))))))
/-- _law_plain -/
def b__law_plain (c : CT) : Fs := (fret (fcomp (.all [1, 2]) (fiSeq (fvar 0)) none (ftup (fcons (fbin gix (fvar 1) (fcon (.int 0))) (fcons (fbin gix (fvar 2) (fcon (.int 0))) fnil))) [1, 2]))
/-- _law_row -/
def b__law_row (c : CT) : Fs := (fseq (fset 1 (fbin gmul (fbin gmul (fbin gix (fbin gix (fvar 0) (fcon (.int 0))) (fcon (.int 1))) (fbin gix (fbin gix (fvar 0) (fcon (.int 1))) (fcon (.int 1)))) (fbin gix (fbin gix (fvar 0) (fcon (.int 2))) (fcon (.int 1)))))
  (fret (ftup (fcons (fargs (g1 gtuple1) (fcons (fcomp (.all [2, 3]) (fiSeq (fvar 0)) none (fbin gmul (fvar 2) (fbin gdiv (fvar 1) (fvar 3))) [2, 3]) fnil)) (fcons (fvar 1) fnil)))))
/-- _law_lot_of -/
def b__law_lot_of (c : CT) : Fs := (fseq (funpT [2, 3] (fargs (c 88) (fcons (fvar 1) fnil)))
  (fseq (fset 4 (fbin gix (fargs (c 86) (fcons (fvar 0) (fcons (fvar 2) (fcons (fvar 3) fnil)))) (fcon (.int 0))))
  (fseq (fset 4 (fargs (c 87) (fcons (fvar 4) fnil)))
  (fret (fcomp (.all [5, 6]) (fiSeq (fvar 4)) none (ftup (fcons (fargs (c 23) (fcons (fvar 5) (fcons (fvar 3) fnil))) (fcons (fargs (c 23) (fcons (fvar 6) (fcons (fvar 3) fnil))) fnil))) [5, 6])))))
/-- _law_right -/
def b__law_right (c : CT) : Fs := (fseq (funpT [2, 3] (fargs (c 88) (fcons (fvar 1) fnil)))
  (fseq (funpT [4, 5] (fargs (c 86) (fcons (fvar 0) (fcons (fvar 2) (fcons (fvar 3) fnil)))))
  (fseq (fset 6 (fargs (c 75) (fcons (fvar 0) (fcons (fvar 1) fnil))))
  (fseq (fifS (for_ (fnot (fun1 (gisi .list) (fvar 6))) (fbin gne (fvar 6) (fargs (c 89) (fcons (fvar 0) (fcons (fvar 1) fnil))))) (fret (fcon (.bl false))) fskip)
  (fseq (fset 7 (fargs (g1 gsum) (fcons (fcomp (.all [8, 9]) (fiSeq (fvar 4)) none (fbin gsub (fbin gix (fvar 9) (fcon (.int 0))) (fbin gix (fvar 8) (fcon (.int 0)))) [8, 9]) fnil)))
  (fret (fand (fbin geq (fargs (c 76) (fcons (fvar 0) (fcons (fvar 1) fnil))) (fvar 5)) (fbin geq (fargs (c 77) (fcons (fvar 0) (fcons (fvar 1) fnil))) (fargs (c 23) (fcons (fvar 7) (fcons (fvar 3) fnil)))))))))))
/-- need_facts -/
def b_need_facts (c : CT) : Fs := (fifS (fnot (fargs (c 4) (fcons (fvar 0) fnil))) (fraise 3) fskip)
/-- is_kept -/
def b_is_kept (c : CT) : Fs := (fseq (fpar [2, 3] (fcons (fargs (c 92) (fcons (fbin gix (fvar 0) (fcon (.int 1))) (fcons (fvar 1) fnil))) (fcons (fargs (c 92) (fcons (fbin gix (fvar 0) (fcon (.int 2))) (fcons (fvar 1) fnil))) fnil)))
  (fseq (fset 4 (fbin gsub (fbin gmul (fbin gix (fvar 2) (fcon (.int 0))) (fbin gix (fvar 3) (fcon (.int 1)))) (fbin gmul (fbin gix (fvar 3) (fcon (.int 0))) (fbin gix (fvar 2) (fcon (.int 1))))))
  (fret (fif (fbin geq (fbin gix (fvar 0) (fcon (.int 0))) (fcon (.str "same"))) (fbin geq (fvar 4) (fcon (.int 0))) (for_ (fbin glt (fvar 4) (fcon (.int 0))) (fand (fbin geq (fvar 4) (fcon (.int 0))) (fbin geq (fbin gix (fvar 0) (fcon (.int 0))) (fcon (.str "upto")))))))))
/-- keeps -/
def b_keeps (c : CT) : Fs := (fseq (fdrop (fargs (c 91) (fcons (fvar 0) fnil)))
  (fseq (fdrop (fargs (c 49) (fcons (fvar 1) fnil)))
  (fret (fbin geq (fcomp (.one 2) (fiSeq (fvar 0)) (some (fnot (fargs (c 93) (fcons (fvar 2) (fcons (fvar 1) fnil))))) (fvar 2) [2]) (flst fnil)))))
/-- tighter -/
def b_tighter (c : CT) : Fs := (fseq (fifS (for_ (fbin (gis false) (fvar 0) (fcon .non)) (fbin (gis false) (fvar 1) (fcon .non))) (fret (fand (fbin (gis false) (fvar 1) (fcon .non)) (fbin (gis true) (fvar 0) (fcon .non)))) fskip)
  (fret (for_ (fbin glt (fbin gix (fvar 0) (fcon (.int 0))) (fbin gix (fvar 1) (fcon (.int 0)))) (fand (fbin geq (fbin gix (fvar 0) (fcon (.int 0))) (fbin gix (fvar 1) (fcon (.int 0)))) (fand (fbin gix (fvar 0) (fcon (.int 1))) (fnot (fbin gix (fvar 1) (fcon (.int 1)))))))))
/-- together -/
def b_together (c : CT) : Fs := (fseq (fifS (for_ (fbin (gis false) (fvar 0) (fcon .non)) (fbin (gis false) (fvar 1) (fcon .non))) (fret (fcon .non)) fskip)
  (fret (ftup (fcons (fbin gadd (fbin gix (fvar 0) (fcon (.int 0))) (fbin gix (fvar 1) (fcon (.int 0)))) (fcons (for_ (fbin gix (fvar 0) (fcon (.int 1))) (fbin gix (fvar 1) (fcon (.int 1)))) fnil)))))
/-- free_table -/
def b_free_table (c : CT) : Fs := (fret (fargs (g1 gtuple1) (fcons (fcomp (.one 0) (fiA (gi1 giR1) (fcons (fcon (.int 3)) fnil)) none (fargs (g1 gtuple1) (fcons (fcomp (.one 1) (fiA (gi1 giR1) (fcons (fcon (.int 3)) fnil)) none (fif (fbin geq (fvar 0) (fvar 1)) (ftup (fcons (fcon (.int 0)) (fcons (fcon (.bl false)) fnil))) (fcon .non)) [1]) fnil)) [0]) fnil)))
/-- with_bound -/
def b_with_bound (c : CT) : Fs := (fseq (fset 4 (flst fnil))
  (fseq (ffor (.one 5) (fiA (gi1 giR1) (fcons (fcon (.int 3)) fnil)) (fseq (fset 6 (flst fnil))
  (fseq (ffor (.one 7) (fiA (gi1 giR1) (fcons (fcon (.int 3)) fnil)) (fseq (fset 8 (fargs (c 96) (fcons (fargs (c 96) (fcons (fbin gix (fbin gix (fvar 0) (fvar 5)) (fvar 1)) (fcons (fvar 3) fnil))) (fcons (fbin gix (fbin gix (fvar 0) (fvar 2)) (fvar 7)) fnil))))
  (fset 6 (fbin gadd (fvar 6) (flst (fcons (fif (fargs (c 95) (fcons (fvar 8) (fcons (fbin gix (fbin gix (fvar 0) (fvar 5)) (fvar 7)) fnil))) (fvar 8) (fbin gix (fbin gix (fvar 0) (fvar 5)) (fvar 7))) fnil))))))
  (fset 4 (fbin gadd (fvar 4) (flst (fcons (fargs (g1 gtuple1) (fcons (fvar 6) fnil)) fnil)))))))
  (fseq (fset 9 (fcomp (.one 10) (fiA (gi1 giR1) (fcons (fcon (.int 3)) fnil)) (some (fargs (c 95) (fcons (fbin gix (fbin gix (fvar 4) (fvar 10)) (fvar 10)) (fcons (ftup (fcons (fcon (.int 0)) (fcons (fcon (.bl false)) fnil))) fnil)))) (fvar 10) [10]))
  (fret (fif (fbin gne (fvar 9) (flst fnil)) (fcon .non) (fargs (g1 gtuple1) (fcons (fvar 4) fnil)))))))
/-- with_sign -/
def b_with_sign (c : CT) : Fs := (fseq (fset 4 (fbin gsub (fbin gix (fvar 2) (fcon (.int 1))) (fbin gix (fvar 1) (fcon (.int 1)))))
  (fseq (fifS (fbin glt (fvar 3) (fcon (.int 0))) (fret (fargs (c 98) (fcons (fvar 0) (fcons (fbin gix (fvar 1) (fcon (.int 0))) (fcons (fbin gix (fvar 2) (fcon (.int 0))) (fcons (ftup (fcons (fvar 4) (fcons (fcon (.bl true)) fnil))) fnil)))))) fskip)
  (fseq (fifS (fbin ggt (fvar 3) (fcon (.int 0))) (fret (fargs (c 98) (fcons (fvar 0) (fcons (fbin gix (fvar 2) (fcon (.int 0))) (fcons (fbin gix (fvar 1) (fcon (.int 0))) (fcons (ftup (fcons (fun1 gneg (fvar 4)) (fcons (fcon (.bl true)) fnil))) fnil)))))) fskip)
  (fseq (fset 5 (fargs (c 98) (fcons (fvar 0) (fcons (fbin gix (fvar 1) (fcon (.int 0))) (fcons (fbin gix (fvar 2) (fcon (.int 0))) (fcons (ftup (fcons (fvar 4) (fcons (fcon (.bl false)) fnil))) fnil))))))
  (fret (fif (fbin (gis false) (fvar 5) (fcon .non)) (fcon .non) (fargs (c 98) (fcons (fvar 5) (fcons (fbin gix (fvar 2) (fcon (.int 0))) (fcons (fbin gix (fvar 1) (fcon (.int 0))) (fcons (ftup (fcons (fun1 gneg (fvar 4)) (fcons (fcon (.bl false)) fnil))) fnil)))))))))))
/-- number_between -/
def b_number_between (c : CT) : Fs := (fseq (fifS (fand (fbin (gis false) (fvar 0) (fcon .non)) (fbin (gis false) (fvar 1) (fcon .non))) (fret (ftup (fcons (fcon (.int 0)) (fcons (fcon (.int 1)) fnil)))) fskip)
  (fseq (fifS (for_ (fbin (gis false) (fvar 0) (fcon .non)) (fbin (gis false) (fvar 1) (fcon .non))) (fret (fif (fbin (gis false) (fvar 0) (fcon .non)) (fargs (c 52) (fcons (fvar 1) (fcons (fun1 gneg (fcon (.int 1))) fnil))) (fargs (c 52) (fcons (fvar 0) (fcons (fcon (.int 1)) fnil))))) fskip)
  (fret (fif (fbin geq (fvar 0) (fvar 1)) (fvar 0) (fargs (c 50) (fcons (fbin gadd (fbin gmul (fbin gix (fvar 0) (fcon (.int 0))) (fbin gix (fvar 1) (fcon (.int 1)))) (fbin gmul (fbin gix (fvar 1) (fcon (.int 0))) (fbin gix (fvar 0) (fcon (.int 1))))) (fcons (fbin gmul (fbin gmul (fcon (.int 2)) (fbin gix (fvar 0) (fcon (.int 1)))) (fbin gix (fvar 1) (fcon (.int 1)))) fnil)))))))
/-- upper -/
def b_upper (c : CT) : Fs := (fret (fif (fbin (gis false) (fvar 0) (fcon .non)) (fcon .non) (fargs (c 52) (fcons (fvar 1) (fcons (fbin gix (fvar 0) (fcon (.int 0))) fnil)))))
/-- lower -/
def b_lower (c : CT) : Fs := (fret (fif (fbin (gis false) (fvar 0) (fcon .non)) (fcon .non) (fargs (c 52) (fcons (fvar 1) (fcons (fun1 gneg (fbin gix (fvar 0) (fcon (.int 0)))) fnil)))))
/-- point_of -/
def b_point_of (c : CT) : Fs := (fseq (fset 1 (ftup (fcons (fcon (.int 0)) (fcons (fcon (.int 1)) fnil))))
  (fseq (fset 2 (fargs (c 102) (fcons (fargs (c 104) (fcons (fbin gix (fbin gix (fvar 0) (fcon (.int 0))) (fcon (.int 1))) (fcons (fvar 1) fnil))) (fcons (fargs (c 103) (fcons (fbin gix (fbin gix (fvar 0) (fcon (.int 1))) (fcon (.int 0))) (fcons (fvar 1) fnil))) fnil))))
  (fseq (fpar [3, 4] (fcons (fargs (c 104) (fcons (fbin gix (fbin gix (fvar 0) (fcon (.int 0))) (fcon (.int 2))) (fcons (fvar 1) fnil))) (fcons (fargs (c 103) (fcons (fbin gix (fbin gix (fvar 0) (fcon (.int 2))) (fcon (.int 0))) (fcons (fvar 1) fnil))) fnil)))
  (fseq (fpar [5, 6] (fcons (fargs (c 104) (fcons (fbin gix (fbin gix (fvar 0) (fcon (.int 1))) (fcon (.int 2))) (fcons (fvar 2) fnil))) (fcons (fargs (c 103) (fcons (fbin gix (fbin gix (fvar 0) (fcon (.int 2))) (fcon (.int 1))) (fcons (fvar 2) fnil))) fnil)))
  (fseq (fifS (for_ (fbin (gis false) (fvar 3) (fcon .non)) (fand (fbin (gis true) (fvar 5) (fcon .non)) (fargs (c 53) (fcons (fvar 3) (fcons (fvar 5) fnil))))) (fset 3 (fvar 5)) fskip)
  (fseq (fifS (for_ (fbin (gis false) (fvar 4) (fcon .non)) (fand (fbin (gis true) (fvar 6) (fcon .non)) (fargs (c 53) (fcons (fvar 6) (fcons (fvar 4) fnil))))) (fset 4 (fvar 6)) fskip)
  (fret (ftup (fcons (fvar 1) (fcons (fvar 2) (fcons (fargs (c 102) (fcons (fvar 3) (fcons (fvar 4) fnil))) fnil)))))))))))
/-- moments_for -/
def b_moments_for (c : CT) : Fs := (fseq (fdrop (fargs (c 91) (fcons (fvar 0) fnil)))
  (fseq (fset 1 (fargs (c 101) (fcons (fvar 0) fnil)))
  (fret (fif (fbin gne (fvar 1) (flst fnil)) (fargs (c 105) (fcons (fbin gix (fvar 1) (fcon (.int 0))) fnil)) (fcon .non)))))
/-- chosen -/
def b_chosen (c : CT) : Fs := (fret (fargs (g1 gtuple1) (fcons (fcomp (.one 2) (fiSeq (fvar 1)) none (fbin gix (fvar 0) (fvar 2)) [2]) fnil)))
/-- ring -/
def b_ring (c : CT) : Fs := (fseq (fdrop (fargs (c 91) (fcons (fvar 0) fnil)))
  (fseq (ffor (.one 1) (fiA (gi2 giR2) (fcons (fcon (.int 1)) (fcons (fbin gadd (fargs (g1 glen) (fcons (fvar 0) fnil)) (fcon (.int 1))) fnil))) (ffor (.one 2) (fiSeq (fargs (c 107) (fcons (fargs (g1 glen) (fcons (fvar 0) fnil)) (fcons (fvar 1) fnil)))) (fifS (fbin geq (fargs (c 101) (fcons (fargs (c 108) (fcons (fvar 0) (fcons (fvar 2) fnil))) fnil)) (flst fnil)) (fret (fvar 2)) fskip)))
  (fret (fcon .non))))
/-- _law_holds -/
def b__law_holds (c : CT) : Fs := (fseq (funpT [3, 4] (fargs (c 82) (fcons (fvar 1) (fcons (fvar 2) (fcons (fslice (fvar 0) (some (fcon (.int 1))) none) fnil)))))
  (fseq (fifS (fbin geq (fbin gix (fvar 0) (fcon (.int 0))) (fcon (.str "same"))) (fret (fbin geq (fbin gix (fvar 3) (fcon (.int 0))) (fbin gix (fvar 4) (fcon (.int 0))))) fskip)
  (fret (for_ (fbin glt (fbin gix (fvar 3) (fcon (.int 0))) (fbin gix (fvar 4) (fcon (.int 0)))) (fand (fbin geq (fbin gix (fvar 0) (fcon (.int 0))) (fcon (.str "upto"))) (fbin geq (fbin gix (fvar 3) (fcon (.int 0))) (fbin gix (fvar 4) (fcon (.int 0)))))))))
/-- _law_all_hold -/
def b__law_all_hold (c : CT) : Fs := (fret (fbin geq (fcomp (.one 3) (fiSeq (fvar 0)) (some (fnot (fargs (c 110) (fcons (fvar 3) (fcons (fvar 1) (fcons (fvar 2) fnil)))))) (fvar 3) [3]) (flst fnil)))
/-- _law_reach -/
def b__law_reach (c : CT) : Fs := (fseq (funpT [1, 2] (fargs (c 42) (fcons (fvar 0) fnil)))
  (fret (fbin gadd (fbin gmul (fcon (.int 2)) (fvar 1)) (fbin gmul (fcon (.int 2)) (fvar 2)))))
/-- _law_kept_by -/
def b__law_kept_by (c : CT) : Fs := (fseq (fifS (fnot (fargs (c 29) (fcons (fvar 1) fnil))) (fret (fcon (.bl false))) fskip)
  (fseq (funpT [2, 3] (fargs (c 88) (fcons (fvar 1) fnil)))
  (fret (fargs (c 111) (fcons (fvar 0) (fcons (fvar 2) (fcons (fvar 3) fnil)))))))
/-- _law_can -/
def b__law_can (c : CT) : Fs := (fret (fbin gne (fcomp (.one 2) (fiSeq (fvar 0)) (some (fbin geq (fcomp (.one 3) (fiSeq (fvar 1)) (some (fbin (gin true) (fvar 3) (fvar 2))) (fvar 3) [3]) (flst fnil))) (fvar 2) [2]) (flst fnil)))
/-- _law_fewest -/
def b__law_fewest (c : CT) : Fs := (fseq (fset 2 (flst (fcons (ftup fnil) fnil)))
  (fseq (ffor (.one 3) (fiA (gi1 giR1) (fcons (fbin gadd (fvar 1) (fcon (.int 1))) fnil)) (fseq (fifS (fbin gne (fcomp (.one 4) (fiSeq (fvar 2)) (some (fnot (fargs (c 115) (fcons (fvar 0) (fcons (fvar 4) fnil))))) (fvar 4) [4]) (flst fnil)) (fret (fvar 3)) fskip)
  (fseq (fset 5 (flst fnil))
  (fseq (ffor (.one 4) (fiSeq (fvar 2)) (fset 5 (fbin gadd (fvar 5) (fcomp (.one 6) (fiA (gi1 giR1) (fcons (fvar 1) fnil)) (some (for_ (fbin geq (fvar 4) (ftup fnil)) (fbin glt (fbin gix (fvar 4) (fun1 gneg (fcon (.int 1)))) (fvar 6)))) (fbin gadd (fvar 4) (ftup (fcons (fvar 6) fnil))) [6]))))
  (fset 2 (fvar 5))))))
  (fret (fcon .non))))
/-- need_fact -/
def b_need_fact (c : CT) : Fs := (fifS (fnot (fargs (c 3) (fcons (fvar 0) fnil))) (fraise 4) fskip)
/-- need_term -/
def b_need_term (c : CT) : Fs := (fifS (fnot (fargs (c 2) (fcons (fvar 0) fnil))) (fraise 6) fskip)
/-- refined -/
def b_refined (c : CT) : Fs := (fseq (fset 3 (fcomp (.one 4) (fiSeq (ftup (fcons (fun1 gneg (fcon (.int 1))) (fcons (fcon (.int 0)) (fcons (fcon (.int 1)) fnil))))) none (fargs (c 99) (fcons (fvar 0) (fcons (fvar 1) (fcons (fvar 2) (fcons (fvar 4) fnil))))) [4]))
  (fret (fcomp (.one 5) (fiSeq (fvar 3)) (some (fbin (gis true) (fvar 5) (fcon .non))) (fvar 5) [5])))
/-- gap_in -/
def b_gap_in (c : CT) : Fs := (fseq (fpar [3, 4] (fcons (fbin gix (fbin gix (fvar 0) (fbin gix (fvar 1) (fcon (.int 0)))) (fbin gix (fvar 2) (fcon (.int 0)))) (fcons (fbin gix (fbin gix (fvar 0) (fbin gix (fvar 2) (fcon (.int 0)))) (fbin gix (fvar 1) (fcon (.int 0)))) fnil)))
  (fseq (fset 5 (fbin gsub (fbin gix (fvar 1) (fcon (.int 1))) (fbin gix (fvar 2) (fcon (.int 1)))))
  (fseq (fset 6 (fif (fbin (gis false) (fvar 4) (fcon .non)) (fcon .non) (ftup (fcons (fbin gsub (fvar 5) (fbin gix (fvar 4) (fcon (.int 0)))) (fcons (fnot (fbin gix (fvar 4) (fcon (.int 1)))) fnil)))))
  (fseq (fset 7 (fif (fbin (gis false) (fvar 3) (fcon .non)) (fcon .non) (ftup (fcons (fbin gadd (fvar 5) (fbin gix (fvar 3) (fcon (.int 0)))) (fcons (fnot (fbin gix (fvar 3) (fcon (.int 1)))) fnil)))))
  (fret (ftup (fcons (fvar 6) (fcons (fvar 7) fnil))))))))
/-- lowest_of -/
def b_lowest_of (c : CT) : Fs := (fseq (fifS (fbin (gin false) (fcon .non) (fvar 0)) (fret (fcon .non)) fskip)
  (fseq (fset 2 (fargs (g2 gmin2) (fcons (fcomp (.all [3, 4]) (fiSeq (fvar 0)) none (fbin gmul (fvar 1) (fvar 3)) [3, 4]) fnil)))
  (fret (ftup (fcons (fbin gmul (fvar 1) (fvar 2)) (fcons (fbin (gin false) (fcon (.bl true)) (fcomp (.all [3, 4]) (fiSeq (fvar 0)) (some (fbin geq (fbin gmul (fvar 1) (fvar 3)) (fvar 2))) (fvar 4) [3, 4])) fnil))))))
/-- bounds_of -/
def b_bounds_of (c : CT) : Fs := (fret (ftup (fcons (fargs (c 122) (fcons (fcomp (.all [1, 2]) (fiSeq (fvar 0)) none (fvar 1) [1, 2]) (fcons (fcon (.int 1)) fnil))) (fcons (fargs (c 122) (fcons (fcomp (.all [1, 2]) (fiSeq (fvar 0)) none (fvar 2) [1, 2]) (fcons (fun1 gneg (fcon (.int 1))) fnil))) fnil))))
/-- need_possible -/
def b_need_possible (c : CT) : Fs := (fifS (fbin geq (fargs (c 101) (fcons (fvar 0) fnil)) (flst fnil)) (fraise 11) fskip)
/-- is_so -/
def b_is_so (c : CT) : Fs := (fseq (fset 2 (fargs (c 55) (fcons (fvar 0) (fcons (fargs (c 54) (fcons (fbin gix (fvar 1) (fcon (.int 1))) fnil)) (fcons (fargs (c 54) (fcons (fbin gix (fvar 1) (fcon (.int 2))) fnil)) fnil)))))
  (fret (fif (fbin gne (fbin gix (fvar 1) (fcon (.int 0))) (fcon (.str "same"))) (for_ (fbin glt (fvar 2) (fcon (.int 0))) (fand (fbin geq (fvar 2) (fcon (.int 0))) (fbin geq (fbin gix (fvar 1) (fcon (.int 0))) (fcon (.str "upto"))))) (fbin geq (fvar 2) (fcon (.int 0))))))
/-- truth_of -/
def b_truth_of (c : CT) : Fs := (fseq (fset 2 (fcomp (.all [3, 4]) (fiSeq (fho (h_explored c) (fcons (fvar 0) fnil) (flam 1 [1] (fargs (c 125) (fcons (fvar 0) (fcons (fvar 1) fnil)))))) none (fvar 4) [3, 4]))
  (fret (fif (fand (fbin (gin false) (fcon (.bl true)) (fvar 2)) (fbin (gin false) (fcon (.bl false)) (fvar 2))) (fcon .non) (fbin (gin false) (fcon (.bl true)) (fvar 2)))))
/-- follows -/
def b_follows (c : CT) : Fs := (fseq (fdrop (fargs (c 91) (fcons (fvar 0) fnil)))
  (fseq (fdrop (fargs (c 117) (fcons (fvar 1) fnil)))
  (fseq (fdrop (fargs (c 124) (fcons (fvar 0) fnil)))
  (fret (fargs (c 126) (fcons (fvar 0) (fcons (fvar 1) fnil)))))))
/-- needless_facts -/
def b_needless_facts (c : CT) : Fs := (fseq (fdrop (fargs (c 91) (fcons (fvar 0) fnil)))
  (fseq (fdrop (fargs (c 124) (fcons (fvar 0) fnil)))
  (fret (fcomp (.one 1) (fiA (gi1 giR1) (fcons (fargs (g1 glen) (fcons (fvar 0) fnil)) fnil)) (some (fbin (gis false) (fargs (c 126) (fcons (fbin gadd (fslice (fvar 0) none (some (fvar 1))) (fslice (fvar 0) (some (fbin gadd (fvar 1) (fcon (.int 1)))) none)) (fcons (fbin gix (fvar 0) (fvar 1)) fnil))) (fcon (.bl true)))) (fvar 1) [1]))))
/-- gap -/
def b_gap (c : CT) : Fs := (fseq (fdrop (fargs (c 91) (fcons (fvar 0) fnil)))
  (fseq (fdrop (fargs (c 118) (fcons (fvar 1) fnil)))
  (fseq (fdrop (fargs (c 118) (fcons (fvar 2) fnil)))
  (fseq (fdrop (fargs (c 124) (fcons (fvar 0) fnil)))
  (fret (fargs (c 123) (fcons (fcomp (.one 3) (fiSeq (fargs (c 101) (fcons (fvar 0) fnil))) none (fargs (c 121) (fcons (fvar 3) (fcons (fargs (c 54) (fcons (fvar 1) fnil)) (fcons (fargs (c 54) (fcons (fvar 2) fnil)) fnil)))) [3]) fnil)))))))
/-- _law_least -/
def b__law_least (c : CT) : Fs := (fseq (fset 3 (fargs (g2 gmin2) (fcons (fcomp (.one 4) (fiSeq (fvar 0)) none (fbin gmul (fvar 2) (fvar 4)) [4]) fnil)))
  (fseq (fifS (fbin glt (fvar 3) (fun1 gneg (fvar 1))) (fret (fcon .non)) fskip)
  (fret (ftup (fcons (fbin gmul (fvar 2) (fbin gdiv (fvar 3) (fcon (.int 3)))) (fcons (fbin geq (fbin gmod (fvar 3) (fcon (.int 3))) (fcon (.int 0))) fnil))))))
/-- _law_truth -/
def b__law_truth (c : CT) : Fs := (fseq (fset 3 (fcomp (.one 4) (fiSeq (fargs (c 113) (fcons (fvar 0) (fcons (fvar 2) fnil)))) none (fargs (c 110) (fcons (fvar 1) (fcons (fvar 4) (fcons (fcon (.int 3)) fnil)))) [4]))
  (fret (fif (fand (fbin (gin false) (fcon (.bl true)) (fvar 3)) (fbin (gin false) (fcon (.bl false)) (fvar 3))) (fcon .non) (fbin (gin false) (fcon (.bl true)) (fvar 3)))))
/-- _law_gap -/
def b__law_gap (c : CT) : Fs := (fseq (fset 4 (fnewL fnil))
  (fseq (ffor (.one 5) (fiSeq (fargs (c 113) (fcons (fvar 0) (fcons (fvar 3) fnil)))) (fseq (funpT [6, 7] (fargs (c 82) (fcons (fvar 5) (fcons (fcon (.int 3)) (fcons (flst (fcons (ftup (fcons (fbin gix (fvar 1) (fcon (.int 0))) (fcons (fcon (.int 0)) fnil))) (fcons (ftup (fcons (fbin gix (fvar 2) (fcon (.int 0))) (fcons (fcon (.int 0)) fnil))) fnil))) fnil)))))
  (fdrop (fappend (fvar 4) (fbin gsub (fbin gix (fvar 6) (fcon (.int 0))) (fbin gix (fvar 7) (fcon (.int 0))))))))
  (fseq (fset 8 (ftup fnil))
  (fseq (ffor (.one 9) (fiSeq (ftup (fcons (fcon (.int 1)) (fcons (fun1 gneg (fcon (.int 1))) fnil)))) (fseq (fpar [10, 11] (fcons (fargs (c 130) (fcons (ffrz 4) (fcons (fbin gadd (fbin gmul (fcon (.int 15)) (fvar 3)) (fcon (.int 30))) (fcons (fvar 9) fnil)))) (fcons (fbin gsub (fbin gix (fvar 1) (fcon (.int 1))) (fbin gix (fvar 2) (fcon (.int 1)))) fnil)))
  (fset 8 (fbin gadd (fvar 8) (ftup (fcons (fif (fbin (gis false) (fvar 10) (fcon .non)) (fcon .non) (ftup (fcons (fbin gadd (fbin gix (fvar 10) (fcon (.int 0))) (fvar 11)) (fcons (fbin gix (fvar 10) (fcon (.int 1))) fnil)))) fnil))))))
  (fret (fvar 8))))))
/-- outcomes -/
def b_outcomes (c : CT) : Fs := (fret (fho (h_explored c) (fcons (fvar 1) fnil) (flam 1 [0] (fargs (c 72) (fcons (fvar 0) (fcons (fcon .non) (fcons (fvar 1) fnil)))))))
/-- moments_with -/
def b_moments_with (c : CT) : Fs := (fseq (fdrop (fargs (c 16) (fcons (fvar 0) fnil)))
  (fseq (fdrop (fargs (c 91) (fcons (fvar 1) fnil)))
  (fseq (fifS (fnot (fargs (c 0) (fcons (fvar 2) (fcons (fcon (.int 0)) (fcons (fcon (.int 20)) fnil))))) (fraise 7) fskip)
  (fseq (fset 3 (fcomp (.all [4, 5]) (fiSeq (fargs (c 133) (fcons (fvar 0) (fcons (fvar 1) fnil)))) (some (fbin geq (fargs (g1 glen) (fcons (fbin gix (fvar 5) (fcon (.int 0))) fnil)) (fvar 2))) (fvar 4) [4, 5]))
  (fret (fif (fbin gne (fvar 3) (flst fnil)) (fargs (c 105) (fcons (fbin gix (fvar 3) (fcon (.int 0))) fnil)) (fcon .non)))))))
/-- whether -/
def b_whether (c : CT) : Fs := (fseq (fdrop (fargs (c 16) (fcons (fvar 0) fnil)))
  (fseq (fdrop (fargs (c 91) (fcons (fvar 1) fnil)))
  (fseq (fdrop (fargs (c 118) (fcons (fvar 2) fnil)))
  (fseq (fdrop (fargs (c 124) (fcons (fvar 1) fnil)))
  (fseq (fset 4 (fargs (c 54) (fcons (fvar 2) fnil)))
  (fseq (fset 3 (fcomp (.all [5, 6]) (fiSeq (fho (h_explored c) (fcons (fvar 1) fnil) (flam 1 [4, 0] (fargs (c 68) (fcons (fvar 0) (fcons (fbin gix (fargs (c 72) (fcons (fvar 0) (fcons (fcon .non) (fcons (fvar 2) fnil)))) (fcon (.int 0))) (fcons (fvar 1) fnil))))))) none (fvar 6) [5, 6]))
  (fret (fif (fand (fbin (gin false) (fcon (.bl true)) (fvar 3)) (fbin (gin false) (fcon (.bl false)) (fvar 3))) (fcon .non) (fbin (gin false) (fcon (.bl true)) (fvar 3))))))))))
/-- sum_bound -/
def b_sum_bound (c : CT) : Fs := (fseq (fset 3 (fcomp (.one 10) (fiA (gi1 giR1) (fcons (fcon (.int 3)) fnil)) (some (fbin ggt (fbin gix (fvar 1) (fvar 10)) (fcon (.int 0)))) (fvar 10) [10]))
  (fseq (fset 4 (fcomp (.one 10) (fiA (gi1 giR1) (fcons (fcon (.int 3)) fnil)) (some (fbin glt (fbin gix (fvar 1) (fvar 10)) (fcon (.int 0)))) (fvar 10) [10]))
  (fseq (fpar [5, 6] (fcons (fvar 2) (fcons (fcon (.bl true)) fnil)))
  (fseq (ffor (.one 7) (fiSeq (fvar 3)) (ffor (.one 8) (fiSeq (fvar 4)) (fseq (fset 9 (fargs (g2 gmin2) (fcons (fbin gix (fvar 1) (fvar 7)) (fcons (fun1 gneg (fbin gix (fvar 1) (fvar 8))) fnil))))
  (fseq (fifS (fbin (gis false) (fbin gix (fbin gix (fvar 0) (fvar 7)) (fvar 8)) (fcon .non)) (fret (fcon .non)) fskip)
  (fseq (fset 5 (fbin gadd (fvar 5) (fbin gmul (fvar 9) (fbin gix (fbin gix (fbin gix (fvar 0) (fvar 7)) (fvar 8)) (fcon (.int 0))))))
  (fset 6 (fand (fvar 6) (fnot (fbin gix (fbin gix (fbin gix (fvar 0) (fvar 7)) (fvar 8)) (fcon (.int 1)))))))))))
  (fret (ftup (fcons (fvar 5) (fcons (fvar 6) fnil))))))))
/-- sum_in -/
def b_sum_in (c : CT) : Fs := (fseq (fset 3 (fargs (c 138) (fcons (fvar 0) (fcons (fcomp (.one 4) (fiSeq (fvar 1)) none (fun1 gneg (fvar 4)) [4]) (fcons (fun1 gneg (fvar 2)) fnil)))))
  (fret (ftup (fcons (fif (fbin (gis false) (fvar 3) (fcon .non)) (fcon .non) (ftup (fcons (fun1 gneg (fbin gix (fvar 3) (fcon (.int 0)))) (fcons (fbin gix (fvar 3) (fcon (.int 1))) fnil)))) (fcons (fargs (c 138) (fcons (fvar 0) (fcons (fvar 1) (fcons (fvar 2) fnil)))) fnil)))))
/-- factors_of -/
def b_factors_of (c : CT) : Fs := (fseq (fpar [1, 2] (fcons (fbin gmulM (flst (fcons (fcon (.int 0)) fnil)) (fargs (g1 glen) (fcons (fcon (.tup [.str "a", .str "b", .str "c"])) fnil))) (fcons (fcon (.int 0)) fnil)))
  (fseq (ffor (.all [3, 4]) (fiSeq (fvar 0)) (fseq (fsetIx (fvar 1) (fbin gix (fvar 4) (fcon (.int 0))) (fbin gadd (fbin gix (fvar 1) (fbin gix (fvar 4) (fcon (.int 0)))) (fcon (.int 1))))
  (fseq (fsetIx (fvar 1) (fbin gix (fvar 3) (fcon (.int 0))) (fbin gsub (fbin gix (fvar 1) (fbin gix (fvar 3) (fcon (.int 0)))) (fcon (.int 1))))
  (fset 2 (fbin gsub (fbin gadd (fvar 2) (fbin gix (fvar 4) (fcon (.int 1)))) (fbin gix (fvar 3) (fcon (.int 1))))))))
  (fret (ftup (fcons (ffrz 1) (fcons (fvar 2) fnil))))))
/-- length_bounds -/
def b_length_bounds (c : CT) : Fs := (fseq (fdrop (fargs (c 16) (fcons (fvar 0) fnil)))
  (fseq (fdrop (fargs (c 91) (fcons (fvar 1) fnil)))
  (fseq (fdrop (fargs (c 124) (fcons (fvar 1) fnil)))
  (fseq (fset 2 (fnewL fnil))
  (fseq (ffor (.all [3, 4]) (fiSeq (fargs (c 133) (fcons (fvar 0) (fcons (fvar 1) fnil)))) (fseq (funpT [5, 6] (fargs (c 140) (fcons (fbin gix (fvar 4) (fcon (.int 0))) fnil)))
  (fdrop (fappend (fvar 2) (fargs (c 139) (fcons (fvar 3) (fcons (fvar 5) (fcons (fvar 6) fnil))))))))
  (fret (fargs (c 123) (fcons (ffrz 2) fnil))))))))
/-- _law_corners -/
def b__law_corners (c : CT) : Fs := (fseq (fpar [1, 2, 3] (fcons (fbin gix (fvar 0) (fcon (.int 1))) (fcons (fbin gix (fvar 0) (fcon (.int 2))) (fcons (fnewL fnil) fnil))))
  (fseq (fpar [4, 5] (fcons (fbin gdiv (fbin gsub (fvar 1) (fvar 2)) (fcon (.int 3))) (fcons (fun1 gneg (fbin gdiv (fbin gsub (fvar 2) (fvar 1)) (fcon (.int 3)))) fnil)))
  (fseq (ffor (.one 6) (fiA (gi2 giR2) (fcons (fbin gdiv (fvar 1) (fcon (.int 3))) (fcons (fbin gadd (fun1 gneg (fbin gdiv (fun1 gneg (fvar 1)) (fcon (.int 3)))) (fcon (.int 1))) fnil))) (ffor (.one 7) (fiA (gi2 giR2) (fcons (fbin gdiv (fvar 2) (fcon (.int 3))) (fcons (fbin gadd (fun1 gneg (fbin gdiv (fun1 gneg (fvar 2)) (fcon (.int 3)))) (fcon (.int 1))) fnil))) (fifS (fchain gle gle (fvar 4) (fbin gsub (fvar 6) (fvar 7)) (fvar 5)) (fdrop (fappend (fvar 3) (ftup (fcons (fcon (.int 0)) (fcons (fvar 6) (fcons (fvar 7) fnil)))))) fskip)))
  (fret (ffrz 3)))))
/-- _law_form -/
def b__law_form (c : CT) : Fs := (fseq (fpar [1, 2] (fcons (fnewL (fcons (fcon (.int 0)) (fcons (fcon (.int 0)) (fcons (fcon (.int 0)) fnil)))) (fcons (fcon (.int 0)) fnil)))
  (fseq (ffor (.all [3, 4]) (fiSeq (fvar 0)) (fseq (fsetIx (fvar 1) (fbin gix (fvar 4) (fcon (.int 1))) (fbin gadd (fbin gix (fvar 1) (fbin gix (fvar 4) (fcon (.int 1)))) (fcon (.int 1))))
  (fseq (fsetIx (fvar 1) (fbin gix (fvar 3) (fcon (.int 1))) (fbin gsub (fbin gix (fvar 1) (fbin gix (fvar 3) (fcon (.int 1)))) (fcon (.int 1))))
  (fset 2 (fbin gsub (fbin gadd (fvar 2) (fbin gix (fvar 4) (fcon (.int 2)))) (fbin gix (fvar 3) (fcon (.int 2))))))))
  (fret (ftup (fcons (ffrz 1) (fcons (fvar 2) fnil))))))
/-- _law_times -/
def b__law_times (c : CT) : Fs := (fret (fargs (g1 gsum) (fcons (fcomp (.all [2, 3]) (fiA (gi2 giZip) (fcons (fvar 0) (fcons (fvar 1) fnil))) none (fbin gmul (fvar 2) (fvar 3)) [2, 3]) fnil)))
/-- _law_beyond -/
def b__law_beyond (c : CT) : Fs := (fseq (funpT [2, 3] (fvar 0))
  (fseq (fifS (fbin glt (fbin gix (fvar 1) (fcon (.int 0))) (fbin gmul (fbin gix (fvar 2) (fcon (.int 0))) (fbin gix (fvar 1) (fcon (.int 1))))) (fret (fcon (.bl true))) fskip)
  (fret (fand (fbin (gis true) (fvar 3) (fcon .non)) (fbin ggt (fbin gix (fvar 1) (fcon (.int 0))) (fbin gmul (fbin gix (fvar 3) (fcon (.int 0))) (fbin gix (fvar 1) (fcon (.int 1)))))))))
/-- are_same -/
def b_are_same (c : CT) : Fs := (fseq (fifS (fbin gne (fargs (g1 glen) (fcons (fvar 1) fnil)) (fargs (g1 glen) (fcons (fvar 2) fnil))) (fret (fcon (.bl false))) fskip)
  (fseq (ffor (.all [3, 4]) (fiA (gi2 giZip) (fcons (fvar 1) (fcons (fvar 2) fnil))) (fifS (for_ (fbin gne (fargs (c 55) (fcons (fvar 0) (fcons (fbin gix (fvar 3) (fcon (.int 0))) (fcons (fbin gix (fvar 4) (fcon (.int 0))) fnil)))) (fcon (.int 0))) (fbin gne (fargs (c 55) (fcons (fvar 0) (fcons (fbin gix (fvar 3) (fcon (.int 1))) (fcons (fbin gix (fvar 4) (fcon (.int 1))) fnil)))) (fcon (.int 0)))) (fret (fcon (.bl false))) fskip))
  (fret (fcon (.bl true)))))
/-- is_alike_in -/
def b_is_alike_in (c : CT) : Fs := (fret (fargs (c 147) (fcons (fvar 0) (fcons (fbin gix (fargs (c 72) (fcons (fvar 0) (fcons (fcon .non) (fcons (fvar 1) fnil)))) (fcon (.int 0))) (fcons (fbin gix (fargs (c 72) (fcons (fvar 0) (fcons (fcon .non) (fcons (fvar 2) fnil)))) (fcon (.int 0))) fnil)))))
/-- is_inside_in -/
def b_is_inside_in (c : CT) : Fs := (fret (fbin geq (fargs (c 62) (fcons (fvar 0) (fcons (fbin gix (fargs (c 72) (fcons (fvar 0) (fcons (fcon .non) (fcons (fvar 1) fnil)))) (fcon (.int 0))) (fcons (fbin gix (fargs (c 72) (fcons (fvar 0) (fcons (fcon .non) (fcons (fvar 2) fnil)))) (fcon (.int 0))) fnil)))) (ftup fnil)))
/-- the common defs as data -/
def T0 (c : CT) : Nat → Df
  | 0 => ⟨3, 3, b_is_whole c⟩
  | 1 => ⟨2, 2, b_is_word c⟩
  | 2 => ⟨1, 1, b_is_term c⟩
  | 3 => ⟨1, 1, b_is_fact c⟩
  | 4 => ⟨1, 2, b_is_facts c⟩
  | 5 => ⟨2, 4, b_divisor c⟩
  | 6 => ⟨1, 1, b_is_fraction c⟩
  | 7 => ⟨1, 2, b_is_moments c⟩
  | 8 => ⟨1, 1, b_is_condition c⟩
  | 9 => ⟨1, 1, b_is_end c⟩
  | 10 => ⟨1, 1, b_is_plain c⟩
  | 11 => ⟨1, 2, b_is_body c⟩
  | 12 => ⟨1, 1, b_is_step c⟩
  | 13 => ⟨1, 1, b_size_of c⟩
  | 14 => ⟨1, 2, b_steps_in c⟩
  | 15 => ⟨1, 2, b_is_script c⟩
  | 16 => ⟨1, 1, b_need_script c⟩
  | 17 => ⟨1, 1, b_count_steps c⟩
  | 18 => ⟨2, 3, b__law_vat c⟩
  | 19 => ⟨2, 4, b__law_under c⟩
  | 20 => ⟨2, 2, b__law_some c⟩
  | 21 => ⟨3, 3, b__law_is_whole c⟩
  | 22 => ⟨2, 2, b__law_truly c⟩
  | 23 => ⟨2, 4, b__law_lowest c⟩
  | 24 => ⟨1, 1, b__law_is_term c⟩
  | 25 => ⟨1, 1, b__law_are_terms c⟩
  | 26 => ⟨1, 1, b__law_is_fact c⟩
  | 27 => ⟨1, 2, b__law_are_facts c⟩
  | 28 => ⟨1, 1, b__law_is_part c⟩
  | 29 => ⟨1, 2, b__law_are_moments c⟩
  | 30 => ⟨1, 1, b__law_is_condition c⟩
  | 31 => ⟨1, 2, b__law_is_simple c⟩
  | 32 => ⟨1, 3, b__law_is_step c⟩
  | 33 => ⟨1, 3, b__law_size c⟩
  | 34 => ⟨1, 2, b__law_is_script c⟩
  | 35 => ⟨1, 1, b__law_term c⟩
  | 36 => ⟨1, 1, b__law_fact c⟩
  | 37 => ⟨2, 3, b__law_facts c⟩
  | 38 => ⟨1, 2, b__law_condition c⟩
  | 39 => ⟨1, 2, b__law_simple c⟩
  | 40 => ⟨1, 4, b__law_step c⟩
  | 41 => ⟨2, 5, b__law_script c⟩
  | 42 => ⟨1, 6, b__law_numbers c⟩
  | 43 => ⟨1, 5, b__law_moments c⟩
  | 46 => ⟨2, 5, b__law_odd c⟩
  | 48 => ⟨1, 1, b__law_judged c⟩
  | 49 => ⟨1, 1, b_need_moments c⟩
  | 50 => ⟨2, 3, b_lowest c⟩
  | 51 => ⟨2, 2, b_added c⟩
  | 52 => ⟨2, 2, b_later c⟩
  | 53 => ⟨2, 2, b_less c⟩
  | 55 => ⟨3, 6, b_sign_of c⟩
  | 56 => ⟨3, 3, b_is_ahead c⟩
  | 57 => ⟨3, 3, b_first_of c⟩
  | 58 => ⟨3, 3, b_last_of c⟩
  | 59 => ⟨4, 7, b_joined c⟩
  | 60 => ⟨4, 8, b_lessened c⟩
  | 61 => ⟨4, 8, b_clipped c⟩
  | 62 => ⟨3, 5, b_without c⟩
  | 63 => ⟨3, 3, b_moved c⟩
  | 64 => ⟨3, 5, b_shifted c⟩
  | 65 => ⟨3, 6, b_widened c⟩
  | 66 => ⟨1, 3, b_gaps_of c⟩
  | 68 => ⟨3, 6, b_has c⟩
  | 69 => ⟨2, 6, b_ends_in c⟩
  | 70 => ⟨4, 5, b_is_met c⟩
  | 71 => ⟨4, 6, b_behind_plain c⟩
  | 72 => ⟨3, 9, b_run c⟩
  | 73 => ⟨2, 2, b_pieces_at c⟩
  | 74 => ⟨1, 4, b_measure c⟩
  | 75 => ⟨2, 2, b_result c⟩
  | 76 => ⟨2, 2, b_answers c⟩
  | 77 => ⟨2, 2, b_length c⟩
  | 79 => ⟨3, 6, b__law_taken c⟩
  | 80 => ⟨3, 6, b__law_kept c⟩
  | 81 => ⟨3, 3, b__law_later c⟩
  | 83 => ⟨4, 15, b__law_does c⟩
  | 84 => ⟨2, 4, b__law_has c⟩
  | 85 => ⟨4, 8, b__law_met c⟩
  | 86 => ⟨3, 9, b__law_run c⟩
  | 87 => ⟨1, 3, b__law_plain c⟩
  | 88 => ⟨1, 4, b__law_row c⟩
  | 89 => ⟨2, 7, b__law_lot_of c⟩
  | 90 => ⟨2, 10, b__law_right c⟩
  | 91 => ⟨1, 1, b_need_facts c⟩
  | 93 => ⟨2, 5, b_is_kept c⟩
  | 94 => ⟨2, 3, b_keeps c⟩
  | 95 => ⟨2, 2, b_tighter c⟩
  | 96 => ⟨2, 2, b_together c⟩
  | 97 => ⟨0, 2, b_free_table c⟩
  | 98 => ⟨4, 11, b_with_bound c⟩
  | 99 => ⟨4, 6, b_with_sign c⟩
  | 102 => ⟨2, 2, b_number_between c⟩
  | 103 => ⟨2, 2, b_upper c⟩
  | 104 => ⟨2, 2, b_lower c⟩
  | 105 => ⟨1, 7, b_point_of c⟩
  | 106 => ⟨1, 2, b_moments_for c⟩
  | 108 => ⟨2, 3, b_chosen c⟩
  | 109 => ⟨1, 3, b_ring c⟩
  | 110 => ⟨3, 5, b__law_holds c⟩
  | 111 => ⟨3, 4, b__law_all_hold c⟩
  | 112 => ⟨1, 3, b__law_reach c⟩
  | 114 => ⟨2, 4, b__law_kept_by c⟩
  | 115 => ⟨2, 4, b__law_can c⟩
  | 116 => ⟨2, 7, b__law_fewest c⟩
  | 117 => ⟨1, 1, b_need_fact c⟩
  | 118 => ⟨1, 1, b_need_term c⟩
  | 119 => ⟨3, 6, b_refined c⟩
  | 121 => ⟨3, 8, b_gap_in c⟩
  | 122 => ⟨2, 5, b_lowest_of c⟩
  | 123 => ⟨1, 3, b_bounds_of c⟩
  | 124 => ⟨1, 1, b_need_possible c⟩
  | 125 => ⟨2, 3, b_is_so c⟩
  | 126 => ⟨2, 5, b_truth_of c⟩
  | 127 => ⟨2, 2, b_follows c⟩
  | 128 => ⟨1, 2, b_needless_facts c⟩
  | 129 => ⟨3, 4, b_gap c⟩
  | 130 => ⟨3, 5, b__law_least c⟩
  | 131 => ⟨3, 5, b__law_truth c⟩
  | 132 => ⟨4, 12, b__law_gap c⟩
  | 133 => ⟨2, 2, b_outcomes c⟩
  | 136 => ⟨3, 6, b_moments_with c⟩
  | 137 => ⟨3, 7, b_whether c⟩
  | 138 => ⟨3, 11, b_sum_bound c⟩
  | 139 => ⟨3, 5, b_sum_in c⟩
  | 140 => ⟨1, 5, b_factors_of c⟩
  | 141 => ⟨2, 7, b_length_bounds c⟩
  | 142 => ⟨1, 8, b__law_corners c⟩
  | 143 => ⟨1, 5, b__law_form c⟩
  | 144 => ⟨2, 4, b__law_times c⟩
  | 145 => ⟨2, 4, b__law_beyond c⟩
  | 147 => ⟨3, 5, b_are_same c⟩
  | 148 => ⟨3, 3, b_is_alike_in c⟩
  | 149 => ⟨3, 3, b_is_inside_in c⟩
  | 151 => ⟨3, 3, b_parted_by c⟩
  | 152 => ⟨3, 3, b_need_all c⟩
  | 153 => ⟨3, 3, b_alike c⟩
  | 154 => ⟨3, 3, b_parting c⟩
  | 155 => ⟨3, 3, b_poked_by c⟩
  | 156 => ⟨3, 3, b_inside c⟩
  | 157 => ⟨3, 3, b_poking c⟩
  | 159 => ⟨2, 5, b__law_poked c⟩
  | 160 => ⟨5, 9, b__law_told c⟩
  | 161 => ⟨2, 3, b__law_calm c⟩
  | 162 => ⟨3, 9, b__law_pair_right c⟩
  | 163 => ⟨5, 7, b__law_beside c⟩
  | 164 => ⟨2, 3, b_needless c⟩
  | 165 => ⟨2, 2, b_exchanged c⟩
  | 166 => ⟨2, 3, b_exchangeable c⟩
  | 167 => ⟨3, 4, b__law_same c⟩
  | 169 => ⟨2, 6, b__law_is_enough c⟩
  | 170 => ⟨1, 7, b__law_lots c⟩
  | 171 => ⟨2, 4, b_is_sight c⟩
  | 172 => ⟨2, 3, b_need_seen c⟩
  | 173 => ⟨3, 5, b_is_seen c⟩
  | 174 => ⟨3, 5, b_all_seen c⟩
  | 175 => ⟨3, 5, b_tables_with c⟩
  | 176 => ⟨3, 4, b_fits c⟩
  | 177 => ⟨5, 8, b_learnt c⟩
  | 178 => ⟨4, 8, b__law_seen_by c⟩
  | 179 => ⟨2, 11, b__law_sights c⟩
  | 180 => ⟨2, 2, b__law_moved c⟩
  | 181 => ⟨3, 14, b__law_all_told c⟩
  | 182 => ⟨2, 4, b__law_between c⟩
  | 183 => ⟨3, 5, b_union c⟩
  | 184 => ⟨3, 6, b_shared c⟩
  | 185 => ⟨1, 1, b_is_span c⟩
  | 186 => ⟨1, 3, b_lot_of c⟩
  | 188 => ⟨1, 1, b_need_place c⟩
  | 189 => ⟨2, 2, b_need_index c⟩
  | 195 => ⟨3, 3, b__law_put c⟩
  | 201 => ⟨1, 1, b_written c⟩
  | 203 => ⟨1, 1, b__law_part_text c⟩
  | 213 => ⟨1, 1, b_part_text c⟩
  | 214 => ⟨1, 2, b_line_of c⟩
  | 215 => ⟨1, 3, b_lines_of c⟩
  | 216 => ⟨1, 1, b_script_text c⟩
  | 217 => ⟨1, 1, b_part_of c⟩
  | 218 => ⟨1, 2, b_parts_of c⟩
  | 219 => ⟨1, 2, b_is_line c⟩
  | 220 => ⟨1, 6, b_steps_of c⟩
  | 221 => ⟨1, 5, b_read_script c⟩
  | 222 => ⟨1, 1, b__law_term_text c⟩
  | 223 => ⟨1, 1, b__law_word c⟩
  | 224 => ⟨1, 4, b__law_rows c⟩
  | 225 => ⟨1, 2, b__law_read c⟩
  | 226 => ⟨1, 1, b__law_part c⟩
  | 227 => ⟨1, 2, b__law_is_row c⟩
  | 228 => ⟨2, 8, b__law_spoilt c⟩
  | 231 => ⟨0, 7, b__law_known c⟩
  | _ => ⟨0, 0, fun _ _ => .stuck⟩
/-- .. and a law's own -/
def TT (TL : Nat → CT → Nat → Df) (n : Nat) (c : CT) (i : Nat) : Df := if Nat.blt i 300 then T0 c i else TL n c i
section
variable {TL : Nat → CT → Nat → Df} {n : Nat} {h : Hd} {a0 a1 a2 a3 a4 : D}
theorem r_is_whole : callD (TT TL) (n + 1) 0 [a0, a1, a2] h = (b_is_whole (callD (TT TL) n) [some a0, some a1, some a2] h).fin := by kernel_rfl
theorem r_is_word : callD (TT TL) (n + 1) 1 [a0, a1] h = (b_is_word (callD (TT TL) n) [some a0, some a1] h).fin := by kernel_rfl
theorem r_is_term : callD (TT TL) (n + 1) 2 [a0] h = (b_is_term (callD (TT TL) n) [some a0] h).fin := by kernel_rfl
theorem r_is_fact : callD (TT TL) (n + 1) 3 [a0] h = (b_is_fact (callD (TT TL) n) [some a0] h).fin := by kernel_rfl
theorem r_is_facts : callD (TT TL) (n + 1) 4 [a0] h = (b_is_facts (callD (TT TL) n) [some a0, none] h).fin := by kernel_rfl
theorem r_divisor : callD (TT TL) (n + 1) 5 [a0, a1] h = (b_divisor (callD (TT TL) n) [some a0, some a1, none, none] h).fin := by kernel_rfl
theorem r_is_fraction : callD (TT TL) (n + 1) 6 [a0] h = (b_is_fraction (callD (TT TL) n) [some a0] h).fin := by kernel_rfl
theorem r_is_moments : callD (TT TL) (n + 1) 7 [a0] h = (b_is_moments (callD (TT TL) n) [some a0, none] h).fin := by kernel_rfl
theorem r_is_condition : callD (TT TL) (n + 1) 8 [a0] h = (b_is_condition (callD (TT TL) n) [some a0] h).fin := by kernel_rfl
theorem r_is_end : callD (TT TL) (n + 1) 9 [a0] h = (b_is_end (callD (TT TL) n) [some a0] h).fin := by kernel_rfl
theorem r_is_plain : callD (TT TL) (n + 1) 10 [a0] h = (b_is_plain (callD (TT TL) n) [some a0] h).fin := by kernel_rfl
theorem r_is_body : callD (TT TL) (n + 1) 11 [a0] h = (b_is_body (callD (TT TL) n) [some a0, none] h).fin := by kernel_rfl
theorem r_is_step : callD (TT TL) (n + 1) 12 [a0] h = (b_is_step (callD (TT TL) n) [some a0] h).fin := by kernel_rfl
theorem r_size_of : callD (TT TL) (n + 1) 13 [a0] h = (b_size_of (callD (TT TL) n) [some a0] h).fin := by kernel_rfl
theorem r_steps_in : callD (TT TL) (n + 1) 14 [a0] h = (b_steps_in (callD (TT TL) n) [some a0, none] h).fin := by kernel_rfl
theorem r_is_script : callD (TT TL) (n + 1) 15 [a0] h = (b_is_script (callD (TT TL) n) [some a0, none] h).fin := by kernel_rfl
theorem r_need_script : callD (TT TL) (n + 1) 16 [a0] h = (b_need_script (callD (TT TL) n) [some a0] h).fin := by kernel_rfl
theorem r_count_steps : callD (TT TL) (n + 1) 17 [a0] h = (b_count_steps (callD (TT TL) n) [some a0] h).fin := by kernel_rfl
theorem r__law_vat : callD (TT TL) (n + 1) 18 [a0, a1] h = (b__law_vat (callD (TT TL) n) [some a0, some a1, none] h).fin := by kernel_rfl
theorem r__law_under : callD (TT TL) (n + 1) 19 [a0, a1] h = (b__law_under (callD (TT TL) n) [some a0, some a1, none, none] h).fin := by kernel_rfl
theorem r__law_some : callD (TT TL) (n + 1) 20 [a0, a1] h = (b__law_some (callD (TT TL) n) [some a0, some a1] h).fin := by kernel_rfl
theorem r__law_is_whole : callD (TT TL) (n + 1) 21 [a0, a1, a2] h = (b__law_is_whole (callD (TT TL) n) [some a0, some a1, some a2] h).fin := by kernel_rfl
theorem r__law_truly : callD (TT TL) (n + 1) 22 [a0, a1] h = (b__law_truly (callD (TT TL) n) [some a0, some a1] h).fin := by kernel_rfl
theorem r__law_lowest : callD (TT TL) (n + 1) 23 [a0, a1] h = (b__law_lowest (callD (TT TL) n) [some a0, some a1, none, none] h).fin := by kernel_rfl
theorem r__law_is_term : callD (TT TL) (n + 1) 24 [a0] h = (b__law_is_term (callD (TT TL) n) [some a0] h).fin := by kernel_rfl
theorem r__law_are_terms : callD (TT TL) (n + 1) 25 [a0] h = (b__law_are_terms (callD (TT TL) n) [some a0] h).fin := by kernel_rfl
theorem r__law_is_fact : callD (TT TL) (n + 1) 26 [a0] h = (b__law_is_fact (callD (TT TL) n) [some a0] h).fin := by kernel_rfl
theorem r__law_are_facts : callD (TT TL) (n + 1) 27 [a0] h = (b__law_are_facts (callD (TT TL) n) [some a0, none] h).fin := by kernel_rfl
theorem r__law_is_part : callD (TT TL) (n + 1) 28 [a0] h = (b__law_is_part (callD (TT TL) n) [some a0] h).fin := by kernel_rfl
theorem r__law_are_moments : callD (TT TL) (n + 1) 29 [a0] h = (b__law_are_moments (callD (TT TL) n) [some a0, none] h).fin := by kernel_rfl
theorem r__law_is_condition : callD (TT TL) (n + 1) 30 [a0] h = (b__law_is_condition (callD (TT TL) n) [some a0] h).fin := by kernel_rfl
theorem r__law_is_simple : callD (TT TL) (n + 1) 31 [a0] h = (b__law_is_simple (callD (TT TL) n) [some a0, none] h).fin := by kernel_rfl
theorem r__law_is_step : callD (TT TL) (n + 1) 32 [a0] h = (b__law_is_step (callD (TT TL) n) [some a0, none, none] h).fin := by kernel_rfl
theorem r__law_size : callD (TT TL) (n + 1) 33 [a0] h = (b__law_size (callD (TT TL) n) [some a0, none, none] h).fin := by kernel_rfl
theorem r__law_is_script : callD (TT TL) (n + 1) 34 [a0] h = (b__law_is_script (callD (TT TL) n) [some a0, none] h).fin := by kernel_rfl
theorem r__law_term : callD (TT TL) (n + 1) 35 [a0] h = (b__law_term (callD (TT TL) n) [some a0] h).fin := by kernel_rfl
theorem r__law_fact : callD (TT TL) (n + 1) 36 [a0] h = (b__law_fact (callD (TT TL) n) [some a0] h).fin := by kernel_rfl
theorem r__law_facts : callD (TT TL) (n + 1) 37 [a0, a1] h = (b__law_facts (callD (TT TL) n) [some a0, some a1, none] h).fin := by kernel_rfl
theorem r__law_condition : callD (TT TL) (n + 1) 38 [a0] h = (b__law_condition (callD (TT TL) n) [some a0, none] h).fin := by kernel_rfl
theorem r__law_simple : callD (TT TL) (n + 1) 39 [a0] h = (b__law_simple (callD (TT TL) n) [some a0, none] h).fin := by kernel_rfl
theorem r__law_step : callD (TT TL) (n + 1) 40 [a0] h = (b__law_step (callD (TT TL) n) [some a0, none, none, none] h).fin := by kernel_rfl
theorem r__law_script : callD (TT TL) (n + 1) 41 [a0, a1] h = (b__law_script (callD (TT TL) n) [some a0, some a1, none, none, none] h).fin := by kernel_rfl
theorem r__law_numbers : callD (TT TL) (n + 1) 42 [a0] h = (b__law_numbers (callD (TT TL) n) [some a0, none, none, none, none, none] h).fin := by kernel_rfl
theorem r__law_moments : callD (TT TL) (n + 1) 43 [a0] h = (b__law_moments (callD (TT TL) n) [some a0, none, none, none, none] h).fin := by kernel_rfl
theorem r__law_odd : callD (TT TL) (n + 1) 46 [a0, a1] h = (b__law_odd (callD (TT TL) n) [some a0, some a1, none, none, none] h).fin := by kernel_rfl
theorem r__law_judged : callD (TT TL) (n + 1) 48 [a0] h = (b__law_judged (callD (TT TL) n) [some a0] h).fin := by kernel_rfl
theorem r_need_moments : callD (TT TL) (n + 1) 49 [a0] h = (b_need_moments (callD (TT TL) n) [some a0] h).fin := by kernel_rfl
theorem r_lowest : callD (TT TL) (n + 1) 50 [a0, a1] h = (b_lowest (callD (TT TL) n) [some a0, some a1, none] h).fin := by kernel_rfl
theorem r_added : callD (TT TL) (n + 1) 51 [a0, a1] h = (b_added (callD (TT TL) n) [some a0, some a1] h).fin := by kernel_rfl
theorem r_later : callD (TT TL) (n + 1) 52 [a0, a1] h = (b_later (callD (TT TL) n) [some a0, some a1] h).fin := by kernel_rfl
theorem r_less : callD (TT TL) (n + 1) 53 [a0, a1] h = (b_less (callD (TT TL) n) [some a0, some a1] h).fin := by kernel_rfl
theorem r_sign_of : callD (TT TL) (n + 1) 55 [a0, a1, a2] h = (b_sign_of (callD (TT TL) n) [some a0, some a1, some a2, none, none, none] h).fin := by kernel_rfl
theorem r_is_ahead : callD (TT TL) (n + 1) 56 [a0, a1, a2] h = (b_is_ahead (callD (TT TL) n) [some a0, some a1, some a2] h).fin := by kernel_rfl
theorem r_first_of : callD (TT TL) (n + 1) 57 [a0, a1, a2] h = (b_first_of (callD (TT TL) n) [some a0, some a1, some a2] h).fin := by kernel_rfl
theorem r_last_of : callD (TT TL) (n + 1) 58 [a0, a1, a2] h = (b_last_of (callD (TT TL) n) [some a0, some a1, some a2] h).fin := by kernel_rfl
theorem r_joined : callD (TT TL) (n + 1) 59 [a0, a1, a2, a3] h = (b_joined (callD (TT TL) n) [some a0, some a1, some a2, some a3, none, none, none] h).fin := by kernel_rfl
theorem r_lessened : callD (TT TL) (n + 1) 60 [a0, a1, a2, a3] h = (b_lessened (callD (TT TL) n) [some a0, some a1, some a2, some a3, none, none, none, none] h).fin := by kernel_rfl
theorem r_clipped : callD (TT TL) (n + 1) 61 [a0, a1, a2, a3] h = (b_clipped (callD (TT TL) n) [some a0, some a1, some a2, some a3, none, none, none, none] h).fin := by kernel_rfl
theorem r_without : callD (TT TL) (n + 1) 62 [a0, a1, a2] h = (b_without (callD (TT TL) n) [some a0, some a1, some a2, none, none] h).fin := by kernel_rfl
theorem r_moved : callD (TT TL) (n + 1) 63 [a0, a1, a2] h = (b_moved (callD (TT TL) n) [some a0, some a1, some a2] h).fin := by kernel_rfl
theorem r_shifted : callD (TT TL) (n + 1) 64 [a0, a1, a2] h = (b_shifted (callD (TT TL) n) [some a0, some a1, some a2, none, none] h).fin := by kernel_rfl
theorem r_widened : callD (TT TL) (n + 1) 65 [a0, a1, a2] h = (b_widened (callD (TT TL) n) [some a0, some a1, some a2, none, none, none] h).fin := by kernel_rfl
theorem r_gaps_of : callD (TT TL) (n + 1) 66 [a0] h = (b_gaps_of (callD (TT TL) n) [some a0, none, none] h).fin := by kernel_rfl
theorem r_has : callD (TT TL) (n + 1) 68 [a0, a1, a2] h = (b_has (callD (TT TL) n) [some a0, some a1, some a2, none, none, none] h).fin := by kernel_rfl
theorem r_ends_in : callD (TT TL) (n + 1) 69 [a0, a1] h = (b_ends_in (callD (TT TL) n) [some a0, some a1, none, none, none, none] h).fin := by kernel_rfl
theorem r_is_met : callD (TT TL) (n + 1) 70 [a0, a1, a2, a3] h = (b_is_met (callD (TT TL) n) [some a0, some a1, some a2, some a3, none] h).fin := by kernel_rfl
theorem r_behind_plain : callD (TT TL) (n + 1) 71 [a0, a1, a2, a3] h = (b_behind_plain (callD (TT TL) n) [some a0, some a1, some a2, some a3, none, none] h).fin := by kernel_rfl
theorem r_run : callD (TT TL) (n + 1) 72 [a0, a1, a2] h = (b_run (callD (TT TL) n) [some a0, some a1, some a2, none, none, none, none, none, none] h).fin := by kernel_rfl
theorem r_pieces_at : callD (TT TL) (n + 1) 73 [a0, a1] h = (b_pieces_at (callD (TT TL) n) [some a0, some a1] h).fin := by kernel_rfl
theorem r_measure : callD (TT TL) (n + 1) 74 [a0] h = (b_measure (callD (TT TL) n) [some a0, none, none, none] h).fin := by kernel_rfl
theorem r_result : callD (TT TL) (n + 1) 75 [a0, a1] h = (b_result (callD (TT TL) n) [some a0, some a1] h).fin := by kernel_rfl
theorem r_answers : callD (TT TL) (n + 1) 76 [a0, a1] h = (b_answers (callD (TT TL) n) [some a0, some a1] h).fin := by kernel_rfl
theorem r_length : callD (TT TL) (n + 1) 77 [a0, a1] h = (b_length (callD (TT TL) n) [some a0, some a1] h).fin := by kernel_rfl
theorem r__law_taken : callD (TT TL) (n + 1) 79 [a0, a1, a2] h = (b__law_taken (callD (TT TL) n) [some a0, some a1, some a2, none, none, none] h).fin := by kernel_rfl
theorem r__law_kept : callD (TT TL) (n + 1) 80 [a0, a1, a2] h = (b__law_kept (callD (TT TL) n) [some a0, some a1, some a2, none, none, none] h).fin := by kernel_rfl
theorem r__law_later : callD (TT TL) (n + 1) 81 [a0, a1, a2] h = (b__law_later (callD (TT TL) n) [some a0, some a1, some a2] h).fin := by kernel_rfl
theorem r__law_does : callD (TT TL) (n + 1) 83 [a0, a1, a2, a3] h = (b__law_does (callD (TT TL) n) [some a0, some a1, some a2, some a3, none, none, none, none, none, none, none, none, none, none, none] h).fin := by kernel_rfl
theorem r__law_has : callD (TT TL) (n + 1) 84 [a0, a1] h = (b__law_has (callD (TT TL) n) [some a0, some a1, none, none] h).fin := by kernel_rfl
theorem r__law_met : callD (TT TL) (n + 1) 85 [a0, a1, a2, a3] h = (b__law_met (callD (TT TL) n) [some a0, some a1, some a2, some a3, none, none, none, none] h).fin := by kernel_rfl
theorem r__law_run : callD (TT TL) (n + 1) 86 [a0, a1, a2] h = (b__law_run (callD (TT TL) n) [some a0, some a1, some a2, none, none, none, none, none, none] h).fin := by kernel_rfl
theorem r__law_plain : callD (TT TL) (n + 1) 87 [a0] h = (b__law_plain (callD (TT TL) n) [some a0, none, none] h).fin := by kernel_rfl
theorem r__law_row : callD (TT TL) (n + 1) 88 [a0] h = (b__law_row (callD (TT TL) n) [some a0, none, none, none] h).fin := by kernel_rfl
theorem r__law_lot_of : callD (TT TL) (n + 1) 89 [a0, a1] h = (b__law_lot_of (callD (TT TL) n) [some a0, some a1, none, none, none, none, none] h).fin := by kernel_rfl
theorem r__law_right : callD (TT TL) (n + 1) 90 [a0, a1] h = (b__law_right (callD (TT TL) n) [some a0, some a1, none, none, none, none, none, none, none, none] h).fin := by kernel_rfl
theorem r_need_facts : callD (TT TL) (n + 1) 91 [a0] h = (b_need_facts (callD (TT TL) n) [some a0] h).fin := by kernel_rfl
theorem r_is_kept : callD (TT TL) (n + 1) 93 [a0, a1] h = (b_is_kept (callD (TT TL) n) [some a0, some a1, none, none, none] h).fin := by kernel_rfl
theorem r_keeps : callD (TT TL) (n + 1) 94 [a0, a1] h = (b_keeps (callD (TT TL) n) [some a0, some a1, none] h).fin := by kernel_rfl
theorem r_tighter : callD (TT TL) (n + 1) 95 [a0, a1] h = (b_tighter (callD (TT TL) n) [some a0, some a1] h).fin := by kernel_rfl
theorem r_together : callD (TT TL) (n + 1) 96 [a0, a1] h = (b_together (callD (TT TL) n) [some a0, some a1] h).fin := by kernel_rfl
theorem r_free_table : callD (TT TL) (n + 1) 97 [] h = (b_free_table (callD (TT TL) n) [none, none] h).fin := by kernel_rfl
theorem r_with_bound : callD (TT TL) (n + 1) 98 [a0, a1, a2, a3] h = (b_with_bound (callD (TT TL) n) [some a0, some a1, some a2, some a3, none, none, none, none, none, none, none] h).fin := by kernel_rfl
theorem r_with_sign : callD (TT TL) (n + 1) 99 [a0, a1, a2, a3] h = (b_with_sign (callD (TT TL) n) [some a0, some a1, some a2, some a3, none, none] h).fin := by kernel_rfl
theorem r_number_between : callD (TT TL) (n + 1) 102 [a0, a1] h = (b_number_between (callD (TT TL) n) [some a0, some a1] h).fin := by kernel_rfl
theorem r_upper : callD (TT TL) (n + 1) 103 [a0, a1] h = (b_upper (callD (TT TL) n) [some a0, some a1] h).fin := by kernel_rfl
theorem r_lower : callD (TT TL) (n + 1) 104 [a0, a1] h = (b_lower (callD (TT TL) n) [some a0, some a1] h).fin := by kernel_rfl
theorem r_point_of : callD (TT TL) (n + 1) 105 [a0] h = (b_point_of (callD (TT TL) n) [some a0, none, none, none, none, none, none] h).fin := by kernel_rfl
theorem r_moments_for : callD (TT TL) (n + 1) 106 [a0] h = (b_moments_for (callD (TT TL) n) [some a0, none] h).fin := by kernel_rfl
theorem r_chosen : callD (TT TL) (n + 1) 108 [a0, a1] h = (b_chosen (callD (TT TL) n) [some a0, some a1, none] h).fin := by kernel_rfl
theorem r_ring : callD (TT TL) (n + 1) 109 [a0] h = (b_ring (callD (TT TL) n) [some a0, none, none] h).fin := by kernel_rfl
theorem r__law_holds : callD (TT TL) (n + 1) 110 [a0, a1, a2] h = (b__law_holds (callD (TT TL) n) [some a0, some a1, some a2, none, none] h).fin := by kernel_rfl
theorem r__law_all_hold : callD (TT TL) (n + 1) 111 [a0, a1, a2] h = (b__law_all_hold (callD (TT TL) n) [some a0, some a1, some a2, none] h).fin := by kernel_rfl
theorem r__law_reach : callD (TT TL) (n + 1) 112 [a0] h = (b__law_reach (callD (TT TL) n) [some a0, none, none] h).fin := by kernel_rfl
theorem r__law_kept_by : callD (TT TL) (n + 1) 114 [a0, a1] h = (b__law_kept_by (callD (TT TL) n) [some a0, some a1, none, none] h).fin := by kernel_rfl
theorem r__law_can : callD (TT TL) (n + 1) 115 [a0, a1] h = (b__law_can (callD (TT TL) n) [some a0, some a1, none, none] h).fin := by kernel_rfl
theorem r__law_fewest : callD (TT TL) (n + 1) 116 [a0, a1] h = (b__law_fewest (callD (TT TL) n) [some a0, some a1, none, none, none, none, none] h).fin := by kernel_rfl
theorem r_need_fact : callD (TT TL) (n + 1) 117 [a0] h = (b_need_fact (callD (TT TL) n) [some a0] h).fin := by kernel_rfl
theorem r_need_term : callD (TT TL) (n + 1) 118 [a0] h = (b_need_term (callD (TT TL) n) [some a0] h).fin := by kernel_rfl
theorem r_refined : callD (TT TL) (n + 1) 119 [a0, a1, a2] h = (b_refined (callD (TT TL) n) [some a0, some a1, some a2, none, none, none] h).fin := by kernel_rfl
theorem r_gap_in : callD (TT TL) (n + 1) 121 [a0, a1, a2] h = (b_gap_in (callD (TT TL) n) [some a0, some a1, some a2, none, none, none, none, none] h).fin := by kernel_rfl
theorem r_lowest_of : callD (TT TL) (n + 1) 122 [a0, a1] h = (b_lowest_of (callD (TT TL) n) [some a0, some a1, none, none, none] h).fin := by kernel_rfl
theorem r_bounds_of : callD (TT TL) (n + 1) 123 [a0] h = (b_bounds_of (callD (TT TL) n) [some a0, none, none] h).fin := by kernel_rfl
theorem r_need_possible : callD (TT TL) (n + 1) 124 [a0] h = (b_need_possible (callD (TT TL) n) [some a0] h).fin := by kernel_rfl
theorem r_is_so : callD (TT TL) (n + 1) 125 [a0, a1] h = (b_is_so (callD (TT TL) n) [some a0, some a1, none] h).fin := by kernel_rfl
theorem r_truth_of : callD (TT TL) (n + 1) 126 [a0, a1] h = (b_truth_of (callD (TT TL) n) [some a0, some a1, none, none, none] h).fin := by kernel_rfl
theorem r_follows : callD (TT TL) (n + 1) 127 [a0, a1] h = (b_follows (callD (TT TL) n) [some a0, some a1] h).fin := by kernel_rfl
theorem r_needless_facts : callD (TT TL) (n + 1) 128 [a0] h = (b_needless_facts (callD (TT TL) n) [some a0, none] h).fin := by kernel_rfl
theorem r_gap : callD (TT TL) (n + 1) 129 [a0, a1, a2] h = (b_gap (callD (TT TL) n) [some a0, some a1, some a2, none] h).fin := by kernel_rfl
theorem r__law_least : callD (TT TL) (n + 1) 130 [a0, a1, a2] h = (b__law_least (callD (TT TL) n) [some a0, some a1, some a2, none, none] h).fin := by kernel_rfl
theorem r__law_truth : callD (TT TL) (n + 1) 131 [a0, a1, a2] h = (b__law_truth (callD (TT TL) n) [some a0, some a1, some a2, none, none] h).fin := by kernel_rfl
theorem r__law_gap : callD (TT TL) (n + 1) 132 [a0, a1, a2, a3] h = (b__law_gap (callD (TT TL) n) [some a0, some a1, some a2, some a3, none, none, none, none, none, none, none, none] h).fin := by kernel_rfl
theorem r_outcomes : callD (TT TL) (n + 1) 133 [a0, a1] h = (b_outcomes (callD (TT TL) n) [some a0, some a1] h).fin := by kernel_rfl
theorem r_moments_with : callD (TT TL) (n + 1) 136 [a0, a1, a2] h = (b_moments_with (callD (TT TL) n) [some a0, some a1, some a2, none, none, none] h).fin := by kernel_rfl
theorem r_whether : callD (TT TL) (n + 1) 137 [a0, a1, a2] h = (b_whether (callD (TT TL) n) [some a0, some a1, some a2, none, none, none, none] h).fin := by kernel_rfl
theorem r_sum_bound : callD (TT TL) (n + 1) 138 [a0, a1, a2] h = (b_sum_bound (callD (TT TL) n) [some a0, some a1, some a2, none, none, none, none, none, none, none, none] h).fin := by kernel_rfl
theorem r_sum_in : callD (TT TL) (n + 1) 139 [a0, a1, a2] h = (b_sum_in (callD (TT TL) n) [some a0, some a1, some a2, none, none] h).fin := by kernel_rfl
theorem r_factors_of : callD (TT TL) (n + 1) 140 [a0] h = (b_factors_of (callD (TT TL) n) [some a0, none, none, none, none] h).fin := by kernel_rfl
theorem r_length_bounds : callD (TT TL) (n + 1) 141 [a0, a1] h = (b_length_bounds (callD (TT TL) n) [some a0, some a1, none, none, none, none, none] h).fin := by kernel_rfl
theorem r__law_corners : callD (TT TL) (n + 1) 142 [a0] h = (b__law_corners (callD (TT TL) n) [some a0, none, none, none, none, none, none, none] h).fin := by kernel_rfl
theorem r__law_form : callD (TT TL) (n + 1) 143 [a0] h = (b__law_form (callD (TT TL) n) [some a0, none, none, none, none] h).fin := by kernel_rfl
theorem r__law_times : callD (TT TL) (n + 1) 144 [a0, a1] h = (b__law_times (callD (TT TL) n) [some a0, some a1, none, none] h).fin := by kernel_rfl
theorem r__law_beyond : callD (TT TL) (n + 1) 145 [a0, a1] h = (b__law_beyond (callD (TT TL) n) [some a0, some a1, none, none] h).fin := by kernel_rfl
theorem r_are_same : callD (TT TL) (n + 1) 147 [a0, a1, a2] h = (b_are_same (callD (TT TL) n) [some a0, some a1, some a2, none, none] h).fin := by kernel_rfl
theorem r_is_alike_in : callD (TT TL) (n + 1) 148 [a0, a1, a2] h = (b_is_alike_in (callD (TT TL) n) [some a0, some a1, some a2] h).fin := by kernel_rfl
theorem r_is_inside_in : callD (TT TL) (n + 1) 149 [a0, a1, a2] h = (b_is_inside_in (callD (TT TL) n) [some a0, some a1, some a2] h).fin := by kernel_rfl
theorem r_parted_by : callD (TT TL) (n + 1) 151 [a0, a1, a2] h = (b_parted_by (callD (TT TL) n) [some a0, some a1, some a2] h).fin := by kernel_rfl
theorem r_need_all : callD (TT TL) (n + 1) 152 [a0, a1, a2] h = (b_need_all (callD (TT TL) n) [some a0, some a1, some a2] h).fin := by kernel_rfl
theorem r_alike : callD (TT TL) (n + 1) 153 [a0, a1, a2] h = (b_alike (callD (TT TL) n) [some a0, some a1, some a2] h).fin := by kernel_rfl
theorem r_parting : callD (TT TL) (n + 1) 154 [a0, a1, a2] h = (b_parting (callD (TT TL) n) [some a0, some a1, some a2] h).fin := by kernel_rfl
theorem r_poked_by : callD (TT TL) (n + 1) 155 [a0, a1, a2] h = (b_poked_by (callD (TT TL) n) [some a0, some a1, some a2] h).fin := by kernel_rfl
theorem r_inside : callD (TT TL) (n + 1) 156 [a0, a1, a2] h = (b_inside (callD (TT TL) n) [some a0, some a1, some a2] h).fin := by kernel_rfl
theorem r_poking : callD (TT TL) (n + 1) 157 [a0, a1, a2] h = (b_poking (callD (TT TL) n) [some a0, some a1, some a2] h).fin := by kernel_rfl
theorem r__law_poked : callD (TT TL) (n + 1) 159 [a0, a1] h = (b__law_poked (callD (TT TL) n) [some a0, some a1, none, none, none] h).fin := by kernel_rfl
theorem r__law_told : callD (TT TL) (n + 1) 160 [a0, a1, a2, a3, a4] h = (b__law_told (callD (TT TL) n) [some a0, some a1, some a2, some a3, some a4, none, none, none, none] h).fin := by kernel_rfl
theorem r__law_calm : callD (TT TL) (n + 1) 161 [a0, a1] h = (b__law_calm (callD (TT TL) n) [some a0, some a1, none] h).fin := by kernel_rfl
theorem r__law_pair_right : callD (TT TL) (n + 1) 162 [a0, a1, a2] h = (b__law_pair_right (callD (TT TL) n) [some a0, some a1, some a2, none, none, none, none, none, none] h).fin := by kernel_rfl
theorem r__law_beside : callD (TT TL) (n + 1) 163 [a0, a1, a2, a3, a4] h = (b__law_beside (callD (TT TL) n) [some a0, some a1, some a2, some a3, some a4, none, none] h).fin := by kernel_rfl
theorem r_needless : callD (TT TL) (n + 1) 164 [a0, a1] h = (b_needless (callD (TT TL) n) [some a0, some a1, none] h).fin := by kernel_rfl
theorem r_exchanged : callD (TT TL) (n + 1) 165 [a0, a1] h = (b_exchanged (callD (TT TL) n) [some a0, some a1] h).fin := by kernel_rfl
theorem r_exchangeable : callD (TT TL) (n + 1) 166 [a0, a1] h = (b_exchangeable (callD (TT TL) n) [some a0, some a1, none] h).fin := by kernel_rfl
theorem r__law_same : callD (TT TL) (n + 1) 167 [a0, a1, a2] h = (b__law_same (callD (TT TL) n) [some a0, some a1, some a2, none] h).fin := by kernel_rfl
theorem r__law_is_enough : callD (TT TL) (n + 1) 169 [a0, a1] h = (b__law_is_enough (callD (TT TL) n) [some a0, some a1, none, none, none, none] h).fin := by kernel_rfl
theorem r__law_lots : callD (TT TL) (n + 1) 170 [a0] h = (b__law_lots (callD (TT TL) n) [some a0, none, none, none, none, none, none] h).fin := by kernel_rfl
theorem r_is_sight : callD (TT TL) (n + 1) 171 [a0, a1] h = (b_is_sight (callD (TT TL) n) [some a0, some a1, none, none] h).fin := by kernel_rfl
theorem r_need_seen : callD (TT TL) (n + 1) 172 [a0, a1] h = (b_need_seen (callD (TT TL) n) [some a0, some a1, none] h).fin := by kernel_rfl
theorem r_is_seen : callD (TT TL) (n + 1) 173 [a0, a1, a2] h = (b_is_seen (callD (TT TL) n) [some a0, some a1, some a2, none, none] h).fin := by kernel_rfl
theorem r_all_seen : callD (TT TL) (n + 1) 174 [a0, a1, a2] h = (b_all_seen (callD (TT TL) n) [some a0, some a1, some a2, none, none] h).fin := by kernel_rfl
theorem r_tables_with : callD (TT TL) (n + 1) 175 [a0, a1, a2] h = (b_tables_with (callD (TT TL) n) [some a0, some a1, some a2, none, none] h).fin := by kernel_rfl
theorem r_fits : callD (TT TL) (n + 1) 176 [a0, a1, a2] h = (b_fits (callD (TT TL) n) [some a0, some a1, some a2, none] h).fin := by kernel_rfl
theorem r_learnt : callD (TT TL) (n + 1) 177 [a0, a1, a2, a3, a4] h = (b_learnt (callD (TT TL) n) [some a0, some a1, some a2, some a3, some a4, none, none, none] h).fin := by kernel_rfl
theorem r__law_seen_by : callD (TT TL) (n + 1) 178 [a0, a1, a2, a3] h = (b__law_seen_by (callD (TT TL) n) [some a0, some a1, some a2, some a3, none, none, none, none] h).fin := by kernel_rfl
theorem r__law_sights : callD (TT TL) (n + 1) 179 [a0, a1] h = (b__law_sights (callD (TT TL) n) [some a0, some a1, none, none, none, none, none, none, none, none, none] h).fin := by kernel_rfl
theorem r__law_moved : callD (TT TL) (n + 1) 180 [a0, a1] h = (b__law_moved (callD (TT TL) n) [some a0, some a1] h).fin := by kernel_rfl
theorem r__law_all_told : callD (TT TL) (n + 1) 181 [a0, a1, a2] h = (b__law_all_told (callD (TT TL) n) [some a0, some a1, some a2, none, none, none, none, none, none, none, none, none, none, none] h).fin := by kernel_rfl
theorem r__law_between : callD (TT TL) (n + 1) 182 [a0, a1] h = (b__law_between (callD (TT TL) n) [some a0, some a1, none, none] h).fin := by kernel_rfl
theorem r_union : callD (TT TL) (n + 1) 183 [a0, a1, a2] h = (b_union (callD (TT TL) n) [some a0, some a1, some a2, none, none] h).fin := by kernel_rfl
theorem r_shared : callD (TT TL) (n + 1) 184 [a0, a1, a2] h = (b_shared (callD (TT TL) n) [some a0, some a1, some a2, none, none, none] h).fin := by kernel_rfl
theorem r_is_span : callD (TT TL) (n + 1) 185 [a0] h = (b_is_span (callD (TT TL) n) [some a0] h).fin := by kernel_rfl
theorem r_lot_of : callD (TT TL) (n + 1) 186 [a0] h = (b_lot_of (callD (TT TL) n) [some a0, none, none] h).fin := by kernel_rfl
theorem r_need_place : callD (TT TL) (n + 1) 188 [a0] h = (b_need_place (callD (TT TL) n) [some a0] h).fin := by kernel_rfl
theorem r_need_index : callD (TT TL) (n + 1) 189 [a0, a1] h = (b_need_index (callD (TT TL) n) [some a0, some a1] h).fin := by kernel_rfl
theorem r__law_put : callD (TT TL) (n + 1) 195 [a0, a1, a2] h = (b__law_put (callD (TT TL) n) [some a0, some a1, some a2] h).fin := by kernel_rfl
theorem r_written : callD (TT TL) (n + 1) 201 [a0] h = (b_written (callD (TT TL) n) [some a0] h).fin := by kernel_rfl
theorem r__law_part_text : callD (TT TL) (n + 1) 203 [a0] h = (b__law_part_text (callD (TT TL) n) [some a0] h).fin := by kernel_rfl
theorem r_part_text : callD (TT TL) (n + 1) 213 [a0] h = (b_part_text (callD (TT TL) n) [some a0] h).fin := by kernel_rfl
theorem r_line_of : callD (TT TL) (n + 1) 214 [a0] h = (b_line_of (callD (TT TL) n) [some a0, none] h).fin := by kernel_rfl
theorem r_lines_of : callD (TT TL) (n + 1) 215 [a0] h = (b_lines_of (callD (TT TL) n) [some a0, none, none] h).fin := by kernel_rfl
theorem r_script_text : callD (TT TL) (n + 1) 216 [a0] h = (b_script_text (callD (TT TL) n) [some a0] h).fin := by kernel_rfl
theorem r_part_of : callD (TT TL) (n + 1) 217 [a0] h = (b_part_of (callD (TT TL) n) [some a0] h).fin := by kernel_rfl
theorem r_parts_of : callD (TT TL) (n + 1) 218 [a0] h = (b_parts_of (callD (TT TL) n) [some a0, none] h).fin := by kernel_rfl
theorem r_is_line : callD (TT TL) (n + 1) 219 [a0] h = (b_is_line (callD (TT TL) n) [some a0, none] h).fin := by kernel_rfl
theorem r_steps_of : callD (TT TL) (n + 1) 220 [a0] h = (b_steps_of (callD (TT TL) n) [some a0, none, none, none, none, none] h).fin := by kernel_rfl
theorem r_read_script : callD (TT TL) (n + 1) 221 [a0] h = (b_read_script (callD (TT TL) n) [some a0, none, none, none, none] h).fin := by kernel_rfl
theorem r__law_term_text : callD (TT TL) (n + 1) 222 [a0] h = (b__law_term_text (callD (TT TL) n) [some a0] h).fin := by kernel_rfl
theorem r__law_word : callD (TT TL) (n + 1) 223 [a0] h = (b__law_word (callD (TT TL) n) [some a0] h).fin := by kernel_rfl
theorem r__law_rows : callD (TT TL) (n + 1) 224 [a0] h = (b__law_rows (callD (TT TL) n) [some a0, none, none, none] h).fin := by kernel_rfl
theorem r__law_read : callD (TT TL) (n + 1) 225 [a0] h = (b__law_read (callD (TT TL) n) [some a0, none] h).fin := by kernel_rfl
theorem r__law_part : callD (TT TL) (n + 1) 226 [a0] h = (b__law_part (callD (TT TL) n) [some a0] h).fin := by kernel_rfl
theorem r__law_is_row : callD (TT TL) (n + 1) 227 [a0] h = (b__law_is_row (callD (TT TL) n) [some a0, none] h).fin := by kernel_rfl
theorem r__law_spoilt : callD (TT TL) (n + 1) 228 [a0, a1] h = (b__law_spoilt (callD (TT TL) n) [some a0, some a1, none, none, none, none, none, none] h).fin := by kernel_rfl
theorem r__law_known : callD (TT TL) (n + 1) 231 [] h = (b__law_known (callD (TT TL) n) [none, none, none, none, none, none, none] h).fin := by kernel_rfl
end

/-! text P1.lean -/
open PySem L2
/-! plain laws 1: recognizers -/
section
variable {h : Hd}
theorem up1 {n k : Nat} (h : k + 1 ≤ n) : ∃ m, n = m + 1 ∧ k ≤ m := ⟨n - 1, by omega, by omega⟩
theorem gne_int (a b : Int) : gne (.int a) (.int b) h = .ok (.bl (!(a == b))) h := rfl
theorem geq_int (a b : Int) : geq (.int a) (.int b) h = .ok (.bl (a == b)) h := rfl
theorem gne_str (a b : Str) : gne (.str a) (.str b) h = .ok (.bl (!(a == b))) h := rfl
theorem geq_str (a b : Str) : geq (.str a) (.str b) h = .ok (.bl (a == b)) h := rfl
theorem cmp_small {x y : D} (hx : pur x = true) (hy : pur y = true) (hd : dep y ≤ 60) : cmpOk x y = true := by
  unfold cmpOk
  rw [hx, hy, Bool.true_and, Bool.true_and]
  exact Nat.ble_eq_true_of_le (Nat.le_trans (Nat.min_le_right _ _) hd)
theorem pln_pur {x : D} (hx : pur x = true) : pln x h = x := by cases x <;> first | rfl | cases hx
theorem geq_p {x y : D} (hx : pur x = true) (hy : pur y = true) (hd : dep y ≤ 60) : geq x y h = .ok (.bl (deq x y)) h := by
  show (if cmpOk (pln x h) (pln y h) then .ok (.bl (deq (pln x h) (pln y h))) h else .stuck : Res D) = _
  rw [pln_pur hx, pln_pur hy, cmp_small hx hy hd]
  rfl
theorem gne_p {x y : D} (hx : pur x = true) (hy : pur y = true) (hd : dep y ≤ 60) : gne x y h = .ok (.bl (!deq x y)) h := by
  show (if cmpOk (pln x h) (pln y h) then .ok (.bl (!deq (pln x h) (pln y h))) h else .stuck : Res D) = _
  rw [pln_pur hx, pln_pur hy, cmp_small hx hy hd]
  rfl
theorem atI_nat {α : Type} (xs : List α) (j : Nat) : atI xs (j : Int) = xs[j]? := by
  unfold atI ixN
  rw [if_pos (Int.natCast_nonneg j)]
  by_cases hj : j < xs.length
  · rw [if_pos (by omega)]
    rfl
  · rw [if_neg (by omega), List.getElem?_eq_none (by omega)]
    rfl
theorem gix_tup (ds : List D) (j : Nat) {d : D} (e : ds[j]? = some d) : gix (.tup ds) (.int (j : Int)) h = .ok d h := by
  show (match seqOf (.tup ds) h with
    | some ds => (match atI ds (j : Int) with
      | some d => .ok d h
      | none => .stuck)
    | none => .stuck : Res D) = _
  show (match atI ds (j : Int) with
      | some d => .ok d h
      | none => .stuck : Res D) = _
  rw [atI_nat, e]
theorem gix_t0 {a : D} {r : List D} : gix (.tup (a :: r)) (.int 0) h = .ok a h := gix_tup _ 0 rfl
theorem gix_t1 {a b : D} {r : List D} : gix (.tup (a :: b :: r)) (.int 1) h = .ok b h := gix_tup _ 1 rfl
theorem gix_t2 {a b c : D} {r : List D} : gix (.tup (a :: b :: c :: r)) (.int 2) h = .ok c h := gix_tup _ 2 rfl
theorem gix_t3 {a b c d : D} {r : List D} : gix (.tup (a :: b :: c :: d :: r)) (.int 3) h = .ok d h := gix_tup _ 3 rfl
def isIn (d : D) (ws : List Str) : Bool := match d with
  | .str s => ws.any fun w => w == s
  | _ => false
theorem any_strs (s : Str) : ∀ ws : List Str, ((ws.map D.str).any fun z => deq z (.str s)) = ws.any fun w => w == s
  | [] => rfl
  | w :: ws => by
    rw [List.map_cons, List.any_cons, List.any_cons, any_strs s ws]
    rfl
theorem purL_strs : ∀ ws : List Str, purL (ws.map D.str) = true
  | [] => rfl
  | w :: ws => by
    rw [List.map_cons, purL, purL_strs ws]
    rfl
theorem gin_strs (s : Str) (ws : List Str) : gin false (.str s) (.tup (ws.map D.str)) h = .ok (.bl (isIn (.str s) ws)) h := by
  show (if inOk (.str s) (ws.map D.str) then .ok (.bl (false != (ws.map D.str).any fun z => deq z (.str s))) h else .stuck : Res D) = _
  have : inOk (.str s) (ws.map D.str) = true := by
    unfold inOk
    rw [purL_strs]
    rfl
  rw [this, any_strs]
  simp [isIn]
theorem gin1 (s a : Str) : gin false (.str s) (.tup [.str a]) h = .ok (.bl (isIn (.str s) [a])) h := gin_strs s [a]
theorem gin2 (s a b : Str) : gin false (.str s) (.tup [.str a, .str b]) h = .ok (.bl (isIn (.str s) [a, b])) h := gin_strs s [a, b]
theorem gin3 (s a b c : Str) : gin false (.str s) (.tup [.str a, .str b, .str c]) h = .ok (.bl (isIn (.str s) [a, b, c])) h := gin_strs s [a, b, c]
theorem gtup_s {ds : List D} (hs : small ds.length = true) : gtup ds h = .ok (.tup ds) h := by
  unfold gtup
  rw [hs]
  rfl
end
theorem gl0 {h : Hd} : glst [] h = .ok (.lst []) h := rfl
theorem gt0 {h : Hd} : gtup [] h = .ok (.tup []) h := rfl
theorem gt1 {h : Hd} {a : D} : gtup [a] h = .ok (.tup [a]) h := rfl
theorem gt2 {h : Hd} {a b : D} : gtup [a, b] h = .ok (.tup [a, b]) h := rfl
theorem gt3 {h : Hd} {a b c : D} : gtup [a, b, c] h = .ok (.tup [a, b, c]) h := rfl
theorem gt4 {h : Hd} {a b c d : D} : gtup [a, b, c, d] h = .ok (.tup [a, b, c, d]) h := rfl
theorem ce1 (n : Nat) : ((n : Int) == 1) = (n == 1) := by rw [Bool.eq_iff_iff, beq_iff_eq, beq_iff_eq]; omega
theorem ce2 (n : Nat) : ((n : Int) == 2) = (n == 2) := by rw [Bool.eq_iff_iff, beq_iff_eq, beq_iff_eq]; omega
theorem ce3 (n : Nat) : ((n : Int) == 3) = (n == 3) := by rw [Bool.eq_iff_iff, beq_iff_eq, beq_iff_eq]; omega
theorem ce4 (n : Nat) : ((n : Int) == 4) = (n == 4) := by rw [Bool.eq_iff_iff, beq_iff_eq, beq_iff_eq]; omega
/-! ### the evaluator, step by step -/
local macro_rules | `(tactic| simp only [evw_]) => `(tactic| simp only [fret, fseq, fifS, fand, for_, fnot, fun1, fbin, fvar, fcon, fchain, fargs, fcons, fnil, ftup, flst, gl0, g1, g2, gisi, tyOf, isTy, gcmp, gint, glen, seqOf, lstOf, gneg, Res.bind, Res.st, Rs.fin, fskip, fset, fif, List.getElem?_cons_zero, List.getElem?_cons_succ, List.set_cons_zero, List.set_cons_succ, Bool.not_false, Bool.not_true, gne_int, geq_int, gne_str, geq_str, gix_t0, gix_t1, gix_t2, gix_t3, gin1, gin2, gin3, gt0, gt1, gt2, gt3, gt4, ce1, ce2, ce3, ce4, List.length_cons, List.length_nil, Nat.reduceAdd, Nat.reduceBEq, Bool.false_and, Bool.true_and, if_true])
local macro_rules | `(tactic| simp only [evw_, $ts,*]) => `(tactic| simp only [fret, fseq, fifS, fand, for_, fnot, fun1, fbin, fvar, fcon, fchain, fargs, fcons, fnil, ftup, flst, gl0, g1, g2, gisi, tyOf, isTy, gcmp, gint, glen, seqOf, lstOf, gneg, Res.bind, Res.st, Rs.fin, fskip, fset, fif, List.getElem?_cons_zero, List.getElem?_cons_succ, List.set_cons_zero, List.set_cons_succ, Bool.not_false, Bool.not_true, gne_int, geq_int, gne_str, geq_str, gix_t0, gix_t1, gix_t2, gix_t3, gin1, gin2, gin3, gt0, gt1, gt2, gt3, gt4, ce1, ce2, ce3, ce4, List.length_cons, List.length_nil, Nat.reduceAdd, Nat.reduceBEq, Bool.false_and, Bool.true_and, if_true, $ts,*])
def isWhole (d : D) (lo hi : Int) : Bool := match d with
  | .int i => decide (lo ≤ i) && decide (i ≤ hi)
  | _ => false
section
variable {TL : Nat → CT → Nat → Df} {n : Nat} {h : Hd}
theorem e_is_whole (hn : 1 ≤ n) {d : D} (hd : pur d = true) (lo hi : Int) : callD (TT TL) n 0 [d, .int lo, .int hi] h = .ok (.bl (isWhole d lo hi)) h := by
  obtain ⟨m, rfl, hm⟩ := up1 hn
  rw [r_is_whole]
  cases d with
  | int i =>
    simp only [b_is_whole, isWhole]
    simp only [evw_]
    cases decide (lo ≤ i) <;> rfl
  | _ => first | rfl | cases hd
theorem e_law_is_whole (hn : 1 ≤ n) {d : D} (hd : pur d = true) (lo hi : Int) : callD (TT TL) n 21 [d, .int lo, .int hi] h = .ok (.bl (isWhole d lo hi)) h := by
  obtain ⟨m, rfl, hm⟩ := up1 hn
  rw [r__law_is_whole]
  cases d with
  | int i =>
    simp only [b__law_is_whole, isWhole]
    simp only [evw_]
    cases decide (lo ≤ i) <;> rfl
  | _ => first | rfl | cases hd
theorem e_is_word (hn : 1 ≤ n) {d : D} (hd : pur d = true) (ws : List Str) : callD (TT TL) n 1 [d, .tup (ws.map .str)] h = .ok (.bl (isIn d ws)) h := by
  obtain ⟨m, rfl, hm⟩ := up1 hn
  rw [r_is_word]
  cases d with
  | str s =>
    simp only [b_is_word]
    simp only [evw_]
    rw [gin_strs]
  | _ => first | rfl | cases hd
def isTerm (d : D) : Bool := match d with
  | .tup [a, b] => isIn a ["a", "b", "c"] && isWhole b (-9) 9
  | _ => false
theorem len_ne {r : List D} {k : Nat} (i : Int) (e : i = k) (h : r.length ≠ k) : ((r.length : Int) == i) = false := by
  rw [e]
  exact beq_eq_false_iff_ne.mpr (by omega)
theorem e_is_term (hn : 2 ≤ n) {d : D} (hd : pur d = true) : callD (TT TL) n 2 [d] h = .ok (.bl (isTerm d)) h := by
  obtain ⟨m, rfl, hm⟩ := up1 hn
  rw [r_is_term]
  cases d with
  | tup ds =>
    match ds, hd with
    | [], _ => rfl
    | [_], _ => rfl
    | [a, b], hd =>
      have hd : pur a = true ∧ pur b = true := by simpa [pur, purL] using hd
      have e1 : callD (TT TL) m 1 [a, .tup [.str "a", .str "b", .str "c"]] h = .ok (.bl (isIn a ["a", "b", "c"])) h := e_is_word (n := m) (by omega) hd.1 ["a", "b", "c"]
      simp only [b_is_term, isTerm]
      simp only [evw_]
      simp only [e1, e_is_whole (n := m) (by omega) hd.2]
      cases isIn a ["a", "b", "c"] <;> rfl
    | a :: b :: c :: r, hd => rfl
  | _ => first | rfl | cases hd
/-! ### comprehensions -/
theorem cloop_filter {t : Tg} {ft elt : Fe} {σ0 : Sl} {p : D → Bool} {f : D → D} : ∀ {ds : List D}, (∀ d ∈ ds, ∃ σ', t.put σ0 d = some σ' ∧ ft σ' h = .ok (.bl (p d)) h ∧ elt σ' h = .ok (f d) h) → cloop t (some ft) elt σ0 ds h = .ok ((ds.filter p).map f) h
  | [], _ => rfl
  | d :: ds, H => by
    obtain ⟨σ', h1, h2, h3⟩ := H d List.mem_cons_self
    have ih := cloop_filter (ds := ds) fun d hd => H d (List.mem_cons_of_mem _ hd)
    show (match t.put σ0 d with
      | none => .stuck
      | some σ => testB (some ft) σ h fun b h => match b with
        | false => cloop t (some ft) elt σ0 ds h
        | true => match elt σ h with
          | .ok y h => (match cloop t (some ft) elt σ0 ds h with
            | .ok ys h => .ok (y :: ys) h
            | _ => .stuck)
          | _ => .stuck : Res (List D)) = _
    rw [h1]
    unfold testB
    simp only [h2, h3, ih]
    cases hp : p d <;> simp [hp]
theorem cloop_map {t : Tg} {elt : Fe} {σ0 : Sl} {f : D → D} : ∀ {ds : List D}, (∀ d ∈ ds, ∃ σ', t.put σ0 d = some σ' ∧ elt σ' h = .ok (f d) h) → cloop t none elt σ0 ds h = .ok (ds.map f) h
  | [], _ => rfl
  | d :: ds, H => by
    obtain ⟨σ', h1, h3⟩ := H d List.mem_cons_self
    have ih := cloop_map (ds := ds) fun d hd => H d (List.mem_cons_of_mem _ hd)
    show (match t.put σ0 d with
      | none => .stuck
      | some σ => testB none σ h fun b h => match b with
        | false => cloop t none elt σ0 ds h
        | true => match elt σ h with
          | .ok y h => (match cloop t none elt σ0 ds h with
            | .ok ys h => .ok (y :: ys) h
            | _ => .stuck)
          | _ => .stuck : Res (List D)) = _
    rw [h1]
    unfold testB
    simp only [h3, ih]
    rfl
theorem comp_of {t : Tg} {it : Fi} {tst : Ft} {elt : Fe} {vs : List Nat} {σ : Sl} {ds ys : List D} {h1 h2 : Hd} (h0 : it σ h = .ok ds h1) (hs : ds.length ≤ 16777215) (hc : cloop t tst elt (wipeS σ vs) ds h1 = .ok ys h2) : fcomp t it tst elt vs σ h = .ok (.lst ys) h2 := by
  show (match it σ h with
    | .ok ds h => if short ds.length then (match cloop t tst elt (wipeS σ vs) ds h with
      | .ok ys h => .ok (.lst ys) h
      | _ => .stuck) else .stuck
    | .exc e h => .exc e h
    | .stuck => .stuck : Res D) = _
  rw [h0]
  show (if short ds.length then (match cloop t tst elt (wipeS σ vs) ds h1 with
      | .ok ys h => .ok (.lst ys) h
      | _ => .stuck) else .stuck : Res D) = _
  rw [show short ds.length = true from Nat.ble_eq_true_of_le hs, if_pos rfl, hc]
theorem purL_mem : ∀ {ds : List D} {d : D}, purL ds = true → d ∈ ds → pur d = true
  | [], _, _, hm => nomatch hm
  | x :: ds, d, hp, hm => by
    rw [purL, Bool.and_eq_true] at hp
    rcases List.mem_cons.mp hm with e | e
    · rw [e]; exact hp.1
    · exact purL_mem hp.2 e
theorem purL_of : ∀ {ds : List D}, (∀ d ∈ ds, pur d = true) → purL ds = true
  | [], _ => rfl
  | x :: ds, H => by
    rw [purL, H x List.mem_cons_self, purL_of fun d hd => H d (List.mem_cons_of_mem _ hd)]
    rfl
theorem deqL_nil (ds : List D) : deqL ds [] = ds.isEmpty := by cases ds <;> rfl
theorem all_of_filter (q : D → Bool) : ∀ ds : List D, (ds.filter fun d => !q d).isEmpty = ds.all q
  | [] => rfl
  | d :: ds => by
    rw [List.filter_cons, List.all_cons]
    cases q d with
    | true => simpa using all_of_filter q ds
    | false => rfl
/-- [x for x in ds if not q(x)] == [] -/
theorem none_bad {ds : List D} {q : D → Bool} (hp : purL ds = true) : geq (.lst (ds.filter fun d => !q d)) (.lst []) h = .ok (.bl (ds.all q)) h := by
  rw [geq_p (show pur (.lst _) = true from (purL_of fun d hd => purL_mem hp (List.mem_filter.mp hd).1 : purL _ = true)) rfl (by decide)]
  show (Res.ok (.bl (deqL _ [])) h : Res D) = _
  rw [deqL_nil, all_of_filter]
theorem some_bad {ds : List D} {q : D → Bool} (hp : purL ds = true) : gne (.lst (ds.filter fun d => !q d)) (.lst []) h = .ok (.bl (!ds.all q)) h := by
  rw [gne_p (show pur (.lst _) = true from (purL_of fun d hd => purL_mem hp (List.mem_filter.mp hd).1 : purL _ = true)) rfl (by decide)]
  show (Res.ok (.bl (!deqL _ [])) h : Res D) = _
  rw [deqL_nil, all_of_filter]
/-! ### steps -/
def isEnd (d : D) : Bool := isNon d || isWhole d (-3) 3
def isPlain (d : D) : Bool := match d with
  | .tup (.str s :: r) =>
    if isIn (.str s) ["join", "less", "cut"] then (match r with
      | [x, y] => isTerm x && isTerm y
      | _ => false)
    else if isIn (.str s) ["shift", "widen"] then (match r with
      | [x] => isWhole x (-4) 4
      | _ => false)
    else if isIn (.str s) ["keep", "drop"] then (match r with
      | [x, y] => isEnd x && isEnd y
      | _ => false)
    else s == "gaps" && r.isEmpty
  | _ => false
theorem e_is_end (hn : 2 ≤ n) {d : D} (hd : pur d = true) : callD (TT TL) n 9 [d] h = .ok (.bl (isEnd d)) h := by
  obtain ⟨m, rfl, hm⟩ := up1 hn
  rw [r_is_end]
  simp only [b_is_end, isEnd]
  simp only [evw_]
  simp only [e_is_whole (n := m) (by omega) hd]
  cases d <;> first | rfl | cases hd
theorem gisi_pur {Ty0 : Ty} {x : D} (hp : pur x = true) : gisi Ty0 x h = .ok (.bl (isTy Ty0 x)) h := by cases x <;> first | rfl | cases hp
theorem gisi_tt {ds : List D} : gisi .tuple (.tup ds) h = .ok (.bl true) h := rfl
theorem plain_no {m : Nat} {a : D} {r : List D} (hd : pur (.tup (a :: r)) = true) (ha : isTy .str a = false) (hp : isPlain (.tup (a :: r)) = false) : (b_is_plain (callD (TT TL) m) [some (.tup (a :: r))] h).fin = .ok (.bl (isPlain (.tup (a :: r)))) h := by
  have e0 : geq (.tup (a :: r)) (.tup []) h = .ok (.bl false) h := by
    rw [geq_p hd rfl (by decide)]
    rfl
  have pa : pur a = true := purL_mem (show purL (a :: r) = true from hd) List.mem_cons_self
  have e1 : gisi .str a h = .ok (.bl false) h := by rw [gisi_pur pa, ha]
  rw [hp]
  simp only [b_is_plain]
  simp only [fret, fseq, fifS, fand, for_, fnot, fun1, fbin, fvar, fcon, ftup, fnil, fargs, gt0, List.getElem?_cons_zero, Res.bind, Res.st, gisi_tt, e0, e1, gix_t0, Bool.not_false, Bool.not_true]
  rfl
theorem e_is_plain (hn : 3 ≤ n) {d : D} (hd : pur d = true) : callD (TT TL) n 10 [d] h = .ok (.bl (isPlain d)) h := by
  obtain ⟨m, rfl, hm⟩ := up1 hn
  rw [r_is_plain]
  cases d with
  | tup ds =>
    match ds, hd with
    | [], _ => rfl
    | .str s :: r, hd =>
      have hr : purL r = true := by simpa [pur, purL] using hd
      have e0 : geq (.tup (.str s :: r)) (.tup []) h = .ok (.bl false) h := by
        rw [geq_p hd rfl (by decide)]
        rfl
      have e1 : geq (.tup (.str s :: r)) (.tup [.str "gaps"]) h = .ok (.bl (s == "gaps" && r.isEmpty)) h := by
        rw [geq_p hd rfl (by decide)]
        show (Res.ok (.bl (s == "gaps" && deqL r [])) h : Res D) = _
        rw [deqL_nil]
      simp only [b_is_plain, isPlain]
      simp only [evw_, e0, e1]
      cases isIn (D.str s) ["join", "less", "cut"] with
      | true =>
        simp only [evw_]
        match r, hr with
        | [], _ => rfl
        | [_], _ => rfl
        | [x, y], hr =>
          have hxy : pur x = true ∧ pur y = true := by simpa [purL] using hr
          simp only [evw_, e_is_term (n := m) (by omega) hxy.1, e_is_term (n := m) (by omega) hxy.2]
          cases isTerm x <;> rfl
        | _ :: _ :: _ :: _, _ => rfl
      | false =>
        simp only [evw_]
        cases isIn (D.str s) ["shift", "widen"] with
        | true =>
          simp only [evw_]
          match r, hr with
          | [], _ => rfl
          | [x], hr =>
            have hx : pur x = true := by simpa [purL] using hr
            simp only [evw_, e_is_whole (n := m) (by omega) hx]
            cases isWhole x (-4) 4 <;> rfl
          | _ :: _ :: _, _ => rfl
        | false =>
          simp only [evw_]
          cases isIn (D.str s) ["keep", "drop"] with
          | true =>
            simp only [evw_]
            match r, hr with
            | [], _ => rfl
            | [_], _ => rfl
            | [x, y], hr =>
              have hxy : pur x = true ∧ pur y = true := by simpa [purL] using hr
              simp only [evw_, e_is_end (n := m) (by omega) hxy.1, e_is_end (n := m) (by omega) hxy.2]
              cases isEnd x <;> rfl
            | _ :: _ :: _ :: _, _ => rfl
          | false =>
            simp only [evw_, e1]
            rfl
    | .non :: _, hd => exact plain_no hd rfl rfl
    | .bl _ :: _, hd => exact plain_no hd rfl rfl
    | .int _ :: _, hd => exact plain_no hd rfl rfl
    | .tup _ :: _, hd => exact plain_no hd rfl rfl
    | .lst _ :: _, hd => exact plain_no hd rfl rfl
    | .scr _ :: _, hd => cases hd
    | .obj _ :: _, hd => cases hd
    | .fn _ :: _, hd => cases hd
    | .clo _ _ :: _, hd => cases hd
  | _ => first | rfl | cases hd
def isCond (d : D) : Bool := match d with
  | .tup (.str s :: r) =>
    if isIn (.str s) ["before", "free", "full"] then (match r with
      | [x, y] => isTerm x && isTerm y
      | _ => false)
    else if s == "in" then (match r with
      | [x] => isTerm x
      | _ => false)
    else s == "many" && (match r with
      | [x] => isWhole x 1 4
      | _ => false)
  | _ => false
theorem pur1 {a : D} {r : List D} (h : purL (a :: r) = true) : pur a = true ∧ purL r = true := by simpa [purL] using h
theorem cond_no {m : Nat} {a : D} {r : List D} (hd : pur (.tup (a :: r)) = true) (ha : isTy .str a = false) (hp : isCond (.tup (a :: r)) = false) : (b_is_condition (callD (TT TL) m) [some (.tup (a :: r))] h).fin = .ok (.bl (isCond (.tup (a :: r)))) h := by
  have e0 : geq (.tup (a :: r)) (.tup []) h = .ok (.bl false) h := by
    rw [geq_p hd rfl (by decide)]
    rfl
  have pa : pur a = true := purL_mem (show purL (a :: r) = true from hd) List.mem_cons_self
  have e1 : gisi .str a h = .ok (.bl false) h := by rw [gisi_pur pa, ha]
  rw [hp]
  simp only [b_is_condition]
  simp only [fret, fseq, fifS, fand, for_, fnot, fun1, fbin, fvar, fcon, ftup, fnil, fargs, gt0, List.getElem?_cons_zero, Res.bind, Res.st, gisi_tt, e0, e1, gix_t0, Bool.not_false, Bool.not_true]
  rfl
theorem e_is_condition (hn : 3 ≤ n) {d : D} (hd : pur d = true) : callD (TT TL) n 8 [d] h = .ok (.bl (isCond d)) h := by
  obtain ⟨m, rfl, hm⟩ := up1 hn
  rw [r_is_condition]
  cases d with
  | tup ds =>
    match ds, hd with
    | [], _ => rfl
    | .str s :: r, hd =>
      have hr : purL r = true := by simpa [pur, purL] using hd
      have e0 : geq (.tup (.str s :: r)) (.tup []) h = .ok (.bl false) h := by
        rw [geq_p hd rfl (by decide)]
        rfl
      simp only [b_is_condition, isCond]
      simp only [evw_, e0]
      cases isIn (D.str s) ["before", "free", "full"] with
      | true =>
        simp only [evw_]
        match r, hr with
        | [], _ => rfl
        | [_], _ => rfl
        | [x, y], hr =>
          have hxy : pur x = true ∧ pur y = true := by simpa [purL] using hr
          simp only [evw_, e_is_term (n := m) (by omega) hxy.1, e_is_term (n := m) (by omega) hxy.2]
          cases isTerm x <;> rfl
        | _ :: _ :: _ :: _, _ => rfl
      | false =>
        simp only [evw_]
        cases s == ("in" : Str) with
        | true =>
          simp only [evw_]
          match r, hr with
          | [], _ => rfl
          | [x], hr =>
            have hx : pur x = true := (pur1 hr).1
            simp only [evw_, e_is_term (n := m) (by omega) hx]
            cases isTerm x <;> rfl
          | _ :: _ :: _, _ => rfl
        | false =>
          simp only [evw_]
          cases s == ("many" : Str) with
          | true =>
            simp only [evw_]
            match r, hr with
            | [], _ => rfl
            | [x], hr =>
              have hx : pur x = true := (pur1 hr).1
              simp only [evw_, e_is_whole (n := m) (by omega) hx]
              cases isWhole x 1 4 <;> rfl
            | _ :: _ :: _, _ => rfl
          | false => rfl
    | .non :: _, hd => exact cond_no hd rfl rfl
    | .bl _ :: _, hd => exact cond_no hd rfl rfl
    | .int _ :: _, hd => exact cond_no hd rfl rfl
    | .tup _ :: _, hd => exact cond_no hd rfl rfl
    | .lst _ :: _, hd => exact cond_no hd rfl rfl
    | .scr _ :: _, hd => cases hd
    | .obj _ :: _, hd => cases hd
    | .fn _ :: _, hd => cases hd
    | .clo _ _ :: _, hd => cases hd
  | _ => first | rfl | cases hd
/-! ### the law's own words -/
theorem e_law_is_term (hn : 2 ≤ n) {d : D} (hd : pur d = true) : callD (TT TL) n 24 [d] h = .ok (.bl (isTerm d)) h := by
  obtain ⟨m, rfl, hm⟩ := up1 hn
  rw [r__law_is_term]
  cases d with
  | tup ds =>
    match ds, hd with
    | [], _ => rfl
    | [_], _ => rfl
    | [a, b], hd =>
      have hd : pur a = true ∧ pur b = true := by simpa [pur, purL] using hd
      cases a with
      | str s =>
        simp only [b__law_is_term, isTerm]
        simp only [evw_, e_law_is_whole (n := m) (by omega) hd.2]
        cases isIn (D.str s) ["a", "b", "c"] <;> rfl
      | _ => first | rfl | cases hd.1
    | a :: b :: c :: r, hd => rfl
  | _ => first | rfl | cases hd
def areTerms (ds : List D) : Bool := match ds with
  | [_, x, y] => isTerm x && isTerm y
  | _ => false
theorem e_law_are_terms (hn : 3 ≤ n) {ds : List D} (hd : purL ds = true) : callD (TT TL) n 25 [.tup ds] h = .ok (.bl (areTerms ds)) h := by
  obtain ⟨m, rfl, hm⟩ := up1 hn
  rw [r__law_are_terms]
  match ds, hd with
  | [], _ => rfl
  | [_], _ => rfl
  | [_, _], _ => rfl
  | [a, x, y], hd =>
    have hx : pur x = true := purL_mem hd (by simp)
    have hy : pur y = true := purL_mem hd (by simp)
    simp only [b__law_are_terms, areTerms]
    simp only [evw_, e_law_is_term (n := m) (by omega) hx, e_law_is_term (n := m) (by omega) hy]
    cases isTerm x <;> rfl
  | _ :: _ :: _ :: _ :: _, _ => rfl
theorem isIn_mem {s : Str} {ws : List Str} (h : isIn (.str s) ws = true) : s ∈ ws := by
  obtain ⟨w, h1, h2⟩ := List.any_eq_true.mp (show (ws.any fun w => w == s) = true from h)
  rw [← beq_iff_eq.mp h2]
  exact h1
theorem e_law_is_condition (hn : 4 ≤ n) {d : D} (hd : pur d = true) : callD (TT TL) n 30 [d] h = .ok (.bl (isCond d)) h := by
  obtain ⟨m, rfl, hm⟩ := up1 hn
  rw [r__law_is_condition]
  cases d with
  | tup ds =>
    match ds, hd with
    | [], _ => rfl
    | [a], hd =>
      cases a with
      | str s =>
        simp only [isCond]
        cases isIn (D.str s) ["before", "free", "full"] <;> cases s == ("in" : Str) <;> cases s == ("many" : Str) <;> rfl
      | _ => first | rfl | cases (pur1 hd).1
    | [a, x], hd =>
      have hx : pur x = true := purL_mem (show purL [a, x] = true from hd) (by simp)
      cases a with
      | str s =>
        simp only [b__law_is_condition, isCond]
        have g : gin true (.int ((0 + 1 + 1 : Nat) : Int)) (.tup [.int 2, .int 3]) h = .ok (.bl false) h := rfl
        simp only [evw_, g, e_law_is_term (n := m) (by omega) hx, e_law_is_whole (n := m) (by omega) hx]
        cases hI : isIn (D.str s) ["before", "free", "full"] with
        | true =>
          have z : (s == ("in" : Str)) = false ∧ (s == ("many" : Str)) = false := by
            have hm := isIn_mem hI
            simp only [List.mem_cons, List.not_mem_nil, or_false] at hm
            rcases hm with e | e | e <;> (subst e; exact ⟨by decide +kernel, by decide +kernel⟩)
          rw [z.1]
          simp only [evw_, z.2]
        | false =>
          cases s == ("in" : Str) with
          | true => rfl
          | false =>
            simp only [evw_, e_law_is_whole (n := m) (by omega) hx]
            cases s == ("many" : Str) <;> rfl
      | _ => first | rfl | cases (pur1 hd).1
    | [a, x, y], hd =>
      have hp : purL [a, x, y] = true := hd
      cases a with
      | str s =>
        simp only [b__law_is_condition, isCond]
        have g : gin true (.int ((0 + 1 + 1 + 1 : Nat) : Int)) (.tup [.int 2, .int 3]) h = .ok (.bl false) h := rfl
        simp only [evw_, g, e_law_are_terms (n := m) (by omega) hp, areTerms]
        cases hI : isIn (D.str s) ["before", "free", "full"] with
        | true => rfl
        | false => cases s == ("in" : Str) <;> cases s == ("many" : Str) <;> rfl
      | _ => first | rfl | cases (pur1 hp).1
    | a :: _ :: _ :: _ :: _, hd =>
      cases a with
      | str s =>
        simp only [isCond]
        cases isIn (D.str s) ["before", "free", "full"] <;> cases s == ("in" : Str) <;> cases s == ("many" : Str) <;> rfl
      | _ => first | rfl | cases (pur1 (show purL (_ :: _) = true from hd)).1
  | _ => first | rfl | cases hd
theorem wordJ {s : Str} (h : isIn (.str s) ["join", "less", "cut"] = true) : isIn (.str s) ["shift", "widen"] = false ∧ isIn (.str s) ["keep", "drop"] = false ∧ (s == ("gaps" : Str)) = false := by
  have hm := isIn_mem h
  simp only [List.mem_cons, List.not_mem_nil, or_false] at hm
  rcases hm with e | e | e <;> (subst e; exact ⟨by decide +kernel, by decide +kernel, by decide +kernel⟩)
theorem wordW {s : Str} (h : isIn (.str s) ["shift", "widen"] = true) : isIn (.str s) ["join", "less", "cut"] = false ∧ isIn (.str s) ["keep", "drop"] = false ∧ (s == ("gaps" : Str)) = false := by
  have hm := isIn_mem h
  simp only [List.mem_cons, List.not_mem_nil, or_false] at hm
  rcases hm with e | e <;> (subst e; exact ⟨by decide +kernel, by decide +kernel, by decide +kernel⟩)
theorem wordK {s : Str} (h : isIn (.str s) ["keep", "drop"] = true) : isIn (.str s) ["join", "less", "cut"] = false ∧ isIn (.str s) ["shift", "widen"] = false ∧ (s == ("gaps" : Str)) = false := by
  have hm := isIn_mem h
  simp only [List.mem_cons, List.not_mem_nil, or_false] at hm
  rcases hm with e | e <;> (subst e; exact ⟨by decide +kernel, by decide +kernel, by decide +kernel⟩)
theorem cut_from (ds : List D) (k : Nat) : cutL ds (some (k : Int)) none = ds.drop k := by
  unfold cutL
  have e1 : HT.sIx ds.length 0 (some (k : Int)) = min k ds.length := by
    show (if (k : Int) < 0 then ((k : Int) + (ds.length : Int)).toNat else min (k : Int).toNat ds.length) = _
    rw [if_neg (by omega), Int.toNat_natCast]
  have e2 : HT.sIx ds.length ds.length none = ds.length := rfl
  rw [e1, e2]
  rw [List.take_of_length_le (by rw [List.length_drop]; exact Nat.le_refl _)]
  by_cases hk : k ≤ ds.length
  · rw [Nat.min_eq_left hk]
  · rw [Nat.min_eq_right (by omega), List.drop_of_length_le (Nat.le_refl _), List.drop_of_length_le (by omega)]
theorem gcut_1 (ds : List D) : gcut (.tup ds) (some 1) none h = .ok (.tup (ds.drop 1)) h := by
  show (Res.ok (.tup (cutL ds (some ((1 : Nat) : Int)) none)) h : Res D) = _
  rw [cut_from]
theorem gcut_2 (ds : List D) : gcut (.tup ds) (some 2) none h = .ok (.tup (ds.drop 2)) h := by
  show (Res.ok (.tup (cutL ds (some ((2 : Nat) : Int)) none)) h : Res D) = _
  rw [cut_from]
theorem gis_non {d : D} (hd : pur d = true) (neg : Bool) : gis neg d .non h = .ok (.bl (neg != isNon d)) h := by cases d <;> first | rfl | (cases hd) 
theorem e_law_is_simple (hn : 4 ≤ n) {d : D} (hd : pur d = true) : callD (TT TL) n 31 [d] h = .ok (.bl (isPlain d)) h := by
  obtain ⟨m, rfl, hm⟩ := up1 hn
  rw [r__law_is_simple]
  cases d with
  | tup ds =>
    match ds, hd with
    | [], _ => rfl
    | [a], hd =>
      cases a with
      | str s =>
        simp only [b__law_is_simple, isPlain]
        have g : gin true (.int ((0 + 1 : Nat) : Int)) (.tup [.int 1, .int 2, .int 3]) h = .ok (.bl false) h := rfl
        simp only [evw_, g]
        cases hJ : isIn (D.str s) ["join", "less", "cut"] with
        | true =>
          rw [(wordJ hJ).2.2]
          rfl
        | false =>
          cases hW : isIn (D.str s) ["shift", "widen"] with
          | true =>
            rw [(wordW hW).2.2]
            rfl
          | false =>
            cases hK : isIn (D.str s) ["keep", "drop"] with
            | true =>
              rw [(wordK hK).2.2]
              rfl
            | false => cases s == ("gaps" : Str) <;> rfl
      | _ => first | rfl | cases (pur1 hd).1
    | [a, x], hd =>
      have hx : pur x = true := purL_mem (show purL [a, x] = true from hd) (by simp)
      cases a with
      | str s =>
        simp only [b__law_is_simple, isPlain]
        have g : gin true (.int ((0 + 1 + 1 : Nat) : Int)) (.tup [.int 1, .int 2, .int 3]) h = .ok (.bl false) h := rfl
        simp only [evw_, g, e_law_is_whole (n := m) (by omega) hx]
        cases hJ : isIn (D.str s) ["join", "less", "cut"] with
        | true =>
          rw [(wordJ hJ).1]
          rfl
        | false =>
          cases hW : isIn (D.str s) ["shift", "widen"] with
          | true => rfl
          | false => cases isIn (D.str s) ["keep", "drop"] <;> cases s == ("gaps" : Str) <;> rfl
      | _ => first | rfl | cases (pur1 hd).1
    | [a, x, y], hd =>
      have hp : purL [a, x, y] = true := hd
      have hxy : purL [x, y] = true := (pur1 hp).2
      cases a with
      | str s =>
        have g : gin true (.int ((0 + 1 + 1 + 1 : Nat) : Int)) (.tup [.int 1, .int 2, .int 3]) h = .ok (.bl false) h := rfl
        have c1 : fcomp (.one 1) (fiSeq (fslice (fvar 0) (some (fcon (.int 1))) none)) (some (fand (fbin (gis true) (fvar 1) (fcon .non)) (fnot (fargs (callD (TT TL) m 21) (fcons (fvar 1) (fcons (fun1 gneg (fcon (.int 3))) (fcons (fcon (.int 3)) fnil))))))) (fvar 1) [1] [some (.tup [.str s, x, y]), none] h
            = .ok (.lst ([x, y].filter fun d => !isEnd d)) h := by
          refine comp_of (ds := [x, y]) (h1 := h) ?_ (show (2 : Nat) ≤ 16777215 by decide) ?_
          · simp only [fiSeq, fslice, fpart, fvar, fcon, Res.bind, List.getElem?_cons_zero, gcut_1]
            rfl
          · have q := cloop_filter (h := h) (t := .one 1) (ft := fand (fbin (gis true) (fvar 1) (fcon .non)) (fnot (fargs (callD (TT TL) m 21) (fcons (fvar 1) (fcons (fun1 gneg (fcon (.int 3))) (fcons (fcon (.int 3)) fnil)))))) (elt := fvar 1) (σ0 := wipeS [some (.tup [.str s, x, y]), none] [1]) (p := fun d => !isEnd d) (f := id) (ds := [x, y]) fun d hdm => ⟨[some (.tup [.str s, x, y]), some d], rfl, ?_, rfl⟩
            · rw [List.map_id] at q
              exact q
            · have pd : pur d = true := purL_mem hxy hdm
              have w := fun lo hi => e_law_is_whole (TL := TL) (n := m) (h := h) (by omega) pd lo hi
              simp only [evw_, gis_non pd, w, isEnd]
              cases isNon d <;> rfl
        simp only [b__law_is_simple, isPlain]
        simp only [evw_, g, c1, e_law_are_terms (n := m) (by omega) hp, areTerms, none_bad hxy]
        cases hJ : isIn (D.str s) ["join", "less", "cut"] with
        | true =>
          simp only [evw_, (wordJ hJ).2.1, hJ, e_law_are_terms (n := m) (by omega) hp, areTerms]
        | false =>
          cases hW : isIn (D.str s) ["shift", "widen"] with
          | true =>
            simp only [evw_, (wordW hW).2.1, hJ]
            rfl
          | false =>
            cases isIn (D.str s) ["keep", "drop"] with
            | true =>
              simp only [evw_, none_bad hxy]
              show (Res.ok (.bl (isEnd x && (isEnd y && true))) h : Res D) = _
              rw [Bool.and_true]
              rfl
            | false =>
              simp only [evw_, hJ]
              cases s == ("gaps" : Str) <;> rfl
      | _ => first | rfl | cases (pur1 hp).1
    | a :: _ :: _ :: _ :: _, hd =>
      cases a with
      | str s =>
        simp only [isPlain]
        cases isIn (D.str s) ["join", "less", "cut"] <;> cases isIn (D.str s) ["shift", "widen"] <;> cases isIn (D.str s) ["keep", "drop"] <;> cases s == ("gaps" : Str) <;> rfl
      | _ => first | rfl | cases (pur1 (show purL (_ :: _) = true from hd)).1
  | _ => first | rfl | cases hd
/-- [d for d in ds if not p(d)], ds in slot 0 (or wherever f reads it), p the def at i -/
theorem comp_pred {m i j : Nat} {p : D → Bool} {σ : Sl} {ds : List D} {f : Fe} (hf : f σ h = .ok (.tup ds) h) (hj : j < σ.length) (hl : ds.length ≤ 16777215) (H : ∀ d ∈ ds, callD (TT TL) m i [d] h = .ok (.bl (p d)) h) :
    fcomp (.one j) (fiSeq f) (some (fnot (fargs (callD (TT TL) m i) (fcons (fvar j) fnil)))) (fvar j) [j] σ h = .ok (.lst (ds.filter fun d => !p d)) h := by
  refine comp_of (ds := ds) (h1 := h) ?_ hl ?_
  · simp only [fiSeq, hf, Res.bind]
    rfl
  · have q := cloop_filter (h := h) (t := .one j) (ft := fnot (fargs (callD (TT TL) m i) (fcons (fvar j) fnil))) (elt := fvar j) (σ0 := wipeS σ [j]) (p := fun d => !p d) (f := id) (ds := ds) fun d hd => by
      have e1 : ((σ.set j none).set j (some d))[j]? = some (some d) := List.getElem?_set_self (by rw [List.length_set]; exact hj)
      refine ⟨(σ.set j none).set j (some d), rfl, ?_, ?_⟩
      · simp only [fnot, fargs, fcons, fvar, fnil, e1, Res.bind, H d hd]
      · simp only [fvar, e1]
        rfl
    rw [List.map_id] at q
    exact q
theorem cl3 (n : Nat) : decide ((n : Int) ≤ 3) = decide (n ≤ 3) := by rw [decide_eq_decide]; omega
theorem cg3 (n : Nat) : decide ((3 : Int) < n) = !decide (n ≤ 3) := by rw [← decide_not, decide_eq_decide]; omega
theorem cg8 (n : Nat) : decide ((8 : Int) < n) = !decide (n ≤ 8) := by rw [← decide_not, decide_eq_decide]; omega
def isBody (d : D) : Bool := match d with
  | .tup ds => decide (ds.length ≤ 3) && ds.all isPlain
  | _ => false
theorem e_is_body (hn : 4 ≤ n) {d : D} (hd : pur d = true) : callD (TT TL) n 11 [d] h = .ok (.bl (isBody d)) h := by
  obtain ⟨m, rfl, hm⟩ := up1 hn
  rw [r_is_body]
  cases d with
  | tup ds =>
    have hp : purL ds = true := hd
    simp only [b_is_body, isBody]
    by_cases hl : ds.length ≤ 3
    · have c1 := comp_pred (TL := TL) (h := h) (m := m) (i := 10) (j := 1) (p := isPlain) (σ := [some (.tup ds), none]) (f := fvar 0) (ds := ds) rfl (by show 1 < 2; decide) (by omega) fun d hd => e_is_plain (by omega) (purL_mem hp hd)
      simp only [evw_, c1, none_bad hp, cl3, decide_eq_true hl]
    · simp only [evw_, cl3, decide_eq_false hl]
  | _ => first | rfl | cases hd
def isStep (d : D) : Bool := match d with
  | .tup [a, c, x, y] => isIn a ["if"] && (isCond c && (isBody x && isBody y))
  | d => isPlain d
theorem beq_comm' {a b : Str} : (a == b) = (b == a) := by
  rw [Bool.eq_iff_iff, beq_iff_eq, beq_iff_eq]
  exact eq_comm
theorem isIn1 (s w : Str) : isIn (.str s) [w] = (s == w) := by
  show ((w == s) || false) = _
  rw [Bool.or_false, beq_comm']
theorem plain4 {a b c d : D} {r : List D} : isPlain (.tup (a :: b :: c :: d :: r)) = false := by
  cases a with
  | str s =>
    simp only [isPlain]
    cases isIn (D.str s) ["join", "less", "cut"] <;> cases isIn (D.str s) ["shift", "widen"] <;> cases isIn (D.str s) ["keep", "drop"] <;> cases s == ("gaps" : Str) <;> rfl
  | _ => rfl
theorem ge5 (k : Nat) : (k + 1 + 1 + 1 + 1 + 1 == 4) = false := rfl
theorem e_is_step (hn : 5 ≤ n) {d : D} (hd : pur d = true) : callD (TT TL) n 12 [d] h = .ok (.bl (isStep d)) h := by
  obtain ⟨m, rfl, hm⟩ := up1 hn
  rw [r_is_step]
  have e0 := e_is_plain (TL := TL) (n := m) (h := h) (by omega) hd
  simp only [b_is_step]
  cases d with
  | tup ds =>
    match ds, hd with
    | [], _ => simp only [evw_, e0]; rfl
    | [_], _ => simp only [evw_, e0]; rfl
    | [_, _], _ => simp only [evw_, e0]; rfl
    | [_, _, _], _ => simp only [evw_, e0]; rfl
    | [a, c, x, y], hd =>
      have hp : purL [a, c, x, y] = true := hd
      have pa : pur a = true := purL_mem hp (by simp)
      have pc : pur c = true := purL_mem hp (by simp)
      have px : pur x = true := purL_mem hp (by simp)
      have py : pur y = true := purL_mem hp (by simp)
      have w : callD (TT TL) m 1 [a, .tup [.str "if"]] h = .ok (.bl (isIn a ["if"])) h := e_is_word (by omega) pa ["if"]
      simp only [evw_, e0, w]
      simp only [isStep]
      cases isIn a ["if"] with
      | true =>
        simp only [evw_, e_is_condition (n := m) (by omega) pc, e_is_body (n := m) (by omega) px, e_is_body (n := m) (by omega) py]
        cases isCond c <;> cases isBody x <;> rfl
      | false =>
        rw [plain4]
        rfl
    | _ :: _ :: _ :: _ :: _ :: _, _ => simp only [evw_, e0, ge5]; rfl
  | _ => first | (simp only [evw_, e0]; rfl) | cases hd
theorem e_law_is_step (hn : 5 ≤ n) {d : D} (hd : pur d = true) : callD (TT TL) n 32 [d] h = .ok (.bl (isStep d)) h := by
  obtain ⟨m, rfl, hm⟩ := up1 hn
  rw [r__law_is_step]
  have e0 := e_law_is_simple (TL := TL) (n := m) (h := h) (by omega) hd
  simp only [b__law_is_step]
  generalize hL : ffor _ _ _ = F
  cases d with
  | tup ds =>
    match ds, hd with
    | [], _ => simp only [evw_, e0]; rfl
    | [_], _ => simp only [evw_, e0]; rfl
    | [_, _], _ => simp only [evw_, e0]; rfl
    | [_, _, _], _ => simp only [evw_, e0]; rfl
    | [a, c, x, y], hd =>
      have hp : purL [a, c, x, y] = true := hd
      have pa : pur a = true := purL_mem hp (by simp)
      have pc : pur c = true := purL_mem hp (by simp)
      have px : pur x = true := purL_mem hp (by simp)
      have py : pur y = true := purL_mem hp (by simp)
      cases a with
      | str s =>
        simp only [isStep, isIn1]
        simp only [evw_, e0, e_law_is_condition (n := m) (by omega) pc]
        cases s == ("if" : Str) with
        | false => rfl
        | true =>
          cases isCond c with
          | false => rfl
          | true =>
            -- the bodies, one behind the other
            have body : ∀ (b : D), pur b = true → ∀ σ : Sl, σ = [some (.tup [.str s, c, x, y]), some b, none] → (fseq (fifS (for_ (fnot (fun1 (gisi .tuple) (fvar 1))) (fbin ggt (fargs (g1 glen) (fcons (fvar 1) fnil)) (fcon (.int 3)))) (fret (fcon (.bl false))) fskip)
                (fifS (fbin gne (fcomp (.one 2) (fiSeq (fvar 1)) (some (fnot (fargs (callD (TT TL) m 31) (fcons (fvar 2) fnil)))) (fvar 2) [2]) (flst fnil)) (fret (fcon (.bl false))) fskip)) σ h = if isBody b then .nx σ h else .rt (.bl false) h := fun b pb σ hσ => by
              subst hσ
              cases b with
              | tup bs =>
                have hb : purL bs = true := pb
                simp only [isBody]
                by_cases hl : bs.length ≤ 3
                · have c1 := comp_pred (TL := TL) (h := h) (m := m) (i := 31) (j := 2) (p := isPlain) (σ := [some (.tup [.str s, c, x, y]), some (.tup bs), none]) (f := fvar 1) (ds := bs) rfl (by show 2 < 3; decide) (by omega) fun d hd => e_law_is_simple (by omega) (purL_mem hb hd)
                  simp only [evw_, c1, some_bad hb, cg3, decide_eq_true hl]
                  cases bs.all isPlain <;> rfl
                · simp only [evw_, cg3, decide_eq_false hl]
                  rfl
              | _ => first | rfl | cases pb
            have i1 : fiSeq (fslice (fvar 0) (some (fcon (.int 2))) none) [some (.tup [.str s, c, x, y]), none, none] h = .ok [x, y] h := by
              simp only [fiSeq, fslice, fpart, fvar, fcon, Res.bind, List.getElem?_cons_zero, gcut_2]
              rfl
            have loop : F [some (.tup [.str s, c, x, y]), none, none] h = if isBody x && isBody y then .nx [some (.tup [.str s, c, x, y]), some y, none] h else .rt (.bl false) h := by
              rw [← hL]
              unfold ffor
              rw [i1]
              simp only [floop, Tg.put, List.set_cons_zero, List.set_cons_succ]
              rw [body x px _ rfl]
              cases isBody x with
              | false => rfl
              | true =>
                simp only [if_true, List.set_cons_zero, List.set_cons_succ]
                rw [body y py _ rfl]
                cases isBody y <;> rfl
            simp only [evw_, loop]
            cases isBody x <;> cases isBody y <;> rfl
      | _ => first | (simp only [evw_, e0]; rfl) | (exfalso; cases pa; done)
    | _ :: _ :: _ :: _ :: _ :: _, _ => simp only [evw_, e0, ge5]; rfl
  | _ => first | (simp only [evw_, e0]; rfl) | cases hd
/-! ### sizes, scripts -/
def tlen (d : D) : Int := match d with
  | .tup x => x.length
  | _ => 0
def stepSize (d : D) : Int := match d with
  | .tup [a, _, x, y] => if isIn a ["if"] then 1 + tlen x + tlen y else 1
  | _ => 1
theorem plain_shape {d : D} (h : isPlain d = true) : ∃ s r, d = .tup (.str s :: r) ∧ (s == ("if" : Str)) = false ∧ r.length ≤ 2 := by
  cases d with
  | tup ds =>
    match ds, h with
    | .str s :: r, h =>
      refine ⟨s, r, rfl, ?_, ?_⟩
      · cases e : s == ("if" : Str) with
        | false => rfl
        | true =>
          have := beq_iff_eq.mp e
          subst this
          exfalso
          have j : isIn (.str "if") ["join", "less", "cut"] = false := by decide +kernel
          have w : isIn (.str "if") ["shift", "widen"] = false := by decide +kernel
          have k : isIn (.str "if") ["keep", "drop"] = false := by decide +kernel
          have g : (("if" : Str) == ("gaps" : Str)) = false := by decide +kernel
          simp only [isPlain, j, w, k, g] at h
          cases h
      · simp only [isPlain] at h
        match r, h with
        | [], _ => exact Nat.zero_le _
        | [_], _ => exact Nat.le_succ _
        | [_, _], _ => exact Nat.le_refl _
        | a :: b :: c :: t, h =>
          exfalso
          revert h
          cases isIn (D.str s) ["join", "less", "cut"] <;> cases isIn (D.str s) ["shift", "widen"] <;> cases isIn (D.str s) ["keep", "drop"] <;> cases s == ("gaps" : Str) <;> (intro h; cases h)
  | _ => cases h
theorem step_shape {d : D} (h : isStep d = true) : (∃ c x y, d = .tup [.str "if", c, .tup x, .tup y] ∧ isCond c = true ∧ isBody (.tup x) = true ∧ isBody (.tup y) = true) ∨ isPlain d = true := by
  cases d with
  | tup ds =>
    match ds, h with
    | [], h => exact .inr h
    | [_], h => exact .inr h
    | [_, _], h => exact .inr h
    | [_, _, _], h => exact .inr h
    | [a, c, x, y], h =>
      have h : (isIn a ["if"] && (isCond c && (isBody x && isBody y))) = true := h
      simp only [Bool.and_eq_true] at h
      obtain ⟨h1, h2, h3, h4⟩ := h
      cases a with
      | str s =>
        rw [isIn1] at h1
        have := beq_iff_eq.mp h1
        subst this
        cases x with
        | tup x =>
          cases y with
          | tup y => exact .inl ⟨c, x, y, rfl, h2, h3, h4⟩
          | _ => cases h4
        | _ => cases h3
      | _ => cases h1
    | _ :: _ :: _ :: _ :: _ :: _, h => exact .inr h
  | _ => exact .inr h
theorem size_plain {d : D} (h : isPlain d = true) : stepSize d = 1 := by
  obtain ⟨s, r, rfl, h1, h2⟩ := plain_shape h
  match r, h2 with
  | [], _ => rfl
  | [_], _ => rfl
  | [_, _], _ => rfl
  | _ :: _ :: _ :: _, h => simp at h
theorem e_size_of (hn : 1 ≤ n) {d : D} (hd : isStep d = true) : callD (TT TL) n 13 [d] h = .ok (.int (stepSize d)) h := by
  obtain ⟨m, rfl, hm⟩ := up1 hn
  rw [r_size_of]
  simp only [b_size_of]
  rcases step_shape hd with ⟨c, x, y, rfl, _⟩ | hp
  · have e : (("if" : Str) == ("if" : Str)) = true := beq_self_eq_true _
    have e2 : isIn (.str "if") ["if"] = true := by rw [isIn1]; exact e
    simp only [stepSize, tlen, e2]
    simp only [evw_, e]
    simp only [gadd, Res.bind]
  · rw [size_plain hp]
    obtain ⟨s, r, rfl, h1, h2⟩ := plain_shape hp
    simp only [evw_, h1]
def sizes (ds : List D) : Int := (ds.map stepSize).sum
theorem ints_of (f : D → Int) : ∀ ds : List D, intsOf (ds.map fun d => .int (f d)) = some (ds.map f)
  | [] => rfl
  | d :: ds => by
    rw [List.map_cons, List.map_cons]
    unfold intsOf
    rw [ints_of f ds]
    rfl
theorem e_steps_in (hn : 2 ≤ n) {ds : List D} (hs : ds.all isStep = true) (hl : ds.length ≤ 8) : callD (TT TL) n 14 [.tup ds] h = .ok (.int (sizes ds)) h := by
  obtain ⟨m, rfl, hm⟩ := up1 hn
  rw [r_steps_in]
  have c1 : fcomp (.one 1) (fiSeq (fvar 0)) none (fargs (callD (TT TL) m 13) (fcons (fvar 1) fnil)) [1] [some (.tup ds), none] h = .ok (.lst (ds.map fun d => .int (stepSize d))) h := by
    refine comp_of (ds := ds) (h1 := h) rfl (by omega) ?_
    refine cloop_map fun d hd => ⟨[some (.tup ds), some d], rfl, ?_⟩
    have := e_size_of (TL := TL) (n := m) (h := h) (by omega) (List.all_eq_true.mp hs d hd)
    simp only [evw_, this]
  simp only [b_steps_in]
  simp only [evw_, c1]
  simp only [gsum, lstOf, ints_of]
  rfl
/-- a loop that adds up -/
theorem floop_sum {f : D → Int} {body : Fs} {x : D} : ∀ {ds : List D} {t : Int} {c : Option D}, (∀ d ∈ ds, ∀ (t : Int), body [some x, some (.int t), some d] h = .nx [some x, some (.int (t + f d)), some d] h) →
    ∃ c', floop (.one 2) body ds [some x, some (.int t), c] h = .nx [some x, some (.int (t + (ds.map f).sum)), c'] h
  | [], t, c, _ => ⟨c, by simp [floop]⟩
  | d :: ds, t, c, H => by
    obtain ⟨c', e⟩ := floop_sum (ds := ds) (t := t + f d) (c := some d) fun d hd => H d (List.mem_cons_of_mem _ hd)
    refine ⟨c', ?_⟩
    simp only [floop, Tg.put, List.set_cons_zero, List.set_cons_succ]
    rw [H d List.mem_cons_self]
    simp only []
    rw [e, List.map_cons, List.sum_cons, Int.add_assoc]
theorem e_law_size (hn : 1 ≤ n) {ds : List D} (hs : ds.all isStep = true) : callD (TT TL) n 33 [.tup ds] h = .ok (.int (sizes ds)) h := by
  obtain ⟨m, rfl, hm⟩ := up1 hn
  rw [r__law_size]
  simp only [b__law_size]
  generalize hL : ffor _ _ _ = F
  have loop : ∃ c', F [some (.tup ds), some (.int 0), none] h = .nx [some (.tup ds), some (.int (sizes ds)), c'] h := by
    rw [← hL]
    unfold ffor
    have q := floop_sum (h := h) (f := stepSize) (x := .tup ds) (ds := ds) (t := 0) (c := none) (body := fset 1 (fbin gadd (fvar 1) (fif (fbin gne (fbin gix (fvar 2) (fcon (.int 0))) (fcon (.str "if"))) (fcon (.int 1)) (fbin gadd (fbin gadd (fcon (.int 1)) (fargs (g1 glen) (fcons (fbin gix (fvar 2) (fcon (.int 2))) fnil))) (fargs (g1 glen) (fcons (fbin gix (fvar 2) (fcon (.int 3))) fnil)))))) fun d hd t => by
      have hd := List.all_eq_true.mp hs d hd
      rcases step_shape hd with ⟨c, x, y, rfl, _⟩ | hp
      · have e : (("if" : Str) == ("if" : Str)) = true := beq_self_eq_true _
        have e2 : isIn (.str "if") ["if"] = true := by rw [isIn1]; exact e
        simp only [stepSize, tlen, e2]
        simp only [evw_, e]
        simp only [gadd, Res.bind, if_true]
      · rw [size_plain hp]
        obtain ⟨s, r, rfl, h1, h2⟩ := plain_shape hp
        simp only [evw_, h1]
        simp only [gadd, Res.bind]
    rw [Int.zero_add] at q
    exact q
  obtain ⟨c', loop⟩ := loop
  simp only [evw_, loop]
theorem cl12 (i : Int) : decide (i ≤ 12) = decide (i < 13) := by rw [decide_eq_decide]; omega
def isScript (d : D) : Bool := match d with
  | .tup ds => decide (ds.length ≤ 8) && (ds.all isStep && decide (sizes ds < 13))
  | _ => false
theorem e_is_script (hn : 6 ≤ n) {d : D} (hd : pur d = true) : callD (TT TL) n 15 [d] h = .ok (.bl (isScript d)) h := by
  obtain ⟨m, rfl, hm⟩ := up1 hn
  rw [r_is_script]
  cases d with
  | tup ds =>
    have hp : purL ds = true := hd
    simp only [b_is_script, isScript]
    by_cases hl : ds.length ≤ 8
    · have c1 := comp_pred (TL := TL) (h := h) (m := m) (i := 12) (j := 1) (p := isStep) (σ := [some (.tup ds), none]) (f := fvar 0) (ds := ds) rfl (by show 1 < 2; decide) (by omega) fun d hd => e_is_step (by omega) (purL_mem hp hd)
      simp only [evw_, c1, some_bad hp, cg8, decide_eq_true hl]
      cases hs : ds.all isStep with
      | true =>
        simp only [evw_, e_steps_in (n := m) (h := h) (by omega) hs hl, cl12]
      | false => rfl
    · simp only [evw_, cg8, decide_eq_false hl]
  | _ => first | rfl | cases hd
theorem e_law_is_script (hn : 6 ≤ n) {d : D} (hd : pur d = true) : callD (TT TL) n 34 [d] h = .ok (.bl (isScript d)) h := by
  obtain ⟨m, rfl, hm⟩ := up1 hn
  rw [r__law_is_script]
  cases d with
  | tup ds =>
    have hp : purL ds = true := hd
    simp only [b__law_is_script, isScript]
    by_cases hl : ds.length ≤ 8
    · have c1 := comp_pred (TL := TL) (h := h) (m := m) (i := 32) (j := 1) (p := isStep) (σ := [some (.tup ds), none]) (f := fvar 0) (ds := ds) rfl (by show 1 < 2; decide) (by omega) fun d hd => e_law_is_step (by omega) (purL_mem hp hd)
      simp only [evw_, c1, none_bad hp, cg8, decide_eq_true hl]
      cases hs : ds.all isStep with
      | true =>
        simp only [evw_, e_law_size (n := m) (h := h) (by omega) hs]
      | false => rfl
    · simp only [evw_, cg8, decide_eq_false hl]
  | _ => first | rfl | cases hd
end

/-! text Wp.lean -/
open PySem L2 TL
/-! what a run brings: weakest preconditions over the evaluator -/
def wR {α : Type} (r : Res α) (Q : α → Hd → Prop) (E : Ec → Hd → Prop) : Prop := match r with
  | .ok a h => Q a h
  | .exc e h => E e h
  | .stuck => False
structure Po where
  nx : Sl → Hd → Prop
  rt : D → Hd → Prop
  bk : Sl → Hd → Prop
  ct : Sl → Hd → Prop
  ex : Ec → Hd → Prop
def wS (r : Rs) (P : Po) : Prop := match r with
  | .nx σ h => P.nx σ h
  | .rt d h => P.rt d h
  | .bk σ h => P.bk σ h
  | .ct σ h => P.ct σ h
  | .exc e _ h => P.ex e h
  | .stuck => False
/-- by the truth of a value -/
def onB (d : D) (A B : Prop) : Prop := match d with
  | .bl b => (b = true → A) ∧ (b = false → B)
  | _ => False
abbrev noE : Ec → Hd → Prop := fun _ _ => False
section
variable {α β : Type} {r : Res α} {Q : α → Hd → Prop} {E : Ec → Hd → Prop} {P : Po} {h : Hd} {σ : Sl} {A B : Prop} {QD : D → Hd → Prop} {QL : List D → Hd → Prop} {fa fb fc : Fe} {fr : Fa} {f g : Fs}
theorem wR_ok {a : α} : wR (.ok a h) Q E = Q a h := rfl
theorem wR_exc {e : Ec} : wR (.exc e h : Res α) Q E = E e h := rfl
theorem wR_bind {k : α → Hd → Res β} {Q : β → Hd → Prop} : wR (r.bind k) Q E = wR r (fun a h => wR (k a h) Q E) E := by cases r <;> rfl
theorem wS_st {r : Res D} {k : D → Hd → Rs} : wS (r.st σ k) P = wR r (fun d h => wS (k d h) P) P.ex := by cases r <;> rfl
theorem wS_nx : wS (.nx σ h) P = P.nx σ h := rfl
theorem wS_rt {d : D} : wS (.rt d h) P = P.rt d h := rfl
theorem wR_fin {r : Rs} : wR r.fin QD E = wS r ⟨fun _ h => QD .non h, QD, fun _ _ => False, fun _ _ => False, E⟩ := by cases r <;> rfl
theorem onB_t : onB (.bl true) A B = A := by simp [onB]
theorem onB_f : onB (.bl false) A B = B := by simp [onB]
theorem onB_of {b : Bool} (a : b = true → A) (c : b = false → B) : onB (.bl b) A B := ⟨a, c⟩
theorem onB_dec {p : Prop} [Decidable p] (a : p → A) (c : ¬ p → B) : onB (.bl (decide p)) A B := ⟨fun z => a (of_decide_eq_true z), fun z => c (of_decide_eq_false z)⟩
theorem onB_m {d : D} {k1 k2 : Rs} : wS (match d with | .bl true => k1 | .bl false => k2 | _ => .stuck) P = onB d (wS k1 P) (wS k2 P) := by
  cases d with
  | bl b => cases b <;> simp [onB]
  | _ => rfl
theorem onB_r {d : D} {k1 k2 : Res α} : wR (match d with | .bl true => k1 | .bl false => k2 | _ => .stuck) Q E = onB d (wR k1 Q E) (wR k2 Q E) := by
  cases d with
  | bl b => cases b <;> simp [onB]
  | _ => rfl
/-! ### expressions -/
theorem w_var {i : Nat} : wR (fvar i σ h) QD E = (match σ[i]? with | some (some d) => QD d h | _ => False) := by
  unfold fvar
  cases σ[i]? with
  | none => rfl
  | some d => cases d <;> rfl
theorem w_con {d : D} : wR (fcon d σ h) QD E = QD d h := rfl
theorem w_bin {g : D → D → Hd → Res D} : wR (fbin g fa fb σ h) QD E = wR (fa σ h) (fun x h => wR (fb σ h) (fun y h => wR (g x y h) QD E) E) E := by
  unfold fbin
  rw [wR_bind]
  simp only [wR_bind]
theorem w_un {g : D → Hd → Res D} : wR (fun1 g fa σ h) QD E = wR (fa σ h) (fun x h => wR (g x h) QD E) E := by
  unfold fun1
  rw [wR_bind]
theorem w_nil : wR (fnil σ h) QL E = QL [] h := rfl
theorem w_cons : wR (fcons fa fr σ h) QL E = wR (fa σ h) (fun x h => wR (fr σ h) (fun xs h => QL (x :: xs) h) E) E := by
  unfold fcons
  rw [wR_bind]
  simp only [wR_bind, wR_ok]
theorem w_args {g : List D → Hd → Res D} : wR (fargs g fr σ h) QD E = wR (fr σ h) (fun xs h => wR (g xs h) QD E) E := by
  unfold fargs
  rw [wR_bind]
theorem w_tup : wR (ftup fr σ h) QD E = wR (fr σ h) (fun xs h => wR (gtup xs h) QD E) E := w_args
theorem w_lst : wR (flst fr σ h) QD E = wR (fr σ h) (fun xs h => wR (glst xs h) QD E) E := w_args
theorem w_and : wR (fand fa fb σ h) QD E = wR (fa σ h) (fun x h => onB x (wR (fb σ h) QD E) (QD (.bl false) h)) E := by
  unfold fand
  rw [wR_bind]
  congr 1
  funext x h
  exact onB_r
theorem w_or : wR (for_ fa fb σ h) QD E = wR (fa σ h) (fun x h => onB x (QD (.bl true) h) (wR (fb σ h) QD E)) E := by
  unfold for_
  rw [wR_bind]
  congr 1
  funext x h
  exact onB_r
def gnot (x : D) (h : Hd) : Res D := match x with
  | .bl b => .ok (.bl (!b)) h
  | _ => .stuck
theorem w_not : wR (fnot fa σ h) QD E = wR (fa σ h) (fun x h => wR (gnot x h) QD E) E := by
  unfold fnot
  rw [wR_bind]
  rfl
theorem w_if : wR (fif fc fa fb σ h) QD E = wR (fc σ h) (fun x h => onB x (wR (fa σ h) QD E) (wR (fb σ h) QD E)) E := by
  unfold fif
  rw [wR_bind]
  congr 1
  funext x h
  exact onB_r
theorem w_fm1 {g : Str → D → Hd → Res D} : wR (fm1 g fa fb σ h) QD E = wR (fa σ h) (fun x h => match x with | .str a => wR (fb σ h) (fun y h => wR (g a y h) QD E) E | _ => False) E := by
  unfold fm1
  rw [wR_bind]
  congr 1
  funext x h
  cases x <;> first | rfl | exact wR_bind
theorem w_slice {lo hi : Fo} : wR (fslice fa lo hi σ h) QD E = wR (fa σ h) (fun x h => wR (fpart lo σ h fun l h => fpart hi σ h fun u h => gcut x l u h) QD E) E := by
  unfold fslice
  rw [wR_bind]
theorem w_part0 {k : Option Int → Hd → Res D} : wR (fpart none σ h k) QD E = wR (k none h) QD E := rfl
theorem w_part1 {k : Option Int → Hd → Res D} : wR (fpart (some fa) σ h k) QD E = wR (fa σ h) (fun x h => match x with | .int i => wR (k (some i) h) QD E | .non => wR (k none h) QD E | _ => False) E := by
  unfold fpart
  simp only
  rw [wR_bind]
  congr 1
  funext x h
  cases x <;> rfl
/-! ### statements -/
theorem w_skip : wS (fskip σ h) P = P.nx σ h := rfl
theorem w_seq : wS (fseq f g σ h) P = wS (f σ h) ⟨fun σ h => wS (g σ h) P, P.rt, P.bk, P.ct, P.ex⟩ := by
  unfold fseq
  cases f σ h <;> rfl
theorem w_ret : wS (fret fa σ h) P = wR (fa σ h) P.rt P.ex := by
  unfold fret
  rw [wS_st]
  rfl
theorem w_retN : wS (fretN σ h) P = P.rt .non h := rfl
theorem w_drop : wS (fdrop fa σ h) P = wR (fa σ h) (fun _ h => P.nx σ h) P.ex := by
  unfold fdrop
  rw [wS_st]
  rfl
theorem w_set {i : Nat} : wS (fset i fa σ h) P = wR (fa σ h) (fun d h => P.nx (σ.set i (some d)) h) P.ex := by
  unfold fset
  rw [wS_st]
  rfl
theorem w_ifS : wS (fifS fc f g σ h) P = wR (fc σ h) (fun d h => onB d (wS (f σ h) P) (wS (g σ h) P)) P.ex := by
  unfold fifS
  rw [wS_st]
  congr 1
  funext x h
  exact onB_m
theorem w_unpT {is : List Nat} : wS (funpT is fa σ h) P = wR (fa σ h) (fun d h => match d with | .tup ds => (match setAll σ is ds with | some σ => P.nx σ h | none => False) | _ => False) P.ex := by
  unfold funpT
  rw [wS_st]
  congr 1
  funext d h
  cases d <;> first | rfl | (dsimp only; split <;> simp_all [wS])
theorem w_unpL {is : List Nat} : wS (funpL is fa σ h) P = wR (fa σ h) (fun d h => match d with | .lst ds => (match setAll σ is ds with | some σ => P.nx σ h | none => False) | _ => False) P.ex := by
  unfold funpL
  rw [wS_st]
  congr 1
  funext d h
  cases d <;> first | rfl | (dsimp only; split <;> simp_all [wS])
theorem w_par {is : List Nat} : wS (fpar is fr σ h) P = wR (fr σ h) (fun ds h => match setAll σ is ds with | some σ => P.nx σ h | none => False) P.ex := by
  unfold fpar
  cases fr σ h with
  | ok ds h => dsimp only [wR]; split <;> simp_all [wS]
  | _ => rfl
theorem w_for {t : Tg} {it : Fi} : wS (ffor t it f σ h) P = wR (it σ h) (fun ds h => wS (floop t f ds σ h) P) P.ex := by
  unfold ffor
  cases it σ h <;> rfl
theorem w_iSeq : wR (fiSeq fa σ h) QL E = wR (fa σ h) (fun d h => wR (giSeq d h) QL E) E := wR_bind
theorem w_iA {g : List D → Hd → Res (List D)} : wR (fiA g fr σ h) QL E = wR (fr σ h) (fun d h => wR (g d h) QL E) E := wR_bind
theorem w_newL : wR (fnewL fr σ h) QD E = wR (fr σ h) (fun xs h => wR (gnew xs h) QD E) E := w_args
theorem w_setIx {fo fi fe : Fe} : wS (fsetIx fo fi fe σ h) P = wR (fe σ h) (fun v h => wR (fo σ h) (fun o h => wR (fi σ h) (fun i h => match gsetIx o i v h with | some h => P.nx σ h | none => False) P.ex) P.ex) P.ex := by
  unfold fsetIx
  rw [wS_st]
  congr 1
  funext v h
  rw [wS_st]
  congr 1
  funext o h
  rw [wS_st]
  congr 1
  funext i h
  split <;> simp_all [wS]
theorem w_app : wR (fappend fa fb σ h) QD E = wR (fa σ h) (fun x h => match x with | .obj n => wR (fb σ h) (fun y h => wR (gappend (.obj n) y h) QD E) E | _ => False) E := by
  unfold fappend
  rw [wR_bind]
  congr 1
  funext x h
  cases x <;> first | rfl | exact wR_bind
theorem w_comp {t : Tg} {it : Fi} {tst : Ft} {vs : List Nat} : wR (fcomp t it tst fa vs σ h) QD E = wR (it σ h) (fun ds h => short ds.length = true ∧ wR (cloop t tst fa (wipeS σ vs) ds h) (fun ys h => QD (.lst ys) h) noE) E := by
  unfold fcomp
  cases it σ h with
  | ok ds h =>
    dsimp only [wR]
    cases short ds.length with
    | true =>
      simp only [if_true, true_and]
      cases cloop t tst fa (wipeS σ vs) ds h <;> simp [wR]
    | false => simp [wR]
  | _ => rfl
theorem glen_t {ds : List D} : glen (.tup ds) h = .ok (.int ds.length) h := rfl
theorem glen_l {ds : List D} : glen (.lst ds) h = .ok (.int ds.length) h := rfl
theorem glen_s {ds : List D} : glen (.scr ds) h = .ok (.int ds.length) h := rfl
end
local macro_rules | `(tactic| simp only [wp_]) => `(tactic| try simp only [↓wR_ok, ↓wR_exc, ↓wS_nx, ↓wS_rt, ↓wR_fin, ↓w_var, ↓w_con, ↓w_bin, ↓w_un, ↓w_nil, ↓w_cons, ↓w_args, ↓w_tup, ↓w_lst, ↓w_and, ↓w_or, ↓w_not, ↓w_if, ↓w_fm1, ↓w_slice, ↓w_part0, ↓w_part1, ↓w_skip, ↓w_seq, ↓w_ret, ↓w_retN, ↓w_drop, ↓w_set, ↓w_ifS, ↓w_unpT, ↓w_unpL, ↓w_par, ↓w_for, ↓w_iSeq, ↓w_iA, ↓w_newL, ↓w_setIx, ↓w_app, ↓onB_t, ↓onB_f, wR_ok, wR_exc, onB_t, onB_f, g1, g2, gi1, gi2, gnot, gisi, tyOf, isTy, gcmp, gint, glen_t, glen_l, glen_s, giSeq, gneg, setAll, gl0, gt0, gt1, gt2, gt3, gt4, List.getElem?_cons_zero, List.getElem?_cons_succ, List.set_cons_zero, List.set_cons_succ, Bool.not_false, Bool.not_true, gne_int, geq_int, gne_str, geq_str, gix_t0, gix_t1, gix_t2, gix_t3, gin1, gin2, gin3, ce1, ce2, ce3, ce4, List.length_cons, List.length_nil, Nat.reduceAdd, Nat.reduceBEq, Bool.false_and, Bool.true_and, if_true])
local macro_rules | `(tactic| simp only [wp_, $ts,*]) => `(tactic| try simp only [↓wR_ok, ↓wR_exc, ↓wS_nx, ↓wS_rt, ↓wR_fin, ↓w_var, ↓w_con, ↓w_bin, ↓w_un, ↓w_nil, ↓w_cons, ↓w_args, ↓w_tup, ↓w_lst, ↓w_and, ↓w_or, ↓w_not, ↓w_if, ↓w_fm1, ↓w_slice, ↓w_part0, ↓w_part1, ↓w_skip, ↓w_seq, ↓w_ret, ↓w_retN, ↓w_drop, ↓w_set, ↓w_ifS, ↓w_unpT, ↓w_unpL, ↓w_par, ↓w_for, ↓w_iSeq, ↓w_iA, ↓w_newL, ↓w_setIx, ↓w_app, ↓onB_t, ↓onB_f, wR_ok, wR_exc, onB_t, onB_f, g1, g2, gi1, gi2, gnot, gisi, tyOf, isTy, gcmp, gint, glen_t, glen_l, glen_s, giSeq, gneg, setAll, gl0, gt0, gt1, gt2, gt3, gt4, List.getElem?_cons_zero, List.getElem?_cons_succ, List.set_cons_zero, List.set_cons_succ, Bool.not_false, Bool.not_true, gne_int, geq_int, gne_str, geq_str, gix_t0, gix_t1, gix_t2, gix_t3, gin1, gin2, gin3, ce1, ce2, ce3, ce4, List.length_cons, List.length_nil, Nat.reduceAdd, Nat.reduceBEq, Bool.false_and, Bool.true_and, if_true, $ts,*])
local macro_rules | `(tactic| simp only [wpc_]) => `(tactic| try simp only [↓wR_ok, ↓wR_exc, ↓wS_nx, ↓wS_rt, ↓wR_fin, ↓w_var, ↓w_con, ↓w_bin, ↓w_un, ↓w_nil, ↓w_cons, ↓w_args, ↓w_tup, ↓w_lst, ↓w_and, ↓w_or, ↓w_not, ↓w_if, ↓w_fm1, ↓w_slice, ↓w_part0, ↓w_part1, ↓w_skip, ↓w_seq, ↓w_ret, ↓w_retN, ↓w_drop, ↓w_set, ↓w_ifS, ↓w_unpT, ↓w_unpL, ↓w_par, ↓w_for, ↓w_iSeq, ↓w_iA, ↓w_newL, ↓w_setIx, ↓w_app, ↓w_comp, ↓onB_t, ↓onB_f, wR_ok, wR_exc, onB_t, onB_f, g1, g2, gi1, gi2, gnot, gisi, tyOf, isTy, gcmp, gint, glen_t, glen_l, glen_s, giSeq, gneg, setAll, gl0, gt0, gt1, gt2, gt3, gt4, List.getElem?_cons_zero, List.getElem?_cons_succ, List.set_cons_zero, List.set_cons_succ, Bool.not_false, Bool.not_true, gne_int, geq_int, gne_str, geq_str, gix_t0, gix_t1, gix_t2, gix_t3, gin1, gin2, gin3, ce1, ce2, ce3, ce4, List.length_cons, List.length_nil, Nat.reduceAdd, Nat.reduceBEq, Bool.false_and, Bool.true_and, if_true])
local macro_rules | `(tactic| simp only [wpc_, $ts,*]) => `(tactic| try simp only [↓wR_ok, ↓wR_exc, ↓wS_nx, ↓wS_rt, ↓wR_fin, ↓w_var, ↓w_con, ↓w_bin, ↓w_un, ↓w_nil, ↓w_cons, ↓w_args, ↓w_tup, ↓w_lst, ↓w_and, ↓w_or, ↓w_not, ↓w_if, ↓w_fm1, ↓w_slice, ↓w_part0, ↓w_part1, ↓w_skip, ↓w_seq, ↓w_ret, ↓w_retN, ↓w_drop, ↓w_set, ↓w_ifS, ↓w_unpT, ↓w_unpL, ↓w_par, ↓w_for, ↓w_iSeq, ↓w_iA, ↓w_newL, ↓w_setIx, ↓w_app, ↓w_comp, ↓onB_t, ↓onB_f, wR_ok, wR_exc, onB_t, onB_f, g1, g2, gi1, gi2, gnot, gisi, tyOf, isTy, gcmp, gint, glen_t, glen_l, glen_s, giSeq, gneg, setAll, gl0, gt0, gt1, gt2, gt3, gt4, List.getElem?_cons_zero, List.getElem?_cons_succ, List.set_cons_zero, List.set_cons_succ, Bool.not_false, Bool.not_true, gne_int, geq_int, gne_str, geq_str, gix_t0, gix_t1, gix_t2, gix_t3, gin1, gin2, gin3, ce1, ce2, ce3, ce4, List.length_cons, List.length_nil, Nat.reduceAdd, Nat.reduceBEq, Bool.false_and, Bool.true_and, if_true, $ts,*])
local macro_rules | `(tactic| simp only [fin_eq_]) => `(tactic| first | exact ⟨rfl, rfl⟩ | exact ⟨rfl, trivial⟩ | exact ⟨trivial, trivial⟩ | trivial)
section
variable {α β : Type} {r : Res α} {Q : α → Hd → Prop} {E : Ec → Hd → Prop} {P : Po} {h : Hd} {σ : Sl} {A B : Prop} {QD : D → Hd → Prop} {QL : List D → Hd → Prop} {fa fb fc : Fe} {fr : Fa} {f g : Fs}
/-! ### rules -/
theorem wR.mono {Q' : α → Hd → Prop} {E' : Ec → Hd → Prop} (w : wR r Q E) (i : ∀ a h, Q a h → Q' a h) (j : ∀ e h, E e h → E' e h) : wR r Q' E' := by
  cases r with
  | ok a h => exact i a h w
  | exc e h => exact j e h w
  | stuck => exact w
theorem wR.then {Q' : α → Hd → Prop} {E' : Ec → Hd → Prop} (w : wR r Q noE) (i : ∀ a h, Q a h → Q' a h) : wR r Q' E' := w.mono i fun _ _ z => z.elim
theorem wR.ex {Q : α → Hd → Prop} (w : wR r Q noE) : ∃ a h, r = .ok a h ∧ Q a h := by
  cases r with
  | ok a h => exact ⟨a, h, rfl, w⟩
  | exc e h => exact w.elim
  | stuck => exact w.elim
theorem wR.of {a : α} (e : r = .ok a h) (q : Q a h) : wR r Q E := by rw [e]; exact q
theorem wR.eq {a : α} (w : wR r (fun x h' => x = a ∧ h' = h) noE) : r = .ok a h := by
  obtain ⟨x, h', e, rfl, rfl⟩ := w.ex
  exact e
theorem wS.mono {r : Rs} {P' : Po} (w : wS r P) (a : ∀ σ h, P.nx σ h → P'.nx σ h) (b : ∀ σ h, P.rt σ h → P'.rt σ h) (c : ∀ σ h, P.bk σ h → P'.bk σ h) (d : ∀ σ h, P.ct σ h → P'.ct σ h) (e : ∀ σ h, P.ex σ h → P'.ex σ h) : wS r P' := by
  cases r with
  | nx σ h => exact a _ _ w
  | rt => exact b _ _ w
  | bk => exact c _ _ w
  | ct => exact d _ _ w
  | exc => exact e _ _ w
  | stuck => exact w
theorem w_loop {t : Tg} {body : Fs} (I : List D → Sl → Hd → Prop) (hs : ∀ d ds σ h, I (d :: ds) σ h → ∃ σ', t.put σ d = some σ' ∧ wS (body σ' h) ⟨fun σ h => I ds σ h, P.rt, P.nx, fun σ h => I ds σ h, P.ex⟩)
    (hd : ∀ σ h, I [] σ h → P.nx σ h) : ∀ (ds : List D) (σ : Sl) (h : Hd), I ds σ h → wS (floop t body ds σ h) P
  | [], σ, h, i => hd σ h i
  | d :: ds, σ, h, i => by
    obtain ⟨σ', e, w⟩ := hs d ds σ h i
    rw [floop]
    simp only [e]
    generalize body σ' h = r at w
    cases r with
    | nx σ h => exact w_loop I hs hd ds σ h w
    | ct σ h => exact w_loop I hs hd ds σ h w
    | bk σ h => exact w
    | rt => exact w
    | exc => exact w
    | stuck => exact w
theorem w_while {c : Fe} {body : Fs} (I : Nat → Sl → Hd → Prop) (hs : ∀ k σ h, I k σ h → wR (c σ h) (fun d h => onB d (wS (body σ h) ⟨fun σ h => ∃ j, j < k ∧ I j σ h, P.rt, P.nx, fun σ h => ∃ j, j < k ∧ I j σ h, P.ex⟩) (P.nx σ h)) P.ex) :
    ∀ (n k : Nat) (σ : Sl) (h : Hd), k < n → I k σ h → wS (fwhile c body n σ h) P
  | 0, _, _, _, z, _ => absurd z (by omega)
  | n + 1, k, σ, h, hn, i => by
    rw [fwhile, wS_st]
    refine (hs k σ h i).mono (fun d h w => ?_) fun _ _ z => z
    cases d with
    | bl b =>
      cases b with
      | false => exact w.2 rfl
      | true =>
        have w := w.1 rfl
        dsimp only
        generalize body σ h = r at w
        cases r with
        | nx σ h => obtain ⟨j, hj, ij⟩ := w; exact w_while I hs n j σ h (by omega) ij
        | ct σ h => obtain ⟨j, hj, ij⟩ := w; exact w_while I hs n j σ h (by omega) ij
        | bk σ h => exact w
        | rt => exact w
        | exc => exact w
        | stuck => exact w
    | _ => exact w.elim
def wT (t : Ft) (σ : Sl) (h : Hd) (Q : Bool → Hd → Prop) : Prop := match t with
  | none => Q true h
  | some f => wR (f σ h) (fun d h => match d with | .bl b => Q b h | _ => False) noE
/-- a comprehension: I of what is left, what is made, the heap -/
theorem w_cloop {t : Tg} {tst : Ft} {elt : Fe} {σ0 : Sl} (I : List D → List D → Hd → Prop) (hs : ∀ d ds ys h, I (d :: ds) ys h → ∃ σ, t.put σ0 d = some σ ∧ wT tst σ h fun b h => (b = true → wR (elt σ h) (fun y h => I ds (ys ++ [y]) h) noE) ∧ (b = false → I ds ys h))
    (hd : ∀ ys h, I [] ys h → QL ys h) : ∀ (ds : List D) (h : Hd), I ds [] h → wR (cloop t tst elt σ0 ds h) QL E := by
  have key : ∀ (ds : List D) (ys : List D) (h : Hd), I ds ys h → ∃ zs h', cloop t tst elt σ0 ds h = .ok zs h' ∧ I [] (ys ++ zs) h' := by
    intro ds
    induction ds with
    | nil => exact fun ys h i => ⟨[], h, rfl, by rw [List.append_nil]; exact i⟩
    | cons d ds ih =>
      intro ys h i
      obtain ⟨σ, e, w⟩ := hs d ds ys h i
      have go : ∀ (b : Bool) (h : Hd), ((b = true → wR (elt σ h) (fun y h => I ds (ys ++ [y]) h) noE) ∧ (b = false → I ds ys h)) → ∃ zs h', (match b with
          | false => cloop t tst elt σ0 ds h
          | true => match elt σ h with
            | .ok y h => (match cloop t tst elt σ0 ds h with
              | .ok ys h => .ok (y :: ys) h
              | _ => .stuck)
            | _ => .stuck : Res (List D)) = .ok zs h' ∧ I [] (ys ++ zs) h' := by
        intro b h w
        cases b with
        | false => exact ih ys h (w.2 rfl)
        | true =>
          obtain ⟨y, h1, e1, i1⟩ := (w.1 rfl).ex
          obtain ⟨zs, h2, e2, i2⟩ := ih _ _ i1
          refine ⟨y :: zs, h2, ?_, by rw [List.append_assoc] at i2; exact i2⟩
          simp only [e1, e2]
      rw [cloop]
      simp only [e]
      cases tst with
      | none => exact go true h w
      | some f =>
        have w : wR (f σ h) _ noE := w
        obtain ⟨d, h1, e1, w1⟩ := w.ex
        simp only [testB, e1]
        cases d with
        | bl b => exact go b h1 w1
        | _ => exact w1.elim
  intro ds h i
  obtain ⟨zs, h', e, i'⟩ := key ds [] h i
  exact .of e (hd _ _ i')
end
/-- h, and what was made since -/
def Ap (h h' : Hd) : Prop := ∃ t, h' = h ++ t
theorem Ap.refl (h : Hd) : Ap h h := ⟨[], (List.append_nil h).symm⟩
theorem Ap.trans {a b c : Hd} (x : Ap a b) (y : Ap b c) : Ap a c := by
  obtain ⟨t, rfl⟩ := x
  obtain ⟨u, rfl⟩ := y
  exact ⟨t ++ u, by rw [List.append_assoc]⟩
theorem Ap.get {a b : Hd} (x : Ap a b) {j : Nat} (hj : j < a.length) : b[j]? = a[j]? := by
  obtain ⟨t, rfl⟩ := x
  exact List.getElem?_append_left hj
theorem Ap.add {a b : Hd} (x : Ap a b) (o : Ob) : Ap a (b ++ [o]) := x.trans ⟨[o], rfl⟩
theorem Ap.set {a b : Hd} (x : Ap a b) {j : Nat} (hj : a.length ≤ j) (o : Ob) : Ap a (b.set j o) := by
  obtain ⟨t, rfl⟩ := x
  exact ⟨t.set (j - a.length) o, List.set_append_right _ _ hj⟩

/-! text P2.lean -/
open PySem L2
/-! plain laws 2: what is drawn -/
/-- what draws come from -/
def Vt (h : Hd) (i : Nat) : Prop := ∃ a b : Int, h[i]? = some ⟨true, [.int a, .int b]⟩ ∧ 0 ≤ a ∧ 0 ≤ b ∧ b < 2147483648
/-- drawn from the list at i: nothing else is changed -/
structure Dr (i : Nat) (h h' : Hd) : Prop where
  vt : Vt h' i
  len : h'.length = h.length
  oth : ∀ j, j ≠ i → h'[j]? = h[j]?
theorem Dr.refl {i : Nat} {h : Hd} (v : Vt h i) : Dr i h h := ⟨v, rfl, fun _ _ => rfl⟩
theorem Dr.trans {i : Nat} {h h1 h2 : Hd} (a : Dr i h h1) (b : Dr i h1 h2) : Dr i h h2 := ⟨b.vt, b.len.trans a.len, fun j hj => (b.oth j hj).trans (a.oth j hj)⟩
section
variable {h : Hd}
theorem gix_o0 {i : Nat} {b : Bool} {x : D} {r : List D} (e : h[i]? = some ⟨b, x :: r⟩) : gix (.obj i) (.int 0) h = .ok x h := by
  have : seqOf (.obj i) h = some (x :: r) := by
    show (match h[i]? with
      | some ob => some ob.ds
      | none => none) = _
    rw [e]
  show (match seqOf (.obj i) h with
    | some ds => (match atI ds ((0 : Nat) : Int) with
      | some d => .ok d h
      | none => .stuck)
    | none => .stuck : Res D) = _
  rw [this]
  show (match atI (x :: r) ((0 : Nat) : Int) with
      | some d => .ok d h
      | none => .stuck : Res D) = _
  rw [atI_nat]
  rfl
theorem gix_o1 {i : Nat} {b : Bool} {x y : D} {r : List D} (e : h[i]? = some ⟨b, x :: y :: r⟩) : gix (.obj i) (.int 1) h = .ok y h := by
  have : seqOf (.obj i) h = some (x :: y :: r) := by
    show (match h[i]? with
      | some ob => some ob.ds
      | none => none) = _
    rw [e]
  show (match seqOf (.obj i) h with
    | some ds => (match atI ds ((1 : Nat) : Int) with
      | some d => .ok d h
      | none => .stuck)
    | none => .stuck : Res D) = _
  rw [this]
  show (match atI (x :: y :: r) ((1 : Nat) : Int) with
      | some d => .ok d h
      | none => .stuck : Res D) = _
  rw [atI_nat]
  rfl
theorem set_o0 {i : Nat} {x y v : D} (e : h[i]? = some ⟨true, [x, y]⟩) : gsetIx (.obj i) (.int 0) v h = some (h.set i ⟨true, [v, y]⟩) := by
  unfold gsetIx
  simp only [e]
  rfl
theorem set_o1 {i : Nat} {x y v : D} (e : h[i]? = some ⟨true, [x, y]⟩) : gsetIx (.obj i) (.int 1) v h = some (h.set i ⟨true, [x, v]⟩) := by
  unfold gsetIx
  simp only [e]
  rfl
theorem gmod_p {a m : Int} (hm : 0 < m) : gmod (.int a) (.int m) h = .ok (.int (a % m)) h := by
  show (if modOk a m then .ok (.int (a % m)) h else .stuck : Res D) = _
  rw [show modOk a m = true from decide_eq_true hm]
  rfl
theorem gdiv_p {a m : Int} (hm : 0 < m) (hb : m < 4611686018427387904) : gdiv (.int a) (.int m) h = .ok (.int (a / m)) h := by
  have : divOk a m = true := by
    unfold divOk
    rw [decide_eq_true hm, Bool.true_and]
    refine Nat.ble_eq_true_of_le (Nat.succ_le_of_lt (Nat.lt_of_lt_of_le (show m.natAbs < 2 ^ 62 by omega) (Nat.pow_le_pow_right (by decide) (by decide))))
  show (if divOk a m then .ok (.int (a / m)) h else .stuck : Res D) = _
  rw [this]
  rfl
theorem gmul_p {a b : Int} (hb : a.natAbs < 18446744073709551616 ∨ b.natAbs < 18446744073709551616) : gmul (.int a) (.int b) h = .ok (.int (a * b)) h := by
  have : mulOk a b = true := by
    unfold mulOk
    rcases hb with q | q
    · rw [show Nat.blt a.natAbs 18446744073709551616 = true from Nat.ble_eq_true_of_le q]
      rfl
    · rw [show Nat.blt b.natAbs 18446744073709551616 = true from Nat.ble_eq_true_of_le q, Bool.or_true]
      rfl
  show (if mulOk a b then .ok (.int (a * b)) h else .stuck : Res D) = _
  rw [this]
  rfl
theorem gadd_i {a b : Int} : gadd (.int a) (.int b) h = .ok (.int (a + b)) h := rfl
theorem gint_i {a : Int} : gint1 (.int a) h = .ok (.int a) h := rfl
variable {TL : Nat → CT → Nat → Df} {n : Nat}
theorem e_under (hn : 1 ≤ n) {i : Nat} {m : Int} (hm : 0 < m) (hb : m < 4611686018427387904) (v : Vt h i) : ∃ r h', callD (TT TL) n 19 [.obj i, .int m] h = .ok (.int r) h' ∧ 0 ≤ r ∧ r < m ∧ Dr i h h' := by
  obtain ⟨k, rfl, hk⟩ := up1 hn
  obtain ⟨a, b, e, ha, hb0, hb1⟩ := v
  rw [r__law_under]
  simp only [b__law_under]
  have hl : i < h.length := (List.getElem?_eq_some_iff.mp e).1
  by_cases h0 : 0 < a
  · refine ⟨a % m, h.set i ⟨true, [.int (a / m), .int b]⟩, ?_, Int.emod_nonneg a (by omega), Int.emod_lt_of_pos a hm, ⟨⟨a / m, b, List.getElem?_set_self hl, Int.ediv_nonneg ha (by omega), hb0, hb1⟩, List.length_set, fun j hj => List.getElem?_set_ne (Ne.symm hj)⟩⟩
    simp only [evw_, gix_o0 e, decide_eq_true h0, gint_i, gmod_p hm, gdiv_p hm hb, fsetIx, set_o0 e]
  · have hb2 : 0 ≤ (b * 39373 + 101) % 2147483629 ∧ (b * 39373 + 101) % 2147483629 < 2147483629 := ⟨Int.emod_nonneg _ (by decide), Int.emod_lt_of_pos _ (by decide)⟩
    generalize hc : (b * 39373 + 101) % 2147483629 = c at hb2
    have e2 : (h.set i ⟨true, [.int a, .int c]⟩)[i]? = some ⟨true, [.int a, .int c]⟩ := List.getElem?_set_self hl
    refine ⟨((c * (c / 5 + 9)) % 2147483587 / 32) % m, h.set i ⟨true, [.int a, .int c]⟩, ?_, Int.emod_nonneg _ (by omega), Int.emod_lt_of_pos _ hm, ⟨⟨a, c, e2, ha, hb2.1, by omega⟩, List.length_set, fun j hj => List.getElem?_set_ne (Ne.symm hj)⟩⟩
    have w1 : gmul (.int b) (.int 39373) h = .ok (.int (b * 39373)) h := gmul_p (.inr (by decide))
    have w2 : gmul (.int c) (.int (c / 5 + 9)) (h.set i ⟨true, [.int a, .int c]⟩) = .ok (.int (c * (c / 5 + 9))) (h.set i ⟨true, [.int a, .int c]⟩) := gmul_p (.inl (by omega))
    simp only [evw_, gix_o0 e, decide_eq_false h0, gix_o1 e, w1, gadd_i, gint_i, gmod_p (show (0 : Int) < 2147483629 by decide), fsetIx, hc, set_o1 e, gix_o1 e2, gdiv_p (show (0 : Int) < 5 by decide) (by decide), w2, gmod_p (show (0 : Int) < 2147483587 by decide), gdiv_p (show (0 : Int) < 32 by decide) (by decide), gmod_p hm]
/-- an item of a list -/
theorem gix_lst (ds : List D) (j : Nat) {d : D} (e : ds[j]? = some d) : gix (.lst ds) (.int (j : Int)) h = .ok d h := by
  show (match atI ds (j : Int) with
      | some d => .ok d h
      | none => .stuck : Res D) = _
  rw [atI_nat, e]
theorem e_some (hn : 2 ≤ n) {i : Nat} {ds : List D} (hd : ds ≠ []) (hl : ds.length ≤ 1000) (v : Vt h i) : ∃ d h', callD (TT TL) n 20 [.obj i, .lst ds] h = .ok d h' ∧ d ∈ ds ∧ Dr i h h' := by
  obtain ⟨k, rfl, hk⟩ := up1 hn
  have hp : 0 < ds.length := List.length_pos_iff.mpr hd
  obtain ⟨r, h', e, h0, h1, dr⟩ := e_under (TL := TL) (n := k) (by omega) (m := (ds.length : Int)) (by omega) (by omega) v
  have hr : r.toNat < ds.length := by omega
  refine ⟨ds[r.toNat], h', ?_, List.getElem_mem hr, dr⟩
  rw [r__law_some]
  simp only [b__law_some]
  have g : gix (.lst ds) (.int r) h' = .ok ds[r.toNat] h' := by
    have g := gix_lst (h := h') ds r.toNat (List.getElem?_eq_getElem hr)
    rw [show (r.toNat : Int) = r by omega] at g
    exact g
  simp only [evw_, e, g]
/-! ### terms, conditions, steps -/
def terms : List D := (["a", "b", "c"] : List Str).flatMap fun s => ([0, 1, -1] : List Int).map fun i => .tup [.str s, .int i]
theorem e_term (hn : 3 ≤ n) {i : Nat} (v : Vt h i) : ∃ d h', callD (TT TL) n 35 [.obj i] h = .ok d h' ∧ d ∈ terms ∧ Dr i h h' := by
  obtain ⟨k, rfl, hk⟩ := up1 hn
  obtain ⟨d1, h1, e1, m1, dr1⟩ := e_some (TL := TL) (n := k) (by omega) (ds := [.str "a", .str "b", .str "c"]) (by simp) (by simp) v
  obtain ⟨d2, h2, e2, m2, dr2⟩ := e_some (TL := TL) (n := k) (by omega) (ds := [.int 0, .int 0, .int 0, .int 1, .int (-1), .int 1]) (by simp) (by simp) dr1.vt
  refine ⟨.tup [d1, d2], h2, ?_, ?_, dr1.trans dr2⟩
  · rw [r__law_term]
    simp only [b__law_term]
    have g1 (h : Hd) : glst [.str "a", .str "b", .str "c"] h = .ok (.lst [.str "a", .str "b", .str "c"]) h := rfl
    have g2 (h : Hd) : glst [.int 0, .int 0, .int 0, .int 1, .int (-1), .int 1] h = .ok (.lst [.int 0, .int 0, .int 0, .int 1, .int (-1), .int 1]) h := rfl
    simp only [evw_, g1, g2, e1, e2]
  · simp only [List.mem_cons, List.not_mem_nil, or_false] at m1 m2
    rcases m1 with rfl | rfl | rfl <;> rcases m2 with rfl | rfl | rfl | rfl | rfl | rfl <;> simp [terms]
def conds : List D := ((["before", "free", "full"] : List Str).flatMap fun w => terms.flatMap fun a => terms.map fun b => .tup [.str w, a, b]) ++ ((terms.map fun a => .tup [.str "in", a]) ++ ([1, 2, 3] : List Int).map fun i => .tup [.str "many", .int i])
def trips (ws : List Str) (as bs : List D) : List D := ws.flatMap fun w => as.flatMap fun a => bs.map fun b => .tup [.str w, a, b]
def simples : List D := trips ["join", "less", "cut"] terms terms ++ ([.tup [.str "gaps"]] ++ (trips ["keep", "drop"] [.non, .int 0, .int 1, .int (-1)] [.non, .int 1, .int 2, .int (-1)] ++ ((["shift", "widen"] : List Str).flatMap fun w => ([1, -1] : List Int).map fun i => .tup [.str w, .int i])))
theorem trip_mem {ws : List Str} {as bs : List D} {w : Str} {a b : D} (h1 : w ∈ ws) (h2 : a ∈ as) (h3 : b ∈ bs) : .tup [.str w, a, b] ∈ trips ws as bs := by
  unfold trips
  exact List.mem_flatMap.mpr ⟨w, h1, List.mem_flatMap.mpr ⟨a, h2, List.mem_map.mpr ⟨b, h3, rfl⟩⟩⟩
theorem strs_mem {d : D} {ws : List Str} (h : d ∈ ws.map D.str) : ∃ s, d = .str s ∧ s ∈ ws := by
  obtain ⟨s, h1, h2⟩ := List.mem_map.mp h
  exact ⟨s, h2.symm, h1⟩
theorem e_condition (hn : 4 ≤ n) {i : Nat} (v : Vt h i) : ∃ d h', callD (TT TL) n 38 [.obj i] h = .ok d h' ∧ d ∈ conds ∧ Dr i h h' := by
  obtain ⟨k, rfl, hk⟩ := up1 hn
  obtain ⟨d1, h1, e1, m1, dr1⟩ := e_some (TL := TL) (n := k) (by omega) (ds := (["before", "before", "in", "free", "full", "many"] : List Str).map D.str) (by simp) (by simp) v
  obtain ⟨s, rfl, hs⟩ := strs_mem m1
  have g (h : Hd) : glst [.str "before", .str "before", .str "in", .str "free", .str "full", .str "many"] h = .ok (.lst ((["before", "before", "in", "free", "full", "many"] : List Str).map D.str)) h := rfl
  rw [r__law_condition]
  simp only [b__law_condition]
  simp only [evw_, g, e1]
  cases hm : s == ("many" : Str) with
  | true =>
    obtain ⟨r, h2, e2, r0, r1, dr2⟩ := e_under (TL := TL) (n := k) (by omega) (m := 3) (by decide) (by decide) dr1.vt
    simp only [evw_, e2, gadd_i]
    refine ⟨_, _, rfl, ?_, dr1.trans dr2⟩
    have : r = 0 ∨ r = 1 ∨ r = 2 := by omega
    rcases this with rfl | rfl | rfl <;> simp [conds]
  | false =>
    simp only [evw_]
    cases hi : s == ("in" : Str) with
    | true =>
      obtain ⟨t, h2, e2, m2, dr2⟩ := e_term (TL := TL) (n := k) (by omega) dr1.vt
      simp only [evw_, e2]
      refine ⟨_, _, rfl, ?_, dr1.trans dr2⟩
      unfold conds
      exact List.mem_append_right _ (List.mem_append_left _ (List.mem_map.mpr ⟨t, m2, rfl⟩))
    | false =>
      obtain ⟨t, h2, e2, m2, dr2⟩ := e_term (TL := TL) (n := k) (by omega) dr1.vt
      obtain ⟨u, h3, e3, m3, dr3⟩ := e_term (TL := TL) (n := k) (by omega) dr2.vt
      simp only [evw_, e2, e3]
      refine ⟨_, _, rfl, ?_, (dr1.trans dr2).trans dr3⟩
      unfold conds
      refine List.mem_append_left _ (List.mem_flatMap.mpr ⟨s, ?_, List.mem_flatMap.mpr ⟨t, m2, List.mem_map.mpr ⟨u, m3, rfl⟩⟩⟩)
      simp only [List.mem_cons, List.not_mem_nil, or_false] at hs
      rcases hs with rfl | rfl | rfl | rfl | rfl | rfl
      · simp
      · simp
      · exact absurd hi (by decide +kernel)
      · simp
      · simp
      · exact absurd hm (by decide +kernel)
theorem e_simple (hn : 4 ≤ n) {i : Nat} (v : Vt h i) : ∃ d h', callD (TT TL) n 39 [.obj i] h = .ok d h' ∧ d ∈ simples ∧ Dr i h h' := by
  obtain ⟨k, rfl, hk⟩ := up1 hn
  obtain ⟨d1, h1, e1, m1, dr1⟩ := e_some (TL := TL) (n := k) (by omega) (ds := (["join", "join", "join", "less", "less", "cut", "gaps", "keep", "drop", "move"] : List Str).map D.str) (by simp) (by simp) v
  obtain ⟨s, rfl, hs⟩ := strs_mem m1
  have g (h : Hd) : glst [.str "join", .str "join", .str "join", .str "less", .str "less", .str "cut", .str "gaps", .str "keep", .str "drop", .str "move"] h = .ok (.lst ((["join", "join", "join", "less", "less", "cut", "gaps", "keep", "drop", "move"] : List Str).map D.str)) h := rfl
  rw [r__law_simple]
  simp only [b__law_simple]
  simp only [evw_, g, e1]
  cases hg : s == ("gaps" : Str) with
  | true =>
    simp only [evw_]
    refine ⟨_, _, rfl, ?_, dr1⟩
    unfold simples
    exact List.mem_append_right _ (List.mem_append_left _ (by simp))
  | false =>
    simp only [evw_]
    cases hv : s == ("move" : Str) with
    | true =>
      obtain ⟨a, h2, e2, m2, dr2⟩ := e_some (TL := TL) (n := k) (by omega) (ds := [.str "shift", .str "widen", .str "widen"]) (by simp) (by simp) dr1.vt
      obtain ⟨b, h3, e3, m3, dr3⟩ := e_some (TL := TL) (n := k) (by omega) (ds := [.int 1, .int (-1), .int 1]) (by simp) (by simp) dr2.vt
      have g1 (h : Hd) : glst [.str "shift", .str "widen", .str "widen"] h = .ok (.lst [.str "shift", .str "widen", .str "widen"]) h := rfl
      have g2 (h : Hd) : glst [.int 1, .int (-1), .int 1] h = .ok (.lst [.int 1, .int (-1), .int 1]) h := rfl
      simp only [evw_, g1, e2, g2, e3]
      refine ⟨_, _, rfl, ?_, (dr1.trans dr2).trans dr3⟩
      unfold simples
      refine List.mem_append_right _ (List.mem_append_right _ (List.mem_append_right _ ?_))
      simp only [List.mem_cons, List.not_mem_nil, or_false] at m2 m3
      rcases m2 with rfl | rfl | rfl <;> rcases m3 with rfl | rfl | rfl <;> simp
    | false =>
      simp only [evw_]
      cases hk2 : isIn (D.str s) ["keep", "drop"] with
      | true =>
        obtain ⟨a, h2, e2, m2, dr2⟩ := e_some (TL := TL) (n := k) (by omega) (ds := [.non, .int 0, .int 1, .int (-1)]) (by simp) (by simp) dr1.vt
        obtain ⟨b, h3, e3, m3, dr3⟩ := e_some (TL := TL) (n := k) (by omega) (ds := [.non, .int 1, .int 2, .int (-1)]) (by simp) (by simp) dr2.vt
        have g1 (h : Hd) : glst [.non, .int 0, .int 1, .int (-1)] h = .ok (.lst [.non, .int 0, .int 1, .int (-1)]) h := rfl
        have g2 (h : Hd) : glst [.non, .int 1, .int 2, .int (-1)] h = .ok (.lst [.non, .int 1, .int 2, .int (-1)]) h := rfl
        simp only [evw_, g1, e2, g2, e3]
        refine ⟨_, _, rfl, ?_, (dr1.trans dr2).trans dr3⟩
        unfold simples
        exact List.mem_append_right _ (List.mem_append_right _ (List.mem_append_left _ (trip_mem (isIn_mem hk2) m2 m3)))
      | false =>
        obtain ⟨t, h2, e2, m2, dr2⟩ := e_term (TL := TL) (n := k) (by omega) dr1.vt
        obtain ⟨u, h3, e3, m3, dr3⟩ := e_term (TL := TL) (n := k) (by omega) dr2.vt
        simp only [evw_, e2, e3]
        refine ⟨_, _, rfl, ?_, (dr1.trans dr2).trans dr3⟩
        unfold simples
        refine List.mem_append_left _ (trip_mem ?_ m2 m3)
        simp only [List.mem_cons, List.not_mem_nil, or_false] at hs
        rcases hs with rfl | rfl | rfl | rfl | rfl | rfl | rfl | rfl | rfl | rfl
        · simp
        · simp
        · simp
        · simp
        · simp
        · simp
        · exact absurd hg (by decide +kernel)
        · exact absurd hk2 (by decide +kernel)
        · exact absurd hk2 (by decide +kernel)
        · exact absurd hv (by decide +kernel)
end

/-! text P3.lean -/
open PySem L2
/-! plain laws 3: texts -/
def nine : List Str := ["0", "1", "2", "3", "4", "-1", "-2", "-3", "-4"]
def numOf (w : Str) : Int := (PySem.intText? w).getD 0
/-- a word of three signs that names a term, -0 and other sign marks left out -/
def termOf (w : Str) : Option D := match w.cps.toList with
  | [x, y, z] => if [97, 98, 99].contains x && ([43, 45].contains y && ([48, 49, 50, 51, 52, 53, 54, 55, 56, 57].contains z && !(y == 45 && z == 48))) then some (.tup [.str ⟨#[x]⟩, .int (if y == 43 then (z : Int) - 48 else 48 - z)]) else none
  | _ => none
def partOf (w : Str) : D := if w == "*" then .non else if isIn (.str w) nine then .int (numOf w) else match termOf w with
  | some d => d
  | none => .str w
theorem str_eta (w : Str) : w = ⟨w.cps.toList.toArray⟩ := by cases w; simp
section
variable {TL : Nat → CT → Nat → Df} {n : Nat} {h : Hd}
theorem gin9 (s : Str) : gin false (.str s) (.tup [.str "0", .str "1", .str "2", .str "3", .str "4", .str "-1", .str "-2", .str "-3", .str "-4"]) h = .ok (.bl (isIn (.str s) nine)) h := gin_strs s nine
theorem gint_nine {w : Str} (hw : isIn (.str w) nine = true) : gint1 (.str w) h = .ok (.int (numOf w)) h := by
  have := isIn_mem hw
  simp only [nine, List.mem_cons, List.not_mem_nil, or_false] at this
  rcases this with rfl | rfl | rfl | rfl | rfl | rfl | rfl | rfl | rfl <;> kernel_rfl
theorem gt9 : gtup [.str "0", .str "1", .str "2", .str "3", .str "4", .str "-1", .str "-2", .str "-3", .str "-4"] h = .ok (.tup [.str "0", .str "1", .str "2", .str "3", .str "4", .str "-1", .str "-2", .str "-3", .str "-4"]) h := rfl
theorem list3 {l : List Nat} (e : l.length = 3) : ∃ x y z, l = [x, y, z] := by
  match l, e with
  | [x, y, z], _ => exact ⟨x, y, z, rfl⟩
theorem gix_s0 {x y z : Nat} : gix (.str ⟨#[x, y, z]⟩) (.int 0) h = .ok (.str ⟨#[x]⟩) h := rfl
theorem gix_s1 {x y z : Nat} : gix (.str ⟨#[x, y, z]⟩) (.int 1) h = .ok (.str ⟨#[y]⟩) h := rfl
theorem gix_s2 {x y z : Nat} : gix (.str ⟨#[x, y, z]⟩) (.int 2) h = .ok (.str ⟨#[z]⟩) h := rfl
theorem gcut_s1 {x y z : Nat} : gcut (.str ⟨#[x, y, z]⟩) (some 1) none h = .ok (.str ⟨#[y, z]⟩) h := rfl
theorem gin_dig (x : Nat) : gin false (.str ⟨#[x]⟩) (.str "0123456789") h = .ok (.bl ([48, 49, 50, 51, 52, 53, 54, 55, 56, 57].contains x)) h := by
  show Res.ok (D.bl (false != _)) h = _
  cases q : [48, 49, 50, 51, 52, 53, 54, 55, 56, 57].contains x
  all_goals
    have q' : ("0123456789" : Str).cps.toList.contains x = _ := q
    rw [q']
    rfl
theorem gin_abc (x : Nat) : gin false (.str ⟨#[x]⟩) (.str "abc") h = .ok (.bl ([97, 98, 99].contains x)) h := by
  show Res.ok (D.bl (false != _)) h = _
  cases q : [97, 98, 99].contains x
  all_goals
    have q' : ("abc" : Str).cps.toList.contains x = _ := q
    rw [q']
    rfl
theorem gin_pm (x : Nat) : gin false (.str ⟨#[x]⟩) (.str "+-") h = .ok (.bl ([43, 45].contains x)) h := by
  show Res.ok (D.bl (false != _)) h = _
  cases q : [43, 45].contains x
  all_goals
    have q' : ("+-" : Str).cps.toList.contains x = _ := q
    rw [q']
    rfl
theorem one_eq (a b : Nat) : ((⟨#[a]⟩ : Str) == ⟨#[b]⟩) = (b == a) := by
  rw [Bool.eq_iff_iff, beq_iff_eq, beq_iff_eq]
  constructor
  · intro q
    injection q with q
    injection q with q
    injection q with q
    exact q.symm
  · intro q
    rw [q]
theorem isIn_abc (x : Nat) : isIn (.str ⟨#[x]⟩) ["a", "b", "c"] = [97, 98, 99].contains x := by
  show (((⟨#[97]⟩ : Str) == ⟨#[x]⟩) || (((⟨#[98]⟩ : Str) == ⟨#[x]⟩) || (((⟨#[99]⟩ : Str) == ⟨#[x]⟩) || false))) = ((x == 97) || ((x == 98) || ((x == 99) || false)))
  rw [one_eq, one_eq, one_eq]
theorem isIn_pm (x : Nat) : isIn (.str ⟨#[x]⟩) ["+", "-"] = [43, 45].contains x := by
  show (((⟨#[43]⟩ : Str) == ⟨#[x]⟩) || (((⟨#[45]⟩ : Str) == ⟨#[x]⟩) || false)) = ((x == 43) || ((x == 45) || false))
  rw [one_eq, one_eq]
theorem two_eq (y z : Nat) : ((⟨#[y, z]⟩ : Str) == "-0") = (y == 45 && z == 48) := by
  rw [Bool.eq_iff_iff, beq_iff_eq, Bool.and_eq_true, beq_iff_eq, beq_iff_eq]
  constructor
  · intro q
    have q : (⟨#[y, z]⟩ : Str) = ⟨#[45, 48]⟩ := q
    injection q with q
    injection q with q
    injection q with q1 q
    injection q with q2 q
    exact ⟨q1, q2⟩
  · rintro ⟨rfl, rfl⟩
    rfl
theorem plus_eq (y : Nat) : ((⟨#[y]⟩ : Str) == "+") = (y == 43) := by
  rw [show (("+" : Str)) = ⟨#[43]⟩ from rfl, one_eq, Bool.beq_comm]
theorem gi_p {z : Nat} (hz : [48, 49, 50, 51, 52, 53, 54, 55, 56, 57].contains z = true) : gint1 (.str ⟨#[43, z]⟩) h = .ok (.int ((z : Int) - 48)) h ∧ gint1 (.str ⟨#[45, z]⟩) h = .ok (.int (48 - (z : Int))) h ∧ gint1 (.str ⟨#[z]⟩) h = .ok (.int ((z : Int) - 48)) h := by
  have := List.contains_iff_mem.mp hz
  simp only [List.mem_cons, List.not_mem_nil, or_false] at this
  rcases this with rfl | rfl | rfl | rfl | rfl | rfl | rfl | rfl | rfl | rfl <;> exact ⟨by kernel_rfl, by kernel_rfl, by kernel_rfl⟩
theorem e_part_of (hn : 1 ≤ n) {w : Str} (hs : small w.length = true) : callD (TT TL) n 217 [.str w] h = .ok (partOf w) h := by
  obtain ⟨m, rfl, hm⟩ := up1 hn
  rw [r_part_of]
  simp only [b_part_of, partOf]
  simp only [evw_]
  cases h1 : w == ("*" : Str) with
  | true => simp only [evw_]
  | false =>
    simp only [evw_, gt9, gin9, Bool.false_eq_true, if_false]
    cases h2 : isIn (.str w) nine with
    | true => simp only [evw_, gint_nine h2]
    | false =>
      simp only [evw_, Bool.false_eq_true, if_false]
      by_cases h3 : w.length = 3
      · obtain ⟨x, y, z, e⟩ := list3 (l := w.cps.toList) h3
        have e : w = ⟨#[x, y, z]⟩ := by rw [str_eta w, e]
        subst e
        have h4 : (((⟨#[x, y, z]⟩ : Str).length : Int) == 3) = true := rfl
        have h5 : termOf ⟨#[x, y, z]⟩ = if [97, 98, 99].contains x && ([43, 45].contains y && ([48, 49, 50, 51, 52, 53, 54, 55, 56, 57].contains z && !(y == 45 && z == 48))) then some (.tup [.str ⟨#[x]⟩, .int (if y == 43 then (z : Int) - 48 else 48 - z)]) else none := rfl
        rw [h5]
        simp only [evw_, hs, h4, gix_s0, gix_s1, gix_s2, isIn_abc, isIn_pm, gin_dig]
        cases hx : [97, 98, 99].contains x with
        | false => simp only [evw_, Bool.false_eq_true, if_false]
        | true =>
          cases hy : [43, 45].contains y with
          | false => simp only [evw_, Bool.false_eq_true, if_false]
          | true =>
            cases hz : [48, 49, 50, 51, 52, 53, 54, 55, 56, 57].contains z with
            | false => simp only [evw_, Bool.false_eq_true, if_false]
            | true =>
              simp only [evw_, fslice, fpart, gcut_s1, two_eq]
              cases hq : (y == 45 && z == 48) with
              | true => simp only [evw_, Bool.and_false, Bool.false_eq_true, if_false]
              | false =>
                have := List.contains_iff_mem.mp hy
                simp only [List.mem_cons, List.not_mem_nil, or_false] at this
                rcases this with rfl | rfl
                · simp only [evw_, (gi_p hz).1, (gi_p hz).2.1]
                  try rfl
                · simp only [evw_, (gi_p hz).1, (gi_p hz).2.1]
                  try rfl
      · have h4 : (((w.length : Nat) : Int) == 3) = false := beq_eq_false_iff_ne.mpr (by omega)
        have h5 : termOf w = none := by
          unfold termOf
          split
          · rename_i x y z e
            exact absurd (by show w.cps.toList.length = 3; rw [e]; rfl) h3
          · rfl
        simp only [evw_, hs, h4, h5]
theorem e_law_part (hn : 1 ≤ n) {w : Str} (hs : small w.length = true) : callD (TT TL) n 226 [.str w] h = .ok (partOf w) h := by
  obtain ⟨m, rfl, hm⟩ := up1 hn
  rw [r__law_part]
  simp only [b__law_part, partOf]
  simp only [evw_]
  cases h1 : w == ("*" : Str) with
  | true => simp only [evw_]
  | false =>
    simp only [evw_, gt9, gin9, Bool.false_eq_true, if_false]
    cases h2 : isIn (.str w) nine with
    | true => simp only [evw_, gint_nine h2]
    | false =>
      simp only [evw_, Bool.false_eq_true, if_false]
      by_cases h3 : w.length = 3
      · obtain ⟨x, y, z, e⟩ := list3 (l := w.cps.toList) h3
        have e : w = ⟨#[x, y, z]⟩ := by rw [str_eta w, e]
        subst e
        have h4 : (((⟨#[x, y, z]⟩ : Str).length : Int) == 3) = true := rfl
        have h5 : termOf ⟨#[x, y, z]⟩ = if [97, 98, 99].contains x && ([43, 45].contains y && ([48, 49, 50, 51, 52, 53, 54, 55, 56, 57].contains z && !(y == 45 && z == 48))) then some (.tup [.str ⟨#[x]⟩, .int (if y == 43 then (z : Int) - 48 else 48 - z)]) else none := rfl
        rw [h5]
        simp only [evw_, hs, h4, gix_s0, gix_s1, gix_s2, gin_abc, gin_pm, gin_dig, fslice, fpart, gcut_s1, two_eq, plus_eq]
        cases hx : [97, 98, 99].contains x with
        | false => simp only [evw_, Bool.false_eq_true, if_false]
        | true =>
          cases hq : (y == 45 && z == 48) with
          | true => simp only [evw_, Bool.and_false, Bool.false_eq_true, if_false]
          | false =>
            cases hz : [48, 49, 50, 51, 52, 53, 54, 55, 56, 57].contains z with
            | false => simp only [evw_, Bool.and_false, Bool.false_eq_true, if_false]
            | true =>
              cases hy : [43, 45].contains y with
              | false => simp only [evw_, Bool.false_eq_true, if_false]
              | true =>
                have := List.contains_iff_mem.mp hy
                simp only [List.mem_cons, List.not_mem_nil, or_false] at this
                have q1 : ((43 : Nat) == 43) = true := rfl
                have q2 : ((45 : Nat) == 43) = false := rfl
                rcases this with rfl | rfl
                · simp only [evw_, (gi_p hz).2.2, q1]
                · simp only [evw_, (gi_p hz).2.2, q2, Bool.false_eq_true, if_false]
                  rw [show -((z : Int) - 48) = 48 - z by omega]
      · have h4 : (((w.length : Nat) : Int) == 3) = false := beq_eq_false_iff_ne.mpr (by omega)
        have h5 : termOf w = none := by
          unfold termOf
          split
          · rename_i x y z e
            exact absurd (by show w.cps.toList.length = 3; rw [e]; rfl) h3
          · rfl
        simp only [evw_, hs, h4, h5]
end

/-! text P4.lean -/
open PySem L2 TL
/-! plain laws 4: rows, steps, what is read -/
/-- signs and a mark behind each -/
def wt (ps : List (List Nat)) : Nat := (ps.map fun p => p.length + 1).sum
theorem wt_spl (c : Nat) : ∀ (l acc : List Nat), wt (spl [c] 0 acc l) = acc.length + l.length + 1
  | [], acc => by rw [spl_nil]; simp [wt]
  | x :: r, acc => by
    cases hp : pre [c] (x :: r) with
    | true =>
      rw [spl_hit hp]
      show acc.length + 1 + wt (spl [c] 0 [] r) = _
      rw [wt_spl c r []]
      simp only [List.length_nil, List.length_cons]
      omega
    | false =>
      rw [spl_miss hp, wt_spl c r (acc ++ [x])]
      simp only [List.length_append, List.length_cons, List.length_nil]
      omega
theorem wt_mem : ∀ {ps : List (List Nat)} {p : List Nat}, p ∈ ps → p.length + 1 ≤ wt ps
  | q :: ps, p, hm => by
    have e : wt (q :: ps) = q.length + 1 + wt ps := rfl
    rcases List.mem_cons.mp hm with rfl | hm
    · omega
    · have := wt_mem hm
      omega
theorem wt_len : ∀ ps : List (List Nat), ps.length ≤ wt ps
  | [] => Nat.le_refl _
  | q :: ps => by
    have e : wt (q :: ps) = q.length + 1 + wt ps := rfl
    have := wt_len ps
    rw [List.length_cons]
    omega
theorem spl_ne (c : Nat) (l : List Nat) : spl [c] 0 [] l ≠ [] := fun e => by
  have := wt_spl c l []
  rw [e] at this
  simp [wt] at this
/-- the words between the marks c -/
def words (c : Nat) (s : Str) : List Str := (spl [c] 0 [] s.cps.toList).map fun p => ⟨p.toArray⟩
theorem words_mem {c : Nat} {s w : Str} (hm : w ∈ words c s) : w.length ≤ s.length := by
  obtain ⟨p, h1, rfl⟩ := List.mem_map.mp hm
  have h2 := wt_mem h1
  rw [wt_spl] at h2
  show p.toArray.size ≤ s.cps.size
  rw [List.size_toArray]
  rw [Array.length_toList (xs := s.cps)] at h2
  simp only [List.length_nil] at h2
  omega
theorem words_len (c : Nat) (s : Str) : (words c s).length ≤ s.length + 1 := by
  unfold words
  rw [List.length_map]
  have := wt_len (spl [c] 0 [] s.cps.toList)
  rw [wt_spl, Array.length_toList (xs := s.cps)] at this
  simp only [List.length_nil] at this
  show _ ≤ s.cps.size + 1
  omega
theorem splitD_eq (c : Nat) (s : Str) : splitD s.cps.toList c = (words c s).map D.str := by
  unfold splitD words
  rw [List.map_map]
  rfl
theorem words_ne (c : Nat) (s : Str) : words c s ≠ [] := fun e => spl_ne c s.cps.toList (List.map_eq_nil_iff.mp e)
def big (s : Str) : Prop := s.length ≤ 10000000
def partD (d : D) : D := match d with
  | .str w => partOf w
  | d => d
def parts (s : Str) : List D := (words 32 s).map partOf
theorem pur_partOf (w : Str) : pur (partOf w) = true := by
  unfold partOf
  split
  · rfl
  · split
    · rfl
    · split
      · rename_i d e
        unfold termOf at e
        split at e
        · split at e
          · cases e
            rfl
          · cases e
        · cases e
      · rfl
theorem dep_partOf (w : Str) : dep (partOf w) ≤ 1 := by
  unfold partOf
  split
  · decide
  · split
    · exact Nat.zero_le _
    · split
      · rename_i d e
        unfold termOf at e
        split at e
        · split at e
          · cases e
            simp [dep, depL]
          · cases e
        · cases e
      · exact Nat.zero_le _
theorem pur_parts (s : Str) : purL (parts s) = true := purL_of fun d hd => by
  obtain ⟨w, _, rfl⟩ := List.mem_map.mp hd
  exact pur_partOf w
section
variable {TL : Nat → CT → Nat → Df} {n : Nat} {h : Hd}
theorem split_s {s : Str} (hs : big s) : gsplit s (.str " ") h = .ok (.lst ((words 32 s).map D.str)) h := by
  rw [← splitD_eq]
  show (if Nat.blt 32 256 && Nat.ble s.length 10000000 then .ok (.lst (splitD s.cps.toList 32)) h else .stuck : Res D) = _
  rw [show Nat.ble s.length 10000000 = true from Nat.ble_eq_true_of_le hs]
  rfl
theorem split_n {s : Str} (hs : big s) : gsplit s (.str "\n") h = .ok (.lst ((words 10 s).map D.str)) h := by
  rw [← splitD_eq]
  show (if Nat.blt 10 256 && Nat.ble s.length 10000000 then .ok (.lst (splitD s.cps.toList 10)) h else .stuck : Res D) = _
  rw [show Nat.ble s.length 10000000 = true from Nat.ble_eq_true_of_le hs]
  rfl
theorem small_of {k : Nat} (h : k ≤ 16777216) : small k = true := Nat.ble_eq_true_of_le h
theorem parts_comp {c : CT} {i : Nat} {s : Str} (hs : big s) (H : ∀ w : Str, small w.length = true → c i [.str w] h = .ok (partOf w) h) :
    fcomp (.one 1) (fiSeq (fm1 gsplit (fvar 0) (fcon (.str " ")))) none (fargs (c i) (fcons (fvar 1) fnil)) [1] [some (.str s), none] h = .ok (.lst (parts s)) h := by
  refine comp_of (ds := (words 32 s).map D.str) (h1 := h) ?_ ?_ ?_
  · simp only [fiSeq, fm1, fvar, fcon, Res.bind, List.getElem?_cons_zero, split_s hs]
    rfl
  · rw [List.length_map]
    have := words_len 32 s
    unfold big at hs
    omega
  · have q := cloop_map (h := h) (t := .one 1) (elt := fargs (c i) (fcons (fvar 1) fnil)) (σ0 := wipeS [some (.str s), none] [1]) (f := partD) (ds := (words 32 s).map D.str) fun d hd => by
      obtain ⟨w, hw, rfl⟩ := List.mem_map.mp hd
      refine ⟨[some (.str s), some (.str w)], rfl, ?_⟩
      have hz : small w.length = true := small_of (by have := words_mem hw; unfold big at hs; omega)
      simp only [fargs, fcons, fvar, fnil, List.getElem?_cons_zero, List.getElem?_cons_succ, Res.bind, H w hz, partD]
    rw [List.map_map] at q
    exact q
theorem e_parts_of (hn : 2 ≤ n) {s : Str} (hs : big s) : callD (TT TL) n 218 [.str s] h = .ok (.tup (parts s)) h := by
  obtain ⟨m, rfl, hm⟩ := up1 hn
  rw [r_parts_of]
  simp only [b_parts_of]
  have c1 := parts_comp (h := h) (c := callD (TT TL) m) (i := 217) hs fun w hw => e_part_of hm hw
  have g (ds : List D) : gtuple1 (.lst ds) h = .ok (.tup ds) h := rfl
  simp only [evw_, c1, g]
/-- the first word -/
def hd (s : Str) : D := (parts s).headD .non
def hdIf (s : Str) : Bool := deq (hd s) (.str "if")
def isRow (s : Str) : Bool := isIn (.str s) ["else", "end"] || (isPlain (.tup (parts s)) || (hdIf s && isCond (.tup ((parts s).drop 1))))
theorem pur_hd (s : Str) : pur (hd s) = true := by
  unfold hd
  match q : parts s with
  | [] => rfl
  | p :: r => exact purL_mem (pur_parts s) (by rw [q]; exact List.mem_cons_self)
theorem gix_hd (s : Str) : gix (.tup (parts s)) (.int 0) h = .ok (hd s) h := by
  unfold hd
  match q : parts s with
  | [] => exact absurd (List.map_eq_nil_iff.mp q) (words_ne 32 s)
  | p :: r => exact gix_t0
theorem geq_hd (s : Str) : geq (hd s) (.str "if") h = .ok (.bl (hdIf s)) h := geq_p (pur_hd s) rfl (Nat.zero_le _)
theorem e_is_line (hn : 4 ≤ n) {s : Str} (hs : big s) : callD (TT TL) n 219 [.str s] h = .ok (.bl (isRow s)) h := by
  obtain ⟨m, rfl, hm⟩ := up1 hn
  rw [r_is_line]
  simp only [b_is_line, isRow]
  have hp : pur (.tup (parts s)) = true := pur_parts s
  have hq : pur (.tup ((parts s).drop 1)) = true := purL_of fun d hd => purL_mem (pur_parts s) (List.mem_of_mem_drop hd)
  simp only [evw_, e_parts_of (TL := TL) (h := h) (n := m) (by omega) hs, e_is_plain (TL := TL) (h := h) (n := m) (by omega) hp, gix_hd, geq_hd]
  cases isIn (D.str s) ["else", "end"] with
  | true => simp only [evw_, Bool.true_or]
  | false =>
    cases isPlain (.tup (parts s)) with
    | true => simp only [evw_, Bool.true_or, Bool.false_or]
    | false =>
      simp only [evw_, gix_hd, geq_hd]
      cases hdIf s with
      | false => simp only [evw_, Bool.false_or]
      | true => simp only [evw_, fslice, fpart, gcut_1, e_is_condition (TL := TL) (h := h) (n := m) (by omega) hq, Bool.false_or]
end

/-! text P5.lean -/
open PySem L2 TL
/-! plain laws 5: steps from rows -/
inductive Kd where
  | el | en | fi | ot
def kind (s : Str) : Kd := if s == "else" then .el else if s == "end" then .en else if hdIf s then .fi else .ot
/-- what is found; a condition and the bodies that are being read -/
abbrev Qs := List D × Option (List D × List D × Option (List D))
def stp (s : Str) : Kd → Qs → Option Qs
  | .fi, (f, none) => some (f, some ((parts s).drop 1, [], none))
  | .ot, (f, none) => some (f ++ [.tup (parts s)], none)
  | .el, (f, some (c, x, none)) => some (f, some (c, x, some []))
  | .en, (f, some (c, x, some y)) => some (f ++ [.tup [.str "if", .tup c, .tup x, .tup y]], none)
  | .ot, (f, some (c, x, none)) => some (f, some (c, x ++ [.tup (parts s)], none))
  | .ot, (f, some (c, x, some y)) => some (f, some (c, x, some (y ++ [.tup (parts s)])))
  | _, _ => none
def runQ : Qs → List Str → Option Qs
  | q, [] => some q
  | q, s :: ss => match stp s (kind s) q with
    | some q => runQ q ss
    | none => none
def stepsD (ls : List Str) : D := match runQ ([], none) ls with
  | some (f, none) => .tup f
  | _ => .non
/-- how much was read -/
def szQ : Qs → Nat → Prop
  | (f, none), k => f.length ≤ k
  | (f, some (_, x, none)), k => f.length ≤ k ∧ x.length ≤ k
  | (f, some (_, x, some y)), k => f.length ≤ k ∧ x.length ≤ k ∧ y.length ≤ k
theorem szQ_stp {s : Str} {kd : Kd} {q q' : Qs} {k : Nat} (e : stp s kd q = some q') (h : szQ q k) : szQ q' (k + 1) := by
  obtain ⟨f, t⟩ := q
  match t, h, e with
  | none, h, e =>
    cases kd <;> first | (cases e; done) | skip
    · cases e
      exact ⟨Nat.le_succ_of_le h, Nat.zero_le _⟩
    · cases e
      show (f ++ [_]).length ≤ _
      rw [List.length_append]
      exact Nat.succ_le_succ h
  | some (c, x, none), h, e =>
    cases kd <;> first | (cases e; done) | skip
    · cases e
      exact ⟨Nat.le_succ_of_le h.1, Nat.le_succ_of_le h.2, Nat.zero_le _⟩
    · cases e
      refine ⟨Nat.le_succ_of_le h.1, ?_⟩
      rw [List.length_append]
      exact Nat.succ_le_succ h.2
  | some (c, x, some y), h, e =>
    cases kd <;> first | (cases e; done) | skip
    · cases e
      show (f ++ [_]).length ≤ _
      rw [List.length_append]
      exact Nat.succ_le_succ h.1
    · cases e
      refine ⟨Nat.le_succ_of_le h.1, Nat.le_succ_of_le h.2.1, ?_⟩
      rw [List.length_append]
      exact Nat.succ_le_succ h.2.2
def inD : Option (List D × List D × Option (List D)) → D
  | none => .non
  | some (c, _) => .tup c
section
variable {TL : Nat → CT → Nat → Df} {n : Nat} {h : Hd}
def soBody (c : CT) : Fs := (fseq (fset 4 (fargs (c 218) (fcons (fvar 3) fnil)))
  (fifS (fand (fbin geq (fbin gix (fvar 4) (fcon (.int 0))) (fcon (.str "if"))) (fbin (gis false) (fvar 2) (fcon .non))) (fpar [2, 5] (fcons (fslice (fvar 4) (some (fcon (.int 1))) none) (fcons (flst (fcons (ftup fnil) fnil)) fnil))) (fifS (fand (fbin geq (fvar 3) (fcon (.str "else"))) (fand (fbin (gis true) (fvar 2) (fcon .non)) (fbin geq (fargs (g1 glen) (fcons (fvar 5) fnil)) (fcon (.int 1))))) (fset 5 (fbin gadd (fvar 5) (flst (fcons (ftup fnil) fnil)))) (fifS (fand (fbin geq (fvar 3) (fcon (.str "end"))) (fand (fbin (gis true) (fvar 2) (fcon .non)) (fbin geq (fargs (g1 glen) (fcons (fvar 5) fnil)) (fcon (.int 2))))) (fpar [1, 2] (fcons (fbin gadd (fvar 1) (ftup (fcons (ftup (fcons (fcon (.str "if")) (fcons (fvar 2) (fcons (fbin gix (fvar 5) (fcon (.int 0))) (fcons (fbin gix (fvar 5) (fcon (.int 1))) fnil))))) fnil))) (fcons (fcon .non) fnil))) (fifS (for_ (fbin (gin false) (fvar 3) (ftup (fcons (fcon (.str "else")) (fcons (fcon (.str "end")) fnil)))) (fbin geq (fbin gix (fvar 4) (fcon (.int 0))) (fcon (.str "if")))) (fret (fcon .non)) (fifS (fbin (gis true) (fvar 2) (fcon .non)) (fset 5 (fbin gadd (fslice (fvar 5) none (some (fun1 gneg (fcon (.int 1))))) (flst (fcons (fbin gadd (fbin gix (fvar 5) (fun1 gneg (fcon (.int 1)))) (ftup (fcons (fvar 4) fnil))) fnil)))) (fset 1 (fbin gadd (fvar 1) (ftup (fcons (fvar 4) fnil))))))))))
theorem so_split (c : CT) : b_steps_of c = fseq (funpT [1, 2] (ftup (fcons (ftup fnil) (fcons (fcon .non) fnil)))) (fseq (ffor (.one 3) (fiSeq (fvar 0)) (soBody c)) (fret (fif (fbin (gis false) (fvar 2) (fcon .non)) (fvar 1) (fcon .non)))) := rfl
/-- the slots of steps_of -/
def SlO (q : Qs) (σ : Sl) : Prop := ∃ L l p b, σ = [L, some (.tup q.1), some (inD q.2), l, p, b] ∧ match q.2 with
  | none => True
  | some (_, x, none) => b = some (.lst [.tup x])
  | some (_, x, some y) => b = some (.lst [.tup x, .tup y])
theorem gisT {c : List D} {neg : Bool} : gis neg (.tup c) .non h = .ok (.bl neg) h := by cases neg <;> rfl
theorem gisN {neg : Bool} : gis neg .non .non h = .ok (.bl (!neg)) h := by cases neg <;> rfl
theorem gix_l1 {x : D} : gix (.lst [x]) (.int (-1)) h = .ok x h := rfl
theorem gix_l2 {x y : D} : gix (.lst [x, y]) (.int (-1)) h = .ok y h := rfl
theorem gix_l20 {x y : D} : gix (.lst [x, y]) (.int 0) h = .ok x h := rfl
theorem gix_l21 {x y : D} : gix (.lst [x, y]) (.int 1) h = .ok y h := rfl
theorem gl1 {x : D} : glst [x] h = .ok (.lst [x]) h := rfl
theorem gcut_l1 {x : D} : gcut (.lst [x]) none (some (-1)) h = .ok (.lst []) h := rfl
theorem gcut_l2 {x y : D} : gcut (.lst [x, y]) none (some (-1)) h = .ok (.lst [x]) h := rfl
theorem gadd_l0 {y : D} : gadd (.lst []) (.lst [y]) h = .ok (.lst [y]) h := rfl
theorem gadd_l1 {x y : D} : gadd (.lst [x]) (.lst [y]) h = .ok (.lst [x, y]) h := rfl
theorem gadd_t {f : List D} {x : D} (hf : f.length ≤ 16777215) : gadd (.tup f) (.tup [x]) h = .ok (.tup (f ++ [x])) h := by
  show (if small (f.length + 1) then .ok (.tup (f ++ [x])) h else .stuck : Res D) = _
  rw [small_of (by omega), if_pos rfl]
theorem isIn_ee {s : Str} : isIn (.str s) ["else", "end"] = (s == "else" || s == "end") := by
  show ((("else" : Str) == s) || ((("end" : Str) == s) || false)) = _
  rw [beq_comm' (a := "else"), beq_comm' (a := "end"), Bool.or_false]
theorem hdIf_else : hdIf "else" = false := by decide +kernel
theorem hdIf_end : hdIf "end" = false := by decide +kernel
theorem ee : (("end" : Str) == "else") = false ∧ (("else" : Str) == "end") = false := by decide +kernel
theorem so_step (hn : 2 ≤ n) {q : Qs} {σ : Sl} {s : Str} (hs : big s) (hσ : SlO q σ) (hz : szQ q 16777215) :
    (∃ q' σ', stp s (kind s) q = some q' ∧ soBody (callD (TT TL) n) (σ.set 3 (some (.str s))) h = .nx σ' h ∧ SlO q' σ') ∨ (stp s (kind s) q = none ∧ soBody (callD (TT TL) n) (σ.set 3 (some (.str s))) h = .rt .non h) := by
  obtain ⟨f, t⟩ := q
  obtain ⟨L, l, p, b, rfl, hb⟩ := hσ
  have e1 := e_parts_of (TL := TL) (h := h) hn hs
  unfold kind
  by_cases h1 : s = "else"
  · subst h1
    rw [if_pos (by decide +kernel)]
    have q1 : (("else" : Str) == "else") = true := by decide +kernel
    match t, hb, hz with
    | none, hb, hz =>
      refine .inr ⟨rfl, ?_⟩
      simp only [soBody, inD]
      simp only [evw_, e1, gix_hd, geq_hd, hdIf_else, q1, ee.2, gisN, isIn_ee, Bool.true_or]
    | some (c, x, none), hb, hz =>
      refine .inl ⟨_, [L, _, _, some (.str "else"), some (.tup (parts "else")), _], rfl, ?_, ⟨_, _, _, _, rfl, rfl⟩⟩
      have hb : b = _ := hb
      subst hb
      simp only [soBody, inD]
      simp only [evw_, e1, gix_hd, geq_hd, hdIf_else, q1, ee.2, gisT, gl1, gadd_l1]
    | some (c, x, some y), hb, hz =>
      refine .inr ⟨rfl, ?_⟩
      have hb : b = _ := hb
      subst hb
      simp only [soBody, inD]
      simp only [evw_, e1, gix_hd, geq_hd, hdIf_else, q1, ee.2, gisT, isIn_ee, Bool.true_or]
  · have q1 : (s == ("else" : Str)) = false := beq_eq_false_iff_ne.mpr h1
    rw [if_neg (by rw [q1]; exact Bool.false_ne_true)]
    by_cases h2 : s = "end"
    · subst h2
      rw [if_pos (by decide +kernel)]
      have q2 : (("end" : Str) == "end") = true := by decide +kernel
      match t, hb, hz with
      | none, hb, hz =>
        refine .inr ⟨rfl, ?_⟩
        simp only [soBody, inD]
        simp only [evw_, e1, gix_hd, geq_hd, hdIf_end, ee.1, q2, gisN, isIn_ee, Bool.or_true]
      | some (c, x, none), hb, hz =>
        refine .inr ⟨rfl, ?_⟩
        have hb : b = _ := hb
        subst hb
        simp only [soBody, inD]
        simp only [evw_, e1, gix_hd, geq_hd, hdIf_end, ee.1, q2, gisT, isIn_ee, Bool.or_true]
      | some (c, x, some y), hb, hz =>
        refine .inl ⟨_, [L, _, _, some (.str "end"), some (.tup (parts "end")), some (.lst [.tup x, .tup y])], rfl, ?_, ⟨_, _, _, _, rfl, trivial⟩⟩
        have hb : b = _ := hb
        subst hb
        simp only [soBody, inD]
        simp only [evw_, e1, gix_hd, geq_hd, hdIf_end, ee.1, q2, gisT, gix_l20, gix_l21, gadd_t (h := h) (f := f) hz.1, fpar, setAll]
    · have q2 : (s == ("end" : Str)) = false := beq_eq_false_iff_ne.mpr h2
      rw [if_neg (by rw [q2]; exact Bool.false_ne_true)]
      cases h3 : hdIf s with
      | true =>
        rw [if_pos rfl]
        match t, hb, hz with
        | none, hb, hz =>
          refine .inl ⟨_, [L, _, _, some (.str s), some (.tup (parts s)), _], rfl, ?_, ⟨_, _, _, _, rfl, rfl⟩⟩
          simp only [soBody, inD]
          simp only [evw_, e1, gix_hd, geq_hd, h3, q1, q2, gisN, fslice, fpart, gcut_1, gl1, fpar, setAll]
        | some (c, x, y), hb, hz =>
          refine .inr ⟨rfl, ?_⟩
          simp only [soBody, inD]
          simp only [evw_, e1, gix_hd, geq_hd, h3, q1, q2, gisT, isIn_ee, Bool.or_false]
      | false =>
        rw [if_neg Bool.false_ne_true]
        match t, hb, hz with
        | none, hb, hz =>
          refine .inl ⟨_, [L, _, _, some (.str s), some (.tup (parts s)), b], rfl, ?_, ⟨_, _, _, _, rfl, trivial⟩⟩
          simp only [soBody, inD]
          simp only [evw_, e1, gix_hd, geq_hd, h3, q1, q2, gisN, isIn_ee, Bool.or_false, gadd_t (h := h) (f := f) hz]
        | some (c, x, none), hb, hz =>
          refine .inl ⟨_, [L, _, _, some (.str s), some (.tup (parts s)), _], rfl, ?_, ⟨_, _, _, _, rfl, rfl⟩⟩
          have hb : b = _ := hb
          subst hb
          simp only [soBody, inD]
          simp only [evw_, e1, gix_hd, geq_hd, h3, q1, q2, gisT, isIn_ee, Bool.or_false, fslice, fpart, gix_l1, gcut_l1, gadd_t (h := h) (f := x) hz.2, gl1, gadd_l0]
        | some (c, x, some y), hb, hz =>
          refine .inl ⟨_, [L, _, _, some (.str s), some (.tup (parts s)), _], rfl, ?_, ⟨_, _, _, _, rfl, rfl⟩⟩
          have hb : b = _ := hb
          subst hb
          simp only [soBody, inD]
          simp only [evw_, e1, gix_hd, geq_hd, h3, q1, q2, gisT, isIn_ee, Bool.or_false, fslice, fpart, gix_l2, gcut_l2, gadd_t (h := h) (f := y) hz.2.2, gl1, gadd_l1]
theorem szQ_mono {q : Qs} {k m : Nat} (h : szQ q k) (hk : k ≤ m) : szQ q m := by
  obtain ⟨f, t⟩ := q
  match t, h with
  | none, h => exact Nat.le_trans h hk
  | some (c, x, none), h => exact ⟨Nat.le_trans h.1 hk, Nat.le_trans h.2 hk⟩
  | some (c, x, some y), h => exact ⟨Nat.le_trans h.1 hk, Nat.le_trans h.2.1 hk, Nat.le_trans h.2.2 hk⟩
theorem so_loop (hn : 2 ≤ n) : ∀ (ls : List Str) (q : Qs) (σ : Sl) (k : Nat), (∀ s ∈ ls, big s) → SlO q σ → szQ q k → k + ls.length ≤ 16777215 →
    (∃ q' σ', runQ q ls = some q' ∧ floop (.one 3) (soBody (callD (TT TL) n)) (ls.map D.str) σ h = .nx σ' h ∧ SlO q' σ') ∨ (runQ q ls = none ∧ floop (.one 3) (soBody (callD (TT TL) n)) (ls.map D.str) σ h = .rt .non h)
  | [], q, σ, k, _, hσ, _, _ => .inl ⟨q, σ, rfl, rfl, hσ⟩
  | s :: ls, q, σ, k, hb, hσ, hz, hk => by
    have hk' : k + (ls.length + 1) ≤ 16777215 := hk
    have e0 : floop (.one 3) (soBody (callD (TT TL) n)) ((s :: ls).map D.str) σ h = match soBody (callD (TT TL) n) (σ.set 3 (some (.str s))) h with
      | .nx σ h => floop (.one 3) (soBody (callD (TT TL) n)) (ls.map D.str) σ h
      | .ct σ h => floop (.one 3) (soBody (callD (TT TL) n)) (ls.map D.str) σ h
      | .bk σ h => .nx σ h
      | r => r := rfl
    have e1 : runQ q (s :: ls) = match stp s (kind s) q with
      | some q => runQ q ls
      | none => none := rfl
    rcases so_step (TL := TL) (h := h) hn (hb s List.mem_cons_self) hσ (szQ_mono hz (by omega)) with ⟨q', σ', h1, h2, h3⟩ | ⟨h1, h2⟩
    · rw [e0, h2, e1, h1]
      exact so_loop hn ls q' σ' (k + 1) (fun z hz => hb z (List.mem_cons_of_mem _ hz)) h3 (szQ_stp h1 hz) (by omega)
    · rw [e0, h2, e1, h1]
      exact .inr ⟨rfl, rfl⟩
theorem e_steps_of (hn : 3 ≤ n) {ls : List Str} (hb : ∀ s ∈ ls, big s) (hl : ls.length ≤ 16777215) : callD (TT TL) n 220 [.lst (ls.map D.str)] h = .ok (stepsD ls) h := by
  obtain ⟨m, rfl, hm⟩ := up1 hn
  rw [r_steps_of, so_split]
  unfold stepsD
  rcases so_loop (TL := TL) (h := h) (n := m) (by omega) ls ([], none) [some (.lst (ls.map D.str)), some (.tup []), some .non, none, none, none] 0 hb ⟨_, _, _, _, rfl, trivial⟩ (Nat.le_refl _) (by omega) with ⟨⟨f, t⟩, σ', h1, h2, ⟨L, l, p, b, rfl, h3⟩⟩ | ⟨h1, h2⟩
  · rw [h1]
    cases t with
    | none => simp only [evw_, funpT, setAll, ffor, fiSeq, giSeq, h2, inD, gisN]
    | some t => simp only [evw_, funpT, setAll, ffor, fiSeq, giSeq, h2, inD, gisT]
  · rw [h1]
    simp only [evw_, funpT, setAll, ffor, fiSeq, giSeq, h2]
theorem purL_app {a b : List D} (ha : purL a = true) (hb : purL b = true) : purL (a ++ b) = true := purL_of fun d hd => (List.mem_append.mp hd).elim (purL_mem ha) (purL_mem hb)
theorem purL_one {d : D} (hd : pur d = true) : purL [d] = true := by
  rw [purL, hd]
  rfl
def purQ : Qs → Prop
  | (f, none) => purL f = true
  | (f, some (c, x, none)) => purL f = true ∧ purL c = true ∧ purL x = true
  | (f, some (c, x, some y)) => purL f = true ∧ purL c = true ∧ purL x = true ∧ purL y = true
theorem purQ_stp {s : Str} {kd : Kd} {q q' : Qs} (e : stp s kd q = some q') (h : purQ q) : purQ q' := by
  have hp : purL (parts s) = true := pur_parts s
  have h1 : purL [.tup (parts s)] = true := purL_one hp
  obtain ⟨f, t⟩ := q
  match t, h, e with
  | none, h, e =>
    cases kd <;> first | (cases e; done) | skip
    · cases e
      exact ⟨h, purL_of fun d hd => purL_mem hp (List.mem_of_mem_drop hd), rfl⟩
    · cases e
      exact purL_app h h1
  | some (c, x, none), h, e =>
    cases kd <;> first | (cases e; done) | skip
    · cases e
      exact ⟨h.1, h.2.1, h.2.2, rfl⟩
    · cases e
      exact ⟨h.1, h.2.1, purL_app h.2.2 h1⟩
  | some (c, x, some y), h, e =>
    cases kd <;> first | (cases e; done) | skip
    · cases e
      refine purL_app h.1 (purL_one ?_)
      show purL [.str "if", .tup c, .tup x, .tup y] = true
      obtain ⟨_, h2, h3, h4⟩ := h
      simp only [purL, pur, h2, h3, h4, Bool.and_true]
    · cases e
      exact ⟨h.1, h.2.1, h.2.2.1, purL_app h.2.2.2 h1⟩
theorem purQ_run : ∀ {ls : List Str} {q q' : Qs}, runQ q ls = some q' → purQ q → purQ q'
  | [], q, q', e, h => by
    cases e
    exact h
  | s :: ls, q, q', e, h => by
    have e : (match stp s (kind s) q with
      | some q => runQ q ls
      | none => none) = some q' := e
    split at e
    · rename_i q1 e1
      exact purQ_run e (purQ_stp e1 h)
    · cases e
theorem pur_stepsD (ls : List Str) : pur (stepsD ls) = true := by
  unfold stepsD
  split
  · rename_i f e
    exact purQ_run e (show purQ ([], none) from rfl)
  · rfl
/-! ### reading -/
def linesOf (s : Str) : List Str := if s == "" then [] else words 10 s
theorem big_line {s l : Str} (hs : big s) (hl : l ∈ linesOf s) : big l := by
  unfold linesOf at hl
  split at hl
  · cases hl
  · exact Nat.le_trans (words_mem hl) hs
theorem len_lines {s : Str} (hs : big s) : (linesOf s).length ≤ 10000001 := by
  unfold linesOf
  split
  · exact Nat.zero_le _
  · have := words_len 10 s
    unfold big at hs
    omega
/-- the first row that is none -/
def fb : Nat → List Str → Option Nat
  | _, [] => none
  | k, s :: ls => if isRow s then fb (k + 1) ls else some k
def rd (s : Str) : Nat ⊕ D := match fb 0 (linesOf s) with
  | some i => .inl (i + 1)
  | none => if isScript (stepsD (linesOf s)) then .inr (stepsD (linesOf s)) else .inl ((linesOf s).length + 1)
def rdD (s : Str) : D := match rd s with
  | .inl k => .int (k : Nat)
  | .inr d => d
theorem rs_loop (hn : 4 ≤ n) {v L c : Option D} : ∀ (ls : List Str) (k : Nat) (a b : Option D), (∀ s ∈ ls, big s) →
    (fb k ls = none ∧ ∃ a' b', floop (.all [2, 3]) (fifS (fnot (fargs (callD (TT TL) n 219) (fcons (fvar 3) fnil))) (fraiseI 14 "line" (fbin gadd (fvar 2) (fcon (.int 1)))) fskip) (enumD k (ls.map D.str)) [v, L, a, b, c] h = .nx [v, L, a', b', c] h) ∨
    (∃ i σ, fb k ls = some i ∧ floop (.all [2, 3]) (fifS (fnot (fargs (callD (TT TL) n 219) (fcons (fvar 3) fnil))) (fraiseI 14 "line" (fbin gadd (fvar 2) (fcon (.int 1)))) fskip) (enumD k (ls.map D.str)) [v, L, a, b, c] h = .exc ⟨14, [("line", .int ((i + 1 : Nat) : Int))]⟩ σ h)
  | [], k, a, b, _ => .inl ⟨rfl, a, b, rfl⟩
  | s :: ls, k, a, b, hb => by
    have e1 := e_is_line (TL := TL) (h := h) hn (hb s List.mem_cons_self)
    have e0 : fb k (s :: ls) = if isRow s then fb (k + 1) ls else some k := rfl
    have e2 : enumD k ((s :: ls).map D.str) = .tup [.int (k : Nat), .str s] :: enumD (k + 1) (ls.map D.str) := rfl
    rw [e0, e2]
    cases hr : isRow s with
    | true =>
      rw [if_pos rfl]
      rcases rs_loop hn (v := v) (L := L) (c := c) ls (k + 1) (some (.int (k : Nat))) (some (.str s)) (fun z hz => hb z (List.mem_cons_of_mem _ hz)) with ⟨h1, x, y, h2⟩ | ⟨i, σ, h1, h2⟩
      · refine .inl ⟨h1, x, y, ?_⟩
        rw [floop]
        simp only [evw_, Tg.put, setAll, e1, hr, h2]
      · refine .inr ⟨i, σ, h1, ?_⟩
        rw [floop]
        simp only [evw_, Tg.put, setAll, e1, hr, h2]
    | false =>
      refine .inr ⟨k, [v, L, some (.int (k : Nat)), some (.str s), c], rfl, ?_⟩
      rw [floop]
      simp only [evw_, Tg.put, setAll, e1, hr, fraiseI, gadd_i]
      rfl
theorem lines_of {s : Str} (hs : big s) {σ : Sl} : fif (fbin gne (fvar 0) (fcon (.str ""))) (fm1 gsplit (fvar 0) (fcon (.str "\n"))) (flst fnil) (some (.str s) :: σ) h = .ok (.lst ((linesOf s).map D.str)) h := by
  unfold linesOf
  cases q : s == ("" : Str) with
  | true => simp only [evw_, q, List.map_nil]
  | false => simp only [evw_, q, fm1, split_n hs, Bool.false_eq_true, if_false]
theorem e_read_script (hn : 7 ≤ n) {s : Str} (hs : big s) : callD (TT TL) n 221 [.str s] h = match rd s with
    | .inl k => .exc ⟨14, [("line", .int (k : Nat))]⟩ h
    | .inr d => .ok d h := by
  obtain ⟨m, rfl, hm⟩ := up1 hn
  rw [r_read_script]
  simp only [b_read_script]
  have e1 := lines_of (h := h) hs (σ := [none, none, none, none])
  have e2 := e_steps_of (TL := TL) (h := h) (n := m) (by omega) (fun l hl => big_line hs hl) (Nat.le_trans (len_lines hs) (by omega))
  have e3 := e_is_script (TL := TL) (h := h) (n := m) hm (pur_stepsD (linesOf s))
  have ge (ds : List D) : giEnum (.lst ds) h = .ok (enumD 0 ds) h := rfl
  unfold rd
  simp only [fseq, fifS, fnot, fun1, gisi, tyOf, isTy, fvar, List.getElem?_cons_zero, Res.bind, Res.st, Bool.not_true, fskip, fset, e1, List.set_cons_zero, List.set_cons_succ]
  rcases rs_loop (TL := TL) (h := h) (n := m) (by omega) (v := some (.str s)) (L := some (.lst ((linesOf s).map D.str))) (c := none) (linesOf s) 0 none none (fun l hl => big_line hs hl) with ⟨h1, a, b, h2⟩ | ⟨i, σ, h1, h2⟩
  · rw [h1]
    simp only [ffor, fiA, gi1, fvar, fcons, fnil, List.getElem?_cons_zero, List.getElem?_cons_succ, Res.bind, ge, h2]
    simp only [evw_, e2, e3]
    cases isScript (stepsD (linesOf s)) with
    | true => simp only [evw_]
    | false =>
      simp only [evw_, fraiseI, gadd_i, Bool.false_eq_true, if_false, List.length_map]
      rfl
  · rw [h1]
    simp only [ffor, fiA, gi1, fvar, fcons, fnil, List.getElem?_cons_zero, List.getElem?_cons_succ, Res.bind, ge, h2]
    rfl
theorem e_law_read (hn : 8 ≤ n) {s : Str} (hs : big s) : callD (TT TL) n 225 [.str s] h = .ok (rdD s) h := by
  obtain ⟨m, rfl, hm⟩ := up1 hn
  rw [r__law_read]
  simp only [b__law_read, ftry', ftry, fret, fargs, fcons, fvar, fnil, List.getElem?_cons_zero, Res.bind, Res.st, e_read_script (TL := TL) (h := h) hm hs, rdD]
  cases rd s with
  | inl k => rfl
  | inr d => rfl
/-- what is no text is not read -/
theorem e_law_read_no (hn : 8 ≤ n) {d : D} (hd : pur d = true) (ht : isTy .str d = false) : callD (TT TL) n 225 [d] h = .ok (.int 0) h := by
  obtain ⟨m, rfl, hm⟩ := up1 hn
  obtain ⟨m, rfl, hm⟩ := up1 hm
  rw [r__law_read]
  have e : callD (TT TL) (m + 1) 221 [d] h = .exc ⟨14, [("line", .int 0)]⟩ h := by
    rw [r_read_script]
    cases d <;> first | (cases ht; done) | (cases hd; done) | rfl
  simp only [b__law_read, ftry', ftry, fret, fargs, fcons, fvar, fnil, List.getElem?_cons_zero, Res.bind, Res.st, e]
  rfl
end

/-! text P8.lean -/
open PySem L2 TL
/-! plain laws 8: numbers in a script; scripts drawn -/
def shiftless (ds : List D) : Bool := match ds with
  | [a, _] => !isIn a ["shift", "widen"] && (pur a && Nat.ble (dep a) 60)
  | _ => true
def okB : Nat → D → Bool
  | 0, d => pur d && !isTy .tuple d
  | k + 1, d => match d with
    | .tup ds => purL ds && ((match ds with
      | [.str _, .int _] => true
      | _ => shiftless ds) && ds.all (okB k))
    | d => pur d && !isTy .tuple d
theorem okB_pur : ∀ {k : Nat} {d : D}, okB k d = true → pur d = true
  | 0, d, h => by
    rw [okB, Bool.and_eq_true] at h
    exact h.1
  | k + 1, d, h => by
    unfold okB at h
    split at h
    · rw [Bool.and_eq_true] at h
      exact h.1
    · rw [Bool.and_eq_true] at h
      exact h.1
section
variable {TL : Nat → CT → Nat → Df} {n : Nat} {h : Hd}
theorem gin_any {x : D} {a b : Str} (hp : pur x = true) (hd : dep x ≤ 60) : gin false x (.tup [.str a, .str b]) h = .ok (.bl (isIn x [a, b])) h := by
  cases x with
  | str s => exact gin2 s a b
  | tup ds =>
    show (if inOk (.tup ds) [.str a, .str b] then .ok (.bl (false != [D.str a, D.str b].any fun z => deq z (.tup ds))) h else .stuck : Res D) = _
    have : inOk (.tup ds) [.str a, .str b] = true := by
      unfold inOk
      rw [hp, show Nat.ble (dep (.tup ds)) 60 = true from Nat.ble_eq_true_of_le hd]
      rfl
    rw [this]
    rfl
  | lst ds =>
    show (if inOk (.lst ds) [.str a, .str b] then .ok (.bl (false != [D.str a, D.str b].any fun z => deq z (.lst ds))) h else .stuck : Res D) = _
    have : inOk (.lst ds) [.str a, .str b] = true := by
      unfold inOk
      rw [hp, show Nat.ble (dep (.lst ds)) 60 = true from Nat.ble_eq_true_of_le hd]
      rfl
    rw [this]
    rfl
  | _ => first | rfl | cases hp
def nbBody (c : CT) : Fs := (fifS (fand (fun1 (gisi .tuple) (fvar 3)) (fand (fbin geq (fargs (g1 glen) (fcons (fvar 3) fnil)) (fcon (.int 2))) (fbin (gin false) (fbin gix (fvar 3) (fcon (.int 0))) (ftup (fcons (fcon (.str "shift")) (fcons (fcon (.str "widen")) fnil)))))) (fset 2 (fbin gadd (fvar 2) (fargs (g1 gabs) (fcons (fbin gix (fvar 3) (fcon (.int 1))) fnil)))) (fifS (fargs (c 24) (fcons (fvar 3) fnil)) (fset 1 (fargs (g2 gmax2) (fcons (fvar 1) (fcons (fargs (g1 gabs) (fcons (fbin gix (fvar 3) (fcon (.int 1))) fnil)) fnil)))) (fifS (fun1 (gisi .tuple) (fvar 3)) (fseq (funpT [4, 5] (fargs (c 42) (fcons (fvar 3) fnil)))
  (fpar [1, 2] (fcons (fargs (g2 gmax2) (fcons (fvar 1) (fcons (fvar 4) fnil))) (fcons (fbin gadd (fvar 2) (fvar 5)) fnil)))) fskip)))
theorem nb_split (c : CT) : b__law_numbers c = (fseq (funpT [1, 2] (ftup (fcons (fcon (.int 0)) (fcons (fcon (.int 0)) fnil)))) (fseq (ffor (.one 3) (fiSeq (fvar 0)) (nbBody c)) (fret (ftup (fcons (fvar 1) (fcons (fvar 2) fnil)))))) := rfl
def SlN (σ : Sl) : Prop := ∃ v a b x y z, σ = [v, some (.int a), some (.int b), x, y, z]
theorem gabs_i {a : Int} : ∃ b, gabs (.int a) h = .ok (.int b) h := ⟨_, rfl⟩
theorem gmax_i {a b : Int} : ∃ c, gmax2 (.int a) (.int b) h = .ok (.int c) h := ⟨_, rfl⟩
theorem isTerm_int {a b : D} (e : isTerm (.tup [a, b]) = true) : ∃ i, b = .int i := by
  have e : (isIn a ["a", "b", "c"] && isWhole b (-9) 9) = true := e
  rw [Bool.and_eq_true] at e
  cases b <;> first | exact ⟨_, rfl⟩ | cases e.2
def nbOk (d : D) : Prop := match d with
  | .tup [a, b] => (∃ s i, a = .str s ∧ b = .int i) ∨ (isIn a ["shift", "widen"] = false ∧ dep a ≤ 60)
  | _ => True
theorem nb_step (hn : 2 ≤ n) {d : D} (hp : pur d = true) (hk : nbOk d) (H : ∀ ds, d = .tup ds → ∃ a b : Int, callD (TT TL) n 42 [.tup ds] h = .ok (.tup [.int a, .int b]) h) {σ : Sl} (hσ : SlN σ) :
    ∃ σ', nbBody (callD (TT TL) n) (σ.set 3 (some d)) h = .nx σ' h ∧ SlN σ' := by
  obtain ⟨v, a, b, x, y, z, rfl⟩ := hσ
  have e1 := e_law_is_term (TL := TL) (h := h) hn hp
  by_cases ht : isTy .tuple d = true
  · obtain ⟨ds, rfl⟩ : ∃ ds, d = .tup ds := by cases d <;> first | exact ⟨_, rfl⟩ | cases ht
    obtain ⟨c1, c2, e2⟩ := H ds rfl
    obtain ⟨m1, g1'⟩ := gmax_i (h := h) (a := a) (b := c1)
    have rest (q : isTerm (.tup ds) = false) (F : ∀ σ : Sl, (fand (fun1 (gisi .tuple) (fvar 3)) (fand (fbin geq (fargs (g1 glen) (fcons (fvar 3) fnil)) (fcon (.int 2))) (fbin (gin false) (fbin gix (fvar 3) (fcon (.int 0))) (ftup (fcons (fcon (.str "shift")) (fcons (fcon (.str "widen")) fnil)))))) [v, some (.int a), some (.int b), some (.tup ds), y, z] h = .ok (.bl false) h) : ∃ σ', nbBody (callD (TT TL) n) [v, some (.int a), some (.int b), some (.tup ds), y, z] h = .nx σ' h ∧ SlN σ' := by
      refine ⟨[v, some (.int m1), some (.int (b + c2)), some (.tup ds), some (.int c1), some (.int c2)], ?_, ⟨_, _, _, _, _, _, rfl⟩⟩
      unfold nbBody
      rw [fifS, F []]
      simp only [evw_, e1, q, e2, funpT, setAll, fpar, g1', gadd_i]
    match ds, hp, hk, e1, e2, rest with
    | [p, q], hp, hk, e1, e2, rest =>
      rcases hk with ⟨s, i, rfl, rfl⟩ | ⟨h1, h2⟩
      · obtain ⟨c3, g2'⟩ := gabs_i (h := h) (a := i)
        cases hs : isIn (.str s) ["shift", "widen"] with
        | true =>
          refine ⟨[v, some (.int a), some (.int (b + c3)), some (.tup [.str s, .int i]), y, z], ?_, ⟨_, _, _, _, _, _, rfl⟩⟩
          unfold nbBody
          simp only [evw_, hs, g2', gadd_i]
        | false =>
          have F : ∀ σ : Sl, (fand (fun1 (gisi .tuple) (fvar 3)) (fand (fbin geq (fargs (g1 glen) (fcons (fvar 3) fnil)) (fcon (.int 2))) (fbin (gin false) (fbin gix (fvar 3) (fcon (.int 0))) (ftup (fcons (fcon (.str "shift")) (fcons (fcon (.str "widen")) fnil)))))) [v, some (.int a), some (.int b), some (.tup [.str s, .int i]), y, z] h = .ok (.bl false) h := fun σ => by simp only [evw_, hs]
          cases hq : isTerm (.tup [.str s, .int i]) with
          | false => exact rest hq F
          | true =>
            obtain ⟨m2, g3'⟩ := gmax_i (h := h) (a := a) (b := c3)
            refine ⟨[v, some (.int m2), some (.int b), some (.tup [.str s, .int i]), y, z], ?_, ⟨_, _, _, _, _, _, rfl⟩⟩
            unfold nbBody
            rw [List.set_cons_succ, List.set_cons_succ, List.set_cons_succ, List.set_cons_zero, fifS, F []]
            simp only [evw_, e1, hq, g2', g3']
      · have hpp : pur p = true := purL_mem (show purL [p, q] = true from hp) List.mem_cons_self
        have F : ∀ σ : Sl, (fand (fun1 (gisi .tuple) (fvar 3)) (fand (fbin geq (fargs (g1 glen) (fcons (fvar 3) fnil)) (fcon (.int 2))) (fbin (gin false) (fbin gix (fvar 3) (fcon (.int 0))) (ftup (fcons (fcon (.str "shift")) (fcons (fcon (.str "widen")) fnil)))))) [v, some (.int a), some (.int b), some (.tup [p, q]), y, z] h = .ok (.bl false) h := fun σ => by simp only [evw_, gin_any hpp h2, h1]
        cases hq : isTerm (.tup [p, q]) with
        | false => exact rest hq F
        | true =>
          obtain ⟨i, rfl⟩ := isTerm_int hq
          obtain ⟨c3, g2'⟩ := gabs_i (h := h) (a := i)
          obtain ⟨m2, g3'⟩ := gmax_i (h := h) (a := a) (b := c3)
          refine ⟨[v, some (.int m2), some (.int b), some (.tup [p, .int i]), y, z], ?_, ⟨_, _, _, _, _, _, rfl⟩⟩
          unfold nbBody
          rw [List.set_cons_succ, List.set_cons_succ, List.set_cons_succ, List.set_cons_zero, fifS, F []]
          simp only [evw_, e1, hq, g2', g3']
    | [], hp, hk, e1, e2, rest => exact rest rfl fun σ => rfl
    | [_], hp, hk, e1, e2, rest => exact rest rfl fun σ => rfl
    | p :: q :: r :: t, hp, hk, e1, e2, rest =>
      exact rest rfl fun σ => by
        have : (((t.length + 1 + 1 + 1 : Nat) : Int) == 2) = false := beq_eq_false_iff_ne.mpr (by omega)
        simp only [evw_, this]
        try rfl
  · refine ⟨[v, some (.int a), some (.int b), some d, y, z], ?_, ⟨_, _, _, _, _, _, rfl⟩⟩
    have hf : isTy .tuple d = false := Bool.eq_false_iff.mpr ht
    have ht2 : isTerm d = false := by cases d <;> first | rfl | cases hf
    unfold nbBody
    cases d <;> first | (cases hp; done) | (cases hf; done) | (simp only [evw_, e1, ht2])
theorem okB_nb {k : Nat} {d : D} (e : okB k d = true) : nbOk d := by
  unfold nbOk
  split
  · rename_i a b
    cases k with
    | zero =>
      rw [okB, Bool.and_eq_true] at e
      cases e.2
    | succ k =>
      have e : (purL [a, b] && ((match [a, b] with
        | [.str _, .int _] => true
        | _ => shiftless [a, b]) && [a, b].all (okB k))) = true := e
      rw [Bool.and_eq_true, Bool.and_eq_true] at e
      have e2 := e.2.1
      split at e2
      · rename_i s i q
        cases q
        exact .inl ⟨_, _, rfl, rfl⟩
      · have e2 : (!isIn a ["shift", "widen"] && (pur a && Nat.ble (dep a) 60)) = true := e2
        rw [Bool.and_eq_true, Bool.and_eq_true] at e2
        refine .inr ⟨?_, Nat.le_of_ble_eq_true e2.2.2⟩
        have := e2.1
        cases q : isIn a ["shift", "widen"] with
        | false => rfl
        | true =>
          rw [q] at this
          cases this
  · trivial
theorem okB_all {k : Nat} {ds : List D} (e : okB (k + 1) (.tup ds) = true) : ∀ d ∈ ds, okB k d = true := by
  have e := (Bool.and_eq_true _ _).mp (show (purL ds && _) = true from e)
  exact List.all_eq_true.mp ((Bool.and_eq_true _ _).mp e.2).2
theorem nb_loop (hn : 2 ≤ n) : ∀ (ds : List D) (σ : Sl), (∀ d ∈ ds, pur d = true ∧ nbOk d ∧ ∀ es, d = .tup es → ∃ a b : Int, callD (TT TL) n 42 [.tup es] h = .ok (.tup [.int a, .int b]) h) → SlN σ → ∃ σ', floop (.one 3) (nbBody (callD (TT TL) n)) ds σ h = .nx σ' h ∧ SlN σ'
  | [], σ, _, hσ => ⟨σ, rfl, hσ⟩
  | d :: ds, σ, H, hσ => by
    obtain ⟨h1, h2, h3⟩ := H d List.mem_cons_self
    obtain ⟨σ', e, hσ'⟩ := nb_step (TL := TL) (h := h) hn h1 h2 h3 hσ
    obtain ⟨σ2, e2, hσ2⟩ := nb_loop hn ds σ' (fun x hx => H x (List.mem_cons_of_mem _ hx)) hσ'
    refine ⟨σ2, ?_, hσ2⟩
    rw [floop]
    simp only [Tg.put, e, e2]
theorem e_law_numbers : ∀ (k n : Nat) (ds : List D), k + 3 ≤ n → (∀ d ∈ ds, okB k d = true) → ∃ a b : Int, callD (TT TL) n 42 [.tup ds] h = .ok (.tup [.int a, .int b]) h
  | k, n, ds, hn, H => by
    obtain ⟨m, rfl, hm⟩ := up1 hn
    rw [r__law_numbers, nb_split]
    have q : ∀ d ∈ ds, pur d = true ∧ nbOk d ∧ ∀ es, d = .tup es → ∃ a b : Int, callD (TT TL) m 42 [.tup es] h = .ok (.tup [.int a, .int b]) h := fun d hd => by
      refine ⟨okB_pur (H d hd), okB_nb (H d hd), fun es he => ?_⟩
      subst he
      cases k with
      | zero =>
        have := H _ hd
        rw [okB, Bool.and_eq_true] at this
        cases this.2
      | succ k => exact e_law_numbers k m es (by omega) (okB_all (H _ hd))
    obtain ⟨σ', e, v, a, b, x, y, z, rfl⟩ := nb_loop (TL := TL) (h := h) (n := m) (by omega) ds [some (.tup ds), some (.int 0), some (.int 0), none, none, none] q ⟨_, _, _, _, _, _, rfl⟩
    refine ⟨a, b, ?_⟩
    simp only [evw_, funpT, setAll, ffor, fiSeq, giSeq, e]
end

/-! text P9.lean -/
open PySem L2 TL
/-! plain laws 9: steps and scripts drawn -/
structure GoodIf (d : D) : Prop where
  ex : ∃ c x y, d = .tup [.str "if", c, .tup x, .tup y] ∧ c ∈ conds ∧ (∀ s ∈ x, s ∈ simples) ∧ x.length ≤ 2 ∧ (∀ s ∈ y, s ∈ simples) ∧ y.length ≤ 2
def GoodStep (d : D) : Prop := d ∈ simples ∨ GoodIf d
section
variable {TL : Nat → CT → Nat → Df} {n : Nat}
theorem draw_simples (hn : 4 ≤ n) {i : Nat} {σ0 : Sl} (hσ : σ0[0]? = some (some (.obj i))) : ∀ (k : Nat) (a : Int) (h : Hd), Vt h i → ∃ ys h', cloop (.one 3) none (fargs (callD (TT TL) n 39) (fcons (fvar 0) fnil)) σ0 (intsFrom a k) h = .ok ys h' ∧ ys.length = k ∧ (∀ y ∈ ys, y ∈ simples) ∧ Dr i h h'
  | 0, a, h, v => ⟨[], h, rfl, rfl, (fun _ hy => nomatch hy), Dr.refl v⟩
  | k + 1, a, h, v => by
    obtain ⟨d, h1, e1, m1, dr1⟩ := e_simple (TL := TL) (h := h) hn v
    obtain ⟨ys, h2, e2, l2, m2, dr2⟩ := draw_simples hn hσ k (a + 1) h1 dr1.vt
    refine ⟨d :: ys, h2, ?_, by rw [List.length_cons, l2], fun y hy => ?_, dr1.trans dr2⟩
    · have g : (σ0.set 3 (some (.int a)))[0]? = some (some (.obj i)) := by rw [List.getElem?_set_ne (by decide), hσ]
      rw [intsFrom, cloop]
      simp only [Tg.put, testB, fargs, fcons, fvar, fnil, g, Res.bind, e1, e2]
    · rcases List.mem_cons.mp hy with rfl | hy
      · exact m1
      · exact m2 y hy
theorem giR1_nat {h : Hd} {k : Nat} (hk : k ≤ 20000000) : giR1 (.int (k : Int)) h = .ok (intsFrom 0 k) h := by
  show (if okR (k : Int) then .ok (intsFrom 0 (k : Int).toNat) h else .stuck : Res (List D)) = _
  rw [show okR (k : Int) = true from Nat.ble_eq_true_of_le (show ((k : Int).natAbs + 1) ≤ 4611686018427387904 by omega), Int.toNat_natCast]
  rfl
theorem intsFrom_length : ∀ (k : Nat) (i : Int), (intsFrom i k).length = k
  | 0, _ => rfl
  | k + 1, i => by rw [intsFrom, List.length_cons, intsFrom_length k]
theorem step_body (hn : 4 ≤ n) {i : Nat} {bs : List D} {x y : Option D} {h : Hd} (hb : bs.length ≤ 10) (v : Vt h i) : ∃ ys h', (fset 1 (fbin gadd (fvar 1) (ftup (fcons (fargs (g1 gtuple1) (fcons (fcomp (.one 3) (fiA (gi1 giR1) (fcons (fargs (callD (TT TL) n 19) (fcons (fvar 0) (fcons (fcon (.int 3)) fnil))) fnil)) none (fargs (callD (TT TL) n 39) (fcons (fvar 0) fnil)) [3]) fnil)) fnil)))) [some (.obj i), some (.tup bs), x, y] h = .nx [some (.obj i), some (.tup (bs ++ [.tup ys])), x, y] h' ∧ ys.length ≤ 2 ∧ (∀ s ∈ ys, s ∈ simples) ∧ Dr i h h' := by
  obtain ⟨r, h1, e1, r0, r1, dr1⟩ := e_under (TL := TL) (h := h) (n := n) (by omega) (m := 3) (by decide) (by decide) v
  obtain ⟨k, rfl⟩ : ∃ k : Nat, r = k := ⟨r.toNat, by omega⟩
  obtain ⟨ys, h2, e2, l2, m2, dr2⟩ := draw_simples (TL := TL) hn (i := i) (σ0 := [some (.obj i), some (.tup bs), x, none]) rfl k 0 h1 dr1.vt
  have e3 : fcomp (.one 3) (fiA (gi1 giR1) (fcons (fargs (callD (TT TL) n 19) (fcons (fvar 0) (fcons (fcon (.int 3)) fnil))) fnil)) none (fargs (callD (TT TL) n 39) (fcons (fvar 0) fnil)) [3] [some (.obj i), some (.tup bs), x, y] h = .ok (.lst ys) h2 := by
    refine comp_of (ds := intsFrom 0 k) (h1 := h1) ?_ (by rw [intsFrom_length]; omega) e2
    simp only [fiA, gi1, fargs, fcons, fvar, fcon, fnil, List.getElem?_cons_zero, Res.bind, e1, giR1_nat (h := h1) (k := k) (by omega)]
  have g (ds : List D) (h : Hd) : gtuple1 (.lst ds) h = .ok (.tup ds) h := rfl
  refine ⟨ys, h2, ?_, by omega, m2, dr1.trans dr2⟩
  simp only [evw_, e3, g, gadd_t (h := h2) (f := bs) (by omega)]
theorem e_step (hn : 5 ≤ n) {i : Nat} {h : Hd} (v : Vt h i) : ∃ d h', callD (TT TL) n 40 [.obj i] h = .ok d h' ∧ GoodStep d ∧ Dr i h h' := by
  obtain ⟨m, rfl, hm⟩ := up1 hn
  rw [r__law_step]
  simp only [b__law_step]
  obtain ⟨r, h1, e1, r0, r1, dr1⟩ := e_under (TL := TL) (h := h) (n := m) (by omega) (m := 6) (by decide) (by decide) v
  by_cases hr : 0 < r
  · obtain ⟨d, h2, e2, m2, dr2⟩ := e_simple (TL := TL) (h := h1) (n := m) (by omega) dr1.vt
    refine ⟨d, h2, ?_, .inl m2, dr1.trans dr2⟩
    simp only [evw_, e1, decide_eq_true hr, e2]
  · obtain ⟨y1, h2, e2, l2, m2, dr2⟩ := step_body (TL := TL) (n := m) hm (bs := []) (x := some (.int 0)) (y := none) (Nat.zero_le _) dr1.vt
    obtain ⟨y2, h3, e3, l3, m3, dr3⟩ := step_body (TL := TL) (n := m) hm (bs := [.tup y1]) (x := some (.int 1)) (y := none) (by simp) dr2.vt
    obtain ⟨c, h4, e4, m4, dr4⟩ := e_condition (TL := TL) (h := h3) (n := m) hm dr3.vt
    have g : giR1 (.int 2) h1 = .ok [.int 0, .int 1] h1 := rfl
    have g2' : gadd (.tup [.str "if", c]) (.tup [.tup y1, .tup y2]) h4 = .ok (.tup [.str "if", c, .tup y1, .tup y2]) h4 := rfl
    refine ⟨.tup [.str "if", c, .tup y1, .tup y2], h4, ?_, .inr ⟨c, y1, y2, rfl, m4, m2, l2, m3, l3⟩, ((dr1.trans dr2).trans dr3).trans dr4⟩
    have f : ffor (.one 2) (fiA (gi1 giR1) (fcons (fcon (.int 2)) fnil)) (fset 1 (fbin gadd (fvar 1) (ftup (fcons (fargs (g1 gtuple1) (fcons (fcomp (.one 3) (fiA (gi1 giR1) (fcons (fargs (callD (TT TL) m 19) (fcons (fvar 0) (fcons (fcon (.int 3)) fnil))) fnil)) none (fargs (callD (TT TL) m 39) (fcons (fvar 0) fnil)) [3]) fnil)) fnil)))) [some (.obj i), some (.tup []), none, none] h1 = .nx [some (.obj i), some (.tup [.tup y1, .tup y2]), some (.int 1), none] h3 := by
      simp only [ffor, fiA, gi1, fcons, fcon, fnil, Res.bind, g]
      rw [floop]
      simp only [Tg.put, List.set_cons_zero, List.set_cons_succ, e2]
      rw [floop]
      simp only [Tg.put, List.set_cons_zero, List.set_cons_succ, List.nil_append, e3]
      rfl
    have k1 : fset 1 (ftup fnil) [some (.obj i), none, none, none] h1 = .nx [some (.obj i), some (.tup []), none, none] h1 := rfl
    simp only [fseq, fifS, fbin, fargs, fcons, fvar, fcon, fnil, List.getElem?_cons_zero, Res.bind, Res.st, e1, gcmp, decide_eq_false hr, fskip] at f k1 ⊢
    simp only [k1, f]
    simp only [evw_, e4, g2']
end

/-! text P10.lean -/
open PySem L2 TL
theorem ok_simples : simples.all (okB 2) = true := by kernel_rfl
theorem ok_conds : conds.all (okB 2) = true := by kernel_rfl
theorem step_simples : simples.all isPlain = true := by kernel_rfl
theorem cond_conds : conds.all isCond = true := by kernel_rfl
theorem ok_simples4 : simples.all (okB 4) = true := by kernel_rfl
theorem ok_conds3 : conds.all (okB 3) = true := by kernel_rfl
theorem dep_simples : simples.all (fun d => isTy .tuple d && Nat.ble (dep d) 60) = true := by kernel_rfl
theorem ok_body {x : List D} (hx : ∀ s ∈ x, s ∈ simples) : okB 3 (.tup x) = true := by
  have h2 : x.all (okB 2) = true := List.all_eq_true.mpr fun s hs => List.all_eq_true.mp ok_simples s (hx s hs)
  have hp : purL x = true := purL_of fun s hs => okB_pur (List.all_eq_true.mp h2 s hs)
  have hd : ∀ s ∈ x, isTy .tuple s = true ∧ dep s ≤ 60 := fun s hs => by
    have := List.all_eq_true.mp dep_simples s (hx s hs)
    rw [Bool.and_eq_true] at this
    exact ⟨this.1, Nat.le_of_ble_eq_true this.2⟩
  have hs : shiftless x = true := by
    unfold shiftless
    split
    · rename_i a b
      obtain ⟨h3, h4⟩ := hd a (by simp)
      rw [show Nat.ble (dep a) 60 = true from Nat.ble_eq_true_of_le h4, purL_mem hp (d := a) (by simp)]
      cases a <;> first | rfl | cases h3
    · rfl
  unfold okB
  simp only [hp, hs, h2, Bool.true_and, Bool.and_true]
  split <;> rfl
theorem good_ok {d : D} (h : GoodStep d) : okB 4 d = true := by
  rcases h with h | ⟨c, x, y, rfl, hc, hx, _, hy, _⟩
  · exact List.all_eq_true.mp ok_simples4 d h
  · have h1 := List.all_eq_true.mp ok_conds3 c hc
    have h2 := ok_body hx
    have h3 := ok_body hy
    have p1 := okB_pur h1
    have p2 := okB_pur h2
    have p3 := okB_pur h3
    have hp : purL [.str "if", c, .tup x, .tup y] = true := by
      simp only [purL, p1, p2, p3, Bool.and_true]
      rfl
    have ha : [.str "if", c, .tup x, .tup y].all (okB 3) = true := by
      simp only [List.all_cons, List.all_nil, h1, h2, h3, Bool.and_true]
      rfl
    have hs : shiftless [.str "if", c, .tup x, .tup y] = true := rfl
    rw [okB]
    simp only [hp, ha, hs, Bool.true_and, Bool.and_true]
    intro s i q
    simp at q
theorem good_pur {d : D} (h : GoodStep d) : pur d = true := okB_pur (good_ok h)
theorem good_step {d : D} (h : GoodStep d) : isStep d = true := by
  rcases h with h | ⟨c, x, y, rfl, hc, hx, lx, hy, ly⟩
  · have h1 := List.all_eq_true.mp step_simples d h
    obtain ⟨s, r, rfl, h2, h3⟩ := plain_shape h1
    unfold isStep
    split
    · rename_i a c x y q
      cases q
      exact absurd h3 (by simp)
    · exact h1
  · have h1 := List.all_eq_true.mp cond_conds c hc
    have b (z : List D) (hz : ∀ s ∈ z, s ∈ simples) (lz : z.length ≤ 2) : isBody (.tup z) = true := by
      show (decide (z.length ≤ 3) && z.all isPlain) = true
      rw [decide_eq_true (by omega : z.length ≤ 3), Bool.true_and]
      exact List.all_eq_true.mpr fun s hs => List.all_eq_true.mp step_simples s (hz s hs)
    show (isIn (.str "if") ["if"] && (isCond c && (isBody (.tup x) && isBody (.tup y)))) = true
    rw [h1, b x hx lx, b y hy ly]
    decide +kernel

/-! text P11.lean -/
open PySem L2 TL
/-! plain laws 11: scripts drawn -/
def GoodL (ds : List D) : Prop := ds.length ≤ 20 ∧ ∀ d ∈ ds, GoodStep d
/-- the first is no if -/
def HeadS (ds : List D) : Prop := ∀ d r, ds = d :: r → d ∈ simples
theorem simples_1 : simples.all (fun d => decide (stepSize d = 1)) = true := by kernel_rfl
theorem simple_1 {d : D} (h : d ∈ simples) : stepSize d = 1 := of_decide_eq_true (List.all_eq_true.mp simples_1 d h)
theorem good_size {d : D} (h : GoodStep d) : 1 ≤ stepSize d ∧ stepSize d ≤ 5 := by
  rcases h with h | ⟨c, x, y, rfl, hc, hx, lx, hy, ly⟩
  · rw [simple_1 h]
    decide
  · have e : stepSize (.tup [.str "if", c, .tup x, .tup y]) = 1 + (x.length : Int) + (y.length : Int) := rfl
    rw [e]
    omega
theorem sizes_take : ∀ {ds : List D} (j : Nat), (∀ d ∈ ds, GoodStep d) → sizes (ds.take j) ≤ sizes ds ∧ 0 ≤ sizes ds
  | [], j, _ => by cases j <;> exact ⟨Int.le_refl _, Int.le_refl _⟩
  | d :: ds, 0, H => by
    have h1 := good_size (H d List.mem_cons_self)
    have h2 := (sizes_take (ds := ds) 0 fun x hx => H x (List.mem_cons_of_mem _ hx)).2
    have e : sizes (d :: ds) = stepSize d + sizes ds := rfl
    have e0 : sizes ((d :: ds).take 0) = 0 := rfl
    omega
  | d :: ds, j + 1, H => by
    have h1 := good_size (H d List.mem_cons_self)
    have h2 := sizes_take (ds := ds) j fun x hx => H x (List.mem_cons_of_mem _ hx)
    have e : sizes (d :: ds) = stepSize d + sizes ds := rfl
    have e0 : sizes ((d :: ds).take (j + 1)) = stepSize d + sizes (ds.take j) := rfl
    omega
theorem sizes_3 {ds : List D} (hg : ∀ d ∈ ds, GoodStep d) (hh : HeadS ds) : sizes (ds.take 3) < 13 := by
  match ds, hg, hh with
  | [], _, _ => decide
  | [a], hg, hh =>
    have e : sizes ([a].take 3) = stepSize a + 0 := rfl
    have := (good_size (hg a (by simp))).2
    omega
  | [a, b], hg, hh =>
    have e : sizes ([a, b].take 3) = stepSize a + (stepSize b + 0) := rfl
    have := (good_size (hg a (by simp))).2
    have := (good_size (hg b (by simp))).2
    omega
  | a :: b :: c :: r, hg, hh =>
    have e : sizes ((a :: b :: c :: r).take 3) = stepSize a + (stepSize b + (stepSize c + 0)) := rfl
    have h1 := simple_1 (hh a _ rfl)
    have := (good_size (hg b (by simp))).2
    have := (good_size (hg c (by simp))).2
    omega
section
variable {TL : Nat → CT → Nat → Df} {n : Nat}
def scBody (c : CT) : Fs := (fseq (fset 4 (ftup (fcons (fcon (.str "join")) (fcons (fargs (c 35) (fcons (fvar 0) fnil)) (fcons (fargs (c 35) (fcons (fvar 0) fnil)) fnil)))))
  (fset 2 (fbin gadd (fvar 2) (ftup (fcons (fif (fbin gne (fvar 2) (ftup fnil)) (fargs (c 40) (fcons (fvar 0) fnil)) (fvar 4)) fnil)))))
theorem sc_step (hn : 5 ≤ n) {i : Nat} {h : Hd} {m x y : Option D} {ds : List D} (hd : ds.length ≤ 19) (hg : ∀ d ∈ ds, GoodStep d) (v : Vt h i) : ∃ d y' h', scBody (callD (TT TL) n) [some (.obj i), m, some (.tup ds), x, y] h = .nx [some (.obj i), m, some (.tup (ds ++ [d])), x, y'] h' ∧ GoodStep d ∧ (ds = [] → d ∈ simples) ∧ Dr i h h' := by
  obtain ⟨t1, h1, e1, m1, dr1⟩ := e_term (TL := TL) (h := h) (n := n) (by omega) v
  obtain ⟨t2, h2, e2, m2, dr2⟩ := e_term (TL := TL) (h := h1) (n := n) (by omega) dr1.vt
  have hp : purL ds = true := purL_of fun d hd => good_pur (hg d hd)
  have gn : gne (.tup ds) (.tup []) h2 = .ok (.bl (!ds.isEmpty)) h2 := by
    rw [gne_p (x := .tup ds) (y := .tup []) hp rfl (by decide)]
    show Res.ok (D.bl (!deqL ds [])) h2 = _
    rw [deqL_nil]
  cases q : ds.isEmpty with
  | true =>
    rw [q] at gn
    have mj : D.tup [.str "join", t1, t2] ∈ simples := by
      unfold simples
      exact List.mem_append_left _ (trip_mem (by simp) m1 m2)
    refine ⟨.tup [.str "join", t1, t2], some (.tup [.str "join", t1, t2]), h2, ?_, .inl mj, (fun _ => mj), dr1.trans dr2⟩
    unfold scBody
    simp only [evw_, e1, e2, gn, gadd_t (h := h2) (f := ds) (by omega)]
  | false =>
    rw [q] at gn
    obtain ⟨d, h3, e3, m3, dr3⟩ := e_step (TL := TL) (h := h2) (n := n) hn dr2.vt
    refine ⟨d, some (.tup [.str "join", t1, t2]), h3, ?_, m3, (fun z => by rw [z] at q; cases q), (dr1.trans dr2).trans dr3⟩
    unfold scBody
    simp only [evw_, e1, e2, gn, e3, gadd_t (h := h3) (f := ds) (by omega)]
theorem sc_loop (hn : 5 ≤ n) {i : Nat} {m : Option D} : ∀ (k : Nat) (a : Int) (h : Hd) (x y : Option D) (ds : List D), ds.length + k ≤ 20 → (∀ d ∈ ds, GoodStep d) → HeadS ds → Vt h i → ∃ ds' x' y' h', floop (.one 3) (scBody (callD (TT TL) n)) (intsFrom a k) [some (.obj i), m, some (.tup ds), x, y] h = .nx [some (.obj i), m, some (.tup ds'), x', y'] h' ∧ ds'.length = ds.length + k ∧ (∀ d ∈ ds', GoodStep d) ∧ HeadS ds' ∧ Dr i h h'
  | 0, a, h, x, y, ds, hk, hg, hh, v => ⟨ds, x, y, h, rfl, rfl, hg, hh, Dr.refl v⟩
  | k + 1, a, h, x, y, ds, hk, hg, hh, v => by
    obtain ⟨d, y1, h1, e1, g1', gh, dr1⟩ := sc_step (TL := TL) hn (i := i) (h := h) (m := m) (x := some (.int a)) (y := y) (ds := ds) (by omega) hg v
    obtain ⟨ds', x', y', h2, e2, l2, g2', hh2, dr2⟩ := sc_loop (m := m) hn k (a + 1) h1 (some (.int a)) y1 (ds ++ [d]) (by rw [List.length_append, List.length_singleton]; omega) (fun z hz => by
      rcases List.mem_append.mp hz with hz | hz
      · exact hg z hz
      · rw [List.mem_singleton.mp hz]
        exact g1') (fun z r e => by
      cases ds with
      | nil =>
        cases e
        exact gh rfl
      | cons w ws =>
        cases e
        exact hh _ _ rfl) dr1.vt
    refine ⟨ds', x', y', h2, ?_, by rw [l2, List.length_append, List.length_singleton]; omega, g2', hh2, dr1.trans dr2⟩
    rw [intsFrom, floop]
    simp only [Tg.put, List.set_cons_zero, List.set_cons_succ, e1, e2]
theorem gcut_last {ds : List D} {h : Hd} : gcut (.tup ds) none (some (-1)) h = .ok (.tup ds.dropLast) h := by
  show (Res.ok (.tup (cutL ds none (some (-1)))) h : Res D) = _
  have : cutL ds none (some (-1)) = ds.dropLast := by
    unfold cutL
    have e1 : HT.sIx ds.length 0 none = 0 := rfl
    have e2 : HT.sIx ds.length ds.length (some (-1)) = ds.length - 1 := by
      show (if (-1 : Int) < 0 then ((-1 : Int) + (ds.length : Int)).toNat else min (-1 : Int).toNat ds.length) = _
      rw [if_pos (by decide)]
      omega
    rw [e1, e2, List.drop_zero, Nat.sub_zero]
    exact List.dropLast_eq_take.symm
  rw [this]
theorem gcut_3 {ds : List D} {h : Hd} : gcut (.tup ds) none (some 3) h = .ok (.tup (ds.take 3)) h := by
  show (Res.ok (.tup (cutL ds none (some ((3 : Nat) : Int)))) h : Res D) = _
  have : cutL ds none (some ((3 : Nat) : Int)) = ds.take 3 := by
    unfold cutL
    rw [HT.sIx_nat]
    have e1 : HT.sIx ds.length 0 none = 0 := rfl
    rw [e1, List.drop_zero, Nat.sub_zero]
    by_cases q : 3 ≤ ds.length
    · rw [Nat.min_eq_left q]
    · rw [Nat.min_eq_right (by omega), List.take_of_length_le (Nat.le_refl _), List.take_of_length_le (by omega)]
  rw [this]
def scWhile (c : CT) : Nat → Fs := fwhile (fbin ggt (fbin gix (fargs (c 42) (fcons (fvar 2) fnil)) (fcon (.int 1))) (fcon (.int 4))) (fset 2 (fslice (fvar 2) none (some (fun1 gneg (fcon (.int 1))))))
theorem sc_while (hn : 7 ≤ n) {h : Hd} {v m x y : Option D} : ∀ (k : Nat) (ds : List D), ds.length ≤ k → (∀ d ∈ ds, GoodStep d) → ∀ f, k + 1 ≤ f → ∃ ds', scWhile (callD (TT TL) n) f [v, m, some (.tup ds), x, y] h = .nx [v, m, some (.tup ds'), x, y] h ∧ ds'.length ≤ ds.length ∧ (∀ d ∈ ds', GoodStep d) ∧ ∃ j, ds' = ds.take j
  | k, ds, hk, hg, f, hf => by
    obtain ⟨f, rfl, hf'⟩ := up1 hf
    obtain ⟨a, b, e⟩ := e_law_numbers (TL := TL) (h := h) 4 n ds hn fun d hd => good_ok (hg d hd)
    have e0 : scWhile (callD (TT TL) n) (f + 1) [v, m, some (.tup ds), x, y] h = (Res.ok (D.bl (decide (b > 4))) h).st [v, m, some (.tup ds), x, y] fun d h => match d with
        | .bl true => (match (fset 2 (fslice (fvar 2) none (some (fun1 gneg (fcon (.int 1)))))) [v, m, some (.tup ds), x, y] h with
          | .nx σ h => scWhile (callD (TT TL) n) f σ h
          | .ct σ h => scWhile (callD (TT TL) n) f σ h
          | .bk σ h => .nx σ h
          | r => r)
        | .bl false => .nx [v, m, some (.tup ds), x, y] h
        | _ => .stuck := by
      have c1 : fbin ggt (fbin gix (fargs (callD (TT TL) n 42) (fcons (fvar 2) fnil)) (fcon (.int 1))) (fcon (.int 4)) [v, m, some (.tup ds), x, y] h = .ok (.bl (decide (b > 4))) h := by simp only [evw_, e]
      show (fbin ggt (fbin gix (fargs (callD (TT TL) n 42) (fcons (fvar 2) fnil)) (fcon (.int 1))) (fcon (.int 4)) [v, m, some (.tup ds), x, y] h).st _ _ = _
      rw [c1]
      rfl
    by_cases hb : b > 4
    · cases k with
      | zero =>
        have : ds = [] := List.length_eq_zero_iff.mp (by omega)
        subst this
        have e' : callD (TT TL) n 42 [.tup []] h = .ok (.tup [.int 0, .int 0]) h := by
          obtain ⟨m, rfl, hm⟩ := up1 hn
          rw [r__law_numbers, nb_split]
          rfl
        rw [e'] at e
        cases e
        exact absurd hb (by decide)
      | succ k =>
        have c2 : (fset 2 (fslice (fvar 2) none (some (fun1 gneg (fcon (.int 1)))))) [v, m, some (.tup ds), x, y] h = .nx [v, m, some (.tup ds.dropLast), x, y] h := by simp only [evw_, fslice, fpart, gcut_last]
        obtain ⟨ds', e2, l2, g2', j, ej⟩ := sc_while hn (h := h) (v := v) (m := m) (x := x) (y := y) k ds.dropLast (by rw [List.length_dropLast]; omega) (fun d hd => hg d (List.dropLast_subset ds hd)) f hf'
        refine ⟨ds', ?_, by rw [List.length_dropLast] at l2; omega, g2', min j (ds.length - 1), by rw [ej, List.dropLast_eq_take, List.take_take]⟩
        rw [e0, decide_eq_true hb]
        simp only [Res.st, c2, e2]
    · refine ⟨ds, ?_, Nat.le_refl _, hg, ds.length, List.take_length.symm⟩
      rw [e0, decide_eq_false hb]
      rfl
theorem e_law_scriptS (hn : 8 ≤ n) {i : Nat} {h : Hd} (v : Vt h i) : ∃ ds h', callD (TT TL) n 41 [.obj i, .int 8] h = .ok (.tup ds) h' ∧ ds.length ≤ 8 ∧ (∀ d ∈ ds, GoodStep d) ∧ sizes ds < 13 ∧ Dr i h h' := by
  obtain ⟨m, rfl, hm⟩ := up1 hn
  obtain ⟨r, h1, e1, r0, r1, dr1⟩ := e_under (TL := TL) (h := h) (n := m) (by omega) (m := 9) (by decide) (by decide) v
  obtain ⟨k, rfl⟩ : ∃ k : Nat, r = k := ⟨r.toNat, by omega⟩
  obtain ⟨ds, x', y', h2, e2, l2, g2', hh2, dr2⟩ := sc_loop (TL := TL) (n := m) (i := i) (m := some (.int 8)) (by omega) k 0 h1 none none [] (by rw [List.length_nil]; omega) (fun _ hd => nomatch hd) (fun _ _ e => nomatch e) dr1.vt
  rw [List.length_nil] at l2
  have e3 := e_law_size (TL := TL) (h := h2) (n := m) (by omega) (ds := ds) (List.all_eq_true.mpr fun d hd => good_step (g2' d hd))
  have fin (es : List D) (hl : es.length ≤ 8) (hg : ∀ d ∈ es, GoodStep d) (hz : sizes es < 13) : ∃ ds', (fseq (scWhile (callD (TT TL) m) 1000) (fret (fvar 2))) [some (.obj i), some (.int 8), some (.tup es), x', y'] h2 = .rt (.tup ds') h2 ∧ ds'.length ≤ 8 ∧ (∀ d ∈ ds', GoodStep d) ∧ sizes ds' < 13 := by
    obtain ⟨ds', e4, l4, g4, j, ej⟩ := sc_while (TL := TL) (n := m) hm (h := h2) (v := some (.obj i)) (m := some (.int 8)) (x := x') (y := y') 8 es hl hg 1000 (by decide)
    refine ⟨ds', ?_, by omega, g4, by have := (sizes_take (ds := es) j hg).1; rw [← ej] at this; omega⟩
    simp only [evw_, e4]
  have split (c : CT) : b__law_script c = fseq (fset 2 (ftup fnil)) (fseq (ffor (.one 3) (fiA (gi1 giR1) (fcons (fargs (c 19) (fcons (fvar 0) (fcons (fbin gadd (fvar 1) (fcon (.int 1))) fnil))) fnil)) (scBody c)) (fseq (fset 2 (fif (fbin glt (fargs (c 33) (fcons (fvar 2) fnil)) (fcon (.int 13))) (fvar 2) (fslice (fvar 2) none (some (fcon (.int 3)))))) (fseq (scWhile c 1000) (fret (fvar 2))))) := rfl
  rw [r__law_script, split]
  have k1 : fset 2 (ftup fnil) [some (.obj i), some (.int 8), none, none, none] h = .nx [some (.obj i), some (.int 8), some (.tup []), none, none] h := rfl
  have k2 : ffor (.one 3) (fiA (gi1 giR1) (fcons (fargs (callD (TT TL) m 19) (fcons (fvar 0) (fcons (fbin gadd (fvar 1) (fcon (.int 1))) fnil))) fnil)) (scBody (callD (TT TL) m)) [some (.obj i), some (.int 8), some (.tup []), none, none] h = .nx [some (.obj i), some (.int 8), some (.tup ds), x', y'] h2 := by
    have q : ((8 : Int) + 1) = 9 := rfl
    simp only [ffor, fiA, gi1, fargs, fbin, fcons, fvar, fcon, fnil, List.getElem?_cons_zero, List.getElem?_cons_succ, Res.bind, gadd_i, q, e1, giR1_nat (h := h1) (k := k) (by omega), e2]
  by_cases hs : sizes ds < 13
  · obtain ⟨ds', e5, l5, g5, z5⟩ := fin ds (by omega) g2' hs
    refine ⟨ds', h2, ?_, l5, g5, z5, dr1.trans dr2⟩
    have k3 : fset 2 (fif (fbin glt (fargs (callD (TT TL) m 33) (fcons (fvar 2) fnil)) (fcon (.int 13))) (fvar 2) (fslice (fvar 2) none (some (fcon (.int 3))))) [some (.obj i), some (.int 8), some (.tup ds), x', y'] h2 = .nx [some (.obj i), some (.int 8), some (.tup ds), x', y'] h2 := by simp only [evw_, e3, decide_eq_true hs]
    rw [fseq, k1]
    simp only []
    rw [fseq, k2]
    simp only []
    rw [fseq, k3]
    simp only [e5, Rs.fin]
  · obtain ⟨ds', e5, l5, g5, z5⟩ := fin (ds.take 3) (by rw [List.length_take]; omega) (fun d hd => g2' d (List.mem_of_mem_take hd)) (sizes_3 g2' hh2)
    refine ⟨ds', h2, ?_, l5, g5, z5, dr1.trans dr2⟩
    have k3 : fset 2 (fif (fbin glt (fargs (callD (TT TL) m 33) (fcons (fvar 2) fnil)) (fcon (.int 13))) (fvar 2) (fslice (fvar 2) none (some (fcon (.int 3))))) [some (.obj i), some (.int 8), some (.tup ds), x', y'] h2 = .nx [some (.obj i), some (.int 8), some (.tup (ds.take 3)), x', y'] h2 := by simp only [evw_, e3, decide_eq_false hs, fslice, fpart, gcut_3]
    rw [fseq, k1]
    simp only []
    rw [fseq, k2]
    simp only []
    rw [fseq, k3]
    simp only [e5, Rs.fin]
theorem e_law_script (hn : 8 ≤ n) {i : Nat} {h : Hd} (v : Vt h i) : ∃ ds h', callD (TT TL) n 41 [.obj i, .int 8] h = .ok (.tup ds) h' ∧ ds.length ≤ 8 ∧ (∀ d ∈ ds, GoodStep d) ∧ Dr i h h' := by
  obtain ⟨ds, h', e, l, g, z, dr⟩ := e_law_scriptS (TL := TL) hn v
  exact ⟨ds, h', e, l, g, dr⟩
end

/-! text P12.lean -/
open PySem L2 TL
/-! plain laws 12: the vat, any values -/
section
variable {TL : Nat → CT → Nat → Df} {n : Nat} {h : Hd} {E : Ec → Hd → Prop}
theorem pow18 (h : Hd) : gpow (.int 10) (.int 18) h = .ok (.int 1000000000000000000) h := rfl
theorem pow31 (h : Hd) : gpow (.int 10) (.int 31) h = .ok (.int 10000000000000000000000000000000) h := rfl
theorem gnew_s {ds : List D} {h : Hd} (hs : short ds.length = true) : gnew ds h = .ok (.obj h.length) (h ++ [⟨true, ds⟩]) := by
  unfold gnew
  rw [hs]
  rfl
theorem gix_scr {ns : List Int} {k : Nat} {i : Int} (e : ns[k]? = some i) {h : Hd} : gix (.scr (ns.map .int)) (.int (k : Int)) h = .ok (.int i) h := by
  show (match atI (ns.map D.int) (k : Int) with
      | some d => .ok d h
      | none => .stuck : Res D) = _
  rw [atI_nat, List.getElem?_map, e]
  rfl
theorem w_vat (hn : 1 ≤ n) {ns : List Int} {k : Nat} (hk : k ≤ 1000) {Q : D → Hd → Prop} (K : ∀ a b : Int, 0 ≤ a → 0 ≤ b → b < 2147483648 → Q (.obj h.length) (h ++ [⟨true, [.int a, .int b]⟩])) :
    wR (callD (TT TL) n 18 [.scr (ns.map .int), .int (k : Int)] h) Q E := by
  obtain ⟨m, rfl, hm⟩ := up1 hn
  rw [r__law_vat]
  simp only [b__law_vat]
  have fin (c : Int) : Q (.obj h.length) (h ++ [⟨true, [.int (if c ≥ 1000000000000000000 then c else 0), .int ((c * 131071 + 8191 * (k : Int) + 5) % 2147483629 + 1)]⟩]) := by
    refine K _ _ ?_ ?_ ?_
    · split <;> omega
    · have := Int.emod_nonneg (c * 131071 + 8191 * (k : Int) + 5) (show (2147483629 : Int) ≠ 0 by decide)
      omega
    · have := Int.emod_lt_of_pos (c * 131071 + 8191 * (k : Int) + 5) (show (0 : Int) < 2147483629 by decide)
      omega
  have m1 : gmul (.int 7919) (.int (k : Int)) h = .ok (.int (7919 * (k : Int))) h := gmul_p (.inl (by decide))
  have m2 : gmul (.int 8191) (.int (k : Int)) h = .ok (.int (8191 * (k : Int))) h := gmul_p (.inl (by decide))
  have m3 (c : Int) (h : Hd) : gmul (.int c) (.int 131071) h = .ok (.int (c * 131071)) h := gmul_p (.inr (by decide))
  have ga (i : Int) : gabs (.int i) h = .ok (.int (if i < 0 then -i else i)) h := rfl
  have g2' (a b : D) (h : Hd) : gnew [a, b] h = .ok (.obj h.length) (h ++ [⟨true, [a, b]⟩]) := rfl
  have rest (c : Int) : wR (gpow (.int 10) (.int 18) h) (fun y h => wR (gge (.int c) y h) (fun x h => onB x
      (Q (.obj h.length) (h ++ [⟨true, [.int c, .int ((c * 131071 + 8191 * (k : Int) + 5) % 2147483629 + 1)]⟩])) (Q (.obj h.length) (h ++ [⟨true, [.int 0, .int ((c * 131071 + 8191 * (k : Int) + 5) % 2147483629 + 1)]⟩]))) E) E := by
    have f := fin c
    rw [pow18]
    show onB (.bl (decide (c ≥ 1000000000000000000))) _ _
    refine onB_dec (fun hc => ?_) fun hc => ?_
    · rw [if_pos hc] at f
      exact f
    · rw [if_neg hc] at f
      exact f
  simp only [wp_, m1, gadd_i]
  refine onB_dec (fun hc => ?_) fun hc => ?_
  · rw [List.length_map] at hc
    have hl : k < ns.length := by omega
    have g := gix_scr (ns := ns) (k := k) (List.getElem?_eq_getElem hl) (h := h)
    simp only [wp_, g, gint_i, ga, m2, m3, gadd_i, gmod_p (show (0 : Int) < 2147483629 by decide), g2']
    exact rest _
  · simp only [wp_, m1, m2, m3, gadd_i, gint_i, gmod_p (show (0 : Int) < 2147483629 by decide), g2']
    exact rest _
/-! ### any value -/
def oddL : List D := [.non, .bl true, .bl false, .int 0, .int 1, .int 3, .int 9, .int (-1), .int 10000000000000000000000000000000, .str "", .str "a", .str "gaps", .str "if", .tup [], .lst [], .tup [.int 1, .int 1], .tup [.int 0, .int 1],
  .tup [.str "a", .int 0], .tup [.str "c", .int (-9)], .tup [.str "d", .int 0], .tup [.str "gaps"], .tup [.str "shift", .int 1], .tup [.str "many", .int 2], .tup [.str "keep", .non, .int 1],
  .tup [.str "before", .tup [.str "a", .int 0], .tup [.str "b", .int 0]], .tup [.tup [.int 0, .int 1], .tup [.int 1, .int 1], .tup [.int 2, .int 1]], .tup [.int 2, .int 4]]
/-- plain, not too deep, its texts short, its ints not great -/
def shortT (d : D) : Bool := match d with
  | .str s => Nat.ble s.length 10
  | .int i => Nat.blt i.natAbs (2 ^ 200)
  | _ => true
def okO (k : Nat) (d : D) : Prop := pur d = true ∧ dep d ≤ k + 2 ∧ shortT d = true ∧ (∀ ds, d = .tup ds → ds.length ≤ 3) ∧ ∀ ds, d = .lst ds → ds.length ≤ 3
theorem okO_list : oddL.all (fun d => pur d && (Nat.ble (dep d) 2 && (shortT d && match d with | .tup ds => Nat.ble ds.length 3 | .lst ds => Nat.ble ds.length 3 | _ => true))) = true := by kernel_rfl
theorem okO_mem {d : D} (hd : d ∈ oddL) (k : Nat) : okO k d := by
  have := List.all_eq_true.mp okO_list d hd
  simp only [Bool.and_eq_true] at this
  obtain ⟨h1, h2, h3, h4⟩ := this
  refine ⟨h1, Nat.le_trans (Nat.le_of_ble_eq_true h2) (by omega), h3, fun ds e => ?_, fun ds e => ?_⟩
  · subst e
    exact Nat.le_of_ble_eq_true h4
  · subst e
    exact Nat.le_of_ble_eq_true h4
theorem depL_le {k : Nat} : ∀ {ds : List D}, (∀ d ∈ ds, dep d ≤ k) → depL ds ≤ k
  | [], _ => Nat.zero_le _
  | d :: ds, H => by
    have h1 := H d List.mem_cons_self
    have h2 := depL_le (ds := ds) fun x hx => H x (List.mem_cons_of_mem _ hx)
    rw [depL]
    omega
theorem w_some (hn : 2 ≤ n) {i : Nat} {ds : List D} (hd : ds ≠ []) (hl : ds.length ≤ 1000) (v : Vt h i) {Q : D → Hd → Prop} (K : ∀ d h', d ∈ ds → Dr i h h' → Q d h') : wR (callD (TT TL) n 20 [.obj i, .lst ds] h) Q E := by
  obtain ⟨d, h', e, m, dr⟩ := e_some (TL := TL) hn hd hl v
  exact .of e (K d h' m dr)
theorem w_under (hn : 1 ≤ n) {i : Nat} {m : Int} (hm : 0 < m) (hb : m < 4611686018427387904) (v : Vt h i) {Q : D → Hd → Prop} (K : ∀ (r : Nat) h', (r : Int) < m → Dr i h h' → Q (.int r) h') : wR (callD (TT TL) n 19 [.obj i, .int m] h) Q E := by
  obtain ⟨r, h', e, h0, h1, dr⟩ := e_under (TL := TL) hn hm hb v
  obtain ⟨k, rfl⟩ : ∃ k : Nat, r = k := ⟨r.toNat, by omega⟩
  exact .of e (K k h' h1 dr)
theorem giR1_n {h : Hd} {k : Nat} (hk : k ≤ 20000000) : giR1 (.int (k : Int)) h = .ok (intsFrom 0 k) h := giR1_nat hk
theorem w_odd : ∀ (k n : Nat) (h : Hd) (i : Nat), k ≤ 50 → k + 3 ≤ n → Vt h i → ∀ {Q : D → Hd → Prop} {E : Ec → Hd → Prop}, (∀ d h', okO k d → Dr i h h' → Q d h') → wR (callD (TT TL) n 46 [.obj i, .int (k : Int)] h) Q E
  | k, n, h, i, hk, hn, v, Q, E, K => by
    obtain ⟨m, rfl, hm⟩ := up1 hn
    rw [r__law_odd]
    simp only [b__law_odd]
    have gl (ds : List D) (h : Hd) (hs : small ds.length = true) : glst ds h = .ok (.lst ds) h := by
      unfold glst
      rw [hs]
      rfl
    have ga (a b : List D) (h : Hd) (hs : small (a.length + b.length) = true) : gadd (.lst a) (.lst b) h = .ok (.lst (a ++ b)) h := by
      show (if small (a.length + b.length) then .ok (.lst (a ++ b)) h else .stuck : Res D) = _
      rw [hs]
      rfl
    have ga1 : gadd (.lst (oddL.take 17)) (.lst [.tup [.str "a", .int 0], .tup [.str "c", .int (-9)], .tup [.str "d", .int 0], .tup [.str "gaps"], .tup [.str "shift", .int 1], .tup [.str "many", .int 2], .tup [.str "keep", .non, .int 1]]) h = .ok (.lst (oddL.take 24)) h := ga _ _ _ rfl
    have ga2 : gadd (.lst (oddL.take 24)) (.lst [.tup [.str "before", .tup [.str "a", .int 0], .tup [.str "b", .int 0]], .tup [.tup [.int 0, .int 1], .tup [.int 1, .int 1], .tup [.int 2, .int 1]], .tup [.int 2, .int 4]]) h = .ok (.lst oddL) h := ga _ _ _ rfl
    have k17 : glst [.non, .bl true, .bl false, .int 0, .int 1, .int 3, .int 9, .int (-1), .int 10000000000000000000000000000000, .str "", .str "a", .str "gaps", .str "if", .tup [], .lst [], .tup [.int 1, .int 1], .tup [.int 0, .int 1]] h = .ok (.lst (oddL.take 17)) h := gl _ _ rfl
    have k7 := gl [.tup [.str "a", .int 0], .tup [.str "c", .int (-9)], .tup [.str "d", .int 0], .tup [.str "gaps"], .tup [.str "shift", .int 1], .tup [.str "many", .int 2], .tup [.str "keep", .non, .int 1]] h rfl
    have k3 := gl [.tup [.str "before", .tup [.str "a", .int 0], .tup [.str "b", .int 0]], .tup [.tup [.int 0, .int 1], .tup [.int 1, .int 1], .tup [.int 2, .int 1]], .tup [.int 2, .int 4]] h rfl
    simp only [wp_, pow31, k17, k7, k3, ga1, ga2]
    refine onB_of (fun hz => ?_) fun hz => ?_
    · simp only [wp_, decide_true]
      exact w_some (by omega) (by decide) (by decide) v fun d h' hd dr => K d h' (okO_mem hd k) dr
    · have hk0 : k ≠ 0 := by
        rintro rfl
        cases hz
      obtain ⟨k, rfl⟩ : ∃ j, k = j + 1 := ⟨k - 1, by omega⟩
      simp only [wp_]
      refine w_under (by omega) (by decide) (by decide) v fun r h1 hr dr => ?_
      simp only [wp_]
      refine onB_dec (fun hz => ?_) fun hz => ?_
      · simp only [wp_]
        exact w_some (by omega) (by decide) (by decide) dr.vt fun d h' hd dr2 => K d h' (okO_mem hd _) (dr.trans dr2)
      · simp only [wpc_]
        refine w_under (by omega) (by decide) (by decide) dr.vt fun r2 h2 hr2 dr2 => ?_
        simp only [wp_, giR1_n (show r2 ≤ 20000000 by omega)]
        refine ⟨by rw [intsFrom_length]; exact Nat.ble_eq_true_of_le (by omega), ?_⟩
        refine w_cloop (fun ds ys h' => ys.length + ds.length = r2 ∧ (∀ y ∈ ys, okO k y) ∧ Dr i h h') ?_ ?_ _ _ ?_
        rotate_left 2
        · exact ⟨by rw [intsFrom_length]; simp, (fun _ z => nomatch z), dr.trans dr2⟩
        · intro d ds ys h' ⟨i1, i2, i3⟩
          refine ⟨_, rfl, fun _ => ?_, fun z => nomatch z⟩
          have e1 : ((k + 1 : Nat) : Int) - 1 = (k : Int) := by omega
          simp only [wp_, wipeS, e1]
          refine w_odd k m h' i (by omega) (by omega) i3.vt fun y h3 oy dr3 => ⟨by rw [List.length_append, List.length_singleton, ← i1]; simp; omega, fun z hz => ?_, i3.trans dr3⟩
          rcases List.mem_append.mp hz with hz | hz
          · exact i2 z hz
          · rw [List.mem_singleton.mp hz]
            exact oy
        · intro ys h' ⟨i1, i2, i3⟩
          have pl : purL ys = true := purL_of fun y hy => (i2 y hy).1
          have dl : depL ys ≤ k + 2 := depL_le fun y hy => (i2 y hy).2.1
          have l3 : ys.length ≤ 3 := by simp at i1; omega
          simp only [wp_]
          refine w_under (by omega) (by decide) (by decide) i3.vt fun r3 h3 hr3 dr3 => ?_
          have g (ds : List D) (h : Hd) : gtuple1 (.lst ds) h = .ok (.tup ds) h := rfl
          simp only [wp_]
          refine onB_of (fun hz => ?_) fun hz => ?_
          · simp only [wp_]
            exact K _ _ ⟨pl, by show depL ys + 1 ≤ _; omega, rfl, (fun ds e => nomatch e), fun ds e => by cases e; exact l3⟩ (i3.trans dr3)
          · simp only [wp_, g]
            exact K _ _ ⟨pl, by show depL ys + 1 ≤ _; omega, rfl, (fun ds e => by cases e; exact l3), fun ds e => nomatch e⟩ (i3.trans dr3)
end

/-! text P13.lean -/
open PySem L2 TL
/-! plain laws 13: texts of scripts -/
def absS (i : Int) : Str := strInt (if i < 0 then -i else i)
def wordOf : D → Str
  | .non => "*"
  | .str s => s
  | .int i => strInt i
  | .tup [.str s, .int i] => s ++ (if i ≥ 0 then ("+" : Str) else ("-" : Str)) ++ absS i
  | _ => ""
def okW : D → Bool
  | .non => true
  | .str s => Nat.ble s.length 10
  | .int i => Nat.ble i.natAbs 9
  | .tup [.str s, .int i] => Nat.ble s.length 10 && Nat.ble i.natAbs 9
  | _ => false
theorem strInt_len {i : Int} (h : i.natAbs ≤ 9) : (strInt i).length ≤ 2 := by
  have key : ∀ k : Fin 19, (strInt ((k.val : Int) - 9)).length ≤ 2 := by decide +kernel
  have := key ⟨(i + 9).toNat, by omega⟩
  rw [show (((i + 9).toNat : Nat) : Int) - 9 = i by omega] at this
  exact this
theorem len_app (a b : Str) : (a ++ b).length = a.length + b.length := by
  show (a.cps ++ b.cps).size = _
  rw [Array.size_append]
  rfl
theorem okW_len {d : D} (h : okW d = true) : (wordOf d).length ≤ 13 := by
  unfold okW at h
  split at h
  · decide
  · exact Nat.le_trans (Nat.le_of_ble_eq_true h) (by decide)
  · exact Nat.le_trans (strInt_len (Nat.le_of_ble_eq_true h)) (by decide)
  · rename_i s i
    rw [Bool.and_eq_true] at h
    have h1 := Nat.le_of_ble_eq_true h.1
    have h2 := Nat.le_of_ble_eq_true h.2
    show (s ++ (if i ≥ 0 then ("+" : Str) else ("-" : Str)) ++ absS i).length ≤ 13
    rw [len_app, len_app]
    have h3 : (absS i).length ≤ 2 := strInt_len (by split <;> omega)
    have h4 : (if i ≥ 0 then ("+" : Str) else ("-" : Str)).length = 1 := by split <;> rfl
    omega
  · cases h
section
variable {TL : Nat → CT → Nat → Df} {n : Nat} {h : Hd} {E : Ec → Hd → Prop}
theorem gstr_i {i : Int} (hi : i.natAbs ≤ 1000000) {h : Hd} : gstr1 (.int i) h = .ok (.str (strInt i)) h := by
  show (if Nat.blt i.natAbs (2 ^ 1900) then .ok (.str (strInt i)) h else .stuck : Res D) = _
  rw [show Nat.blt i.natAbs (2 ^ 1900) = true from Nat.ble_eq_true_of_le (Nat.lt_of_le_of_lt hi (Nat.lt_of_lt_of_le (show 1000000 < 2 ^ 20 by decide) (Nat.pow_le_pow_right (by decide) (by decide))))]
  rfl
theorem gadd_s {a b : Str} (hs : a.length + b.length ≤ 16777216) {h : Hd} : gadd (.str a) (.str b) h = .ok (.str (a ++ b)) h := by
  show (if small (a.length + b.length) then .ok (.str (a ++ b)) h else .stuck : Res D) = _
  rw [small_of hs]
  rfl
theorem gabs_eq (i : Int) (h : Hd) : gabs (.int i) h = .ok (.int (if i < 0 then -i else i)) h := rfl
theorem e_law_term_text (hn : 1 ≤ n) {s : Str} {i : Int} (hs : s.length ≤ 10) (hi : i.natAbs ≤ 9) : callD (TT TL) n 222 [.tup [.str s, .int i]] h = .ok (.str (wordOf (.tup [.str s, .int i]))) h := by
  obtain ⟨m, rfl, hm⟩ := up1 hn
  rw [r__law_term_text]
  refine wR.eq ?_
  simp only [b__law_term_text]
  have h3 : (absS i).length ≤ 2 := strInt_len (by split <;> omega)
  simp only [wp_]
  refine onB_dec (fun hc => ?_) fun hc => ?_
  · have e : wordOf (.tup [.str s, .int i]) = s ++ "+" ++ absS i := by
      show s ++ (if i ≥ 0 then ("+" : Str) else ("-" : Str)) ++ absS i = _
      rw [if_pos hc]
    have l1 : ("+" : Str).length = 1 := rfl
    rw [gadd_s (a := s) (b := "+") (by omega)]
    simp only [wp_, gabs_eq, gstr_i (i := if i < 0 then -i else i) (by split <;> omega)]
    rw [gadd_s (by rw [len_app]; have : (strInt (if i < 0 then -i else i)).length ≤ 2 := h3; omega), e]
    simp only [fin_eq_]
  · have e : wordOf (.tup [.str s, .int i]) = s ++ "-" ++ absS i := by
      show s ++ (if i ≥ 0 then ("+" : Str) else ("-" : Str)) ++ absS i = _
      rw [if_neg hc]
    have l1 : ("-" : Str).length = 1 := rfl
    rw [gadd_s (a := s) (b := "-") (by omega)]
    simp only [wp_, gabs_eq, gstr_i (i := if i < 0 then -i else i) (by split <;> omega)]
    rw [gadd_s (by rw [len_app]; have : (strInt (if i < 0 then -i else i)).length ≤ 2 := h3; omega), e]
    simp only [fin_eq_]
theorem e_law_word (hn : 2 ≤ n) {d : D} (hd : okW d = true) : callD (TT TL) n 223 [d] h = .ok (.str (wordOf d)) h := by
  obtain ⟨m, rfl, hm⟩ := up1 hn
  rw [r__law_word]
  refine wR.eq ?_
  simp only [b__law_word]
  unfold okW at hd
  split at hd
  · simp only [wp_, gisN]
    simp only [fin_eq_]
  · have g (s : Str) (h : Hd) : gis false (.str s) .non h = .ok (.bl false) h := rfl
    have g2' (s : Str) (h : Hd) : gstr1 (.str s) h = .ok (.str s) h := rfl
    simp only [wp_, g, g2']
    simp only [fin_eq_]
  · rename_i i
    have g (s : Int) (h : Hd) : gis false (.int s) .non h = .ok (.bl false) h := rfl
    simp only [wp_, g, gstr_i (i := i) (Nat.le_trans (Nat.le_of_ble_eq_true hd) (by decide))]
    simp only [fin_eq_]
  · rename_i s i
    rw [Bool.and_eq_true] at hd
    simp only [wp_, gisT, e_law_term_text (TL := TL) (n := m) (by omega) (Nat.le_of_ble_eq_true hd.1) (Nat.le_of_ble_eq_true hd.2)]
    simp only [fin_eq_]
  · cases hd
/-! ### rows -/
theorem strsOf_map (ys : List Str) : strsOf (ys.map D.str) = some ys := by
  induction ys with
  | nil => rfl
  | cons y ys ih =>
    show (strsOf (ys.map D.str)).map (y :: ·) = _
    rw [ih]
    rfl
theorem lens_le {b : Nat} : ∀ {ys : List Str}, (∀ y ∈ ys, y.length ≤ b) → lens ys ≤ ys.length * b
  | [], _ => Nat.zero_le _
  | y :: ys, H => by
    have h1 := H y List.mem_cons_self
    have h2 := lens_le (ys := ys) fun x hx => H x (List.mem_cons_of_mem _ hx)
    rw [lens, List.length_cons, Nat.succ_mul]
    omega
theorem joinL_len (S : List Nat) : ∀ ys : List (List Nat), (joinL S ys).length ≤ (ys.map List.length).sum + ys.length * S.length
  | [] => Nat.zero_le _
  | [p] => by simp [joinL]
  | p :: q :: r => by
    have := joinL_len S (q :: r)
    simp only [joinL, List.length_append, List.map_cons, List.sum_cons, List.length_cons, Nat.succ_mul] at this ⊢
    omega
theorem joinS_len (a : Str) (ys : List Str) : (joinS a ys).length ≤ lens ys + ys.length * a.length := by
  have := joinL_len a.cps.toList (ys.map fun y => y.cps.toList)
  show (joinL a.cps.toList (ys.map fun y => y.cps.toList)).toArray.size ≤ _
  rw [List.size_toArray, lens_eq]
  rw [List.length_map, List.map_map, Array.length_toList] at this
  exact this
theorem gjoin_s {a : Str} {ys : List Str} (hs : lens ys + ys.length * a.length ≤ 16777216) {h : Hd} : gjoin a (.lst (ys.map .str)) h = .ok (.str (joinS a ys)) h := by
  unfold gjoin
  simp only [lstOf, strsOf_map, small_of hs, if_true]
def rowOf (ds : List D) : Str := joinS " " (ds.map wordOf)
def row1 (d : D) : Str := match d with
  | .tup r => rowOf r
  | _ => ""
def rowD (d : D) : List Str := match d with
  | .tup [.str _, .tup c, .tup x, .tup y] => [joinS " " (("if" : Str) :: c.map wordOf)] ++ x.map row1 ++ [("else" : Str)] ++ y.map row1 ++ [("end" : Str)]
  | d => [row1 d]
def rowsOf (ds : List D) : List Str := ds.flatMap rowD
/-- a plain step as the rows take it -/
def okP (d : D) : Prop := ∃ s r, d = .tup (.str s :: r) ∧ (s == ("if" : Str)) = false ∧ r.length ≤ 2 ∧ s.length ≤ 10 ∧ ∀ x ∈ r, okW x = true
structure okI (d : D) : Prop where
  ex : ∃ c x y, d = .tup [.str "if", .tup c, .tup x, .tup y] ∧ c.length ≤ 3 ∧ (∀ z ∈ c, okW z = true) ∧ x.length ≤ 3 ∧ (∀ z ∈ x, okP z) ∧ y.length ≤ 3 ∧ ∀ z ∈ y, okP z
def okS : Nat → D → Prop
  | 0, d => okP d
  | _ + 1, d => okP d ∨ okI d
theorem rowD_P {d : D} (h : okP d) : rowD d = [row1 d] := by
  obtain ⟨s, r, rfl, h1, h2, h3, h4⟩ := h
  unfold rowD
  split
  · rename_i e
    cases e
    simp at h2
  · rfl
theorem rowsOf_P : ∀ {ds : List D}, (∀ d ∈ ds, okP d) → rowsOf ds = ds.map row1
  | [], _ => rfl
  | d :: ds, H => by
    unfold rowsOf
    rw [List.flatMap_cons, rowD_P (H d List.mem_cons_self), List.map_cons]
    show _ :: rowsOf ds = _
    rw [rowsOf_P fun x hx => H x (List.mem_cons_of_mem _ hx)]
theorem words_comp {c : CT} {h : Hd} {σ : Sl} {ds : List D} {it : Fi} {j : Nat} (hi : it σ h = .ok ds h) (hl : ds.length ≤ 16777215) (hj : j < σ.length) (H : ∀ d ∈ ds, c 223 [d] h = .ok (.str (wordOf d)) h) :
    fcomp (.one j) it none (fargs (c 223) (fcons (fvar j) fnil)) [j] σ h = .ok (.lst ((ds.map wordOf).map .str)) h := by
  refine comp_of hi hl ?_
  rw [List.map_map]
  refine cloop_map fun d hd => ⟨_, rfl, ?_⟩
  refine wR.eq ?_
  simp only [w_args, w_cons, w_nil, w_var, wipeS]
  rw [List.getElem?_set_self (by simpa using hj)]
  exact .of (H d hd) ⟨rfl, rfl⟩
theorem gapp_o {j : Nat} {ds : List D} {d : D} {h : Hd} (e : h[j]? = some ⟨true, ds⟩) (hl : ds.length ≤ 16777215) : gappend (.obj j) d h = .ok .non (h.set j ⟨true, ds ++ [d]⟩) := by
  unfold gappend
  simp only [e]
  rw [show short ds.length = true from Nat.ble_eq_true_of_le hl]
  rfl
def rowL (ds : List D) : Nat := (rowsOf ds).length
theorem rowL_le {k : Nat} : ∀ {ds : List D}, (∀ d ∈ ds, okS k d) → (rowsOf ds).length ≤ ds.length * 9
  | [], _ => Nat.zero_le _
  | d :: ds, H => by
    have h2 := rowL_le (ds := ds) fun x hx => H x (List.mem_cons_of_mem _ hx)
    have h1 : (rowD d).length ≤ 9 := by
      have P : okP d → (rowD d).length ≤ 9 := fun p => by
        rw [rowD_P p]
        exact (by decide : 1 ≤ 9)
      cases k with
      | zero => exact P (H d List.mem_cons_self)
      | succ k =>
        rcases H d List.mem_cons_self with p | ⟨c, x, y, rfl, _, _, h3, _, h4, _⟩
        · exact P p
        · simp only [rowD, List.length_append, List.length_map, List.length_cons, List.length_nil]
          omega
    show ((d :: ds).flatMap rowD).length ≤ _
    rw [List.flatMap_cons, List.length_append, List.length_cons, Nat.succ_mul]
    have : (ds.flatMap rowD).length ≤ ds.length * 9 := h2
    omega
theorem row_short {ds : List D} (hl : ds.length ≤ 3) (H : ∀ d ∈ ds, okW d = true) : lens (ds.map wordOf) ≤ 39 := by
  have := lens_le (b := 13) (ys := ds.map wordOf) fun y hy => by
    obtain ⟨d, hd, rfl⟩ := List.mem_map.mp hy
    exact okW_len (H d hd)
  rw [List.length_map] at this
  omega
theorem w_rows : ∀ (k n : Nat) (ds : List D) (h : Hd), k + 3 ≤ n → (∀ d ∈ ds, okS k d) → ds.length ≤ 20 → ∀ {Q : D → Hd → Prop} {E : Ec → Hd → Prop}, (∀ h', Ap h h' → Q (.lst ((rowsOf ds).map .str)) h') → wR (callD (TT TL) n 224 [.tup ds] h) Q E
  | k, n, ds, h, hn, H, hl, Q, E, K => by
    obtain ⟨m, rfl, hm⟩ := up1 hn
    rw [r__law_rows]
    simp only [b__law_rows]
    have g0 (h : Hd) : gnew [] h = .ok (.obj h.length) (h ++ [⟨true, []⟩]) := rfl
    simp only [wp_, g0]
    refine w_loop (fun es σ h' => ∃ ds0 j x y, ds = ds0 ++ es ∧ σ = [some (.tup ds), some (.obj j), x, y] ∧ Ap h h' ∧ h.length ≤ j ∧ h'[j]? = some ⟨true, (rowsOf ds0).map .str⟩) ?_ ?_ _ _ _ ?_
    · rintro d es σ h' ⟨ds0, j, x, y, rfl, rfl, ap, hj, ej⟩
      have hd : d ∈ ds0 ++ d :: es := List.mem_append_right _ List.mem_cons_self
      have H0 : ∀ z ∈ ds0, okS k z := fun z hz => H z (List.mem_append_left _ hz)
      have L0 : ds0.length ≤ 20 := by rw [List.length_append] at hl; omega
      have l0 := rowL_le H0
      have hjl : j < h'.length := (List.getElem?_eq_some_iff.mp ej).1
      refine ⟨_, rfl, ?_⟩
      have done (h2 : Hd) (x y : Option D) (j2 : Nat) (a2 : Ap h h2) (hj2 : h.length ≤ j2) (e2 : h2[j2]? = some ⟨true, (rowsOf ds0 ++ rowD d).map .str⟩) : ∃ dsx j x' y', ds0 ++ d :: es = dsx ++ es ∧ [some (.tup (ds0 ++ d :: es)), some (.obj j2), x, y] = [some (.tup (ds0 ++ d :: es)), some (.obj j), x', y'] ∧ Ap h h2 ∧ h.length ≤ j ∧ h2[j]? = some ⟨true, (rowsOf dsx).map .str⟩ := by
        refine ⟨ds0 ++ [d], j2, x, y, by rw [List.append_assoc]; rfl, rfl, a2, hj2, ?_⟩
        rw [e2]
        unfold rowsOf
        rw [List.flatMap_append, List.flatMap_cons, List.flatMap_nil, List.append_nil]
      have hd' : okP d ∨ (∃ k', k = k' + 1 ∧ okI d) := by
        have hk := H d hd
        cases k with
        | zero => exact .inl hk
        | succ k => exact hk.imp id fun z => ⟨k, rfl, z⟩
      rcases hd' with p | ⟨k, rfl, c, x1, y1, rfl, h1, h2, h3, h4, h5, h6⟩
      · skip
        have eP := rowD_P p
        obtain ⟨s, r, rfl, h1, h2, h3, h4⟩ := p
        have hw : ∀ z ∈ D.str s :: r, okW z = true := fun z hz => by
          rcases List.mem_cons.mp hz with rfl | hz
          · exact Nat.ble_eq_true_of_le h3
          · exact h4 z hz
        have c1 := words_comp (c := callD (TT TL) m) (h := h') (σ := [some (.tup (ds0 ++ .tup (.str s :: r) :: es)), some (.obj j), some (.tup (.str s :: r)), y]) (ds := .str s :: r) (it := fiSeq (fvar 2)) (j := 3) rfl (by rw [List.length_cons]; omega) (by exact (by decide : 3 < 4)) fun z hz => e_law_word (by omega) (hw z hz)
        have ls := row_short (ds := .str s :: r) (by rw [List.length_cons]; omega) hw
        have j1 : gjoin " " (.lst (((D.str s :: r).map wordOf).map .str)) h' = .ok (.str (rowOf (.str s :: r))) h' := gjoin_s (by
          have : (" " : Str).length = 1 := rfl
          rw [this, List.length_map, List.length_cons]
          omega)
        have ap1 := gapp_o (d := .str (rowOf (.str s :: r))) ej (by rw [List.length_map]; omega)
        simp only [wp_, h1, c1, j1, ap1]
        refine done _ _ _ j (ap.set hj _) hj ?_
        rw [List.getElem?_set_self hjl, eP, List.map_append]
        rfl
      · skip
        · have c1 := words_comp (c := callD (TT TL) m) (h := h') (σ := [some (.tup (ds0 ++ .tup [.str "if", .tup c, .tup x1, .tup y1] :: es)), some (.obj j), some (.tup [.str "if", .tup c, .tup x1, .tup y1]), y]) (ds := c) (it := fiSeq (fbin gix (fvar 2) (fcon (.int 1)))) (j := 3) rfl (by omega) (by exact (by decide : 3 < 4)) fun z hz => e_law_word (by omega) (h2 z hz)
          have ls := row_short h1 h2
          have ad1 : gadd (.lst [.str "if"]) (.lst ((c.map wordOf).map .str)) h' = .ok (.lst ((("if" : Str) :: c.map wordOf).map .str)) h' := by
            show (if small (1 + ((c.map wordOf).map D.str).length) then .ok (.lst ([.str "if"] ++ (c.map wordOf).map .str)) h' else .stuck : Res D) = _
            rw [small_of (by rw [List.length_map, List.length_map]; omega)]
            rfl
          have j1 : gjoin " " (.lst ((("if" : Str) :: c.map wordOf).map .str)) h' = .ok (.str (joinS " " (("if" : Str) :: c.map wordOf))) h' := gjoin_s (by
            have e1 : (" " : Str).length = 1 := rfl
            have e2 : ("if" : Str).length = 2 := rfl
            rw [e1, List.length_cons, List.length_map, lens, e2]
            omega)
          have ap1 := gapp_o (d := .str (joinS " " (("if" : Str) :: c.map wordOf))) ej (by rw [List.length_map]; omega)
          have g1 (s : Str) (h : Hd) : glst [.str s] h = .ok (.lst [.str s]) h := rfl
          have ee : (("if" : Str) == ("if" : Str)) = true := by decide +kernel
          have ex : (h'.set j ⟨true, (rowsOf ds0).map .str ++ [.str (joinS " " (("if" : Str) :: c.map wordOf))]⟩)[j]? = some ⟨true, (rowsOf ds0).map .str ++ [.str (joinS " " (("if" : Str) :: c.map wordOf))]⟩ := List.getElem?_set_self hjl
          have a1 := ap.set hj ⟨true, (rowsOf ds0).map .str ++ [.str (joinS " " (("if" : Str) :: c.map wordOf))]⟩
          generalize h'.set j ⟨true, (rowsOf ds0).map .str ++ [.str (joinS " " (("if" : Str) :: c.map wordOf))]⟩ = h2' at ex a1 ap1
          have fz (x2 y2 : Option D) : ffrz 1 [some (.tup (ds0 ++ .tup [.str "if", .tup c, .tup x1, .tup y1] :: es)), some (.obj j), x2, y2] h2' = .ok (.lst ((rowsOf ds0).map .str ++ [.str (joinS " " (("if" : Str) :: c.map wordOf))])) (h2'.set j ⟨false, (rowsOf ds0).map .str ++ [.str (joinS " " (("if" : Str) :: c.map wordOf))]⟩) := by
            unfold ffrz
            simp only [List.getElem?_cons_succ, List.getElem?_cons_zero, ex]
          have a2 := a1.set hj ⟨false, (rowsOf ds0).map .str ++ [.str (joinS " " (("if" : Str) :: c.map wordOf))]⟩
          generalize h2'.set j ⟨false, (rowsOf ds0).map .str ++ [.str (joinS " " (("if" : Str) :: c.map wordOf))]⟩ = h3' at a2 fz
          have gl (a b : List D) (h : Hd) (hs : a.length + b.length ≤ 16777216) : gadd (.lst a) (.lst b) h = .ok (.lst (a ++ b)) h := by
            show (if small (a.length + b.length) then .ok (.lst (a ++ b)) h else .stuck : Res D) = _
            rw [small_of hs]
            rfl
          have lx := rowL_le (k := 0) (ds := x1) h4
          have ly := rowL_le (k := 0) (ds := y1) h6
          simp only [wp_, ee, c1, ad1, j1, ap1, fz, g1]
          refine w_rows 0 m x1 h3' (by omega) h4 (by omega) fun h4' a4 => ?_
          rw [gl _ _ _ (by simp only [List.length_append, List.length_map, List.length_cons, List.length_nil]; omega)]
          simp only [wp_, g1]
          rw [gl _ _ _ (by simp only [List.length_append, List.length_map, List.length_cons, List.length_nil]; omega)]
          simp only [wp_, g1]
          refine w_rows 0 m y1 h4' (by omega) h6 (by omega) fun h5' a5 => ?_
          rw [gl _ _ _ (by simp only [List.length_append, List.length_map, List.length_cons, List.length_nil]; omega)]
          simp only [wp_, g1]
          have gm (a b : List D) (h : Hd) (hs : (a ++ b).length ≤ 16777215) : gaddM (.lst a) (.lst b) h = .ok (.obj h.length) (h ++ [⟨true, a ++ b⟩]) := gnew_s (Nat.ble_eq_true_of_le hs)
          rw [gm _ _ _ (by simp only [List.length_append, List.length_map, List.length_cons, List.length_nil]; omega)]
          simp only [wp_]
          have hle : h.length ≤ h5'.length := by
            obtain ⟨t, rfl⟩ := (a2.trans a4).trans a5
            simp
          refine done _ _ _ h5'.length (((a2.trans a4).trans a5).add _) hle ?_
          rw [List.getElem?_append_right (Nat.le_refl _), Nat.sub_self, List.getElem?_cons_zero, rowsOf_P h4, rowsOf_P h6]
          simp only [rowD, List.map_append, List.map_cons, List.map_nil, List.append_assoc, List.cons_append, List.nil_append]
    · rintro σ h' ⟨ds0, j, x, y, e, rfl, ap, hj, ej⟩
      rw [List.append_nil] at e
      subst e
      have fz : ffrz 1 [some (.tup ds), some (.obj j), x, y] h' = .ok (.lst ((rowsOf ds).map .str)) (h'.set j ⟨false, (rowsOf ds).map .str⟩) := by
        unfold ffrz
        simp only [List.getElem?_cons_succ, List.getElem?_cons_zero, ej]
      simp only [wp_, fz]
      exact K _ (ap.set hj _)
    · exact ⟨[], h.length, none, none, rfl, rfl, Ap.add (Ap.refl _) _, Nat.le_refl _, by simp [rowsOf]⟩
end

/-! text P14.lean -/
open PySem L2 TL
/-! plain laws 14: texts spoilt -/
def wtS (ys : List Str) : Nat := lens ys + ys.length
theorem lens_app (a b : List Str) : lens (a ++ b) = lens a + lens b := by
  rw [lens_eq, lens_eq, lens_eq, List.map_append, List.sum_append]
theorem wtS_app (a b : List Str) : wtS (a ++ b) = wtS a + wtS b := by
  unfold wtS
  rw [lens_app, List.length_append]
  omega
theorem wtS_words (c : Nat) (s : Str) : wtS (words c s) = s.length + 1 := by
  have := wt_spl c s.cps.toList []
  have e : ∀ ps : List (List Nat), wtS (ps.map fun p => (⟨p.toArray⟩ : Str)) = wt ps := by
    intro ps
    induction ps with
    | nil => rfl
    | cons p ps ih =>
      rw [List.map_cons]
      show (lens ((⟨p.toArray⟩ : Str) :: ps.map fun p => (⟨p.toArray⟩ : Str)) + (ps.map _).length.succ) = (p.length + 1 + wt ps)
      rw [← ih, lens]
      unfold wtS
      have : (⟨p.toArray⟩ : Str).length = p.length := by
        show p.toArray.size = _
        rw [List.size_toArray]
      omega
  unfold words
  rw [e, this, Array.length_toList]
  show 0 + s.cps.size + 1 = s.cps.size + 1
  omega
theorem wtS_take (ys : List Str) (k : Nat) : wtS (ys.take k) ≤ wtS ys := by
  have := wtS_app (ys.take k) (ys.drop k)
  rw [List.take_append_drop] at this
  omega
theorem wtS_drop (ys : List Str) (k : Nat) : wtS (ys.drop k) ≤ wtS ys := by
  have := wtS_app (ys.take k) (ys.drop k)
  rw [List.take_append_drop] at this
  omega
theorem wtS_cut (ys : List Str) (lo hi : Option Int) : wtS (cutL ys lo hi) ≤ wtS ys := Nat.le_trans (wtS_take _ _) (wtS_drop _ _)
theorem cutL_map (f : Str → D) (ys : List Str) (lo hi : Option Int) : cutL (ys.map f) lo hi = (cutL ys lo hi).map f := by
  unfold cutL
  rw [List.length_map, List.map_take, List.map_drop]
section
variable {TL : Nat → CT → Nat → Df} {n : Nat} {h : Hd} {E : Ec → Hd → Prop}
theorem gcut_ls {ys : List Str} {lo hi : Option Int} {h : Hd} : gcut (.lst (ys.map .str)) lo hi h = .ok (.lst ((cutL ys lo hi).map .str)) h := by
  rw [← cutL_map]
  rfl
theorem gcut_st {s : Str} (hs : s.length ≤ 16777216) {lo hi : Option Int} {h : Hd} : gcut (.str s) lo hi h = .ok (.str (cutS s lo hi)) h := by
  show (if small s.length then .ok (.str (cutS s lo hi)) h else .stuck : Res D) = _
  rw [small_of hs]
  rfl
theorem gadd_ls {a b : List Str} (hs : wtS a + wtS b ≤ 16777216) {h : Hd} : gadd (.lst (a.map .str)) (.lst (b.map .str)) h = .ok (.lst ((a ++ b).map .str)) h := by
  show (if small ((a.map D.str).length + (b.map D.str).length) then .ok (.lst (a.map .str ++ b.map .str)) h else .stuck : Res D) = _
  rw [small_of (by rw [List.length_map, List.length_map]; unfold wtS at hs; omega), List.map_append]
  rfl
theorem gjoin_nl {ys : List Str} (hs : wtS ys ≤ 16777216) {h : Hd} : gjoin "\n" (.lst (ys.map .str)) h = .ok (.str (joinS "\n" ys)) h := gjoin_s (by
  have : ("\n" : Str).length = 1 := rfl
  rw [this, Nat.mul_one]
  exact hs)
theorem joinS_nl (ys : List Str) : (joinS "\n" ys).length ≤ wtS ys := by
  have := joinS_len "\n" ys
  have e : ("\n" : Str).length = 1 := rfl
  rw [e, Nat.mul_one] at this
  exact this
theorem strs_in {d : D} {ws : List Str} (h : d ∈ ws.map D.str) : ∃ s, d = .str s ∧ s ∈ ws := by
  obtain ⟨s, h1, h2⟩ := List.mem_map.mp h
  exact ⟨s, h2.symm, h1⟩
theorem w_spoilt (hn : 3 ≤ n) {i : Nat} {s : Str} (hs : s.length ≤ 1000000) (v : Vt h i) {Q : D → Hd → Prop} (K : ∀ s' h', s'.length ≤ 2 * s.length + 40 → Dr i h h' → Q (.str s') h') :
    wR (callD (TT TL) n 228 [.obj i, .str s] h) Q E := by
  obtain ⟨m, rfl, hm⟩ := up1 hn
  rw [r__law_spoilt]
  simp only [b__law_spoilt]
  have gl (z : Str) (hz : z.length ≤ 10000000) (h : Hd) : glen (.str z) h = .ok (.int z.length) h := by
    show (if small z.length then .ok (.int z.length) h else .stuck : Res D) = _
    rw [small_of (by omega)]
    rfl
  have gls (ds : List D) (h : Hd) : glen (.lst ds) h = .ok (.int ds.length) h := rfl
  have gL (ds : List D) (h : Hd) (hz : ds.length ≤ 100) : glst ds h = .ok (.lst ds) h := by
    unfold glst
    rw [small_of (by omega)]
    rfl
  have c1 (s : Str) (lo hi : Option Int) : (cutS s lo hi).length ≤ s.length := L2.cutS_length s lo hi
  have sgs : [("" : Str), " ", "0", "1", "a", "\n", "\ngaps", "\nend", "+", "-", "*", " b+1", "\nelse"].all (fun z => Nat.ble z.length 20) = true := by decide +kernel
  have sg2 : [("gaps" : Str), "if many 2", "else", "end", "shift 5", "keep * 3", "join a+0 b-0", "cut a+1  b+1", "Gaps"].all (fun z => Nat.ble z.length 20) = true := by decide +kernel
  simp only [wp_, gl s (by omega), gadd_i]
  refine w_under (by omega) (by omega) (by omega) v fun r1 h1 hr1 d1 => ?_
  simp only [wp_]
  refine w_under (by omega) (by decide) (by decide) d1.vt fun r2 h2 hr2 d2 => ?_
  simp only [wp_]
  have d12 := d1.trans d2
  refine onB_dec (fun hw => ?_) fun hw => ?_
  · have L1 := gL [.str "", .str " ", .str "0", .str "1", .str "a", .str "\n", .str "\ngaps", .str "\nend", .str "+", .str "-", .str "*", .str " b+1", .str "\nelse"] h2 (by decide)
    simp only [wp_, L1, gcut_st (s := s) (by omega)]
    refine w_some (by omega) (by simp) (by decide) d12.vt fun d h3 hd d3 => ?_
    obtain ⟨z, rfl, hz⟩ := strs_in (ws := ["", " ", "0", "1", "a", "\n", "\ngaps", "\nend", "+", "-", "*", " b+1", "\nelse"]) hd
    have hz := Nat.le_of_ble_eq_true (List.all_eq_true.mp sgs z hz)
    have e1 := c1 s none (some (r1 : Int))
    have e2 := c1 s (some ((r1 : Int) + (r2 : Int))) none
    rw [gadd_s (by omega)]
    simp only [wp_, gadd_i, gcut_st (s := s) (by omega)]
    rw [gadd_s (by rw [len_app]; omega)]
    exact K _ _ (by rw [len_app, len_app]; omega) (d12.trans d3)
  · have eW := wtS_words 10 s
    have hne : words 10 s ≠ [] := words_ne 10 s
    have hlen : (words 10 s).length ≤ s.length + 1 := words_len 10 s
    have hpos : 0 < (words 10 s).length := List.length_pos_iff.mpr hne
    have cu := wtS_cut (words 10 s)
    simp only [wp_, split_n (s := s) (by unfold big; omega), gls, List.length_map]
    refine w_under (by omega) (by omega) (by omega) d12.vt fun r3 h3 hr3 d3 => ?_
    have d13 := d12.trans d3
    simp only [wp_]
    have J (a b : Option Int × Option Int) : wR (gadd (.lst ((cutL (words 10 s) a.1 a.2).map .str)) (.lst ((cutL (words 10 s) b.1 b.2).map .str)) h3) (fun y h => wR (gjoin "\n" y h) Q E) E := by
      have u1 := cu a.1 a.2
      have u2 := cu b.1 b.2
      rw [gadd_ls (by omega)]
      have u3 : wtS (cutL (words 10 s) a.1 a.2 ++ cutL (words 10 s) b.1 b.2) ≤ 2 * s.length + 2 := by rw [wtS_app]; omega
      simp only [wp_]
      rw [gjoin_nl (by omega)]
      exact K _ _ (Nat.le_trans (joinS_nl _) (by omega)) d13
    refine onB_of (fun z => ?_) fun z => ?_
    · simp only [wp_, gcut_ls, gadd_i]
      exact J (none, some (r3 : Int)) (some ((r3 : Int) + 1), none)
    · simp only [wp_]
      refine onB_of (fun z => ?_) fun z => ?_
      · simp only [wp_, gcut_ls, gadd_i]
        exact J (none, some ((r3 : Int) + 1)) (some (r3 : Int), none)
      · simp only [wp_]
        refine onB_of (fun z => ?_) fun z => ?_
        · simp only [wp_, gcut_ls, gadd_i]
          exact J (some (r3 : Int), none) (none, some (r3 : Int))
        · have L1 := gL [.str "gaps", .str "if many 2", .str "else", .str "end", .str "shift 5", .str "keep * 3", .str "join a+0 b-0", .str "cut a+1  b+1", .str "Gaps"] h3 (by decide)
          simp only [wp_, L1, gcut_ls, gadd_i]
          refine w_some (by omega) (by simp) (by decide) d13.vt fun d h4 hd d4 => ?_
          obtain ⟨z, rfl, hz⟩ := strs_in (ws := ["gaps", "if many 2", "else", "end", "shift 5", "keep * 3", "join a+0 b-0", "cut a+1  b+1", "Gaps"]) hd
          have hz := Nat.le_of_ble_eq_true (List.all_eq_true.mp sg2 z hz)
          have g1 (h : Hd) : glst [.str z] h = .ok (.lst ([z].map .str)) h := rfl
          have u1 := cu none (some (r3 : Int))
          have u2 := cu (some ((r3 : Int) + 1)) none
          have uz : wtS [z] ≤ 21 := by
            show z.length + 0 + 1 ≤ _
            omega
          have u3 : wtS (cutL (words 10 s) none (some (r3 : Int)) ++ [z]) ≤ s.length + 22 := by rw [wtS_app]; omega
          simp only [wp_, g1]
          rw [gadd_ls (by omega)]
          simp only [wp_, gcut_ls, gadd_i]
          rw [gadd_ls (by omega)]
          have u4 : wtS (cutL (words 10 s) none (some (r3 : Int)) ++ [z] ++ cutL (words 10 s) (some ((r3 : Int) + 1)) none) ≤ 2 * s.length + 40 := by rw [wtS_app]; omega
          simp only [wp_]
          rw [gjoin_nl (by omega)]
          exact K _ _ (Nat.le_trans (joinS_nl _) u4) (d13.trans d4)
end

/-! text P15.lean -/
open PySem L2 TL
/-! plain laws 15: further facts of the evaluator, for every law -/
theorem isTerm_dep {d : D} (h : isTerm d = true) : dep d ≤ 1 := by
  unfold isTerm at h
  split at h
  · rename_i a b
    rw [Bool.and_eq_true] at h
    have h1 : dep a = 0 := by cases a <;> first | rfl | cases h.1
    have h2 : dep b = 0 := by cases b <;> first | rfl | cases h.2
    simp [dep, depL, h1, h2]
  · cases h
theorem isWhole_dep {d : D} {i j : Int} (h : isWhole d i j = true) : dep d = 0 := by cases d <;> first | rfl | cases h
theorem isEnd_dep {d : D} (h : isEnd d = true) : dep d = 0 := by cases d <;> first | rfl | cases h
theorem dep2 {s : Str} {r : List D} (H : ∀ d ∈ r, dep d ≤ 1) : dep (.tup (.str s :: r)) ≤ 2 := by
  have := depL_le (ds := r) H
  simp only [dep, depL]
  omega
theorem isPlain_dep {d : D} (h : isPlain d = true) : dep d ≤ 2 := by
  unfold isPlain at h
  split at h
  · split at h
    · split at h
      · rename_i x y
        rw [Bool.and_eq_true] at h
        refine dep2 fun d hd => ?_
        simp at hd
        rcases hd with rfl | rfl
        · exact isTerm_dep h.1
        · exact isTerm_dep h.2
      · cases h
    · split at h
      · split at h
        · refine dep2 fun d hd => ?_
          simp at hd
          subst hd
          rw [isWhole_dep h]
          omega
        · cases h
      · split at h
        · split at h
          · rename_i x y
            rw [Bool.and_eq_true] at h
            refine dep2 fun d hd => ?_
            simp at hd
            rcases hd with rfl | rfl
            · rw [isEnd_dep h.1]
              omega
            · rw [isEnd_dep h.2]
              omega
          · cases h
        · rw [Bool.and_eq_true, List.isEmpty_iff] at h
          rw [h.2]
          exact dep2 fun d hd => nomatch hd
  · cases h
theorem isCond_dep {d : D} (h : isCond d = true) : dep d ≤ 2 := by
  unfold isCond at h
  split at h
  · split at h
    · split at h
      · rename_i x y
        rw [Bool.and_eq_true] at h
        refine dep2 fun d hd => ?_
        simp at hd
        rcases hd with rfl | rfl
        · exact isTerm_dep h.1
        · exact isTerm_dep h.2
      · cases h
    · split at h
      · split at h
        · refine dep2 fun d hd => ?_
          simp at hd
          subst hd
          exact isTerm_dep h
        · cases h
      · rw [Bool.and_eq_true] at h
        have h := h.2
        split at h
        · refine dep2 fun d hd => ?_
          simp at hd
          subst hd
          rw [isWhole_dep h]
          omega
        · cases h
  · cases h
theorem isBody_dep {d : D} (h : isBody d = true) : dep d ≤ 3 := by
  unfold isBody at h
  split at h
  · rw [Bool.and_eq_true] at h
    have := depL_le (k := 2) fun x hx => isPlain_dep (List.all_eq_true.mp h.2 x hx)
    rw [dep]
    omega
  · cases h
theorem isStep_dep {d : D} (h : isStep d = true) : dep d ≤ 4 := by
  unfold isStep at h
  split at h
  · rename_i a c x y
    simp only [Bool.and_eq_true] at h
    obtain ⟨h1, h2, h3, h4⟩ := h
    have e1 : dep a = 0 := by cases a <;> first | rfl | cases h1
    have e2 := isCond_dep h2
    have e3 := isBody_dep h3
    have e4 := isBody_dep h4
    simp only [dep, depL]
    omega
  · exact Nat.le_trans (isPlain_dep h) (by decide)
theorem isScript_dep {d : D} (h : isScript d = true) : dep d ≤ 5 := by
  unfold isScript at h
  split at h
  · simp only [Bool.and_eq_true] at h
    have := depL_le (k := 4) fun x hx => isStep_dep (List.all_eq_true.mp h.2.1 x hx)
    rw [dep]
    omega
  · cases h
theorem rdD_dep (s : Str) : dep (rdD s) ≤ 5 := by
  unfold rdD rd
  split
  · exact Nat.zero_le _
  · rename_i d e
    split at e
    · cases e
    · split at e
      · cases e
        exact isScript_dep (by assumption)
      · cases e
theorem giR1_i {h : Hd} {i : Int} (h0 : 0 ≤ i) (h1 : i ≤ 20000000) : giR1 (.int i) h = .ok (intsFrom 0 i.toNat) h := by
  obtain ⟨k, rfl⟩ : ∃ k : Nat, i = k := ⟨i.toNat, by omega⟩
  exact giR1_nat (by omega)
theorem intsFrom_mem : ∀ {k : Nat} {a : Int} {d : D}, d ∈ intsFrom a k → ∃ j : Nat, j < k ∧ d = .int (a + j)
  | 0, a, d, h => nomatch h
  | k + 1, a, d, h => by
    rw [intsFrom] at h
    rcases List.mem_cons.mp h with rfl | h
    · exact ⟨0, by omega, by simp⟩
    · obtain ⟨j, h1, h2⟩ := intsFrom_mem h
      exact ⟨j + 1, by omega, by rw [h2]; congr 1; omega⟩
theorem Vt.ap {h h' : Hd} {i : Nat} (v : Vt h i) (a : Ap h h') : Vt h' i := by
  obtain ⟨x, y, e, r⟩ := v
  exact ⟨x, y, by rw [a.get (List.getElem?_eq_some_iff.mp e).1]; exact e, r⟩
theorem Vt.lt {h : Hd} {i : Nat} (v : Vt h i) : i < h.length := by
  obtain ⟨x, y, e, r⟩ := v
  exact (List.getElem?_eq_some_iff.mp e).1
theorem Vt.new {h : Hd} {a b : Int} (h1 : 0 ≤ a) (h2 : 0 ≤ b) (h3 : b < 2147483648) : Vt (h ++ [⟨true, [.int a, .int b]⟩]) h.length := ⟨a, b, by simp, h1, h2, h3⟩
section
variable {TL : Nat → CT → Nat → Df} {n : Nat} {h : Hd} {E : Ec → Hd → Prop}
theorem w_script (hn : 8 ≤ n) {i : Nat} (v : Vt h i) {Q : D → Hd → Prop} (K : ∀ ds h', ds.length ≤ 8 → (∀ d ∈ ds, GoodStep d) → Dr i h h' → Q (.tup ds) h') : wR (callD (TT TL) n 41 [.obj i, .int 8] h) Q E := by
  obtain ⟨ds, h', e, l, g, dr⟩ := e_law_script (TL := TL) hn v
  exact .of e (K ds h' l g dr)
/-- what is drawn is as the rows take it -/
def okPB (d : D) : Bool := match d with
  | .tup (.str s :: r) => !(s == ("if" : Str)) && (Nat.ble r.length 2 && (Nat.ble s.length 10 && r.all okW))
  | _ => false
theorem okPB_ok {d : D} (h : okPB d = true) : okP d := by
  unfold okPB at h
  split at h
  · rename_i s r
    simp only [Bool.and_eq_true, Bool.not_eq_true'] at h
    exact ⟨s, r, rfl, h.1, Nat.le_of_ble_eq_true h.2.1, Nat.le_of_ble_eq_true h.2.2.1, fun x hx => List.all_eq_true.mp h.2.2.2 x hx⟩
  · cases h
theorem simples_okP : simples.all okPB = true := by kernel_rfl
theorem conds_okW : conds.all (fun d => match d with | .tup r => Nat.ble r.length 3 && r.all okW | _ => false) = true := by kernel_rfl
theorem good_okS {d : D} (h : GoodStep d) : okS 1 d := by
  have P : ∀ s ∈ simples, okP s := fun s hs => okPB_ok (List.all_eq_true.mp simples_okP s hs)
  rcases h with h | ⟨c, x, y, rfl, hc, hx, lx, hy, ly⟩
  · exact .inl (P d h)
  · have := List.all_eq_true.mp conds_okW c hc
    split at this
    · rename_i r
      rw [Bool.and_eq_true] at this
      exact .inr ⟨r, x, y, rfl, Nat.le_of_ble_eq_true this.1, fun z hz => List.all_eq_true.mp this.2 z hz, by omega, fun z hz => P z (hx z hz), by omega, fun z hz => P z (hy z hz)⟩
    · cases this
theorem rowOf_len {ds : List D} (hl : ds.length ≤ 3) (H : ∀ d ∈ ds, okW d = true) : (rowOf ds).length ≤ 42 := by
  have h1 := row_short hl H
  have h2 := joinS_len " " (ds.map wordOf)
  have e : (" " : Str).length = 1 := rfl
  rw [e, List.length_map] at h2
  unfold rowOf
  omega
theorem rowP_len {d : D} (h : okP d) : (row1 d).length ≤ 42 := by
  obtain ⟨s, r, rfl, h1, h2, h3, h4⟩ := h
  refine rowOf_len (by rw [List.length_cons]; omega) fun z hz => ?_
  rcases List.mem_cons.mp hz with rfl | hz
  · exact Nat.ble_eq_true_of_le h3
  · exact h4 z hz
theorem rowD_len {d : D} (h : okS 1 d) : ∀ y ∈ rowD d, y.length ≤ 60 := by
  rcases h with p | ⟨c, x, y, rfl, h1, h2, h3, h4, h5, h6⟩
  · rw [rowD_P p]
    intro y hy
    rw [List.mem_singleton.mp hy]
    exact Nat.le_trans (rowP_len p) (by decide)
  · intro z hz
    simp only [rowD, List.mem_append, List.mem_map, List.mem_singleton] at hz
    rcases hz with ((((rfl | ⟨d, hd, rfl⟩) | rfl) | ⟨d, hd, rfl⟩) | rfl)
    · have h1' := row_short h1 h2
      have h2' := joinS_len " " (("if" : Str) :: c.map wordOf)
      have e : (" " : Str).length = 1 := rfl
      have e2 : ("if" : Str).length = 2 := rfl
      rw [e, List.length_cons, List.length_map, lens, e2] at h2'
      omega
    · exact Nat.le_trans (rowP_len (h4 d hd)) (by decide)
    · decide
    · exact Nat.le_trans (rowP_len (h6 d hd)) (by decide)
    · decide
theorem rows_wt {ds : List D} (hl : ds.length ≤ 8) (H : ∀ d ∈ ds, GoodStep d) : wtS (rowsOf ds) ≤ 5000 := by
  have h1 := rowL_le (k := 1) (ds := ds) fun d hd => good_okS (H d hd)
  have h2 := lens_le (b := 60) (ys := rowsOf ds) fun y hy => by
    obtain ⟨d, hd, hy⟩ := List.mem_flatMap.mp hy
    exact rowD_len (good_okS (H d hd)) y hy
  unfold wtS
  omega
end

/-! text P17.lean -/
open PySem L2 TL
/-! plain laws 17: errors told by names; texts of scripts -/
section
variable {TL : Nat → CT → Nat → Df} {n : Nat} {h h' : Hd} {E : Ec → Hd → Prop} {c : CT} {g : CF}
/-- the word of an error's class -/
def errW (j : Nat) : Str := match j with
  | 1 => "script value"
  | 2 => "step value"
  | 3 => "facts value"
  | 4 => "fact value"
  | 5 => "moments value"
  | 6 => "term value"
  | 7 => "number value"
  | 8 => "seen value"
  | 9 => "span value"
  | 10 => "index value"
  | 11 => "impossible value"
  | 12 => "undo value"
  | _ => ""
theorem x_names (j : Nat) (h1 : 1 ≤ j) (h2 : j ≤ 12) : x__law_names c ⟨j, []⟩ h = .ok (.str (errW j)) h := by
  have : j = 1 ∨ j = 2 ∨ j = 3 ∨ j = 4 ∨ j = 5 ∨ j = 6 ∨ j = 7 ∨ j = 8 ∨ j = 9 ∨ j = 10 ∨ j = 11 ∨ j = 12 := by omega
  rcases this with rfl | rfl | rfl | rfl | rfl | rfl | rfl | rfl | rfl | rfl | rfl | rfl <;> kernel_rfl
theorem tk_when (j : Nat) (h1 : 1 ≤ j) (h2 : j ≤ 12) : tk_WhenError j = some true := by
  have : j = 1 ∨ j = 2 ∨ j = 3 ∨ j = 4 ∨ j = 5 ∨ j = 6 ∨ j = 7 ∨ j = 8 ∨ j = 9 ∨ j = 10 ∨ j = 11 ∨ j = 12 := by omega
  rcases this with rfl | rfl | rfl | rfl | rfl | rfl | rfl | rfl | rfl | rfl | rfl | rfl <;> rfl
theorem e_err_ok {d : D} (e : g [] h = .ok d h') : h__law_error c g [] h = .ok (.str "") h' := by
  simp [h__law_error, Df.runH, b__law_error, fseq, ftry', ftry, fdrop, fargs, fnil, slots, Res.bind, Res.st, e, fret, fcon, Rs.fin]
theorem e_err_x {j : Nat} (h1 : 1 ≤ j) (h2 : j ≤ 12) (e : g [] h = .exc ⟨j, []⟩ h') : h__law_error c g [] h = .ok (.str (errW j)) h' := by
  simp [h__law_error, Df.runH, b__law_error, fseq, ftry', ftry, fdrop, fargs, fnil, slots, Res.bind, Res.st, e, tk_when j h1 h2, fret, x_names j h1 h2, Rs.fin, fcon]
/-- a call of such a def, in the rules of what is wanted -/
theorem w_err {gH : CF → CF} {fr : Fa} {fn : Sl → CF} {σ : Sl} {Q : D → Hd → Prop} : wR (fho gH fr fn σ h) Q E = wR (fr σ h) (fun ds h => wR (gH (fn σ) ds h) Q E) E := wR_bind
/-! ### is a script, or is not -/
theorem e_need (hn : 7 ≤ n) {d : D} (hd : pur d = true) : callD (TT TL) n 16 [d] h = if isScript d then .ok .non h else .exc ⟨1, []⟩ h := by
  obtain ⟨m, rfl, hm⟩ := up1 hn
  rw [r_need_script]
  have e1 := e_is_script (TL := TL) (n := m) (h := h) hm hd
  cases q : isScript d with
  | true =>
    rw [q] at e1
    simp only [b_need_script]
    simp only [evw_, e1]
  | false =>
    rw [q] at e1
    simp only [b_need_script]
    simp only [evw_, e1]
    rfl
theorem good_script {ds : List D} (hl : ds.length ≤ 8) (hg : ∀ d ∈ ds, GoodStep d) (hz : sizes ds < 13) : isScript (.tup ds) = true := by
  show (decide (ds.length ≤ 8) && (ds.all isStep && decide (sizes ds < 13))) = true
  rw [decide_eq_true hl, decide_eq_true hz, List.all_eq_true.mpr fun d hd => good_step (hg d hd)]
  rfl
theorem w_scriptS (hn : 8 ≤ n) {i : Nat} (v : Vt h i) {Q : D → Hd → Prop} (K : ∀ ds h', ds.length ≤ 8 → (∀ d ∈ ds, GoodStep d) → isScript (.tup ds) = true → Dr i h h' → Q (.tup ds) h') : wR (callD (TT TL) n 41 [.obj i, .int 8] h) Q E := by
  obtain ⟨ds, h', e, l, g, z, dr⟩ := e_law_scriptS (TL := TL) hn v
  exact .of e (K ds h' l g (good_script l g z) dr)
/-! ### script_text -/
theorem e_part_text (hn : 1 ≤ n) {d : D} (hd : okW d = true) : callD (TT TL) n 213 [d] h = .ok (.str (wordOf d)) h := by
  obtain ⟨m, rfl, hm⟩ := up1 hn
  rw [r_part_text]
  refine wR.eq ?_
  simp only [b_part_text]
  unfold okW at hd
  split at hd
  · simp only [wp_, gisN]
    simp only [fin_eq_]
  · have g (s : Str) (h : Hd) : gis false (.str s) .non h = .ok (.bl false) h := rfl
    have g2' (s : Str) (h : Hd) : gstr1 (.str s) h = .ok (.str s) h := rfl
    simp only [wp_, g, g2']
    simp only [fin_eq_]
  · rename_i i
    have g (s : Int) (h : Hd) : gis false (.int s) .non h = .ok (.bl false) h := rfl
    simp only [wp_, g, gstr_i (i := i) (Nat.le_trans (Nat.le_of_ble_eq_true hd) (by decide))]
    simp only [fin_eq_]
  · rename_i s i
    rw [Bool.and_eq_true] at hd
    have hs := Nat.le_of_ble_eq_true hd.1
    have hi := Nat.le_of_ble_eq_true hd.2
    have h3 : (absS i).length ≤ 2 := strInt_len (by split <;> omega)
    simp only [wp_, gisT]
    refine onB_dec (fun hc => ?_) fun hc => ?_
    · have e : wordOf (.tup [.str s, .int i]) = s ++ "-" ++ absS i := by
        show s ++ (if i ≥ 0 then ("+" : Str) else ("-" : Str)) ++ absS i = _
        rw [if_neg (by omega)]
      have l1 : ("-" : Str).length = 1 := rfl
      simp only [wp_]
      rw [gadd_s (a := s) (b := "-") (by omega)]
      simp only [wp_, gabs_eq, gstr_i (i := if i < 0 then -i else i) (by split <;> omega)]
      rw [gadd_s (by rw [len_app]; have : (strInt (if i < 0 then -i else i)).length ≤ 2 := h3; omega), e]
      simp only [fin_eq_]
    · have e : wordOf (.tup [.str s, .int i]) = s ++ "+" ++ absS i := by
        show s ++ (if i ≥ 0 then ("+" : Str) else ("-" : Str)) ++ absS i = _
        rw [if_pos (by omega)]
      have l1 : ("+" : Str).length = 1 := rfl
      simp only [wp_]
      rw [gadd_s (a := s) (b := "+") (by omega)]
      simp only [wp_, gabs_eq, gstr_i (i := if i < 0 then -i else i) (by split <;> omega)]
      rw [gadd_s (by rw [len_app]; have : (strInt (if i < 0 then -i else i)).length ≤ 2 := h3; omega), e]
      simp only [fin_eq_]
  · cases hd
theorem comp_str {c : CT} {h : Hd} {σ : Sl} {ds : List D} {it : Fi} {i j : Nat} (hi : it σ h = .ok ds h) (hl : ds.length ≤ 16777215) (hj : j < σ.length) (H : ∀ d ∈ ds, c i [d] h = .ok (.str (wordOf d)) h) :
    fcomp (.one j) it none (fargs (c i) (fcons (fvar j) fnil)) [j] σ h = .ok (.lst ((ds.map wordOf).map .str)) h := by
  refine comp_of hi hl ?_
  rw [List.map_map]
  refine cloop_map fun d hd => ⟨_, rfl, ?_⟩
  refine wR.eq ?_
  simp only [w_args, w_cons, w_nil, w_var, wipeS]
  rw [List.getElem?_set_self (by simpa using hj)]
  exact .of (H d hd) ⟨rfl, rfl⟩
theorem e_line_of (hn : 2 ≤ n) {ds : List D} (hl : ds.length ≤ 4) (hd : ∀ d ∈ ds, okW d = true) : callD (TT TL) n 214 [.tup ds] h = .ok (.str (rowOf ds)) h := by
  obtain ⟨m, rfl, hm⟩ := up1 hn
  rw [r_line_of]
  refine wR.eq ?_
  simp only [b_line_of]
  have c1 := comp_str (c := callD (TT TL) m) (i := 213) (h := h) (σ := [some (.tup ds), none]) (ds := ds) (it := fiSeq (fvar 0)) (j := 1) rfl (by omega) (by exact (by decide : 1 < 2)) fun z hz => e_part_text (by omega) (hd z hz)
  have ls := lens_le (b := 13) (ys := ds.map wordOf) fun y hy => by
    obtain ⟨d, hd', rfl⟩ := List.mem_map.mp hy
    exact okW_len (hd d hd')
  rw [List.length_map] at ls
  have j1 : gjoin " " (.lst ((ds.map wordOf).map .str)) h = .ok (.str (rowOf ds)) h := gjoin_s (by
    have : (" " : Str).length = 1 := rfl
    rw [this, List.length_map]
    omega)
  simp only [wp_, c1, j1]
  simp only [fin_eq_]
theorem gaddL {a b : List D} {h : Hd} (hs : a.length + b.length ≤ 16777216) : gadd (.lst a) (.lst b) h = .ok (.lst (a ++ b)) h := by
  show (if small (a.length + b.length) then .ok (.lst (a ++ b)) h else .stuck : Res D) = _
  rw [small_of hs]
  rfl
theorem e_lines_of : ∀ (k n : Nat) (ds : List D) (h : Hd), k + 3 ≤ n → (∀ d ∈ ds, okS k d) → ds.length ≤ 20 → callD (TT TL) n 215 [.tup ds] h = .ok (.lst ((rowsOf ds).map .str)) h
  | k, n, ds, h, hn, H, hl => by
    obtain ⟨m, rfl, hm⟩ := up1 hn
    rw [r_lines_of]
    refine wR.eq ?_
    simp only [b_lines_of]
    simp only [wp_, gl0]
    refine w_loop (fun es σ h' => ∃ ds0 x, ds = ds0 ++ es ∧ σ = [some (.tup ds), some (.lst ((rowsOf ds0).map .str)), x] ∧ h' = h) ?_ ?_ _ _ _ ?_
    · rintro d es σ h' ⟨ds0, x, rfl, rfl, rfl⟩
      have hd : d ∈ ds0 ++ d :: es := List.mem_append_right _ List.mem_cons_self
      have H0 : ∀ z ∈ ds0, okS k z := fun z hz => H z (List.mem_append_left _ hz)
      have L0 : ds0.length ≤ 20 := by rw [List.length_append] at hl; omega
      have l0 := rowL_le H0
      refine ⟨_, rfl, ?_⟩
      have done (x : Option D) : ∃ dsx x', ds0 ++ d :: es = dsx ++ es ∧ [some (.tup (ds0 ++ d :: es)), some (.lst ((rowsOf ds0 ++ rowD d).map D.str)), x] = [some (.tup (ds0 ++ d :: es)), some (.lst ((rowsOf dsx).map .str)), x'] ∧ True := by
        refine ⟨ds0 ++ [d], x, by rw [List.append_assoc]; rfl, ?_, trivial⟩
        unfold rowsOf
        rw [List.flatMap_append, List.flatMap_cons, List.flatMap_nil, List.append_nil]
      have hd' : okP d ∨ (∃ k', k = k' + 1 ∧ okI d) := by
        have hk := H d hd
        cases k with
        | zero => exact .inl hk
        | succ k => exact hk.imp id fun z => ⟨k, rfl, z⟩
      rcases hd' with p | ⟨k, rfl, c, x1, y1, rfl, h1, h2, h3, h4, h5, h6⟩
      · have eP := rowD_P p
        obtain ⟨s, r, rfl, h1, h2, h3, h4⟩ := p
        have hw : ∀ z ∈ D.str s :: r, okW z = true := fun z hz => by
          rcases List.mem_cons.mp hz with rfl | hz
          · exact Nat.ble_eq_true_of_le h3
          · exact h4 z hz
        have e1 := e_line_of (TL := TL) (n := m) (h := h') (ds := .str s :: r) (by omega) (by rw [List.length_cons]; omega) hw
        have g1 (s : Str) (h : Hd) : glst [.str s] h = .ok (.lst [.str s]) h := rfl
        simp only [wp_, h1, e1, g1]
        rw [gaddL (by rw [List.length_map]; simp; omega)]
        simp only [wp_]
        have := done (some (.tup (.str s :: r)))
        have er : row1 (.tup (.str s :: r)) = rowOf (.str s :: r) := rfl
        rw [eP, List.map_append, List.map_cons, List.map_nil, er] at this
        exact this
      · have ee : (("if" : Str) == ("if" : Str)) = true := by decide +kernel
        have ad1 (h : Hd) : gadd (.tup [.str "if"]) (.tup c) h = .ok (.tup (.str "if" :: c)) h := by
          show (if small (1 + c.length) then .ok (.tup ([.str "if"] ++ c)) h else .stuck : Res D) = _
          rw [small_of (by omega)]
          rfl
        have hw : ∀ z ∈ D.str "if" :: c, okW z = true := fun z hz => by
          rcases List.mem_cons.mp hz with rfl | hz
          · rfl
          · exact h2 z hz
        have e1 := e_line_of (TL := TL) (n := m) (h := h') (ds := .str "if" :: c) (by omega) (by rw [List.length_cons]; omega) hw
        have e2 := e_lines_of 0 m x1 h' (by omega) h4 (by omega)
        have e3 := e_lines_of 0 m y1 h' (by omega) h6 (by omega)
        have lx := rowL_le (k := 0) (ds := x1) h4
        have ly := rowL_le (k := 0) (ds := y1) h6
        have g1 (s : Str) (h : Hd) : glst [.str s] h = .ok (.lst [.str s]) h := rfl
        simp only [wp_, ee, ad1, e1, e2, e3, g1, gt1]
        rw [gaddL (by simp only [List.length_append, List.length_map, List.length_cons, List.length_nil]; omega)]
        simp only [wp_, e2]
        rw [gaddL (by simp only [List.length_append, List.length_map, List.length_cons, List.length_nil]; omega)]
        simp only [wp_, g1]
        rw [gaddL (by simp only [List.length_append, List.length_map, List.length_cons, List.length_nil]; omega)]
        simp only [wp_, e3]
        rw [gaddL (by simp only [List.length_append, List.length_map, List.length_cons, List.length_nil]; omega)]
        simp only [wp_, g1]
        rw [gaddL (by simp only [List.length_append, List.length_map, List.length_cons, List.length_nil]; omega)]
        simp only [wp_]
        have := done (some (.tup [.str "if", .tup c, .tup x1, .tup y1]))
        have er : rowOf (.str "if" :: c) = joinS " " (("if" : Str) :: c.map wordOf) := rfl
        have eq : (rowsOf ds0 ++ rowD (.tup [.str "if", .tup c, .tup x1, .tup y1])).map D.str = (rowsOf ds0).map .str ++ [.str (rowOf (.str "if" :: c))] ++ (rowsOf x1).map .str ++ [.str "else"] ++ (rowsOf y1).map .str ++ [.str "end"] := by
          rw [rowsOf_P h4, rowsOf_P h6, er]
          simp only [rowD, List.map_append, List.map_cons, List.map_nil, List.append_assoc, List.cons_append, List.nil_append]
        rw [eq] at this
        exact this
    · rintro σ h' ⟨ds0, x, e, rfl, rfl⟩
      rw [List.append_nil] at e
      subst e
      simp only [wp_]
      exact ⟨trivial, trivial⟩
    · exact ⟨[], none, rfl, rfl, rfl⟩
theorem e_script_text (hn : 8 ≤ n) {ds : List D} (hp : isScript (.tup ds) = true) (hd : pur (.tup ds) = true) (hl : ds.length ≤ 8) (H : ∀ d ∈ ds, okS 1 d) (hw : wtS (rowsOf ds) ≤ 16777216) : callD (TT TL) n 216 [.tup ds] h = .ok (.str (joinS "\n" (rowsOf ds))) h := by
  obtain ⟨m, rfl, hm⟩ := up1 hn
  rw [r_script_text]
  refine wR.eq ?_
  simp only [b_script_text]
  have e1 := e_need (TL := TL) (n := m) (h := h) hm hd
  rw [hp, if_pos rfl] at e1
  simp only [wp_, e1, e_lines_of (TL := TL) 1 m ds h (by omega) H (by omega), gjoin_nl hw]
  simp only [fin_eq_]
theorem e_script_no (hn : 8 ≤ n) {d : D} (hp : isScript d = false) (hd : pur d = true) : callD (TT TL) n 216 [d] h = .exc ⟨1, []⟩ h := by
  obtain ⟨m, rfl, hm⟩ := up1 hn
  rw [r_script_text]
  have e1 := e_need (TL := TL) (n := m) (h := h) hm hd
  rw [hp, if_neg Bool.false_ne_true] at e1
  simp only [b_script_text]
  simp only [evw_, e1, fdrop]
end

/-! text P18.lean -/
open PySem L2 TL
/-! plain laws 18: what was written is read -/
mutual
def sameD : D → D → Bool
  | .non, .non => true
  | .bl a, .bl b => a == b
  | .int a, .int b => a == b
  | .str a, .str b => a == b
  | .tup a, .tup b => sameL a b
  | _, _ => false
def sameL : List D → List D → Bool
  | [], [] => true
  | x :: xs, y :: ys => sameD x y && sameL xs ys
  | _, _ => false
end
mutual
theorem sameD_eq : ∀ {a b : D}, sameD a b = true → a = b
  | .non, b, h => by cases b <;> first | rfl | cases h
  | .bl x, b, h => by cases b <;> first | (simp [sameD] at h; rw [h]; done) | cases h
  | .int x, b, h => by cases b <;> first | (simp [sameD] at h; rw [h]; done) | cases h
  | .str x, b, h => by cases b <;> first | (simp [sameD] at h; rw [h]; done) | cases h
  | .tup x, b, h => by cases b <;> first | (simp [sameD] at h; rw [sameL_eq h]; done) | cases h
  | .lst x, b, h => by cases b <;> cases h
  | .scr x, b, h => by cases b <;> cases h
  | .obj x, b, h => by cases b <;> cases h
  | .fn x, b, h => by cases b <;> cases h
  | .clo i x, b, h => by cases b <;> cases h
theorem sameL_eq : ∀ {a b : List D}, sameL a b = true → a = b
  | [], b, h => by cases b <;> first | rfl | cases h
  | x :: xs, b, h => by
    cases b with
    | nil => cases h
    | cons y ys =>
      simp [sameL] at h
      rw [sameD_eq h.1, sameL_eq h.2]
end
def rowB (s : Str) : Bool := !s.cps.toList.contains 10 && (!(s == ("" : Str)) && isRow s)
structure RowOk (s : Str) : Prop where
  nl : 10 ∉ s.cps.toList
  ne : s ≠ ""
  row : isRow s = true
theorem rowB_ok {s : Str} (h : rowB s = true) : RowOk s := by
  unfold rowB at h
  simp only [Bool.and_eq_true, Bool.not_eq_true'] at h
  refine ⟨fun z => ?_, fun z => ?_, h.2.2⟩
  · have q := h.1
    rw [List.contains_iff_mem.mpr z] at q
    cases q
  · have q := h.2.1
    rw [z] at q
    revert q
    decide +kernel
def plainB (s : Str) : Bool := !(s == ("else" : Str)) && (!(s == ("end" : Str)) && !hdIf s)
theorem plainB_kind {s : Str} (h : plainB s = true) : kind s = .ot := by
  unfold plainB at h
  simp only [Bool.and_eq_true, Bool.not_eq_true'] at h
  unfold kind
  rw [h.1, h.2.1, h.2.2]
  rfl
def simpB (d : D) : Bool := rowB (row1 d) && (plainB (row1 d) && sameD (.tup (parts (row1 d))) d)
theorem simples_read : simples.all simpB = true := by kernel_rfl
structure SimpOk (d : D) : Prop where
  row : RowOk (row1 d)
  kd : kind (row1 d) = .ot
  pt : D.tup (parts (row1 d)) = d
theorem simp_ok {d : D} (h : d ∈ simples) : SimpOk d := by
  have := List.all_eq_true.mp simples_read d h
  unfold simpB at this
  simp only [Bool.and_eq_true] at this
  exact ⟨rowB_ok this.1, plainB_kind this.2.1, sameD_eq this.2.2⟩
def ifRow (c : List D) : Str := joinS " " (("if" : Str) :: c.map wordOf)
def condB (d : D) : Bool := match d with
  | .tup c => rowB (ifRow c) && ((!(ifRow c == ("else" : Str)) && (!(ifRow c == ("end" : Str)) && hdIf (ifRow c))) && sameL ((parts (ifRow c)).drop 1) c)
  | _ => false
theorem conds_read : conds.all condB = true := by kernel_rfl
structure CondOk (c : List D) : Prop where
  row : RowOk (ifRow c)
  kd : kind (ifRow c) = .fi
  pt : (parts (ifRow c)).drop 1 = c
theorem cond_ok {c : List D} (h : D.tup c ∈ conds) : CondOk c := by
  have := List.all_eq_true.mp conds_read _ h
  have this : (rowB (ifRow c) && ((!(ifRow c == ("else" : Str)) && (!(ifRow c == ("end" : Str)) && hdIf (ifRow c))) && sameL ((parts (ifRow c)).drop 1) c)) = true := this
  simp only [Bool.and_eq_true, Bool.not_eq_true'] at this
  refine ⟨rowB_ok this.1, ?_, sameL_eq this.2.2⟩
  unfold kind
  rw [this.2.1.1, this.2.1.2.1, this.2.1.2.2]
  rfl
theorem else_ok : RowOk "else" ∧ kind "else" = .el := ⟨rowB_ok (by kernel_rfl), by unfold kind; rw [if_pos (by decide +kernel)]⟩
theorem end_ok : RowOk "end" ∧ kind "end" = .en := ⟨rowB_ok (by kernel_rfl), by unfold kind; rw [if_neg (by decide +kernel), if_pos (by decide +kernel)]⟩
theorem conds_tup {c : D} (h : c ∈ conds) : ∃ r, c = .tup r := by
  have := List.all_eq_true.mp conds_read _ h
  cases c with
  | tup r => exact ⟨r, rfl⟩
  | _ => cases this
theorem rowD_if {c x y : List D} : rowD (.tup [.str "if", .tup c, .tup x, .tup y]) = ifRow c :: (x.map row1 ++ (("else" : Str) :: (y.map row1 ++ [("end" : Str)]))) := by
  simp [rowD, ifRow]
theorem good_rowD {d : D} (h : d ∈ simples) : rowD d = [row1 d] := rowD_P (okPB_ok (List.all_eq_true.mp simples_okP d h))
theorem rows_ok {ds : List D} (H : ∀ d ∈ ds, GoodStep d) : ∀ s ∈ rowsOf ds, RowOk s := fun s hs => by
  obtain ⟨d, hd, hs⟩ := List.mem_flatMap.mp hs
  rcases H d hd with h | ⟨c, x, y, rfl, hc, hx, lx, hy, ly⟩
  · rw [good_rowD h] at hs
    rw [List.mem_singleton.mp hs]
    exact (simp_ok h).row
  · obtain ⟨r, rfl⟩ := conds_tup hc
    rw [rowD_if] at hs
    simp only [List.mem_cons, List.mem_append, List.mem_map, List.not_mem_nil, or_false] at hs
    rcases hs with rfl | ⟨z, hz, rfl⟩ | rfl | ⟨z, hz, rfl⟩ | rfl
    · exact (cond_ok hc).row
    · exact (simp_ok (hx z hz)).row
    · exact else_ok.1
    · exact (simp_ok (hy z hz)).row
    · exact end_ok.1
theorem runQ_cons {q q' : Qs} {s : Str} {ss : List Str} (h : stp s (kind s) q = some q') : runQ q (s :: ss) = runQ q' ss := by
  rw [runQ, h]
theorem run_x {f : List D} {c : List D} {rest : List Str} : ∀ (xs x0 : List D), (∀ s ∈ xs, s ∈ simples) → runQ (f, some (c, x0, none)) (xs.map row1 ++ rest) = runQ (f, some (c, x0 ++ xs, none)) rest
  | [], x0, _ => by rw [List.map_nil, List.nil_append, List.append_nil]
  | d :: xs, x0, H => by
    have o := simp_ok (H d List.mem_cons_self)
    rw [List.map_cons, List.cons_append, runQ_cons (q' := (f, some (c, x0 ++ [d], none))) (by rw [o.kd]; show some (f, some (c, x0 ++ [D.tup (parts (row1 d))], none)) = _; rw [o.pt]), run_x xs _ fun z hz => H z (List.mem_cons_of_mem _ hz), List.append_assoc]
    rfl
theorem run_y {f : List D} {c x : List D} {rest : List Str} : ∀ (ys y0 : List D), (∀ s ∈ ys, s ∈ simples) → runQ (f, some (c, x, some y0)) (ys.map row1 ++ rest) = runQ (f, some (c, x, some (y0 ++ ys))) rest
  | [], y0, _ => by rw [List.map_nil, List.nil_append, List.append_nil]
  | d :: ys, y0, H => by
    have o := simp_ok (H d List.mem_cons_self)
    rw [List.map_cons, List.cons_append, runQ_cons (q' := (f, some (c, x, some (y0 ++ [d])))) (by rw [o.kd]; show some (f, some (c, x, some (y0 ++ [D.tup (parts (row1 d))]))) = _; rw [o.pt]), run_y ys _ fun z hz => H z (List.mem_cons_of_mem _ hz), List.append_assoc]
    rfl
theorem run_rows {rest : List Str} : ∀ (ds f : List D), (∀ d ∈ ds, GoodStep d) → runQ (f, none) (rowsOf ds ++ rest) = runQ (f ++ ds, none) rest
  | [], f, _ => by rw [List.append_nil]; rfl
  | d :: ds, f, H => by
    have e : rowsOf (d :: ds) = rowD d ++ rowsOf ds := List.flatMap_cons
    have ih := run_rows (rest := rest) ds (f ++ [d]) fun z hz => H z (List.mem_cons_of_mem _ hz)
    rw [List.append_assoc] at ih
    rw [e, List.append_assoc]
    show _ = runQ (f ++ ([d] ++ ds), none) rest
    rw [← ih]
    rcases H d List.mem_cons_self with h | ⟨c, x, y, rfl, hc, hx, lx, hy, ly⟩
    · have o := simp_ok h
      rw [good_rowD h]
      exact runQ_cons (by rw [o.kd]; show some (f ++ [D.tup (parts (row1 d))], none) = _; rw [o.pt])
    · obtain ⟨r, rfl⟩ := conds_tup hc
      have o := cond_ok hc
      rw [rowD_if, List.cons_append, runQ_cons (q' := (f, some (r, [], none))) (by rw [o.kd]; show some (f, some ((parts (ifRow r)).drop 1, [], none)) = _; rw [o.pt]), List.append_assoc, run_x x [] hx, List.cons_append, List.nil_append,
        runQ_cons (q' := (f, some (r, x, some []))) (by rw [else_ok.2]; rfl), List.append_assoc, run_y y [] hy, List.cons_append, List.nil_append, runQ_cons (q' := (f ++ [.tup [.str "if", .tup r, .tup x, .tup y]], none)) (by rw [end_ok.2]; rfl), List.nil_append]
theorem words_join {ys : List Str} (hne : ys ≠ []) (h : ∀ y ∈ ys, 10 ∉ y.cps.toList) : words 10 (joinS "\n" ys) = ys := by
  unfold words
  have e : (joinS "\n" ys).cps.toList = joinL [10] (ys.map fun y => y.cps.toList) := by
    show (joinL ("\n" : Str).cps.toList (ys.map fun y => y.cps.toList)).toArray.toList = _
    rw [show ("\n" : Str).cps.toList = [10] by decide +kernel]
  rw [e, TL.spl_join (s := 10) (S := []) (parts := ys.map fun y => y.cps.toList) (by simpa using hne) fun p hp => by
    obtain ⟨y, hy, rfl⟩ := List.mem_map.mp hp
    exact h y hy, List.map_map]
  have : ∀ zs : List Str, zs.map ((fun p => (⟨p.toArray⟩ : Str)) ∘ fun y => y.cps.toList) = zs := fun zs => by
    induction zs with
    | nil => rfl
    | cons z zs ih =>
      rw [List.map_cons, ih]
      congr 1
  exact this ys
theorem lines_rows {ys : List Str} (h : ∀ y ∈ ys, RowOk y) : linesOf (joinS "\n" ys) = ys := by
  unfold linesOf
  cases ys with
  | nil =>
    rw [if_pos (by decide +kernel)]
  | cons y ys =>
    have w := words_join (ys := y :: ys) (fun z => nomatch z) fun z hz => (h z hz).nl
    rw [if_neg]
    · exact w
    · intro z
      have z : joinS "\n" (y :: ys) = "" := eq_of_beq z
      rw [z] at w
      have e : words 10 "" = [("" : Str)] := by decide +kernel
      rw [e] at w
      have : y = "" := by
        have := (List.cons.inj w).1
        exact this.symm
      exact (h y List.mem_cons_self).ne this
theorem fb_none : ∀ (ls : List Str) (k : Nat), (∀ s ∈ ls, isRow s = true) → fb k ls = none
  | [], _, _ => rfl
  | s :: ls, k, H => by
    rw [fb, if_pos (H s List.mem_cons_self)]
    exact fb_none ls (k + 1) fun z hz => H z (List.mem_cons_of_mem _ hz)
theorem rd_rows {ds : List D} (H : ∀ d ∈ ds, GoodStep d) (hs : isScript (.tup ds) = true) : rd (joinS "\n" (rowsOf ds)) = .inr (.tup ds) := by
  have ok := rows_ok H
  have e := lines_rows ok
  have st : stepsD (rowsOf ds) = .tup ds := by
    have := run_rows (rest := []) ds [] H
    rw [List.append_nil, List.nil_append] at this
    unfold stepsD
    rw [this]
    rfl
  unfold rd
  rw [e, fb_none _ 0 fun s hs => (ok s hs).row, st, hs]
  rfl

/-! text G18.lean -/
set_option maxHeartbeats 0
open PySem L2 TL PyProof.Rows
/-! the text: the row's defs -/
def top (i : Nat) : Stmt := PySem.Challenge.pw_spanwhenever_k18_scripts_written.main.body.getD i (.Pass ⟨0, 0, 0, 0⟩)
def nms : List (Nat × Str) := [(0, ("is_whole" : Str)), (1, ("is_word" : Str)), (2, ("is_term" : Str)), (8, ("is_condition" : Str)), (9, ("is_end" : Str)), (10, ("is_plain" : Str)), (11, ("is_body" : Str)), (12, ("is_step" : Str)), (13, ("size_of" : Str)), (14, ("steps_in" : Str)), (15, ("is_script" : Str)), (16, ("need_script" : Str)), (213, ("part_text" : Str)), (214, ("line_of" : Str)), (215, ("lines_of" : Str)), (216, ("script_text" : Str)), (217, ("part_of" : Str)), (218, ("parts_of" : Str)), (219, ("is_line" : Str)), (220, ("steps_of" : Str)), (221, ("read_script" : Str)), (18, ("_law_vat" : Str)), (19, ("_law_under" : Str)), (20, ("_law_some" : Str)), (21, ("_law_is_whole" : Str)), (24, ("_law_is_term" : Str)), (33, ("_law_size" : Str)), (35, ("_law_term" : Str)), (38, ("_law_condition" : Str)), (39, ("_law_simple" : Str)), (40, ("_law_step" : Str)), (41, ("_law_script" : Str)), (42, ("_law_numbers" : Str)), (44, ("_law_names" : Str)), (45, ("_law_error" : Str)), (222, ("_law_term_text" : Str)), (223, ("_law_word" : Str)), (224, ("_law_rows" : Str)), (300, ("law" : Str))]
def fs : Nat → Str
  | 0 => "is_whole"
  | 1 => "is_word"
  | 2 => "is_term"
  | 8 => "is_condition"
  | 9 => "is_end"
  | 10 => "is_plain"
  | 11 => "is_body"
  | 12 => "is_step"
  | 13 => "size_of"
  | 14 => "steps_in"
  | 15 => "is_script"
  | 16 => "need_script"
  | 213 => "part_text"
  | 214 => "line_of"
  | 215 => "lines_of"
  | 216 => "script_text"
  | 217 => "part_of"
  | 218 => "parts_of"
  | 219 => "is_line"
  | 220 => "steps_of"
  | 221 => "read_script"
  | 18 => "_law_vat"
  | 19 => "_law_under"
  | 20 => "_law_some"
  | 21 => "_law_is_whole"
  | 24 => "_law_is_term"
  | 33 => "_law_size"
  | 35 => "_law_term"
  | 38 => "_law_condition"
  | 39 => "_law_simple"
  | 40 => "_law_step"
  | 41 => "_law_script"
  | 42 => "_law_numbers"
  | 44 => "_law_names"
  | 45 => "_law_error"
  | 222 => "_law_term_text"
  | 223 => "_law_word"
  | 224 => "_law_rows"
  | 300 => "law"
  | _ => Str.empty
/-- law -/
def b_law (c : CT) : Fs := (fseq (ffor (.one 1) (fiA (gi1 giR1) (fcons (fargs (g2 gmax2) (fcons (fcon (.int 6)) (fcons (fargs (g2 gmin2) (fcons (fcon (.int 15)) (fcons (fargs (g1 glen) (fcons (fvar 0) fnil)) fnil))) fnil))) fnil)) (fseq (fset 2 (fargs (c 18) (fcons (fvar 0) (fcons (fvar 1) fnil))))
  (fseq (fset 3 (fargs (c 41) (fcons (fvar 2) (fcons (fcon (.int 8)) fnil))))
  (fseq (fset 6 (fm1 gjoin (fcon (.str "\n")) (fargs (c 224) (fcons (fvar 3) fnil))))
  (fseq (fifS (for_ (fbin gne (fargs (c 216) (fcons (fvar 3) fnil)) (fvar 6)) (fbin gne (fargs (c 221) (fcons (fvar 6) fnil)) (fvar 3))) (fret (fcon (.bl false))) fskip)
  (fifS (fbin gne (fho (h__law_error c) fnil (flam 0 [6] (fargs (c 216) (fcons (flst (fcons (fvar 0) fnil)) fnil)))) (fcon (.str "script value"))) (fret (fcon (.bl false))) fskip))))))
  (fseq (fset 6 (fcon (.str "join a-9 c+9\nif free a+0 b-1\nshift -4\nelse\nkeep * -3\ndrop 3 *\nend\nif many 4\nelse\nend\ngaps")))
  (fseq (fset 4 (ftup (fcons (fcon (.str "if")) (fcons (ftup (fcons (fcon (.str "free")) (fcons (ftup (fcons (fcon (.str "a")) (fcons (fcon (.int 0)) fnil))) (fcons (ftup (fcons (fcon (.str "b")) (fcons (fun1 gneg (fcon (.int 1))) fnil))) fnil)))) (fcons (ftup (fcons (ftup (fcons (fcon (.str "shift")) (fcons (fun1 gneg (fcon (.int 4))) fnil))) fnil)) (fcons (ftup (fcons (ftup (fcons (fcon (.str "keep")) (fcons (fcon .non) (fcons (fun1 gneg (fcon (.int 3))) fnil)))) (fcons (ftup (fcons (fcon (.str "drop")) (fcons (fcon (.int 3)) (fcons (fcon .non) fnil)))) fnil))) fnil))))))
  (fseq (fset 5 (ftup (fcons (ftup (fcons (fcon (.str "join")) (fcons (ftup (fcons (fcon (.str "a")) (fcons (fun1 gneg (fcon (.int 9))) fnil))) (fcons (ftup (fcons (fcon (.str "c")) (fcons (fcon (.int 9)) fnil))) fnil)))) (fcons (fvar 4) (fcons (ftup (fcons (fcon (.str "if")) (fcons (ftup (fcons (fcon (.str "many")) (fcons (fcon (.int 4)) fnil))) (fcons (ftup fnil) (fcons (ftup fnil) fnil))))) (fcons (ftup (fcons (fcon (.str "gaps")) fnil)) fnil))))))
  (fret (fand (fbin geq (fargs (c 221) (fcons (fvar 6) fnil)) (fvar 5)) (fand (fbin geq (fargs (c 216) (fcons (fvar 5) fnil)) (fvar 6)) (fbin geq (fargs (c 221) (fcons (fcon (.str "")) fnil)) (ftup fnil)))))))))
def N_is_whole : List Str := [("value" : Str), ("low" : Str), ("high" : Str)]
def N_is_word : List Str := [("value" : Str), ("words" : Str)]
def N_is_term : List Str := [("value" : Str)]
def N_is_condition : List Str := [("value" : Str)]
def N_is_end : List Str := [("value" : Str)]
def N_is_plain : List Str := [("value" : Str)]
def N_is_body : List Str := [("value" : Str), ("step" : Str)]
def N_is_step : List Str := [("value" : Str)]
def N_size_of : List Str := [("step" : Str)]
def N_steps_in : List Str := [("script" : Str), ("step" : Str)]
def N_is_script : List Str := [("value" : Str), ("step" : Str)]
def N_need_script : List Str := [("script" : Str)]
def N_part_text : List Str := [("part" : Str)]
def N_line_of : List Str := [("parts" : Str), ("part" : Str)]
def N_lines_of : List Str := [("steps" : Str), ("found" : Str), ("step" : Str)]
def N_script_text : List Str := [("script" : Str)]
def N_part_of : List Str := [("word" : Str)]
def N_parts_of : List Str := [("line" : Str), ("word" : Str)]
def N_is_line : List Str := [("line" : Str), ("parts" : Str)]
def N_steps_of : List Str := [("lines" : Str), ("found" : Str), ("inner" : Str), ("line" : Str), ("parts" : Str), ("bodies" : Str)]
def N_read_script : List Str := [("value" : Str), ("lines" : Str), ("number" : Str), ("line" : Str), ("script" : Str)]
def N__law_vat : List Str := [("script" : Str), ("k" : Str), ("cell" : Str)]
def N__law_under : List Str := [("vat" : Str), ("many" : Str), ("found" : Str), ("wide" : Str)]
def N__law_some : List Str := [("vat" : Str), ("things" : Str)]
def N__law_is_whole : List Str := [("value" : Str), ("low" : Str), ("high" : Str)]
def N__law_is_term : List Str := [("value" : Str)]
def N__law_size : List Str := [("script" : Str), ("total" : Str), ("step" : Str)]
def N__law_term : List Str := [("vat" : Str)]
def N__law_condition : List Str := [("vat" : Str), ("word" : Str)]
def N__law_simple : List Str := [("vat" : Str), ("word" : Str)]
def N__law_step : List Str := [("vat" : Str), ("bodies" : Str), ("body" : Str), ("turn" : Str)]
def N__law_script : List Str := [("vat" : Str), ("most" : Str), ("found" : Str), ("turn" : Str), ("step" : Str)]
def N__law_numbers : List Str := [("things" : Str), ("high" : Str), ("total" : Str), ("thing" : Str), ("more" : Str), ("rest" : Str)]
def N__law_names : List Str := [("e" : Str), ("some" : Str), ("words_so" : Str), ("word" : Str), ("good" : Str)]
def N__law_error : List Str := [("call" : Str), ("e" : Str)]
def N__law_term_text : List Str := [("term" : Str)]
def N__law_word : List Str := [("part" : Str)]
def N__law_rows : List Str := [("steps" : Str), ("found" : Str), ("step" : Str), ("part" : Str)]
def N_law : List Str := [("script" : Str), ("k" : Str), ("vat" : Str), ("some" : Str), ("inner" : Str), ("due" : Str), ("text" : Str)]
/-- the law's own defs as data -/
def TL (_ : Nat) (c : CT) : Nat → Df
  | 300 => ⟨1, 7, b_law c⟩
  | _ => ⟨0, 0, fun _ _ => .stuck⟩
abbrev T := TT TL
/-- what is used of the text -/
structure Lw (G : Gm) : Prop where
  c_MOST : ConOk G "MOST" (.int 8)
  c_MOST_IN_ALL : ConOk G "MOST_IN_ALL" (.int 12)
  c_NAMES : ConOk G "NAMES" (.tup [.str "a", .str "b", .str "c"])
  e_InvalidScript : ErrOk G "InvalidScript" 1
  f_abs : G.mg ("abs" : Str) = none
  f_bool : G.mg ("bool" : Str) = none
  f_enumerate : G.mg ("enumerate" : Str) = none
  f_int : G.mg ("int" : Str) = none
  f_isinstance : G.mg ("isinstance" : Str) = none
  f_len : G.mg ("len" : Str) = none
  f_max : G.mg ("max" : Str) = none
  f_min : G.mg ("min" : Str) = none
  f_range : G.mg ("range" : Str) = none
  f_str : G.mg ("str" : Str) = none
  f_sum : G.mg ("sum" : Str) = none
  f_tuple : G.mg ("tuple" : Str) = none
  f_zip : G.mg ("zip" : Str) = none
  i_InvalidText : GIni G 1 "InvalidText" 14 "line"
  k_Impossible : KOk G "Impossible" (tkOf kt_Impossible)
  k_InvalidFact : KOk G "InvalidFact" (tkOf kt_InvalidFact)
  k_InvalidFacts : KOk G "InvalidFacts" (tkOf kt_InvalidFacts)
  k_InvalidIndex : KOk G "InvalidIndex" (tkOf kt_InvalidIndex)
  k_InvalidMoments : KOk G "InvalidMoments" (tkOf kt_InvalidMoments)
  k_InvalidNumber : KOk G "InvalidNumber" (tkOf kt_InvalidNumber)
  k_InvalidScript : KOk G "InvalidScript" (tkOf kt_InvalidScript)
  k_InvalidSeen : KOk G "InvalidSeen" (tkOf kt_InvalidSeen)
  k_InvalidSpan : KOk G "InvalidSpan" (tkOf kt_InvalidSpan)
  k_InvalidStep : KOk G "InvalidStep" (tkOf kt_InvalidStep)
  k_InvalidTerm : KOk G "InvalidTerm" (tkOf kt_InvalidTerm)
  k_InvalidText : KOk G "InvalidText" (tkOf kt_InvalidText)
  k_NothingToUndo : KOk G "NothingToUndo" (tkOf kt_NothingToUndo)
  k_TooMany : KOk G "TooMany" (tkOf kt_TooMany)
  k_ValueError : KOk G "ValueError" (tkOf kt_ValueError)
  t_WhenError : ∃ cv, ClsOk G "WhenError" cv tk_WhenError
theorem Lw.up {G : Gm} {pin : List (Nat × Addr)} {iv : List Iv} (L : Lw G) (_ : ∀ p ∈ G.iv, p ∈ iv) : Lw (G.wi pin iv) := ⟨L.c_MOST.up, L.c_MOST_IN_ALL.up, L.c_NAMES.up, L.e_InvalidScript.up, L.f_abs, L.f_bool, L.f_enumerate, L.f_int, L.f_isinstance, L.f_len, L.f_max, L.f_min, L.f_range, L.f_str, L.f_sum, L.f_tuple, L.f_zip, L.i_InvalidText.up, L.k_Impossible.up, L.k_InvalidFact.up, L.k_InvalidFacts.up, L.k_InvalidIndex.up, L.k_InvalidMoments.up, L.k_InvalidNumber.up, L.k_InvalidScript.up, L.k_InvalidSeen.up, L.k_InvalidSpan.up, L.k_InvalidStep.up, L.k_InvalidTerm.up, L.k_InvalidText.up, L.k_NothingToUndo.up, L.k_TooMany.up, L.k_ValueError.up, ⟨_, L.t_WhenError.choose_spec.up⟩⟩
/-- the defs that get functions, or the handled error -/
structure Hs (G : Gm) (k : Nat) (c : CT) : Prop where
  n__law_names : GNm G (k + 1) "_law_names" 44 (x__law_names c)
  h__law_error : GHo G (k + 1) (k + 1 + 1) "_law_error" 45 (h__law_error c)
section
variable {X : Cx} {G : Gm} {W : WX} {k : Nat} {c : CT}
theorem w__law_names {e : Ec} (C : Ct X G W N__law_names (defScope (top 55)) k true) (L : Lw G) (D : Defs G k nms c) (E : Xc X G 0 e) : SSs X G W (defBody (top 55)) (b__law_names c e) :=
  (e_ (set_ C (se_lst (c_ (isx_ C.cs E (L.f_isinstance) (L.k_InvalidScript)) (c_ (isx_ C.cs E (L.f_isinstance) (L.k_InvalidStep)) (c_ (isx_ C.cs E (L.f_isinstance) (L.k_InvalidFacts)) (c_ (isx_ C.cs E (L.f_isinstance) (L.k_InvalidFact)) (c_ (isx_ C.cs E (L.f_isinstance) (L.k_InvalidMoments)) (c_ (isx_ C.cs E (L.f_isinstance) (L.k_InvalidTerm)) (c_ (isx_ C.cs E (L.f_isinstance) (L.k_InvalidNumber)) (c_ (isx_ C.cs E (L.f_isinstance) (L.k_InvalidSeen)) (c_ (isx_ C.cs E (L.f_isinstance) (L.k_InvalidSpan)) (c_ (isx_ C.cs E (L.f_isinstance) (L.k_InvalidIndex)) (c_ (isx_ C.cs E (L.f_isinstance) (L.k_Impossible)) (c_ (isx_ C.cs E (L.f_isinstance) (L.k_NothingToUndo)) (c_ (isx_ C.cs E (L.f_isinstance) (L.k_TooMany)) (c_ (isx_ C.cs E (L.f_isinstance) (L.k_InvalidText)) (c_ (isx_ C.cs E (L.f_isinstance) (L.k_ValueError)) n_)))))))))))))))))
  (e_ (set_ C ks_)
  (e1_ (ret_ (join_ C.cs ks_ (lc_ C.cs (own := [(("word" : Str), 3), (("good" : Str), 4)]) (izH_ C.cs (L.f_zip) (c_ (split_ (v_ C.cs) ks_) (c_ (v_ C.cs) n_))) (fun _ B _ => (ta_ (mc_ B (mc_ B mn_)))) (fun _ B _ => (ts_ (tv_ (v_ B)))) (fun _ B _ => (v_ B))))))))
theorem w__law_error {g : CF} (C : Ct X G W N__law_error (defScope (top 56)) (k + 1) false) (L : Lw G) (D : Defs G k nms c) (n__law_names : GNm G (k + 1) "_law_names" 44 (x__law_names c)) (Q : Cl X G (k + 1) 0 g) : SSs X G W (defBody (top 56)) (b__law_error c g) :=
  (e_ (try_ C (L.t_WhenError).choose_spec (fun _ _ _ C' => (e1_ (ex_ (cl0_ C'.cs Q.tr)))) (fun _ _ _ e hs S E => (e1_ (ret_ (nm_ S.cs E.xc (n__law_names.up hs))))))
  (e1_ (ret_ ks_)))
theorem w_is_whole (C : Ct X G W N_is_whole (defScope (top 20)) (k + 3) false) (L : Lw G) (D : Defs G k nms c) : SSs X G W (defBody (top 20)) (b_is_whole c) :=
  (e1_ (ret_ (se_and (ii_ C.cs .int (L.f_isinstance) (L.f_int) (v_ C.cs)) (se_and (se_not (ii_ C.cs .bool (L.f_isinstance) (L.f_bool) (v_ C.cs))) (se_one (ch_ le_ le_ (v_ C.cs) (v_ C.cs) (v_ C.cs)))))))
theorem w_is_word (C : Ct X G W N_is_word (defScope (top 21)) (k + 3) false) (L : Lw G) (D : Defs G k nms c) : SSs X G W (defBody (top 21)) (b_is_word c) :=
  (e1_ (ret_ (se_and (ii_ C.cs .str (L.f_isinstance) (L.f_str) (v_ C.cs)) (se_one (cm_ (in_ C.cs) (v_ C.cs) (v_ C.cs))))))
theorem w_is_term (C : Ct X G W N_is_term (defScope (top 22)) (k + 3) false) (L : Lw G) (D : Defs G k nms c) : SSs X G W (defBody (top 22)) (b_is_term c) :=
  (e_ (if_ (tw_ (sw_or (st_not (tv_ (ii_ C.cs .tuple (L.f_isinstance) (L.f_tuple) (v_ C.cs)))) (sw_or1 (tcm_ (ne_ C.cs) (b_ C.cs (len_ C.cs) (L.f_len) (c_ (v_ C.cs) n_)) ki_)))) (e1_ (ret_ kb_)) e0_)
  (e1_ (ret_ (se_and (f_ C.cs (D.at_ 1 1 _ (by kernel_rfl) (fun z => nomatch z)) (c_ (ix_ C.cs (v_ C.cs) ki_) (c_ (g_ C.cs (L.c_NAMES)) n_))) (se_one (f_ C.cs (D.at_ 0 0 _ (by kernel_rfl) (fun z => nomatch z)) (c_ (ix_ C.cs (v_ C.cs) ki_) (c_ (se_neg ki_) (c_ ki_ n_)))))))))
theorem w_is_condition (C : Ct X G W N_is_condition (defScope (top 23)) (k + 3) false) (L : Lw G) (D : Defs G k nms c) : SSs X G W (defBody (top 23)) (b_is_condition c) :=
  (e_ (if_ (tw_ (sw_or (st_not (tv_ (ii_ C.cs .tuple (L.f_isinstance) (L.f_tuple) (v_ C.cs)))) (sw_or (tcm_ (eq_ C.cs) (v_ C.cs) (se_tup n_)) (sw_or1 (st_not (tv_ (ii_ C.cs .str (L.f_isinstance) (L.f_str) (ix_ C.cs (v_ C.cs) ki_)))))))) (e1_ (ret_ kb_)) e0_)
  (e_ (if_ (tcm_ (in_ C.cs) (ix_ C.cs (v_ C.cs) ki_) (se_tup (c_ ks_ (c_ ks_ (c_ ks_ n_))))) (e1_ (ret_ (se_and (cm_ (eq_ C.cs) (b_ C.cs (len_ C.cs) (L.f_len) (c_ (v_ C.cs) n_)) ki_) (se_and (f_ C.cs (D.at_ 2 2 _ (by kernel_rfl) (fun z => nomatch z)) (c_ (ix_ C.cs (v_ C.cs) ki_) n_)) (se_one (f_ C.cs (D.at_ 2 2 _ (by kernel_rfl) (fun z => nomatch z)) (c_ (ix_ C.cs (v_ C.cs) ki_) n_))))))) e0_)
  (e_ (if_ (tcm_ (eq_ C.cs) (ix_ C.cs (v_ C.cs) ki_) ks_) (e1_ (ret_ (se_and (cm_ (eq_ C.cs) (b_ C.cs (len_ C.cs) (L.f_len) (c_ (v_ C.cs) n_)) ki_) (se_one (f_ C.cs (D.at_ 2 2 _ (by kernel_rfl) (fun z => nomatch z)) (c_ (ix_ C.cs (v_ C.cs) ki_) n_)))))) e0_)
  (e1_ (ret_ (se_and (cm_ (eq_ C.cs) (ix_ C.cs (v_ C.cs) ki_) ks_) (se_and (cm_ (eq_ C.cs) (b_ C.cs (len_ C.cs) (L.f_len) (c_ (v_ C.cs) n_)) ki_) (se_one (f_ C.cs (D.at_ 0 0 _ (by kernel_rfl) (fun z => nomatch z)) (c_ (ix_ C.cs (v_ C.cs) ki_) (c_ ki_ (c_ ki_ n_))))))))))))
theorem w_is_end (C : Ct X G W N_is_end (defScope (top 24)) (k + 3) false) (L : Lw G) (D : Defs G k nms c) : SSs X G W (defBody (top 24)) (b_is_end c) :=
  (e1_ (ret_ (se_or (cm_ is_ (v_ C.cs) kn_) (se_one (f_ C.cs (D.at_ 0 0 _ (by kernel_rfl) (fun z => nomatch z)) (c_ (v_ C.cs) (c_ (se_neg ki_) (c_ ki_ n_))))))))
theorem w_is_plain (C : Ct X G W N_is_plain (defScope (top 25)) (k + 3) false) (L : Lw G) (D : Defs G k nms c) : SSs X G W (defBody (top 25)) (b_is_plain c) :=
  (e_ (if_ (tw_ (sw_or (st_not (tv_ (ii_ C.cs .tuple (L.f_isinstance) (L.f_tuple) (v_ C.cs)))) (sw_or (tcm_ (eq_ C.cs) (v_ C.cs) (se_tup n_)) (sw_or1 (st_not (tv_ (ii_ C.cs .str (L.f_isinstance) (L.f_str) (ix_ C.cs (v_ C.cs) ki_)))))))) (e1_ (ret_ kb_)) e0_)
  (e_ (if_ (tcm_ (in_ C.cs) (ix_ C.cs (v_ C.cs) ki_) (se_tup (c_ ks_ (c_ ks_ (c_ ks_ n_))))) (e1_ (ret_ (se_and (cm_ (eq_ C.cs) (b_ C.cs (len_ C.cs) (L.f_len) (c_ (v_ C.cs) n_)) ki_) (se_and (f_ C.cs (D.at_ 2 2 _ (by kernel_rfl) (fun z => nomatch z)) (c_ (ix_ C.cs (v_ C.cs) ki_) n_)) (se_one (f_ C.cs (D.at_ 2 2 _ (by kernel_rfl) (fun z => nomatch z)) (c_ (ix_ C.cs (v_ C.cs) ki_) n_))))))) e0_)
  (e_ (if_ (tcm_ (in_ C.cs) (ix_ C.cs (v_ C.cs) ki_) (se_tup (c_ ks_ (c_ ks_ n_)))) (e1_ (ret_ (se_and (cm_ (eq_ C.cs) (b_ C.cs (len_ C.cs) (L.f_len) (c_ (v_ C.cs) n_)) ki_) (se_one (f_ C.cs (D.at_ 0 0 _ (by kernel_rfl) (fun z => nomatch z)) (c_ (ix_ C.cs (v_ C.cs) ki_) (c_ (se_neg ki_) (c_ ki_ n_)))))))) e0_)
  (e_ (if_ (tcm_ (in_ C.cs) (ix_ C.cs (v_ C.cs) ki_) (se_tup (c_ ks_ (c_ ks_ n_)))) (e1_ (ret_ (se_and (cm_ (eq_ C.cs) (b_ C.cs (len_ C.cs) (L.f_len) (c_ (v_ C.cs) n_)) ki_) (se_and (f_ C.cs (D.at_ 4 9 _ (by kernel_rfl) (fun z => nomatch z)) (c_ (ix_ C.cs (v_ C.cs) ki_) n_)) (se_one (f_ C.cs (D.at_ 4 9 _ (by kernel_rfl) (fun z => nomatch z)) (c_ (ix_ C.cs (v_ C.cs) ki_) n_))))))) e0_)
  (e1_ (ret_ (cm_ (eq_ C.cs) (v_ C.cs) (se_tup (c_ ks_ n_)))))))))
theorem w_is_body (C : Ct X G W N_is_body (defScope (top 26)) (k + 3) false) (L : Lw G) (D : Defs G k nms c) : SSs X G W (defBody (top 26)) (b_is_body c) :=
  (e1_ (ret_ (se_and (ii_ C.cs .tuple (L.f_isinstance) (L.f_tuple) (v_ C.cs)) (se_and (cm_ le_ (b_ C.cs (len_ C.cs) (L.f_len) (c_ (v_ C.cs) n_)) ki_) (se_one (cm_ (eq_ C.cs) (lc_ C.cs (own := [(("step" : Str), 1)]) (iq_ C.cs (v_ C.cs)) (fun _ B _ => (tl_ B)) (fun _ B _ => (ts_ (st_not (tv_ (f_ B (D.at_ 5 10 _ (by kernel_rfl) (fun z => nomatch z)) (c_ (v_ B) n_)))))) (fun _ B _ => (v_ B))) (se_lst n_)))))))
theorem w_is_step (C : Ct X G W N_is_step (defScope (top 27)) (k + 3) false) (L : Lw G) (D : Defs G k nms c) : SSs X G W (defBody (top 27)) (b_is_step c) :=
  (e_ (if_ (tw_ (sw_or (st_not (tv_ (ii_ C.cs .tuple (L.f_isinstance) (L.f_tuple) (v_ C.cs)))) (sw_or (tcm_ (ne_ C.cs) (b_ C.cs (len_ C.cs) (L.f_len) (c_ (v_ C.cs) n_)) ki_) (sw_or1 (st_not (tv_ (f_ C.cs (D.at_ 1 1 _ (by kernel_rfl) (fun z => nomatch z)) (c_ (ix_ C.cs (v_ C.cs) ki_) (c_ (se_tup (c_ ks_ n_)) n_))))))))) (e1_ (ret_ (f_ C.cs (D.at_ 5 10 _ (by kernel_rfl) (fun z => nomatch z)) (c_ (v_ C.cs) n_)))) e0_)
  (e1_ (ret_ (se_and (f_ C.cs (D.at_ 3 8 _ (by kernel_rfl) (fun z => nomatch z)) (c_ (ix_ C.cs (v_ C.cs) ki_) n_)) (se_and (f_ C.cs (D.at_ 6 11 _ (by kernel_rfl) (fun z => nomatch z)) (c_ (ix_ C.cs (v_ C.cs) ki_) n_)) (se_one (f_ C.cs (D.at_ 6 11 _ (by kernel_rfl) (fun z => nomatch z)) (c_ (ix_ C.cs (v_ C.cs) ki_) n_))))))))
theorem w_size_of (C : Ct X G W N_size_of (defScope (top 28)) (k + 3) false) (L : Lw G) (D : Defs G k nms c) : SSs X G W (defBody (top 28)) (b_size_of c) :=
  (e1_ (ret_ (se_if (tcm_ (eq_ C.cs) (ix_ C.cs (v_ C.cs) ki_) ks_) (add_ C.cs (add_ C.cs ki_ (b_ C.cs (len_ C.cs) (L.f_len) (c_ (ix_ C.cs (v_ C.cs) ki_) n_))) (b_ C.cs (len_ C.cs) (L.f_len) (c_ (ix_ C.cs (v_ C.cs) ki_) n_))) ki_)))
theorem w_steps_in (C : Ct X G W N_steps_in (defScope (top 29)) (k + 3) false) (L : Lw G) (D : Defs G k nms c) : SSs X G W (defBody (top 29)) (b_steps_in c) :=
  (e1_ (ret_ (b_ C.cs (sum_ C.cs) (L.f_sum) (c_ (lc_ C.cs (own := [(("step" : Str), 1)]) (iq_ C.cs (v_ C.cs)) (fun _ B _ => (tl_ B)) (fun _ B _ => tsn_) (fun _ B _ => (f_ B (D.at_ 8 13 _ (by kernel_rfl) (fun z => nomatch z)) (c_ (v_ B) n_)))) n_))))
theorem w_is_script (C : Ct X G W N_is_script (defScope (top 30)) (k + 3) false) (L : Lw G) (D : Defs G k nms c) : SSs X G W (defBody (top 30)) (b_is_script c) :=
  (e_ (if_ (tw_ (sw_or (st_not (tv_ (ii_ C.cs .tuple (L.f_isinstance) (L.f_tuple) (v_ C.cs)))) (sw_or (tcm_ gt_ (b_ C.cs (len_ C.cs) (L.f_len) (c_ (v_ C.cs) n_)) (g_ C.cs (L.c_MOST))) (sw_or1 (tcm_ (ne_ C.cs) (lc_ C.cs (own := [(("step" : Str), 1)]) (iq_ C.cs (v_ C.cs)) (fun _ B _ => (tl_ B)) (fun _ B _ => (ts_ (st_not (tv_ (f_ B (D.at_ 7 12 _ (by kernel_rfl) (fun z => nomatch z)) (c_ (v_ B) n_)))))) (fun _ B _ => (v_ B))) (se_lst n_)))))) (e1_ (ret_ kb_)) e0_)
  (e1_ (ret_ (cm_ le_ (f_ C.cs (D.at_ 9 14 _ (by kernel_rfl) (fun z => nomatch z)) (c_ (v_ C.cs) n_)) (g_ C.cs (L.c_MOST_IN_ALL))))))
theorem w_need_script (C : Ct X G W N_need_script (defScope (top 31)) (k + 3) false) (L : Lw G) (D : Defs G k nms c) : SSs X G W (defBody (top 31)) (b_need_script c) :=
  (e1_ (if_ (st_not (tv_ (f_ C.cs (D.at_ 10 15 _ (by kernel_rfl) (fun z => nomatch z)) (c_ (v_ C.cs) n_)))) (e1_ (rs_ C (L.e_InvalidScript))) e0_))
theorem w_part_text (C : Ct X G W N_part_text (defScope (top 33)) (k + 3) false) (L : Lw G) (D : Defs G k nms c) : SSs X G W (defBody (top 33)) (b_part_text c) :=
  (e_ (if_ (tcm_ is_ (v_ C.cs) kn_) (e1_ (ret_ ks_)) e0_)
  (e_ (if_ (tv_ (ii_ C.cs .tuple (L.f_isinstance) (L.f_tuple) (v_ C.cs))) (e1_ (ret_ (add_ C.cs (add_ C.cs (ix_ C.cs (v_ C.cs) ki_) (se_if (tcm_ lt_ (ix_ C.cs (v_ C.cs) ki_) ki_) ks_ ks_)) (b_ C.cs (str_) (L.f_str) (c_ (b_ C.cs (abs_) (L.f_abs) (c_ (ix_ C.cs (v_ C.cs) ki_) n_)) n_))))) e0_)
  (e1_ (ret_ (b_ C.cs (str_) (L.f_str) (c_ (v_ C.cs) n_))))))
theorem w_line_of (C : Ct X G W N_line_of (defScope (top 34)) (k + 3) false) (L : Lw G) (D : Defs G k nms c) : SSs X G W (defBody (top 34)) (b_line_of c) :=
  (e1_ (ret_ (join_ C.cs ks_ (lc_ C.cs (own := [(("part" : Str), 1)]) (iq_ C.cs (v_ C.cs)) (fun _ B _ => (tl_ B)) (fun _ B _ => tsn_) (fun _ B _ => (f_ B (D.at_ 12 213 _ (by kernel_rfl) (fun z => nomatch z)) (c_ (v_ B) n_)))))))
theorem w_lines_of (C : Ct X G W N_lines_of (defScope (top 35)) (k + 3) false) (L : Lw G) (D : Defs G k nms c) : SSs X G W (defBody (top 35)) (b_lines_of c) :=
  (e_ (set_ C (se_lst n_))
  (e_ (for_' C (iq_ C.cs (v_ C.cs)) (tl_ C.cs) (e1_ (if_ (tcm_ (eq_ C.cs) (ix_ C.cs (v_ C.cs) ki_) ks_) (e_ (set_ C (add_ C.cs (add_ C.cs (v_ C.cs) (se_lst (c_ (f_ C.cs (D.at_ 13 214 _ (by kernel_rfl) (fun z => nomatch z)) (c_ (add_ C.cs (se_tup (c_ ks_ n_)) (ix_ C.cs (v_ C.cs) ki_)) n_)) n_))) (f_ C.cs (D.at_ 14 215 _ (by kernel_rfl) (fun z => nomatch z)) (c_ (ix_ C.cs (v_ C.cs) ki_) n_))))
  (e1_ (set_ C (add_ C.cs (add_ C.cs (add_ C.cs (v_ C.cs) (se_lst (c_ ks_ n_))) (f_ C.cs (D.at_ 14 215 _ (by kernel_rfl) (fun z => nomatch z)) (c_ (ix_ C.cs (v_ C.cs) ki_) n_))) (se_lst (c_ ks_ n_)))))) (e1_ (set_ C (add_ C.cs (v_ C.cs) (se_lst (c_ (f_ C.cs (D.at_ 13 214 _ (by kernel_rfl) (fun z => nomatch z)) (c_ (v_ C.cs) n_)) n_))))))))
  (e1_ (ret_ (v_ C.cs)))))
theorem w_script_text (C : Ct X G W N_script_text (defScope (top 36)) (k + 3) false) (L : Lw G) (D : Defs G k nms c) : SSs X G W (defBody (top 36)) (b_script_text c) :=
  (e_ (ex_ (f_ C.cs (D.at_ 11 16 _ (by kernel_rfl) (fun z => nomatch z)) (c_ (v_ C.cs) n_)))
  (e1_ (ret_ (join_ C.cs ks_ (f_ C.cs (D.at_ 14 215 _ (by kernel_rfl) (fun z => nomatch z)) (c_ (v_ C.cs) n_))))))
theorem w_part_of (C : Ct X G W N_part_of (defScope (top 37)) (k + 3) false) (L : Lw G) (D : Defs G k nms c) : SSs X G W (defBody (top 37)) (b_part_of c) :=
  (e_ (if_ (tcm_ (eq_ C.cs) (v_ C.cs) ks_) (e1_ (ret_ kn_)) e0_)
  (e_ (if_ (tcm_ (in_ C.cs) (v_ C.cs) (se_tup (c_ ks_ (c_ ks_ (c_ ks_ (c_ ks_ (c_ ks_ (c_ ks_ (c_ ks_ (c_ ks_ (c_ ks_ n_))))))))))) (e1_ (ret_ (b_ C.cs (int_) (L.f_int) (c_ (v_ C.cs) n_)))) e0_)
  (e_ (if_ (tw_ (sw_and (tcm_ (eq_ C.cs) (b_ C.cs (len_ C.cs) (L.f_len) (c_ (v_ C.cs) n_)) ki_) (sw_and (tcm_ (in_ C.cs) (ix_ C.cs (v_ C.cs) ki_) (g_ C.cs (L.c_NAMES))) (sw_and (tcm_ (in_ C.cs) (ix_ C.cs (v_ C.cs) ki_) (se_tup (c_ ks_ (c_ ks_ n_)))) (sw_and1 (tcm_ (in_ C.cs) (ix_ C.cs (v_ C.cs) ki_) ks_)))))) (e1_ (ret_ (se_if (tcm_ (eq_ C.cs) (sl_ C.cs (v_ C.cs) (so_some ki_) so_none) ks_) (v_ C.cs) (se_tup (c_ (ix_ C.cs (v_ C.cs) ki_) (c_ (b_ C.cs (int_) (L.f_int) (c_ (sl_ C.cs (v_ C.cs) (so_some ki_) so_none) n_)) n_)))))) e0_)
  (e1_ (ret_ (v_ C.cs))))))
theorem w_parts_of (C : Ct X G W N_parts_of (defScope (top 38)) (k + 3) false) (L : Lw G) (D : Defs G k nms c) : SSs X G W (defBody (top 38)) (b_parts_of c) :=
  (e1_ (ret_ (b_ C.cs (tuple_ C.cs) (L.f_tuple) (c_ (lc_ C.cs (own := [(("word" : Str), 1)]) (iq_ C.cs (split_ (v_ C.cs) ks_)) (fun _ B _ => (tl_ B)) (fun _ B _ => tsn_) (fun _ B _ => (f_ B (D.at_ 16 217 _ (by kernel_rfl) (fun z => nomatch z)) (c_ (v_ B) n_)))) n_))))
theorem w_is_line (C : Ct X G W N_is_line (defScope (top 39)) (k + 3) false) (L : Lw G) (D : Defs G k nms c) : SSs X G W (defBody (top 39)) (b_is_line c) :=
  (e_ (set_ C (f_ C.cs (D.at_ 17 218 _ (by kernel_rfl) (fun z => nomatch z)) (c_ (v_ C.cs) n_)))
  (e_ (if_ (tw_ (sw_or (tcm_ (in_ C.cs) (v_ C.cs) (se_tup (c_ ks_ (c_ ks_ n_)))) (sw_or1 (tv_ (f_ C.cs (D.at_ 5 10 _ (by kernel_rfl) (fun z => nomatch z)) (c_ (v_ C.cs) n_)))))) (e1_ (ret_ kb_)) e0_)
  (e1_ (ret_ (se_and (cm_ (eq_ C.cs) (ix_ C.cs (v_ C.cs) ki_) ks_) (se_one (f_ C.cs (D.at_ 3 8 _ (by kernel_rfl) (fun z => nomatch z)) (c_ (sl_ C.cs (v_ C.cs) (so_some ki_) so_none) n_))))))))
theorem w_steps_of (C : Ct X G W N_steps_of (defScope (top 40)) (k + 3) false) (L : Lw G) (D : Defs G k nms c) : SSs X G W (defBody (top 40)) (b_steps_of c) :=
  (e_ (ut_ C (mc_ C.cs (mc_ C.cs mn_)) (se_tup (c_ (se_tup n_) (c_ kn_ n_))))
  (e_ (for_' C (iq_ C.cs (v_ C.cs)) (tl_ C.cs) (e_ (set_ C (f_ C.cs (D.at_ 17 218 _ (by kernel_rfl) (fun z => nomatch z)) (c_ (v_ C.cs) n_)))
  (e1_ (if_ (tw_ (sw_and (tcm_ (eq_ C.cs) (ix_ C.cs (v_ C.cs) ki_) ks_) (sw_and1 (tcm_ is_ (v_ C.cs) kn_)))) (e1_ (pa_ C (c_ (sl_ C.cs (v_ C.cs) (so_some ki_) so_none) (c_ (se_lst (c_ (se_tup n_) n_)) n_)))) (e1_ (if_ (tw_ (sw_and (tcm_ (eq_ C.cs) (v_ C.cs) ks_) (sw_and (tcm_ isn_ (v_ C.cs) kn_) (sw_and1 (tcm_ (eq_ C.cs) (b_ C.cs (len_ C.cs) (L.f_len) (c_ (v_ C.cs) n_)) ki_))))) (e1_ (set_ C (add_ C.cs (v_ C.cs) (se_lst (c_ (se_tup n_) n_))))) (e1_ (if_ (tw_ (sw_and (tcm_ (eq_ C.cs) (v_ C.cs) ks_) (sw_and (tcm_ isn_ (v_ C.cs) kn_) (sw_and1 (tcm_ (eq_ C.cs) (b_ C.cs (len_ C.cs) (L.f_len) (c_ (v_ C.cs) n_)) ki_))))) (e1_ (pa_ C (c_ (add_ C.cs (v_ C.cs) (se_tup (c_ (se_tup (c_ ks_ (c_ (v_ C.cs) (c_ (ix_ C.cs (v_ C.cs) ki_) (c_ (ix_ C.cs (v_ C.cs) ki_) n_))))) n_))) (c_ kn_ n_)))) (e1_ (if_ (tw_ (sw_or (tcm_ (in_ C.cs) (v_ C.cs) (se_tup (c_ ks_ (c_ ks_ n_)))) (sw_or1 (tcm_ (eq_ C.cs) (ix_ C.cs (v_ C.cs) ki_) ks_)))) (e1_ (ret_ kn_)) (e1_ (if_ (tcm_ isn_ (v_ C.cs) kn_) (e1_ (set_ C (add_ C.cs (sl_ C.cs (v_ C.cs) so_none (so_some (se_neg ki_))) (se_lst (c_ (add_ C.cs (ix_ C.cs (v_ C.cs) (se_neg ki_)) (se_tup (c_ (v_ C.cs) n_))) n_))))) (e1_ (set_ C (add_ C.cs (v_ C.cs) (se_tup (c_ (v_ C.cs) n_)))))))))))))))))
  (e1_ (ret_ (se_if (tcm_ is_ (v_ C.cs) kn_) (v_ C.cs) kn_)))))
theorem w_read_script (C : Ct X G W N_read_script (defScope (top 41)) (k + 3) false) (L : Lw G) (D : Defs G k nms c) : SSs X G W (defBody (top 41)) (b_read_script c) :=
  (e_ (if_ (st_not (tv_ (ii_ C.cs .str (L.f_isinstance) (L.f_str) (v_ C.cs)))) (e1_ (rsI_ C (L.i_InvalidText) ki_)) e0_)
  (e_ (set_ C (se_if (tcm_ (ne_ C.cs) (v_ C.cs) ks_) (split_ (v_ C.cs) ks_) (se_lst n_)))
  (e_ (for_' C (ien_ C.cs (L.f_enumerate) (c_ (v_ C.cs) n_)) (ta_ (mc_ C.cs (mc_ C.cs mn_))) (e1_ (if_ (st_not (tv_ (f_ C.cs (D.at_ 18 219 _ (by kernel_rfl) (fun z => nomatch z)) (c_ (v_ C.cs) n_)))) (e1_ (rsI_ C (L.i_InvalidText) (add_ C.cs (v_ C.cs) ki_))) e0_)))
  (e_ (set_ C (f_ C.cs (D.at_ 19 220 _ (by kernel_rfl) (fun z => nomatch z)) (c_ (v_ C.cs) n_)))
  (e_ (if_ (st_not (tv_ (f_ C.cs (D.at_ 10 15 _ (by kernel_rfl) (fun z => nomatch z)) (c_ (v_ C.cs) n_)))) (e1_ (rsI_ C (L.i_InvalidText) (add_ C.cs (b_ C.cs (len_ C.cs) (L.f_len) (c_ (v_ C.cs) n_)) ki_))) e0_)
  (e1_ (ret_ (v_ C.cs))))))))
theorem w__law_vat (C : Ct X G W N__law_vat (defScope (top 43)) (k + 3) false) (L : Lw G) (D : Defs G k nms c) : SSs X G W (defBody (top 43)) (b__law_vat c) :=
  (e_ (set_ C (add_ C.cs (mul_ C.cs ki_ (v_ C.cs)) ki_))
  (e_ (if_ (tcm_ lt_ (v_ C.cs) (b_ C.cs (len_ C.cs) (L.f_len) (c_ (v_ C.cs) n_))) (e1_ (set_ C (b_ C.cs (abs_) (L.f_abs) (c_ (b_ C.cs (int_) (L.f_int) (c_ (ix_ C.cs (v_ C.cs) (v_ C.cs)) n_)) n_)))) e0_)
  (e1_ (ret_ (se_newL (c_ (se_if (tcm_ ge_ (v_ C.cs) (pow_ ki_ ki_)) (v_ C.cs) ki_) (c_ (add_ C.cs (mod_ (b_ C.cs (int_) (L.f_int) (c_ (add_ C.cs (add_ C.cs (mul_ C.cs (v_ C.cs) ki_) (mul_ C.cs ki_ (v_ C.cs))) ki_) n_)) ki_) ki_) n_)))))))
theorem w__law_under (C : Ct X G W N__law_under (defScope (top 44)) (k + 3) false) (L : Lw G) (D : Defs G k nms c) : SSs X G W (defBody (top 44)) (b__law_under c) :=
  (e_ (if_ (tcm_ gt_ (ix_ C.cs (v_ C.cs) ki_) ki_) (e_ (set_ C (mod_ (b_ C.cs (int_) (L.f_int) (c_ (ix_ C.cs (v_ C.cs) ki_) n_)) (v_ C.cs)))
  (e_ (six_ (v_ C.cs) ki_ (div_ (ix_ C.cs (v_ C.cs) ki_) (v_ C.cs)))
  (e1_ (ret_ (v_ C.cs))))) e0_)
  (e_ (six_ (v_ C.cs) ki_ (mod_ (b_ C.cs (int_) (L.f_int) (c_ (add_ C.cs (mul_ C.cs (ix_ C.cs (v_ C.cs) ki_) ki_) ki_) n_)) ki_))
  (e_ (set_ C (mod_ (b_ C.cs (int_) (L.f_int) (c_ (mul_ C.cs (ix_ C.cs (v_ C.cs) ki_) (add_ C.cs (div_ (ix_ C.cs (v_ C.cs) ki_) ki_) ki_)) n_)) ki_))
  (e1_ (ret_ (mod_ (b_ C.cs (int_) (L.f_int) (c_ (div_ (v_ C.cs) ki_) n_)) (v_ C.cs)))))))
theorem w__law_some (C : Ct X G W N__law_some (defScope (top 45)) (k + 3) false) (L : Lw G) (D : Defs G k nms c) : SSs X G W (defBody (top 45)) (b__law_some c) :=
  (e1_ (ret_ (ix_ C.cs (v_ C.cs) (f_ C.cs (D.at_ 22 19 _ (by kernel_rfl) (fun z => nomatch z)) (c_ (v_ C.cs) (c_ (b_ C.cs (len_ C.cs) (L.f_len) (c_ (v_ C.cs) n_)) n_))))))
theorem w__law_is_whole (C : Ct X G W N__law_is_whole (defScope (top 46)) (k + 3) false) (L : Lw G) (D : Defs G k nms c) : SSs X G W (defBody (top 46)) (b__law_is_whole c) :=
  (e1_ (ret_ (se_and (ii_ C.cs .int (L.f_isinstance) (L.f_int) (v_ C.cs)) (se_and (se_not (ii_ C.cs .bool (L.f_isinstance) (L.f_bool) (v_ C.cs))) (se_one (ch_ le_ le_ (v_ C.cs) (v_ C.cs) (v_ C.cs)))))))
theorem w__law_is_term (C : Ct X G W N__law_is_term (defScope (top 47)) (k + 3) false) (L : Lw G) (D : Defs G k nms c) : SSs X G W (defBody (top 47)) (b__law_is_term c) :=
  (e_ (if_ (tw_ (sw_or (st_not (tv_ (ii_ C.cs .tuple (L.f_isinstance) (L.f_tuple) (v_ C.cs)))) (sw_or (tcm_ (ne_ C.cs) (b_ C.cs (len_ C.cs) (L.f_len) (c_ (v_ C.cs) n_)) ki_) (sw_or1 (st_not (tv_ (ii_ C.cs .str (L.f_isinstance) (L.f_str) (ix_ C.cs (v_ C.cs) ki_)))))))) (e1_ (ret_ kb_)) e0_)
  (e1_ (ret_ (se_and (cm_ (in_ C.cs) (ix_ C.cs (v_ C.cs) ki_) (se_tup (c_ ks_ (c_ ks_ (c_ ks_ n_))))) (se_one (f_ C.cs (D.at_ 24 21 _ (by kernel_rfl) (fun z => nomatch z)) (c_ (ix_ C.cs (v_ C.cs) ki_) (c_ (se_neg ki_) (c_ ki_ n_)))))))))
theorem w__law_size (C : Ct X G W N__law_size (defScope (top 48)) (k + 3) false) (L : Lw G) (D : Defs G k nms c) : SSs X G W (defBody (top 48)) (b__law_size c) :=
  (e_ (set_ C ki_)
  (e_ (for_' C (iq_ C.cs (v_ C.cs)) (tl_ C.cs) (e1_ (set_ C (add_ C.cs (v_ C.cs) (se_if (tcm_ (ne_ C.cs) (ix_ C.cs (v_ C.cs) ki_) ks_) ki_ (add_ C.cs (add_ C.cs ki_ (b_ C.cs (len_ C.cs) (L.f_len) (c_ (ix_ C.cs (v_ C.cs) ki_) n_))) (b_ C.cs (len_ C.cs) (L.f_len) (c_ (ix_ C.cs (v_ C.cs) ki_) n_))))))))
  (e1_ (ret_ (v_ C.cs)))))
theorem w__law_term (C : Ct X G W N__law_term (defScope (top 49)) (k + 3) false) (L : Lw G) (D : Defs G k nms c) : SSs X G W (defBody (top 49)) (b__law_term c) :=
  (e1_ (ret_ (se_tup (c_ (f_ C.cs (D.at_ 23 20 _ (by kernel_rfl) (fun z => nomatch z)) (c_ (v_ C.cs) (c_ (se_lst (c_ ks_ (c_ ks_ (c_ ks_ n_)))) n_))) (c_ (f_ C.cs (D.at_ 23 20 _ (by kernel_rfl) (fun z => nomatch z)) (c_ (v_ C.cs) (c_ (se_lst (c_ ki_ (c_ ki_ (c_ ki_ (c_ ki_ (c_ (se_neg ki_) (c_ ki_ n_))))))) n_))) n_)))))
theorem w__law_condition (C : Ct X G W N__law_condition (defScope (top 50)) (k + 3) false) (L : Lw G) (D : Defs G k nms c) : SSs X G W (defBody (top 50)) (b__law_condition c) :=
  (e_ (set_ C (f_ C.cs (D.at_ 23 20 _ (by kernel_rfl) (fun z => nomatch z)) (c_ (v_ C.cs) (c_ (se_lst (c_ ks_ (c_ ks_ (c_ ks_ (c_ ks_ (c_ ks_ (c_ ks_ n_))))))) n_))))
  (e_ (if_ (tcm_ (eq_ C.cs) (v_ C.cs) ks_) (e1_ (ret_ (se_tup (c_ ks_ (c_ (add_ C.cs ki_ (f_ C.cs (D.at_ 22 19 _ (by kernel_rfl) (fun z => nomatch z)) (c_ (v_ C.cs) (c_ ki_ n_)))) n_))))) e0_)
  (e_ (if_ (tcm_ (eq_ C.cs) (v_ C.cs) ks_) (e1_ (ret_ (se_tup (c_ ks_ (c_ (f_ C.cs (D.at_ 27 35 _ (by kernel_rfl) (fun z => nomatch z)) (c_ (v_ C.cs) n_)) n_))))) e0_)
  (e1_ (ret_ (se_tup (c_ (v_ C.cs) (c_ (f_ C.cs (D.at_ 27 35 _ (by kernel_rfl) (fun z => nomatch z)) (c_ (v_ C.cs) n_)) (c_ (f_ C.cs (D.at_ 27 35 _ (by kernel_rfl) (fun z => nomatch z)) (c_ (v_ C.cs) n_)) n_)))))))))
theorem w__law_simple (C : Ct X G W N__law_simple (defScope (top 51)) (k + 3) false) (L : Lw G) (D : Defs G k nms c) : SSs X G W (defBody (top 51)) (b__law_simple c) :=
  (e_ (set_ C (f_ C.cs (D.at_ 23 20 _ (by kernel_rfl) (fun z => nomatch z)) (c_ (v_ C.cs) (c_ (se_lst (c_ ks_ (c_ ks_ (c_ ks_ (c_ ks_ (c_ ks_ (c_ ks_ (c_ ks_ (c_ ks_ (c_ ks_ (c_ ks_ n_))))))))))) n_))))
  (e_ (if_ (tcm_ (eq_ C.cs) (v_ C.cs) ks_) (e1_ (ret_ (se_tup (c_ ks_ n_)))) e0_)
  (e_ (if_ (tcm_ (eq_ C.cs) (v_ C.cs) ks_) (e1_ (ret_ (se_tup (c_ (f_ C.cs (D.at_ 23 20 _ (by kernel_rfl) (fun z => nomatch z)) (c_ (v_ C.cs) (c_ (se_lst (c_ ks_ (c_ ks_ (c_ ks_ n_)))) n_))) (c_ (f_ C.cs (D.at_ 23 20 _ (by kernel_rfl) (fun z => nomatch z)) (c_ (v_ C.cs) (c_ (se_lst (c_ ki_ (c_ (se_neg ki_) (c_ ki_ n_)))) n_))) n_))))) e0_)
  (e_ (if_ (tcm_ (in_ C.cs) (v_ C.cs) (se_tup (c_ ks_ (c_ ks_ n_)))) (e1_ (ret_ (se_tup (c_ (v_ C.cs) (c_ (f_ C.cs (D.at_ 23 20 _ (by kernel_rfl) (fun z => nomatch z)) (c_ (v_ C.cs) (c_ (se_lst (c_ kn_ (c_ ki_ (c_ ki_ (c_ (se_neg ki_) n_))))) n_))) (c_ (f_ C.cs (D.at_ 23 20 _ (by kernel_rfl) (fun z => nomatch z)) (c_ (v_ C.cs) (c_ (se_lst (c_ kn_ (c_ ki_ (c_ ki_ (c_ (se_neg ki_) n_))))) n_))) n_)))))) e0_)
  (e1_ (ret_ (se_tup (c_ (v_ C.cs) (c_ (f_ C.cs (D.at_ 27 35 _ (by kernel_rfl) (fun z => nomatch z)) (c_ (v_ C.cs) n_)) (c_ (f_ C.cs (D.at_ 27 35 _ (by kernel_rfl) (fun z => nomatch z)) (c_ (v_ C.cs) n_)) n_))))))))))
theorem w__law_step (C : Ct X G W N__law_step (defScope (top 52)) (k + 3) false) (L : Lw G) (D : Defs G k nms c) : SSs X G W (defBody (top 52)) (b__law_step c) :=
  (e_ (if_ (tcm_ gt_ (f_ C.cs (D.at_ 22 19 _ (by kernel_rfl) (fun z => nomatch z)) (c_ (v_ C.cs) (c_ ki_ n_))) ki_) (e1_ (ret_ (f_ C.cs (D.at_ 29 39 _ (by kernel_rfl) (fun z => nomatch z)) (c_ (v_ C.cs) n_)))) e0_)
  (e_ (set_ C (se_tup n_))
  (e_ (for_' C (ir1_ C.cs (L.f_range) (c_ ki_ n_)) (tl_ C.cs) (e1_ (set_ C (add_ C.cs (v_ C.cs) (se_tup (c_ (b_ C.cs (tuple_ C.cs) (L.f_tuple) (c_ (lc_ C.cs (own := [(("turn" : Str), 3)]) (ir1_ C.cs (L.f_range) (c_ (f_ C.cs (D.at_ 22 19 _ (by kernel_rfl) (fun z => nomatch z)) (c_ (v_ C.cs) (c_ ki_ n_))) n_)) (fun _ B _ => (tl_ B)) (fun _ B _ => tsn_) (fun _ B _ => (f_ B (D.at_ 29 39 _ (by kernel_rfl) (fun z => nomatch z)) (c_ (v_ B) n_)))) n_)) n_))))))
  (e1_ (ret_ (add_ C.cs (se_tup (c_ ks_ (c_ (f_ C.cs (D.at_ 28 38 _ (by kernel_rfl) (fun z => nomatch z)) (c_ (v_ C.cs) n_)) n_))) (v_ C.cs)))))))
theorem w__law_script (C : Ct X G W N__law_script (defScope (top 53)) (k + 3) false) (L : Lw G) (D : Defs G k nms c) : SSs X G W (defBody (top 53)) (b__law_script c) :=
  (e_ (set_ C (se_tup n_))
  (e_ (for_' C (ir1_ C.cs (L.f_range) (c_ (f_ C.cs (D.at_ 22 19 _ (by kernel_rfl) (fun z => nomatch z)) (c_ (v_ C.cs) (c_ (add_ C.cs (v_ C.cs) ki_) n_))) n_)) (tl_ C.cs) (e_ (set_ C (se_tup (c_ ks_ (c_ (f_ C.cs (D.at_ 27 35 _ (by kernel_rfl) (fun z => nomatch z)) (c_ (v_ C.cs) n_)) (c_ (f_ C.cs (D.at_ 27 35 _ (by kernel_rfl) (fun z => nomatch z)) (c_ (v_ C.cs) n_)) n_)))))
  (e1_ (set_ C (add_ C.cs (v_ C.cs) (se_tup (c_ (se_if (tcm_ (ne_ C.cs) (v_ C.cs) (se_tup n_)) (f_ C.cs (D.at_ 30 40 _ (by kernel_rfl) (fun z => nomatch z)) (c_ (v_ C.cs) n_)) (v_ C.cs)) n_)))))))
  (e_ (set_ C (se_if (tcm_ lt_ (f_ C.cs (D.at_ 26 33 _ (by kernel_rfl) (fun z => nomatch z)) (c_ (v_ C.cs) n_)) ki_) (v_ C.cs) (sl_ C.cs (v_ C.cs) so_none (so_some ki_))))
  (e_ (wh_ C (tcm_ gt_ (ix_ C.cs (f_ C.cs (D.at_ 32 42 _ (by kernel_rfl) (fun z => nomatch z)) (c_ (v_ C.cs) n_)) ki_) ki_) (e1_ (set_ C (sl_ C.cs (v_ C.cs) so_none (so_some (se_neg ki_))))))
  (e1_ (ret_ (v_ C.cs)))))))
theorem w__law_numbers (C : Ct X G W N__law_numbers (defScope (top 54)) (k + 3) false) (L : Lw G) (D : Defs G k nms c) : SSs X G W (defBody (top 54)) (b__law_numbers c) :=
  (e_ (ut_ C (mc_ C.cs (mc_ C.cs mn_)) (se_tup (c_ ki_ (c_ ki_ n_))))
  (e_ (for_' C (iq_ C.cs (v_ C.cs)) (tl_ C.cs) (e1_ (if_ (tw_ (sw_and (tv_ (ii_ C.cs .tuple (L.f_isinstance) (L.f_tuple) (v_ C.cs))) (sw_and (tcm_ (eq_ C.cs) (b_ C.cs (len_ C.cs) (L.f_len) (c_ (v_ C.cs) n_)) ki_) (sw_and1 (tcm_ (in_ C.cs) (ix_ C.cs (v_ C.cs) ki_) (se_tup (c_ ks_ (c_ ks_ n_)))))))) (e1_ (set_ C (add_ C.cs (v_ C.cs) (b_ C.cs (abs_) (L.f_abs) (c_ (ix_ C.cs (v_ C.cs) ki_) n_))))) (e1_ (if_ (tv_ (f_ C.cs (D.at_ 25 24 _ (by kernel_rfl) (fun z => nomatch z)) (c_ (v_ C.cs) n_))) (e1_ (set_ C (b_ C.cs (max_ C.cs) (L.f_max) (c_ (v_ C.cs) (c_ (b_ C.cs (abs_) (L.f_abs) (c_ (ix_ C.cs (v_ C.cs) ki_) n_)) n_))))) (e1_ (if_ (tv_ (ii_ C.cs .tuple (L.f_isinstance) (L.f_tuple) (v_ C.cs))) (e_ (ut_ C (mc_ C.cs (mc_ C.cs mn_)) (f_ C.cs (D.at_ 32 42 _ (by kernel_rfl) (fun z => nomatch z)) (c_ (v_ C.cs) n_)))
  (e1_ (pa_ C (c_ (b_ C.cs (max_ C.cs) (L.f_max) (c_ (v_ C.cs) (c_ (v_ C.cs) n_))) (c_ (add_ C.cs (v_ C.cs) (v_ C.cs)) n_))))) e0_)))))))
  (e1_ (ret_ (se_tup (c_ (v_ C.cs) (c_ (v_ C.cs) n_)))))))
theorem w__law_term_text (C : Ct X G W N__law_term_text (defScope (top 57)) (k + 3) false) (L : Lw G) (D : Defs G k nms c) : SSs X G W (defBody (top 57)) (b__law_term_text c) :=
  (e1_ (ret_ (add_ C.cs (add_ C.cs (ix_ C.cs (v_ C.cs) ki_) (se_if (tcm_ ge_ (ix_ C.cs (v_ C.cs) ki_) ki_) ks_ ks_)) (b_ C.cs (str_) (L.f_str) (c_ (b_ C.cs (abs_) (L.f_abs) (c_ (ix_ C.cs (v_ C.cs) ki_) n_)) n_)))))
theorem w__law_word (C : Ct X G W N__law_word (defScope (top 58)) (k + 3) false) (L : Lw G) (D : Defs G k nms c) : SSs X G W (defBody (top 58)) (b__law_word c) :=
  (e_ (if_ (tcm_ is_ (v_ C.cs) kn_) (e1_ (ret_ ks_)) e0_)
  (e1_ (ret_ (se_if (tv_ (ii_ C.cs .tuple (L.f_isinstance) (L.f_tuple) (v_ C.cs))) (f_ C.cs (D.at_ 35 222 _ (by kernel_rfl) (fun z => nomatch z)) (c_ (v_ C.cs) n_)) (b_ C.cs (str_) (L.f_str) (c_ (v_ C.cs) n_))))))
theorem w__law_rows (C : Ct X G W N__law_rows (defScope (top 59)) (k + 3) false) (L : Lw G) (D : Defs G k nms c) : SSs X G W (defBody (top 59)) (b__law_rows c) :=
  (e_ (set_ C (se_newL n_))
  (e_ (for_' C (iq_ C.cs (v_ C.cs)) (tl_ C.cs) (e1_ (if_ (tcm_ (eq_ C.cs) (ix_ C.cs (v_ C.cs) ki_) ks_) (e_ (ex_ (app_ (v_ C.cs) (join_ C.cs ks_ (add_ C.cs (se_lst (c_ ks_ n_)) (lc_ C.cs (own := [(("part" : Str), 3)]) (iq_ C.cs (ix_ C.cs (v_ C.cs) ki_)) (fun _ B _ => (tl_ B)) (fun _ B _ => tsn_) (fun _ B _ => (f_ B (D.at_ 36 223 _ (by kernel_rfl) (fun z => nomatch z)) (c_ (v_ B) n_))))))))
  (e1_ (set_ C (addM_ C.cs (add_ C.cs (add_ C.cs (add_ C.cs (vz_ C.cs) (f_ C.cs (D.at_ 37 224 _ (by kernel_rfl) (fun z => nomatch z)) (c_ (ix_ C.cs (v_ C.cs) ki_) n_))) (se_lst (c_ ks_ n_))) (f_ C.cs (D.at_ 37 224 _ (by kernel_rfl) (fun z => nomatch z)) (c_ (ix_ C.cs (v_ C.cs) ki_) n_))) (se_lst (c_ ks_ n_)))))) (e1_ (ex_ (app_ (v_ C.cs) (join_ C.cs ks_ (lc_ C.cs (own := [(("part" : Str), 3)]) (iq_ C.cs (v_ C.cs)) (fun _ B _ => (tl_ B)) (fun _ B _ => tsn_) (fun _ B _ => (f_ B (D.at_ 36 223 _ (by kernel_rfl) (fun z => nomatch z)) (c_ (v_ B) n_)))))))))))
  (e1_ (ret_ (vz_ C.cs)))))
theorem w_law (C : Ct X G W N_law (defScope (top 60)) (k + 3) false) (L : Lw G) (D : Defs G k nms c) (H : Hs G k c) (T : Lt X G) (hp : G.pin = []) : SSs X G W (defBody (top 60)) (b_law c) :=
  (e_ (for_' C (ir1_ C.cs (L.f_range) (c_ (b_ C.cs (max_ C.cs) (L.f_max) (c_ ki_ (c_ (b_ C.cs (min_ C.cs) (L.f_min) (c_ ki_ (c_ (b_ C.cs (len_ C.cs) (L.f_len) (c_ (v_ C.cs) n_)) n_))) n_))) n_)) (tl_ C.cs) (e_ (set_ C (f_ C.cs (D.at_ 21 18 _ (by kernel_rfl) (fun z => nomatch z)) (c_ (v_ C.cs) (c_ (v_ C.cs) n_))))
  (e_ (set_ C (f_ C.cs (D.at_ 31 41 _ (by kernel_rfl) (fun z => nomatch z)) (c_ (v_ C.cs) (c_ ki_ n_))))
  (e_ (set_ C (join_ C.cs ks_ (f_ C.cs (D.at_ 37 224 _ (by kernel_rfl) (fun z => nomatch z)) (c_ (v_ C.cs) n_))))
  (e_ (if_ (tw_ (sw_or (tcm_ (ne_ C.cs) (f_ C.cs (D.at_ 15 216 _ (by kernel_rfl) (fun z => nomatch z)) (c_ (v_ C.cs) n_)) (v_ C.cs)) (sw_or1 (tcm_ (ne_ C.cs) (f_ C.cs (D.at_ 20 221 _ (by kernel_rfl) (fun z => nomatch z)) (c_ (v_ C.cs) n_)) (v_ C.cs))))) (e1_ (ret_ kb_)) e0_)
  (e1_ (if_ (tcm_ (ne_ C.cs) (ho_ C.cs H.h__law_error (fl_ (Nl := [("text" : Str)]) (ps := []) (cap := [6]) C.cs T hp (fun _ _ Y => (f_ Y (D.at_ 15 216 _ (by kernel_rfl) (fun z => nomatch z)) (c_ (se_lst (c_ (v_ Y) n_)) n_))) (hbind := fun _ _ _ _ _ us hl => match us, hl with | [], _ => rfl))) ks_) (e1_ (ret_ kb_)) e0_)))))))
  (e_ (set_ C ks_)
  (e_ (set_ C (se_tup (c_ ks_ (c_ (se_tup (c_ ks_ (c_ (se_tup (c_ ks_ (c_ ki_ n_))) (c_ (se_tup (c_ ks_ (c_ (se_neg ki_) n_))) n_)))) (c_ (se_tup (c_ (se_tup (c_ ks_ (c_ (se_neg ki_) n_))) n_)) (c_ (se_tup (c_ (se_tup (c_ ks_ (c_ kn_ (c_ (se_neg ki_) n_)))) (c_ (se_tup (c_ ks_ (c_ ki_ (c_ kn_ n_)))) n_))) n_))))))
  (e_ (set_ C (se_tup (c_ (se_tup (c_ ks_ (c_ (se_tup (c_ ks_ (c_ (se_neg ki_) n_))) (c_ (se_tup (c_ ks_ (c_ ki_ n_))) n_)))) (c_ (v_ C.cs) (c_ (se_tup (c_ ks_ (c_ (se_tup (c_ ks_ (c_ ki_ n_))) (c_ (se_tup n_) (c_ (se_tup n_) n_))))) (c_ (se_tup (c_ ks_ n_)) n_))))))
  (e1_ (ret_ (se_and (cm_ (eq_ C.cs) (f_ C.cs (D.at_ 20 221 _ (by kernel_rfl) (fun z => nomatch z)) (c_ (v_ C.cs) n_)) (v_ C.cs)) (se_and (cm_ (eq_ C.cs) (f_ C.cs (D.at_ 15 216 _ (by kernel_rfl) (fun z => nomatch z)) (c_ (v_ C.cs) n_)) (v_ C.cs)) (se_one (cm_ (eq_ C.cs) (f_ C.cs (D.at_ 20 221 _ (by kernel_rfl) (fun z => nomatch z)) (c_ ks_ n_)) (se_tup n_)))))))))))
end
theorem s_is_whole : FnScope N_is_whole ["value", "low", "high"] (defScope (top 20)) := ⟨rfl, rfl, rfl, by decide +kernel, rfl, by decide +kernel, by decide +kernel⟩
theorem s_is_word : FnScope N_is_word ["value", "words"] (defScope (top 21)) := ⟨rfl, rfl, rfl, by decide +kernel, rfl, by decide +kernel, by decide +kernel⟩
theorem s_is_term : FnScope N_is_term ["value"] (defScope (top 22)) := ⟨rfl, rfl, rfl, by decide +kernel, rfl, by decide +kernel, by decide +kernel⟩
theorem s_is_condition : FnScope N_is_condition ["value"] (defScope (top 23)) := ⟨rfl, rfl, rfl, by decide +kernel, rfl, by decide +kernel, by decide +kernel⟩
theorem s_is_end : FnScope N_is_end ["value"] (defScope (top 24)) := ⟨rfl, rfl, rfl, by decide +kernel, rfl, by decide +kernel, by decide +kernel⟩
theorem s_is_plain : FnScope N_is_plain ["value"] (defScope (top 25)) := ⟨rfl, rfl, rfl, by decide +kernel, rfl, by decide +kernel, by decide +kernel⟩
theorem s_is_body : FnScope N_is_body ["value"] (defScope (top 26)) := ⟨rfl, rfl, rfl, by decide +kernel, rfl, by decide +kernel, by decide +kernel⟩
theorem s_is_step : FnScope N_is_step ["value"] (defScope (top 27)) := ⟨rfl, rfl, rfl, by decide +kernel, rfl, by decide +kernel, by decide +kernel⟩
theorem s_size_of : FnScope N_size_of ["step"] (defScope (top 28)) := ⟨rfl, rfl, rfl, by decide +kernel, rfl, by decide +kernel, by decide +kernel⟩
theorem s_steps_in : FnScope N_steps_in ["script"] (defScope (top 29)) := ⟨rfl, rfl, rfl, by decide +kernel, rfl, by decide +kernel, by decide +kernel⟩
theorem s_is_script : FnScope N_is_script ["value"] (defScope (top 30)) := ⟨rfl, rfl, rfl, by decide +kernel, rfl, by decide +kernel, by decide +kernel⟩
theorem s_need_script : FnScope N_need_script ["script"] (defScope (top 31)) := ⟨rfl, rfl, rfl, by decide +kernel, rfl, by decide +kernel, by decide +kernel⟩
theorem s_part_text : FnScope N_part_text ["part"] (defScope (top 33)) := ⟨rfl, rfl, rfl, by decide +kernel, rfl, by decide +kernel, by decide +kernel⟩
theorem s_line_of : FnScope N_line_of ["parts"] (defScope (top 34)) := ⟨rfl, rfl, rfl, by decide +kernel, rfl, by decide +kernel, by decide +kernel⟩
theorem s_lines_of : FnScope N_lines_of ["steps"] (defScope (top 35)) := ⟨rfl, rfl, rfl, by decide +kernel, rfl, by decide +kernel, by decide +kernel⟩
theorem s_script_text : FnScope N_script_text ["script"] (defScope (top 36)) := ⟨rfl, rfl, rfl, by decide +kernel, rfl, by decide +kernel, by decide +kernel⟩
theorem s_part_of : FnScope N_part_of ["word"] (defScope (top 37)) := ⟨rfl, rfl, rfl, by decide +kernel, rfl, by decide +kernel, by decide +kernel⟩
theorem s_parts_of : FnScope N_parts_of ["line"] (defScope (top 38)) := ⟨rfl, rfl, rfl, by decide +kernel, rfl, by decide +kernel, by decide +kernel⟩
theorem s_is_line : FnScope N_is_line ["line"] (defScope (top 39)) := ⟨rfl, rfl, rfl, by decide +kernel, rfl, by decide +kernel, by decide +kernel⟩
theorem s_steps_of : FnScope N_steps_of ["lines"] (defScope (top 40)) := ⟨rfl, rfl, rfl, by decide +kernel, rfl, by decide +kernel, by decide +kernel⟩
theorem s_read_script : FnScope N_read_script ["value"] (defScope (top 41)) := ⟨rfl, rfl, rfl, by decide +kernel, rfl, by decide +kernel, by decide +kernel⟩
theorem s__law_vat : FnScope N__law_vat ["script", "k"] (defScope (top 43)) := ⟨rfl, rfl, rfl, by decide +kernel, rfl, by decide +kernel, by decide +kernel⟩
theorem s__law_under : FnScope N__law_under ["vat", "many"] (defScope (top 44)) := ⟨rfl, rfl, rfl, by decide +kernel, rfl, by decide +kernel, by decide +kernel⟩
theorem s__law_some : FnScope N__law_some ["vat", "things"] (defScope (top 45)) := ⟨rfl, rfl, rfl, by decide +kernel, rfl, by decide +kernel, by decide +kernel⟩
theorem s__law_is_whole : FnScope N__law_is_whole ["value", "low", "high"] (defScope (top 46)) := ⟨rfl, rfl, rfl, by decide +kernel, rfl, by decide +kernel, by decide +kernel⟩
theorem s__law_is_term : FnScope N__law_is_term ["value"] (defScope (top 47)) := ⟨rfl, rfl, rfl, by decide +kernel, rfl, by decide +kernel, by decide +kernel⟩
theorem s__law_size : FnScope N__law_size ["script"] (defScope (top 48)) := ⟨rfl, rfl, rfl, by decide +kernel, rfl, by decide +kernel, by decide +kernel⟩
theorem s__law_term : FnScope N__law_term ["vat"] (defScope (top 49)) := ⟨rfl, rfl, rfl, by decide +kernel, rfl, by decide +kernel, by decide +kernel⟩
theorem s__law_condition : FnScope N__law_condition ["vat"] (defScope (top 50)) := ⟨rfl, rfl, rfl, by decide +kernel, rfl, by decide +kernel, by decide +kernel⟩
theorem s__law_simple : FnScope N__law_simple ["vat"] (defScope (top 51)) := ⟨rfl, rfl, rfl, by decide +kernel, rfl, by decide +kernel, by decide +kernel⟩
theorem s__law_step : FnScope N__law_step ["vat"] (defScope (top 52)) := ⟨rfl, rfl, rfl, by decide +kernel, rfl, by decide +kernel, by decide +kernel⟩
theorem s__law_script : FnScope N__law_script ["vat", "most"] (defScope (top 53)) := ⟨rfl, rfl, rfl, by decide +kernel, rfl, by decide +kernel, by decide +kernel⟩
theorem s__law_numbers : FnScope N__law_numbers ["things"] (defScope (top 54)) := ⟨rfl, rfl, rfl, by decide +kernel, rfl, by decide +kernel, by decide +kernel⟩
theorem s__law_names : FnScope N__law_names ["e"] (defScope (top 55)) := ⟨rfl, rfl, rfl, by decide +kernel, rfl, by decide +kernel, by decide +kernel⟩
theorem s__law_error : FnScope N__law_error ["call"] (defScope (top 56)) := ⟨rfl, rfl, rfl, by decide +kernel, rfl, by decide +kernel, by decide +kernel⟩
theorem s__law_term_text : FnScope N__law_term_text ["term"] (defScope (top 57)) := ⟨rfl, rfl, rfl, by decide +kernel, rfl, by decide +kernel, by decide +kernel⟩
theorem s__law_word : FnScope N__law_word ["part"] (defScope (top 58)) := ⟨rfl, rfl, rfl, by decide +kernel, rfl, by decide +kernel, by decide +kernel⟩
theorem s__law_rows : FnScope N__law_rows ["steps"] (defScope (top 59)) := ⟨rfl, rfl, rfl, by decide +kernel, rfl, by decide +kernel, by decide +kernel⟩
theorem s_law : FnScope N_law ["script"] (defScope (top 60)) := ⟨rfl, rfl, rfl, by decide +kernel, rfl, by decide +kernel, by decide +kernel⟩

/-! text H18.lean -/
set_option maxHeartbeats 0
open PySem L2 TL PyProof.Rows
def cls : Nat → Str
  | 0 => "WhenError"
  | 1 => "InvalidScript"
  | 2 => "InvalidStep"
  | 3 => "InvalidFacts"
  | 4 => "InvalidFact"
  | 5 => "InvalidMoments"
  | 6 => "InvalidTerm"
  | 7 => "InvalidNumber"
  | 8 => "InvalidSeen"
  | 9 => "InvalidSpan"
  | 10 => "InvalidIndex"
  | 11 => "Impossible"
  | 12 => "NothingToUndo"
  | 13 => "TooMany"
  | 14 => "InvalidText"
  | _ => Str.empty
def meth (i j : Nat) : Stmt := match top i with
  | .ClassDef _ _ _ b _ _ _ _ _ _ _ => b.getD j (.Pass ⟨0, 0, 0, 0⟩)
  | st => st
structure Fns (G : Gm) : Prop where
  p0 : G.pin = []
  l_300 : Lk G 300 "law"
  d_0 : ∃ fd, FunD G.K "is_whole" "is_whole" (defArgs (top 20)) (defBody (top 20)) (defScope (top 20)) [] [] (G.fa 0) fd
  m_0 : G.mg "is_whole" = some (.ref (G.fa 0))
  d_1 : ∃ fd, FunD G.K "is_word" "is_word" (defArgs (top 21)) (defBody (top 21)) (defScope (top 21)) [] [] (G.fa 1) fd
  m_1 : G.mg "is_word" = some (.ref (G.fa 1))
  d_2 : ∃ fd, FunD G.K "is_term" "is_term" (defArgs (top 22)) (defBody (top 22)) (defScope (top 22)) [] [] (G.fa 2) fd
  m_2 : G.mg "is_term" = some (.ref (G.fa 2))
  d_8 : ∃ fd, FunD G.K "is_condition" "is_condition" (defArgs (top 23)) (defBody (top 23)) (defScope (top 23)) [] [] (G.fa 8) fd
  m_8 : G.mg "is_condition" = some (.ref (G.fa 8))
  d_9 : ∃ fd, FunD G.K "is_end" "is_end" (defArgs (top 24)) (defBody (top 24)) (defScope (top 24)) [] [] (G.fa 9) fd
  m_9 : G.mg "is_end" = some (.ref (G.fa 9))
  d_10 : ∃ fd, FunD G.K "is_plain" "is_plain" (defArgs (top 25)) (defBody (top 25)) (defScope (top 25)) [] [] (G.fa 10) fd
  m_10 : G.mg "is_plain" = some (.ref (G.fa 10))
  d_11 : ∃ fd, FunD G.K "is_body" "is_body" (defArgs (top 26)) (defBody (top 26)) (defScope (top 26)) [] [] (G.fa 11) fd
  m_11 : G.mg "is_body" = some (.ref (G.fa 11))
  d_12 : ∃ fd, FunD G.K "is_step" "is_step" (defArgs (top 27)) (defBody (top 27)) (defScope (top 27)) [] [] (G.fa 12) fd
  m_12 : G.mg "is_step" = some (.ref (G.fa 12))
  d_13 : ∃ fd, FunD G.K "size_of" "size_of" (defArgs (top 28)) (defBody (top 28)) (defScope (top 28)) [] [] (G.fa 13) fd
  m_13 : G.mg "size_of" = some (.ref (G.fa 13))
  d_14 : ∃ fd, FunD G.K "steps_in" "steps_in" (defArgs (top 29)) (defBody (top 29)) (defScope (top 29)) [] [] (G.fa 14) fd
  m_14 : G.mg "steps_in" = some (.ref (G.fa 14))
  d_15 : ∃ fd, FunD G.K "is_script" "is_script" (defArgs (top 30)) (defBody (top 30)) (defScope (top 30)) [] [] (G.fa 15) fd
  m_15 : G.mg "is_script" = some (.ref (G.fa 15))
  d_16 : ∃ fd, FunD G.K "need_script" "need_script" (defArgs (top 31)) (defBody (top 31)) (defScope (top 31)) [] [] (G.fa 16) fd
  m_16 : G.mg "need_script" = some (.ref (G.fa 16))
  d_213 : ∃ fd, FunD G.K "part_text" "part_text" (defArgs (top 33)) (defBody (top 33)) (defScope (top 33)) [] [] (G.fa 213) fd
  m_213 : G.mg "part_text" = some (.ref (G.fa 213))
  d_214 : ∃ fd, FunD G.K "line_of" "line_of" (defArgs (top 34)) (defBody (top 34)) (defScope (top 34)) [] [] (G.fa 214) fd
  m_214 : G.mg "line_of" = some (.ref (G.fa 214))
  d_215 : ∃ fd, FunD G.K "lines_of" "lines_of" (defArgs (top 35)) (defBody (top 35)) (defScope (top 35)) [] [] (G.fa 215) fd
  m_215 : G.mg "lines_of" = some (.ref (G.fa 215))
  d_216 : ∃ fd, FunD G.K "script_text" "script_text" (defArgs (top 36)) (defBody (top 36)) (defScope (top 36)) [] [] (G.fa 216) fd
  m_216 : G.mg "script_text" = some (.ref (G.fa 216))
  d_217 : ∃ fd, FunD G.K "part_of" "part_of" (defArgs (top 37)) (defBody (top 37)) (defScope (top 37)) [] [] (G.fa 217) fd
  m_217 : G.mg "part_of" = some (.ref (G.fa 217))
  d_218 : ∃ fd, FunD G.K "parts_of" "parts_of" (defArgs (top 38)) (defBody (top 38)) (defScope (top 38)) [] [] (G.fa 218) fd
  m_218 : G.mg "parts_of" = some (.ref (G.fa 218))
  d_219 : ∃ fd, FunD G.K "is_line" "is_line" (defArgs (top 39)) (defBody (top 39)) (defScope (top 39)) [] [] (G.fa 219) fd
  m_219 : G.mg "is_line" = some (.ref (G.fa 219))
  d_220 : ∃ fd, FunD G.K "steps_of" "steps_of" (defArgs (top 40)) (defBody (top 40)) (defScope (top 40)) [] [] (G.fa 220) fd
  m_220 : G.mg "steps_of" = some (.ref (G.fa 220))
  d_221 : ∃ fd, FunD G.K "read_script" "read_script" (defArgs (top 41)) (defBody (top 41)) (defScope (top 41)) [] [] (G.fa 221) fd
  m_221 : G.mg "read_script" = some (.ref (G.fa 221))
  d_18 : ∃ fd, FunD G.K "_law_vat" "_law_vat" (defArgs (top 43)) (defBody (top 43)) (defScope (top 43)) [] [] (G.fa 18) fd
  m_18 : G.mg "_law_vat" = some (.ref (G.fa 18))
  d_19 : ∃ fd, FunD G.K "_law_under" "_law_under" (defArgs (top 44)) (defBody (top 44)) (defScope (top 44)) [] [] (G.fa 19) fd
  m_19 : G.mg "_law_under" = some (.ref (G.fa 19))
  d_20 : ∃ fd, FunD G.K "_law_some" "_law_some" (defArgs (top 45)) (defBody (top 45)) (defScope (top 45)) [] [] (G.fa 20) fd
  m_20 : G.mg "_law_some" = some (.ref (G.fa 20))
  d_21 : ∃ fd, FunD G.K "_law_is_whole" "_law_is_whole" (defArgs (top 46)) (defBody (top 46)) (defScope (top 46)) [] [] (G.fa 21) fd
  m_21 : G.mg "_law_is_whole" = some (.ref (G.fa 21))
  d_24 : ∃ fd, FunD G.K "_law_is_term" "_law_is_term" (defArgs (top 47)) (defBody (top 47)) (defScope (top 47)) [] [] (G.fa 24) fd
  m_24 : G.mg "_law_is_term" = some (.ref (G.fa 24))
  d_33 : ∃ fd, FunD G.K "_law_size" "_law_size" (defArgs (top 48)) (defBody (top 48)) (defScope (top 48)) [] [] (G.fa 33) fd
  m_33 : G.mg "_law_size" = some (.ref (G.fa 33))
  d_35 : ∃ fd, FunD G.K "_law_term" "_law_term" (defArgs (top 49)) (defBody (top 49)) (defScope (top 49)) [] [] (G.fa 35) fd
  m_35 : G.mg "_law_term" = some (.ref (G.fa 35))
  d_38 : ∃ fd, FunD G.K "_law_condition" "_law_condition" (defArgs (top 50)) (defBody (top 50)) (defScope (top 50)) [] [] (G.fa 38) fd
  m_38 : G.mg "_law_condition" = some (.ref (G.fa 38))
  d_39 : ∃ fd, FunD G.K "_law_simple" "_law_simple" (defArgs (top 51)) (defBody (top 51)) (defScope (top 51)) [] [] (G.fa 39) fd
  m_39 : G.mg "_law_simple" = some (.ref (G.fa 39))
  d_40 : ∃ fd, FunD G.K "_law_step" "_law_step" (defArgs (top 52)) (defBody (top 52)) (defScope (top 52)) [] [] (G.fa 40) fd
  m_40 : G.mg "_law_step" = some (.ref (G.fa 40))
  d_41 : ∃ fd, FunD G.K "_law_script" "_law_script" (defArgs (top 53)) (defBody (top 53)) (defScope (top 53)) [] [] (G.fa 41) fd
  m_41 : G.mg "_law_script" = some (.ref (G.fa 41))
  d_42 : ∃ fd, FunD G.K "_law_numbers" "_law_numbers" (defArgs (top 54)) (defBody (top 54)) (defScope (top 54)) [] [] (G.fa 42) fd
  m_42 : G.mg "_law_numbers" = some (.ref (G.fa 42))
  d_44 : ∃ fd, FunD G.K "_law_names" "_law_names" (defArgs (top 55)) (defBody (top 55)) (defScope (top 55)) [] [] (G.fa 44) fd
  m_44 : G.mg "_law_names" = some (.ref (G.fa 44))
  d_45 : ∃ fd, FunD G.K "_law_error" "_law_error" (defArgs (top 56)) (defBody (top 56)) (defScope (top 56)) [] [] (G.fa 45) fd
  m_45 : G.mg "_law_error" = some (.ref (G.fa 45))
  d_222 : ∃ fd, FunD G.K "_law_term_text" "_law_term_text" (defArgs (top 57)) (defBody (top 57)) (defScope (top 57)) [] [] (G.fa 222) fd
  m_222 : G.mg "_law_term_text" = some (.ref (G.fa 222))
  d_223 : ∃ fd, FunD G.K "_law_word" "_law_word" (defArgs (top 58)) (defBody (top 58)) (defScope (top 58)) [] [] (G.fa 223) fd
  m_223 : G.mg "_law_word" = some (.ref (G.fa 223))
  d_224 : ∃ fd, FunD G.K "_law_rows" "_law_rows" (defArgs (top 59)) (defBody (top 59)) (defScope (top 59)) [] [] (G.fa 224) fd
  m_224 : G.mg "_law_rows" = some (.ref (G.fa 224))
  d_300 : ∃ fd, FunD G.K "law" "law" (defArgs (top 60)) (defBody (top 60)) (defScope (top 60)) [] [] (G.fa 300) fd
  m_300 : G.mg "law" = some (.ref (G.fa 300))
theorem z_ok {G : Gm} (F : Fns G) : ∀ (j i : Nat) (x : Str), nms[j]? = some (i, x) → GDef G (rm 0) x i (callD T 0 i)
  | 0, _, _, h => by
    obtain ⟨fd, f⟩ := F.d_0
    obtain ⟨rfl, rfl⟩ : 0 = _ ∧ ("is_whole" : Str) = _ := Prod.mk.inj (Option.some.inj h)
    exact def_0 F.m_0 f.kp (f.bindsN (ps := ["value", "low", "high"]) fun _ _ _ _ _ _ us hl => match us, hl with | [_, _, _], _ => rfl) fun _ _ => rfl
  | 1, _, _, h => by
    obtain ⟨fd, f⟩ := F.d_1
    obtain ⟨rfl, rfl⟩ : 1 = _ ∧ ("is_word" : Str) = _ := Prod.mk.inj (Option.some.inj h)
    exact def_0 F.m_1 f.kp (f.bindsN (ps := ["value", "words"]) fun _ _ _ _ _ _ us hl => match us, hl with | [_, _], _ => rfl) fun _ _ => rfl
  | 2, _, _, h => by
    obtain ⟨fd, f⟩ := F.d_2
    obtain ⟨rfl, rfl⟩ : 2 = _ ∧ ("is_term" : Str) = _ := Prod.mk.inj (Option.some.inj h)
    exact def_0 F.m_2 f.kp (f.bindsN (ps := ["value"]) fun _ _ _ _ _ _ us hl => match us, hl with | [_], _ => rfl) fun _ _ => rfl
  | 3, _, _, h => by
    obtain ⟨fd, f⟩ := F.d_8
    obtain ⟨rfl, rfl⟩ : 8 = _ ∧ ("is_condition" : Str) = _ := Prod.mk.inj (Option.some.inj h)
    exact def_0 F.m_8 f.kp (f.bindsN (ps := ["value"]) fun _ _ _ _ _ _ us hl => match us, hl with | [_], _ => rfl) fun _ _ => rfl
  | 4, _, _, h => by
    obtain ⟨fd, f⟩ := F.d_9
    obtain ⟨rfl, rfl⟩ : 9 = _ ∧ ("is_end" : Str) = _ := Prod.mk.inj (Option.some.inj h)
    exact def_0 F.m_9 f.kp (f.bindsN (ps := ["value"]) fun _ _ _ _ _ _ us hl => match us, hl with | [_], _ => rfl) fun _ _ => rfl
  | 5, _, _, h => by
    obtain ⟨fd, f⟩ := F.d_10
    obtain ⟨rfl, rfl⟩ : 10 = _ ∧ ("is_plain" : Str) = _ := Prod.mk.inj (Option.some.inj h)
    exact def_0 F.m_10 f.kp (f.bindsN (ps := ["value"]) fun _ _ _ _ _ _ us hl => match us, hl with | [_], _ => rfl) fun _ _ => rfl
  | 6, _, _, h => by
    obtain ⟨fd, f⟩ := F.d_11
    obtain ⟨rfl, rfl⟩ : 11 = _ ∧ ("is_body" : Str) = _ := Prod.mk.inj (Option.some.inj h)
    exact def_0 F.m_11 f.kp (f.bindsN (ps := ["value"]) fun _ _ _ _ _ _ us hl => match us, hl with | [_], _ => rfl) fun _ _ => rfl
  | 7, _, _, h => by
    obtain ⟨fd, f⟩ := F.d_12
    obtain ⟨rfl, rfl⟩ : 12 = _ ∧ ("is_step" : Str) = _ := Prod.mk.inj (Option.some.inj h)
    exact def_0 F.m_12 f.kp (f.bindsN (ps := ["value"]) fun _ _ _ _ _ _ us hl => match us, hl with | [_], _ => rfl) fun _ _ => rfl
  | 8, _, _, h => by
    obtain ⟨fd, f⟩ := F.d_13
    obtain ⟨rfl, rfl⟩ : 13 = _ ∧ ("size_of" : Str) = _ := Prod.mk.inj (Option.some.inj h)
    exact def_0 F.m_13 f.kp (f.bindsN (ps := ["step"]) fun _ _ _ _ _ _ us hl => match us, hl with | [_], _ => rfl) fun _ _ => rfl
  | 9, _, _, h => by
    obtain ⟨fd, f⟩ := F.d_14
    obtain ⟨rfl, rfl⟩ : 14 = _ ∧ ("steps_in" : Str) = _ := Prod.mk.inj (Option.some.inj h)
    exact def_0 F.m_14 f.kp (f.bindsN (ps := ["script"]) fun _ _ _ _ _ _ us hl => match us, hl with | [_], _ => rfl) fun _ _ => rfl
  | 10, _, _, h => by
    obtain ⟨fd, f⟩ := F.d_15
    obtain ⟨rfl, rfl⟩ : 15 = _ ∧ ("is_script" : Str) = _ := Prod.mk.inj (Option.some.inj h)
    exact def_0 F.m_15 f.kp (f.bindsN (ps := ["value"]) fun _ _ _ _ _ _ us hl => match us, hl with | [_], _ => rfl) fun _ _ => rfl
  | 11, _, _, h => by
    obtain ⟨fd, f⟩ := F.d_16
    obtain ⟨rfl, rfl⟩ : 16 = _ ∧ ("need_script" : Str) = _ := Prod.mk.inj (Option.some.inj h)
    exact def_0 F.m_16 f.kp (f.bindsN (ps := ["script"]) fun _ _ _ _ _ _ us hl => match us, hl with | [_], _ => rfl) fun _ _ => rfl
  | 12, _, _, h => by
    obtain ⟨fd, f⟩ := F.d_213
    obtain ⟨rfl, rfl⟩ : 213 = _ ∧ ("part_text" : Str) = _ := Prod.mk.inj (Option.some.inj h)
    exact def_0 F.m_213 f.kp (f.bindsN (ps := ["part"]) fun _ _ _ _ _ _ us hl => match us, hl with | [_], _ => rfl) fun _ _ => rfl
  | 13, _, _, h => by
    obtain ⟨fd, f⟩ := F.d_214
    obtain ⟨rfl, rfl⟩ : 214 = _ ∧ ("line_of" : Str) = _ := Prod.mk.inj (Option.some.inj h)
    exact def_0 F.m_214 f.kp (f.bindsN (ps := ["parts"]) fun _ _ _ _ _ _ us hl => match us, hl with | [_], _ => rfl) fun _ _ => rfl
  | 14, _, _, h => by
    obtain ⟨fd, f⟩ := F.d_215
    obtain ⟨rfl, rfl⟩ : 215 = _ ∧ ("lines_of" : Str) = _ := Prod.mk.inj (Option.some.inj h)
    exact def_0 F.m_215 f.kp (f.bindsN (ps := ["steps"]) fun _ _ _ _ _ _ us hl => match us, hl with | [_], _ => rfl) fun _ _ => rfl
  | 15, _, _, h => by
    obtain ⟨fd, f⟩ := F.d_216
    obtain ⟨rfl, rfl⟩ : 216 = _ ∧ ("script_text" : Str) = _ := Prod.mk.inj (Option.some.inj h)
    exact def_0 F.m_216 f.kp (f.bindsN (ps := ["script"]) fun _ _ _ _ _ _ us hl => match us, hl with | [_], _ => rfl) fun _ _ => rfl
  | 16, _, _, h => by
    obtain ⟨fd, f⟩ := F.d_217
    obtain ⟨rfl, rfl⟩ : 217 = _ ∧ ("part_of" : Str) = _ := Prod.mk.inj (Option.some.inj h)
    exact def_0 F.m_217 f.kp (f.bindsN (ps := ["word"]) fun _ _ _ _ _ _ us hl => match us, hl with | [_], _ => rfl) fun _ _ => rfl
  | 17, _, _, h => by
    obtain ⟨fd, f⟩ := F.d_218
    obtain ⟨rfl, rfl⟩ : 218 = _ ∧ ("parts_of" : Str) = _ := Prod.mk.inj (Option.some.inj h)
    exact def_0 F.m_218 f.kp (f.bindsN (ps := ["line"]) fun _ _ _ _ _ _ us hl => match us, hl with | [_], _ => rfl) fun _ _ => rfl
  | 18, _, _, h => by
    obtain ⟨fd, f⟩ := F.d_219
    obtain ⟨rfl, rfl⟩ : 219 = _ ∧ ("is_line" : Str) = _ := Prod.mk.inj (Option.some.inj h)
    exact def_0 F.m_219 f.kp (f.bindsN (ps := ["line"]) fun _ _ _ _ _ _ us hl => match us, hl with | [_], _ => rfl) fun _ _ => rfl
  | 19, _, _, h => by
    obtain ⟨fd, f⟩ := F.d_220
    obtain ⟨rfl, rfl⟩ : 220 = _ ∧ ("steps_of" : Str) = _ := Prod.mk.inj (Option.some.inj h)
    exact def_0 F.m_220 f.kp (f.bindsN (ps := ["lines"]) fun _ _ _ _ _ _ us hl => match us, hl with | [_], _ => rfl) fun _ _ => rfl
  | 20, _, _, h => by
    obtain ⟨fd, f⟩ := F.d_221
    obtain ⟨rfl, rfl⟩ : 221 = _ ∧ ("read_script" : Str) = _ := Prod.mk.inj (Option.some.inj h)
    exact def_0 F.m_221 f.kp (f.bindsN (ps := ["value"]) fun _ _ _ _ _ _ us hl => match us, hl with | [_], _ => rfl) fun _ _ => rfl
  | 21, _, _, h => by
    obtain ⟨fd, f⟩ := F.d_18
    obtain ⟨rfl, rfl⟩ : 18 = _ ∧ ("_law_vat" : Str) = _ := Prod.mk.inj (Option.some.inj h)
    exact def_0 F.m_18 f.kp (f.bindsN (ps := ["script", "k"]) fun _ _ _ _ _ _ us hl => match us, hl with | [_, _], _ => rfl) fun _ _ => rfl
  | 22, _, _, h => by
    obtain ⟨fd, f⟩ := F.d_19
    obtain ⟨rfl, rfl⟩ : 19 = _ ∧ ("_law_under" : Str) = _ := Prod.mk.inj (Option.some.inj h)
    exact def_0 F.m_19 f.kp (f.bindsN (ps := ["vat", "many"]) fun _ _ _ _ _ _ us hl => match us, hl with | [_, _], _ => rfl) fun _ _ => rfl
  | 23, _, _, h => by
    obtain ⟨fd, f⟩ := F.d_20
    obtain ⟨rfl, rfl⟩ : 20 = _ ∧ ("_law_some" : Str) = _ := Prod.mk.inj (Option.some.inj h)
    exact def_0 F.m_20 f.kp (f.bindsN (ps := ["vat", "things"]) fun _ _ _ _ _ _ us hl => match us, hl with | [_, _], _ => rfl) fun _ _ => rfl
  | 24, _, _, h => by
    obtain ⟨fd, f⟩ := F.d_21
    obtain ⟨rfl, rfl⟩ : 21 = _ ∧ ("_law_is_whole" : Str) = _ := Prod.mk.inj (Option.some.inj h)
    exact def_0 F.m_21 f.kp (f.bindsN (ps := ["value", "low", "high"]) fun _ _ _ _ _ _ us hl => match us, hl with | [_, _, _], _ => rfl) fun _ _ => rfl
  | 25, _, _, h => by
    obtain ⟨fd, f⟩ := F.d_24
    obtain ⟨rfl, rfl⟩ : 24 = _ ∧ ("_law_is_term" : Str) = _ := Prod.mk.inj (Option.some.inj h)
    exact def_0 F.m_24 f.kp (f.bindsN (ps := ["value"]) fun _ _ _ _ _ _ us hl => match us, hl with | [_], _ => rfl) fun _ _ => rfl
  | 26, _, _, h => by
    obtain ⟨fd, f⟩ := F.d_33
    obtain ⟨rfl, rfl⟩ : 33 = _ ∧ ("_law_size" : Str) = _ := Prod.mk.inj (Option.some.inj h)
    exact def_0 F.m_33 f.kp (f.bindsN (ps := ["script"]) fun _ _ _ _ _ _ us hl => match us, hl with | [_], _ => rfl) fun _ _ => rfl
  | 27, _, _, h => by
    obtain ⟨fd, f⟩ := F.d_35
    obtain ⟨rfl, rfl⟩ : 35 = _ ∧ ("_law_term" : Str) = _ := Prod.mk.inj (Option.some.inj h)
    exact def_0 F.m_35 f.kp (f.bindsN (ps := ["vat"]) fun _ _ _ _ _ _ us hl => match us, hl with | [_], _ => rfl) fun _ _ => rfl
  | 28, _, _, h => by
    obtain ⟨fd, f⟩ := F.d_38
    obtain ⟨rfl, rfl⟩ : 38 = _ ∧ ("_law_condition" : Str) = _ := Prod.mk.inj (Option.some.inj h)
    exact def_0 F.m_38 f.kp (f.bindsN (ps := ["vat"]) fun _ _ _ _ _ _ us hl => match us, hl with | [_], _ => rfl) fun _ _ => rfl
  | 29, _, _, h => by
    obtain ⟨fd, f⟩ := F.d_39
    obtain ⟨rfl, rfl⟩ : 39 = _ ∧ ("_law_simple" : Str) = _ := Prod.mk.inj (Option.some.inj h)
    exact def_0 F.m_39 f.kp (f.bindsN (ps := ["vat"]) fun _ _ _ _ _ _ us hl => match us, hl with | [_], _ => rfl) fun _ _ => rfl
  | 30, _, _, h => by
    obtain ⟨fd, f⟩ := F.d_40
    obtain ⟨rfl, rfl⟩ : 40 = _ ∧ ("_law_step" : Str) = _ := Prod.mk.inj (Option.some.inj h)
    exact def_0 F.m_40 f.kp (f.bindsN (ps := ["vat"]) fun _ _ _ _ _ _ us hl => match us, hl with | [_], _ => rfl) fun _ _ => rfl
  | 31, _, _, h => by
    obtain ⟨fd, f⟩ := F.d_41
    obtain ⟨rfl, rfl⟩ : 41 = _ ∧ ("_law_script" : Str) = _ := Prod.mk.inj (Option.some.inj h)
    exact def_0 F.m_41 f.kp (f.bindsN (ps := ["vat", "most"]) fun _ _ _ _ _ _ us hl => match us, hl with | [_, _], _ => rfl) fun _ _ => rfl
  | 32, _, _, h => by
    obtain ⟨fd, f⟩ := F.d_42
    obtain ⟨rfl, rfl⟩ : 42 = _ ∧ ("_law_numbers" : Str) = _ := Prod.mk.inj (Option.some.inj h)
    exact def_0 F.m_42 f.kp (f.bindsN (ps := ["things"]) fun _ _ _ _ _ _ us hl => match us, hl with | [_], _ => rfl) fun _ _ => rfl
  | 33, _, _, h => by
    obtain ⟨fd, f⟩ := F.d_44
    obtain ⟨rfl, rfl⟩ : 44 = _ ∧ ("_law_names" : Str) = _ := Prod.mk.inj (Option.some.inj h)
    exact def_0 F.m_44 f.kp (f.bindsN (ps := ["e"]) fun _ _ _ _ _ _ us hl => match us, hl with | [_], _ => rfl) fun _ _ => rfl
  | 34, _, _, h => by
    obtain ⟨fd, f⟩ := F.d_45
    obtain ⟨rfl, rfl⟩ : 45 = _ ∧ ("_law_error" : Str) = _ := Prod.mk.inj (Option.some.inj h)
    exact def_0 F.m_45 f.kp (f.bindsN (ps := ["call"]) fun _ _ _ _ _ _ us hl => match us, hl with | [_], _ => rfl) fun _ _ => rfl
  | 35, _, _, h => by
    obtain ⟨fd, f⟩ := F.d_222
    obtain ⟨rfl, rfl⟩ : 222 = _ ∧ ("_law_term_text" : Str) = _ := Prod.mk.inj (Option.some.inj h)
    exact def_0 F.m_222 f.kp (f.bindsN (ps := ["term"]) fun _ _ _ _ _ _ us hl => match us, hl with | [_], _ => rfl) fun _ _ => rfl
  | 36, _, _, h => by
    obtain ⟨fd, f⟩ := F.d_223
    obtain ⟨rfl, rfl⟩ : 223 = _ ∧ ("_law_word" : Str) = _ := Prod.mk.inj (Option.some.inj h)
    exact def_0 F.m_223 f.kp (f.bindsN (ps := ["part"]) fun _ _ _ _ _ _ us hl => match us, hl with | [_], _ => rfl) fun _ _ => rfl
  | 37, _, _, h => by
    obtain ⟨fd, f⟩ := F.d_224
    obtain ⟨rfl, rfl⟩ : 224 = _ ∧ ("_law_rows" : Str) = _ := Prod.mk.inj (Option.some.inj h)
    exact def_0 F.m_224 f.kp (f.bindsN (ps := ["steps"]) fun _ _ _ _ _ _ us hl => match us, hl with | [_], _ => rfl) fun _ _ => rfl
  | 38, _, _, h => by
    obtain ⟨fd, f⟩ := F.d_300
    obtain ⟨rfl, rfl⟩ : 300 = _ ∧ ("law" : Str) = _ := Prod.mk.inj (Option.some.inj h)
    exact def_0 F.m_300 f.kp (f.bindsN (ps := ["script"]) fun _ _ _ _ _ _ us hl => match us, hl with | [_], _ => rfl) fun _ _ => rfl
  | _ + 39, _, _, h => nomatch h
theorem z_okH {G : Gm} (F : Fns G) : ∀ (j i : Nat) (x : Str), nms[j]? = some (i, x) → hotSet i = true → GDefH G (rm 0) x i (callD T 0 i)
  | 0, _, _, h => fun z => by
    obtain ⟨rfl, rfl⟩ : 0 = _ ∧ ("is_whole" : Str) = _ := Prod.mk.inj (Option.some.inj h)
    cases z
  | 1, _, _, h => fun z => by
    obtain ⟨rfl, rfl⟩ : 1 = _ ∧ ("is_word" : Str) = _ := Prod.mk.inj (Option.some.inj h)
    cases z
  | 2, _, _, h => fun z => by
    obtain ⟨rfl, rfl⟩ : 2 = _ ∧ ("is_term" : Str) = _ := Prod.mk.inj (Option.some.inj h)
    cases z
  | 3, _, _, h => fun z => by
    obtain ⟨rfl, rfl⟩ : 8 = _ ∧ ("is_condition" : Str) = _ := Prod.mk.inj (Option.some.inj h)
    cases z
  | 4, _, _, h => fun z => by
    obtain ⟨rfl, rfl⟩ : 9 = _ ∧ ("is_end" : Str) = _ := Prod.mk.inj (Option.some.inj h)
    cases z
  | 5, _, _, h => fun z => by
    obtain ⟨rfl, rfl⟩ : 10 = _ ∧ ("is_plain" : Str) = _ := Prod.mk.inj (Option.some.inj h)
    cases z
  | 6, _, _, h => fun z => by
    obtain ⟨rfl, rfl⟩ : 11 = _ ∧ ("is_body" : Str) = _ := Prod.mk.inj (Option.some.inj h)
    cases z
  | 7, _, _, h => fun z => by
    obtain ⟨rfl, rfl⟩ : 12 = _ ∧ ("is_step" : Str) = _ := Prod.mk.inj (Option.some.inj h)
    cases z
  | 8, _, _, h => fun z => by
    obtain ⟨rfl, rfl⟩ : 13 = _ ∧ ("size_of" : Str) = _ := Prod.mk.inj (Option.some.inj h)
    cases z
  | 9, _, _, h => fun z => by
    obtain ⟨rfl, rfl⟩ : 14 = _ ∧ ("steps_in" : Str) = _ := Prod.mk.inj (Option.some.inj h)
    cases z
  | 10, _, _, h => fun z => by
    obtain ⟨rfl, rfl⟩ : 15 = _ ∧ ("is_script" : Str) = _ := Prod.mk.inj (Option.some.inj h)
    cases z
  | 11, _, _, h => fun z => by
    obtain ⟨rfl, rfl⟩ : 16 = _ ∧ ("need_script" : Str) = _ := Prod.mk.inj (Option.some.inj h)
    cases z
  | 12, _, _, h => fun z => by
    obtain ⟨rfl, rfl⟩ : 213 = _ ∧ ("part_text" : Str) = _ := Prod.mk.inj (Option.some.inj h)
    cases z
  | 13, _, _, h => fun z => by
    obtain ⟨rfl, rfl⟩ : 214 = _ ∧ ("line_of" : Str) = _ := Prod.mk.inj (Option.some.inj h)
    cases z
  | 14, _, _, h => fun z => by
    obtain ⟨rfl, rfl⟩ : 215 = _ ∧ ("lines_of" : Str) = _ := Prod.mk.inj (Option.some.inj h)
    cases z
  | 15, _, _, h => fun z => by
    obtain ⟨rfl, rfl⟩ : 216 = _ ∧ ("script_text" : Str) = _ := Prod.mk.inj (Option.some.inj h)
    cases z
  | 16, _, _, h => fun z => by
    obtain ⟨rfl, rfl⟩ : 217 = _ ∧ ("part_of" : Str) = _ := Prod.mk.inj (Option.some.inj h)
    cases z
  | 17, _, _, h => fun z => by
    obtain ⟨rfl, rfl⟩ : 218 = _ ∧ ("parts_of" : Str) = _ := Prod.mk.inj (Option.some.inj h)
    cases z
  | 18, _, _, h => fun z => by
    obtain ⟨rfl, rfl⟩ : 219 = _ ∧ ("is_line" : Str) = _ := Prod.mk.inj (Option.some.inj h)
    cases z
  | 19, _, _, h => fun z => by
    obtain ⟨rfl, rfl⟩ : 220 = _ ∧ ("steps_of" : Str) = _ := Prod.mk.inj (Option.some.inj h)
    cases z
  | 20, _, _, h => fun z => by
    obtain ⟨rfl, rfl⟩ : 221 = _ ∧ ("read_script" : Str) = _ := Prod.mk.inj (Option.some.inj h)
    cases z
  | 21, _, _, h => fun z => by
    obtain ⟨rfl, rfl⟩ : 18 = _ ∧ ("_law_vat" : Str) = _ := Prod.mk.inj (Option.some.inj h)
    cases z
  | 22, _, _, h => fun z => by
    obtain ⟨rfl, rfl⟩ : 19 = _ ∧ ("_law_under" : Str) = _ := Prod.mk.inj (Option.some.inj h)
    cases z
  | 23, _, _, h => fun z => by
    obtain ⟨rfl, rfl⟩ : 20 = _ ∧ ("_law_some" : Str) = _ := Prod.mk.inj (Option.some.inj h)
    cases z
  | 24, _, _, h => fun z => by
    obtain ⟨rfl, rfl⟩ : 21 = _ ∧ ("_law_is_whole" : Str) = _ := Prod.mk.inj (Option.some.inj h)
    cases z
  | 25, _, _, h => fun z => by
    obtain ⟨rfl, rfl⟩ : 24 = _ ∧ ("_law_is_term" : Str) = _ := Prod.mk.inj (Option.some.inj h)
    cases z
  | 26, _, _, h => fun z => by
    obtain ⟨rfl, rfl⟩ : 33 = _ ∧ ("_law_size" : Str) = _ := Prod.mk.inj (Option.some.inj h)
    cases z
  | 27, _, _, h => fun z => by
    obtain ⟨rfl, rfl⟩ : 35 = _ ∧ ("_law_term" : Str) = _ := Prod.mk.inj (Option.some.inj h)
    cases z
  | 28, _, _, h => fun z => by
    obtain ⟨rfl, rfl⟩ : 38 = _ ∧ ("_law_condition" : Str) = _ := Prod.mk.inj (Option.some.inj h)
    cases z
  | 29, _, _, h => fun z => by
    obtain ⟨rfl, rfl⟩ : 39 = _ ∧ ("_law_simple" : Str) = _ := Prod.mk.inj (Option.some.inj h)
    cases z
  | 30, _, _, h => fun z => by
    obtain ⟨rfl, rfl⟩ : 40 = _ ∧ ("_law_step" : Str) = _ := Prod.mk.inj (Option.some.inj h)
    cases z
  | 31, _, _, h => fun z => by
    obtain ⟨rfl, rfl⟩ : 41 = _ ∧ ("_law_script" : Str) = _ := Prod.mk.inj (Option.some.inj h)
    cases z
  | 32, _, _, h => fun z => by
    obtain ⟨rfl, rfl⟩ : 42 = _ ∧ ("_law_numbers" : Str) = _ := Prod.mk.inj (Option.some.inj h)
    cases z
  | 33, _, _, h => fun z => by
    obtain ⟨rfl, rfl⟩ : 44 = _ ∧ ("_law_names" : Str) = _ := Prod.mk.inj (Option.some.inj h)
    cases z
  | 34, _, _, h => fun z => by
    obtain ⟨rfl, rfl⟩ : 45 = _ ∧ ("_law_error" : Str) = _ := Prod.mk.inj (Option.some.inj h)
    cases z
  | 35, _, _, h => fun z => by
    obtain ⟨rfl, rfl⟩ : 222 = _ ∧ ("_law_term_text" : Str) = _ := Prod.mk.inj (Option.some.inj h)
    cases z
  | 36, _, _, h => fun z => by
    obtain ⟨rfl, rfl⟩ : 223 = _ ∧ ("_law_word" : Str) = _ := Prod.mk.inj (Option.some.inj h)
    cases z
  | 37, _, _, h => fun z => by
    obtain ⟨rfl, rfl⟩ : 224 = _ ∧ ("_law_rows" : Str) = _ := Prod.mk.inj (Option.some.inj h)
    cases z
  | 38, _, _, h => fun z => by
    obtain ⟨rfl, rfl⟩ : 300 = _ ∧ ("law" : Str) = _ := Prod.mk.inj (Option.some.inj h)
    cases z
  | _ + 39, _, _, h => nomatch h
theorem hs_ok {G : Gm} {k : Nat} (L : Lw G) (F : Fns G) (D : Defs G (rm k) nms (callD T k)) : Hs G (rm k) (callD T k) := by
  have n__law_names : GNm G (rm k + 1) "_law_names" 44 (x__law_names (callD T k)) := by
    obtain ⟨fd, f⟩ := F.d_44
    exact ndef_ok (f := fun e => ⟨1, 5, b__law_names (callD T k) e⟩) f F.m_44 (f.bindsN (ps := ["e"]) fun _ _ _ _ _ _ us hl => match us, hl with | [_], _ => rfl) s__law_names (fun _ => rfl) fun X W a iv e hs C E => w__law_names C (L.up hs) (D.up hs) E
  have h__law_error : GHo G (rm k + 1) (rm k + 1 + 1) "_law_error" 45 (h__law_error (callD T k)) := by
    obtain ⟨fd, f⟩ := F.d_45
    exact hdef_ok (f := fun g => ⟨1, 2, b__law_error (callD T k) g⟩) f F.m_45 (f.bindsN (ps := ["call"]) fun _ _ _ _ _ _ us hl => match us, hl with | [_], _ => rfl) s__law_error (fun _ => rfl) (fun _ => rfl) (j := 0) rfl rfl rfl (by decide) fun X W g iv deed hs C Q => w__law_error C (L.up hs) (D.up hs) (n__law_names.up hs) Q
  exact ⟨n__law_names, h__law_error⟩
theorem p_ok {G : Gm} {k : Nat} (L : Lw G) (F : Fns G) (D : Defs G (rm k) nms (callD T k)) (H : Hs G (rm k) (callD T k)) : ∀ (j i : Nat) (x : Str), nms[j]? = some (i, x) → GDef G (rm (k + 1)) x i (callD T (k + 1) i)
  | 0, _, _, h => by
    obtain ⟨fd, f⟩ := F.d_0
    obtain ⟨rfl, rfl⟩ : 0 = _ ∧ ("is_whole" : Str) = _ := Prod.mk.inj (Option.some.inj h)
    exact def_ok (f := T k (callD T k) 0) F.p0 f F.m_0 (f.bindsN (ps := ["value", "low", "high"]) fun _ _ _ _ _ _ us hl => match us, hl with | [_, _, _], _ => rfl) s_is_whole rfl rfl rfl fun X W C => w_is_whole C L D
  | 1, _, _, h => by
    obtain ⟨fd, f⟩ := F.d_1
    obtain ⟨rfl, rfl⟩ : 1 = _ ∧ ("is_word" : Str) = _ := Prod.mk.inj (Option.some.inj h)
    exact def_ok (f := T k (callD T k) 1) F.p0 f F.m_1 (f.bindsN (ps := ["value", "words"]) fun _ _ _ _ _ _ us hl => match us, hl with | [_, _], _ => rfl) s_is_word rfl rfl rfl fun X W C => w_is_word C L D
  | 2, _, _, h => by
    obtain ⟨fd, f⟩ := F.d_2
    obtain ⟨rfl, rfl⟩ : 2 = _ ∧ ("is_term" : Str) = _ := Prod.mk.inj (Option.some.inj h)
    exact def_ok (f := T k (callD T k) 2) F.p0 f F.m_2 (f.bindsN (ps := ["value"]) fun _ _ _ _ _ _ us hl => match us, hl with | [_], _ => rfl) s_is_term rfl rfl rfl fun X W C => w_is_term C L D
  | 3, _, _, h => by
    obtain ⟨fd, f⟩ := F.d_8
    obtain ⟨rfl, rfl⟩ : 8 = _ ∧ ("is_condition" : Str) = _ := Prod.mk.inj (Option.some.inj h)
    exact def_ok (f := T k (callD T k) 8) F.p0 f F.m_8 (f.bindsN (ps := ["value"]) fun _ _ _ _ _ _ us hl => match us, hl with | [_], _ => rfl) s_is_condition rfl rfl rfl fun X W C => w_is_condition C L D
  | 4, _, _, h => by
    obtain ⟨fd, f⟩ := F.d_9
    obtain ⟨rfl, rfl⟩ : 9 = _ ∧ ("is_end" : Str) = _ := Prod.mk.inj (Option.some.inj h)
    exact def_ok (f := T k (callD T k) 9) F.p0 f F.m_9 (f.bindsN (ps := ["value"]) fun _ _ _ _ _ _ us hl => match us, hl with | [_], _ => rfl) s_is_end rfl rfl rfl fun X W C => w_is_end C L D
  | 5, _, _, h => by
    obtain ⟨fd, f⟩ := F.d_10
    obtain ⟨rfl, rfl⟩ : 10 = _ ∧ ("is_plain" : Str) = _ := Prod.mk.inj (Option.some.inj h)
    exact def_ok (f := T k (callD T k) 10) F.p0 f F.m_10 (f.bindsN (ps := ["value"]) fun _ _ _ _ _ _ us hl => match us, hl with | [_], _ => rfl) s_is_plain rfl rfl rfl fun X W C => w_is_plain C L D
  | 6, _, _, h => by
    obtain ⟨fd, f⟩ := F.d_11
    obtain ⟨rfl, rfl⟩ : 11 = _ ∧ ("is_body" : Str) = _ := Prod.mk.inj (Option.some.inj h)
    exact def_ok (f := T k (callD T k) 11) F.p0 f F.m_11 (f.bindsN (ps := ["value"]) fun _ _ _ _ _ _ us hl => match us, hl with | [_], _ => rfl) s_is_body rfl rfl rfl fun X W C => w_is_body C L D
  | 7, _, _, h => by
    obtain ⟨fd, f⟩ := F.d_12
    obtain ⟨rfl, rfl⟩ : 12 = _ ∧ ("is_step" : Str) = _ := Prod.mk.inj (Option.some.inj h)
    exact def_ok (f := T k (callD T k) 12) F.p0 f F.m_12 (f.bindsN (ps := ["value"]) fun _ _ _ _ _ _ us hl => match us, hl with | [_], _ => rfl) s_is_step rfl rfl rfl fun X W C => w_is_step C L D
  | 8, _, _, h => by
    obtain ⟨fd, f⟩ := F.d_13
    obtain ⟨rfl, rfl⟩ : 13 = _ ∧ ("size_of" : Str) = _ := Prod.mk.inj (Option.some.inj h)
    exact def_ok (f := T k (callD T k) 13) F.p0 f F.m_13 (f.bindsN (ps := ["step"]) fun _ _ _ _ _ _ us hl => match us, hl with | [_], _ => rfl) s_size_of rfl rfl rfl fun X W C => w_size_of C L D
  | 9, _, _, h => by
    obtain ⟨fd, f⟩ := F.d_14
    obtain ⟨rfl, rfl⟩ : 14 = _ ∧ ("steps_in" : Str) = _ := Prod.mk.inj (Option.some.inj h)
    exact def_ok (f := T k (callD T k) 14) F.p0 f F.m_14 (f.bindsN (ps := ["script"]) fun _ _ _ _ _ _ us hl => match us, hl with | [_], _ => rfl) s_steps_in rfl rfl rfl fun X W C => w_steps_in C L D
  | 10, _, _, h => by
    obtain ⟨fd, f⟩ := F.d_15
    obtain ⟨rfl, rfl⟩ : 15 = _ ∧ ("is_script" : Str) = _ := Prod.mk.inj (Option.some.inj h)
    exact def_ok (f := T k (callD T k) 15) F.p0 f F.m_15 (f.bindsN (ps := ["value"]) fun _ _ _ _ _ _ us hl => match us, hl with | [_], _ => rfl) s_is_script rfl rfl rfl fun X W C => w_is_script C L D
  | 11, _, _, h => by
    obtain ⟨fd, f⟩ := F.d_16
    obtain ⟨rfl, rfl⟩ : 16 = _ ∧ ("need_script" : Str) = _ := Prod.mk.inj (Option.some.inj h)
    exact def_ok (f := T k (callD T k) 16) F.p0 f F.m_16 (f.bindsN (ps := ["script"]) fun _ _ _ _ _ _ us hl => match us, hl with | [_], _ => rfl) s_need_script rfl rfl rfl fun X W C => w_need_script C L D
  | 12, _, _, h => by
    obtain ⟨fd, f⟩ := F.d_213
    obtain ⟨rfl, rfl⟩ : 213 = _ ∧ ("part_text" : Str) = _ := Prod.mk.inj (Option.some.inj h)
    exact def_ok (f := T k (callD T k) 213) F.p0 f F.m_213 (f.bindsN (ps := ["part"]) fun _ _ _ _ _ _ us hl => match us, hl with | [_], _ => rfl) s_part_text rfl rfl rfl fun X W C => w_part_text C L D
  | 13, _, _, h => by
    obtain ⟨fd, f⟩ := F.d_214
    obtain ⟨rfl, rfl⟩ : 214 = _ ∧ ("line_of" : Str) = _ := Prod.mk.inj (Option.some.inj h)
    exact def_ok (f := T k (callD T k) 214) F.p0 f F.m_214 (f.bindsN (ps := ["parts"]) fun _ _ _ _ _ _ us hl => match us, hl with | [_], _ => rfl) s_line_of rfl rfl rfl fun X W C => w_line_of C L D
  | 14, _, _, h => by
    obtain ⟨fd, f⟩ := F.d_215
    obtain ⟨rfl, rfl⟩ : 215 = _ ∧ ("lines_of" : Str) = _ := Prod.mk.inj (Option.some.inj h)
    exact def_ok (f := T k (callD T k) 215) F.p0 f F.m_215 (f.bindsN (ps := ["steps"]) fun _ _ _ _ _ _ us hl => match us, hl with | [_], _ => rfl) s_lines_of rfl rfl rfl fun X W C => w_lines_of C L D
  | 15, _, _, h => by
    obtain ⟨fd, f⟩ := F.d_216
    obtain ⟨rfl, rfl⟩ : 216 = _ ∧ ("script_text" : Str) = _ := Prod.mk.inj (Option.some.inj h)
    exact def_ok (f := T k (callD T k) 216) F.p0 f F.m_216 (f.bindsN (ps := ["script"]) fun _ _ _ _ _ _ us hl => match us, hl with | [_], _ => rfl) s_script_text rfl rfl rfl fun X W C => w_script_text C L D
  | 16, _, _, h => by
    obtain ⟨fd, f⟩ := F.d_217
    obtain ⟨rfl, rfl⟩ : 217 = _ ∧ ("part_of" : Str) = _ := Prod.mk.inj (Option.some.inj h)
    exact def_ok (f := T k (callD T k) 217) F.p0 f F.m_217 (f.bindsN (ps := ["word"]) fun _ _ _ _ _ _ us hl => match us, hl with | [_], _ => rfl) s_part_of rfl rfl rfl fun X W C => w_part_of C L D
  | 17, _, _, h => by
    obtain ⟨fd, f⟩ := F.d_218
    obtain ⟨rfl, rfl⟩ : 218 = _ ∧ ("parts_of" : Str) = _ := Prod.mk.inj (Option.some.inj h)
    exact def_ok (f := T k (callD T k) 218) F.p0 f F.m_218 (f.bindsN (ps := ["line"]) fun _ _ _ _ _ _ us hl => match us, hl with | [_], _ => rfl) s_parts_of rfl rfl rfl fun X W C => w_parts_of C L D
  | 18, _, _, h => by
    obtain ⟨fd, f⟩ := F.d_219
    obtain ⟨rfl, rfl⟩ : 219 = _ ∧ ("is_line" : Str) = _ := Prod.mk.inj (Option.some.inj h)
    exact def_ok (f := T k (callD T k) 219) F.p0 f F.m_219 (f.bindsN (ps := ["line"]) fun _ _ _ _ _ _ us hl => match us, hl with | [_], _ => rfl) s_is_line rfl rfl rfl fun X W C => w_is_line C L D
  | 19, _, _, h => by
    obtain ⟨fd, f⟩ := F.d_220
    obtain ⟨rfl, rfl⟩ : 220 = _ ∧ ("steps_of" : Str) = _ := Prod.mk.inj (Option.some.inj h)
    exact def_ok (f := T k (callD T k) 220) F.p0 f F.m_220 (f.bindsN (ps := ["lines"]) fun _ _ _ _ _ _ us hl => match us, hl with | [_], _ => rfl) s_steps_of rfl rfl rfl fun X W C => w_steps_of C L D
  | 20, _, _, h => by
    obtain ⟨fd, f⟩ := F.d_221
    obtain ⟨rfl, rfl⟩ : 221 = _ ∧ ("read_script" : Str) = _ := Prod.mk.inj (Option.some.inj h)
    exact def_ok (f := T k (callD T k) 221) F.p0 f F.m_221 (f.bindsN (ps := ["value"]) fun _ _ _ _ _ _ us hl => match us, hl with | [_], _ => rfl) s_read_script rfl rfl rfl fun X W C => w_read_script C L D
  | 21, _, _, h => by
    obtain ⟨fd, f⟩ := F.d_18
    obtain ⟨rfl, rfl⟩ : 18 = _ ∧ ("_law_vat" : Str) = _ := Prod.mk.inj (Option.some.inj h)
    exact def_ok (f := T k (callD T k) 18) F.p0 f F.m_18 (f.bindsN (ps := ["script", "k"]) fun _ _ _ _ _ _ us hl => match us, hl with | [_, _], _ => rfl) s__law_vat rfl rfl rfl fun X W C => w__law_vat C L D
  | 22, _, _, h => by
    obtain ⟨fd, f⟩ := F.d_19
    obtain ⟨rfl, rfl⟩ : 19 = _ ∧ ("_law_under" : Str) = _ := Prod.mk.inj (Option.some.inj h)
    exact def_ok (f := T k (callD T k) 19) F.p0 f F.m_19 (f.bindsN (ps := ["vat", "many"]) fun _ _ _ _ _ _ us hl => match us, hl with | [_, _], _ => rfl) s__law_under rfl rfl rfl fun X W C => w__law_under C L D
  | 23, _, _, h => by
    obtain ⟨fd, f⟩ := F.d_20
    obtain ⟨rfl, rfl⟩ : 20 = _ ∧ ("_law_some" : Str) = _ := Prod.mk.inj (Option.some.inj h)
    exact def_ok (f := T k (callD T k) 20) F.p0 f F.m_20 (f.bindsN (ps := ["vat", "things"]) fun _ _ _ _ _ _ us hl => match us, hl with | [_, _], _ => rfl) s__law_some rfl rfl rfl fun X W C => w__law_some C L D
  | 24, _, _, h => by
    obtain ⟨fd, f⟩ := F.d_21
    obtain ⟨rfl, rfl⟩ : 21 = _ ∧ ("_law_is_whole" : Str) = _ := Prod.mk.inj (Option.some.inj h)
    exact def_ok (f := T k (callD T k) 21) F.p0 f F.m_21 (f.bindsN (ps := ["value", "low", "high"]) fun _ _ _ _ _ _ us hl => match us, hl with | [_, _, _], _ => rfl) s__law_is_whole rfl rfl rfl fun X W C => w__law_is_whole C L D
  | 25, _, _, h => by
    obtain ⟨fd, f⟩ := F.d_24
    obtain ⟨rfl, rfl⟩ : 24 = _ ∧ ("_law_is_term" : Str) = _ := Prod.mk.inj (Option.some.inj h)
    exact def_ok (f := T k (callD T k) 24) F.p0 f F.m_24 (f.bindsN (ps := ["value"]) fun _ _ _ _ _ _ us hl => match us, hl with | [_], _ => rfl) s__law_is_term rfl rfl rfl fun X W C => w__law_is_term C L D
  | 26, _, _, h => by
    obtain ⟨fd, f⟩ := F.d_33
    obtain ⟨rfl, rfl⟩ : 33 = _ ∧ ("_law_size" : Str) = _ := Prod.mk.inj (Option.some.inj h)
    exact def_ok (f := T k (callD T k) 33) F.p0 f F.m_33 (f.bindsN (ps := ["script"]) fun _ _ _ _ _ _ us hl => match us, hl with | [_], _ => rfl) s__law_size rfl rfl rfl fun X W C => w__law_size C L D
  | 27, _, _, h => by
    obtain ⟨fd, f⟩ := F.d_35
    obtain ⟨rfl, rfl⟩ : 35 = _ ∧ ("_law_term" : Str) = _ := Prod.mk.inj (Option.some.inj h)
    exact def_ok (f := T k (callD T k) 35) F.p0 f F.m_35 (f.bindsN (ps := ["vat"]) fun _ _ _ _ _ _ us hl => match us, hl with | [_], _ => rfl) s__law_term rfl rfl rfl fun X W C => w__law_term C L D
  | 28, _, _, h => by
    obtain ⟨fd, f⟩ := F.d_38
    obtain ⟨rfl, rfl⟩ : 38 = _ ∧ ("_law_condition" : Str) = _ := Prod.mk.inj (Option.some.inj h)
    exact def_ok (f := T k (callD T k) 38) F.p0 f F.m_38 (f.bindsN (ps := ["vat"]) fun _ _ _ _ _ _ us hl => match us, hl with | [_], _ => rfl) s__law_condition rfl rfl rfl fun X W C => w__law_condition C L D
  | 29, _, _, h => by
    obtain ⟨fd, f⟩ := F.d_39
    obtain ⟨rfl, rfl⟩ : 39 = _ ∧ ("_law_simple" : Str) = _ := Prod.mk.inj (Option.some.inj h)
    exact def_ok (f := T k (callD T k) 39) F.p0 f F.m_39 (f.bindsN (ps := ["vat"]) fun _ _ _ _ _ _ us hl => match us, hl with | [_], _ => rfl) s__law_simple rfl rfl rfl fun X W C => w__law_simple C L D
  | 30, _, _, h => by
    obtain ⟨fd, f⟩ := F.d_40
    obtain ⟨rfl, rfl⟩ : 40 = _ ∧ ("_law_step" : Str) = _ := Prod.mk.inj (Option.some.inj h)
    exact def_ok (f := T k (callD T k) 40) F.p0 f F.m_40 (f.bindsN (ps := ["vat"]) fun _ _ _ _ _ _ us hl => match us, hl with | [_], _ => rfl) s__law_step rfl rfl rfl fun X W C => w__law_step C L D
  | 31, _, _, h => by
    obtain ⟨fd, f⟩ := F.d_41
    obtain ⟨rfl, rfl⟩ : 41 = _ ∧ ("_law_script" : Str) = _ := Prod.mk.inj (Option.some.inj h)
    exact def_ok (f := T k (callD T k) 41) F.p0 f F.m_41 (f.bindsN (ps := ["vat", "most"]) fun _ _ _ _ _ _ us hl => match us, hl with | [_, _], _ => rfl) s__law_script rfl rfl rfl fun X W C => w__law_script C L D
  | 32, _, _, h => by
    obtain ⟨fd, f⟩ := F.d_42
    obtain ⟨rfl, rfl⟩ : 42 = _ ∧ ("_law_numbers" : Str) = _ := Prod.mk.inj (Option.some.inj h)
    exact def_ok (f := T k (callD T k) 42) F.p0 f F.m_42 (f.bindsN (ps := ["things"]) fun _ _ _ _ _ _ us hl => match us, hl with | [_], _ => rfl) s__law_numbers rfl rfl rfl fun X W C => w__law_numbers C L D
  | 33, _, _, h => by
    obtain ⟨fd, f⟩ := F.d_44
    obtain ⟨rfl, rfl⟩ : 44 = _ ∧ ("_law_names" : Str) = _ := Prod.mk.inj (Option.some.inj h)
    exact def_0 F.m_44 f.kp (f.bindsN (ps := ["e"]) fun _ _ _ _ _ _ us hl => match us, hl with | [_], _ => rfl) fun _ _ => stuck_run
  | 34, _, _, h => by
    obtain ⟨fd, f⟩ := F.d_45
    obtain ⟨rfl, rfl⟩ : 45 = _ ∧ ("_law_error" : Str) = _ := Prod.mk.inj (Option.some.inj h)
    exact def_0 F.m_45 f.kp (f.bindsN (ps := ["call"]) fun _ _ _ _ _ _ us hl => match us, hl with | [_], _ => rfl) fun _ _ => stuck_run
  | 35, _, _, h => by
    obtain ⟨fd, f⟩ := F.d_222
    obtain ⟨rfl, rfl⟩ : 222 = _ ∧ ("_law_term_text" : Str) = _ := Prod.mk.inj (Option.some.inj h)
    exact def_ok (f := T k (callD T k) 222) F.p0 f F.m_222 (f.bindsN (ps := ["term"]) fun _ _ _ _ _ _ us hl => match us, hl with | [_], _ => rfl) s__law_term_text rfl rfl rfl fun X W C => w__law_term_text C L D
  | 36, _, _, h => by
    obtain ⟨fd, f⟩ := F.d_223
    obtain ⟨rfl, rfl⟩ : 223 = _ ∧ ("_law_word" : Str) = _ := Prod.mk.inj (Option.some.inj h)
    exact def_ok (f := T k (callD T k) 223) F.p0 f F.m_223 (f.bindsN (ps := ["part"]) fun _ _ _ _ _ _ us hl => match us, hl with | [_], _ => rfl) s__law_word rfl rfl rfl fun X W C => w__law_word C L D
  | 37, _, _, h => by
    obtain ⟨fd, f⟩ := F.d_224
    obtain ⟨rfl, rfl⟩ : 224 = _ ∧ ("_law_rows" : Str) = _ := Prod.mk.inj (Option.some.inj h)
    exact def_ok (f := T k (callD T k) 224) F.p0 f F.m_224 (f.bindsN (ps := ["steps"]) fun _ _ _ _ _ _ us hl => match us, hl with | [_], _ => rfl) s__law_rows rfl rfl rfl fun X W C => w__law_rows C L D
  | 38, _, _, h => by
    obtain ⟨fd, f⟩ := F.d_300
    obtain ⟨rfl, rfl⟩ : 300 = _ ∧ ("law" : Str) = _ := Prod.mk.inj (Option.some.inj h)
    exact def_okL (f := T k (callD T k) 300) F.p0 F.l_300 f F.m_300 (f.bindsN (ps := ["script"]) fun _ _ _ _ _ _ us hl => match us, hl with | [_], _ => rfl) s_law rfl rfl rfl fun X W C T => w_law C L D H T F.p0
  | _ + 39, _, _, h => nomatch h
theorem p_okH {G : Gm} {k : Nat} (L : Lw G) (F : Fns G) (D : Defs G (rm k) nms (callD T k)) (H : Hs G (rm k) (callD T k)) : ∀ (j i : Nat) (x : Str), nms[j]? = some (i, x) → hotSet i = true → GDefH G (rm (k + 1)) x i (callD T (k + 1) i)
  | 0, _, _, h => fun z => by
    obtain ⟨rfl, rfl⟩ : 0 = _ ∧ ("is_whole" : Str) = _ := Prod.mk.inj (Option.some.inj h)
    cases z
  | 1, _, _, h => fun z => by
    obtain ⟨rfl, rfl⟩ : 1 = _ ∧ ("is_word" : Str) = _ := Prod.mk.inj (Option.some.inj h)
    cases z
  | 2, _, _, h => fun z => by
    obtain ⟨rfl, rfl⟩ : 2 = _ ∧ ("is_term" : Str) = _ := Prod.mk.inj (Option.some.inj h)
    cases z
  | 3, _, _, h => fun z => by
    obtain ⟨rfl, rfl⟩ : 8 = _ ∧ ("is_condition" : Str) = _ := Prod.mk.inj (Option.some.inj h)
    cases z
  | 4, _, _, h => fun z => by
    obtain ⟨rfl, rfl⟩ : 9 = _ ∧ ("is_end" : Str) = _ := Prod.mk.inj (Option.some.inj h)
    cases z
  | 5, _, _, h => fun z => by
    obtain ⟨rfl, rfl⟩ : 10 = _ ∧ ("is_plain" : Str) = _ := Prod.mk.inj (Option.some.inj h)
    cases z
  | 6, _, _, h => fun z => by
    obtain ⟨rfl, rfl⟩ : 11 = _ ∧ ("is_body" : Str) = _ := Prod.mk.inj (Option.some.inj h)
    cases z
  | 7, _, _, h => fun z => by
    obtain ⟨rfl, rfl⟩ : 12 = _ ∧ ("is_step" : Str) = _ := Prod.mk.inj (Option.some.inj h)
    cases z
  | 8, _, _, h => fun z => by
    obtain ⟨rfl, rfl⟩ : 13 = _ ∧ ("size_of" : Str) = _ := Prod.mk.inj (Option.some.inj h)
    cases z
  | 9, _, _, h => fun z => by
    obtain ⟨rfl, rfl⟩ : 14 = _ ∧ ("steps_in" : Str) = _ := Prod.mk.inj (Option.some.inj h)
    cases z
  | 10, _, _, h => fun z => by
    obtain ⟨rfl, rfl⟩ : 15 = _ ∧ ("is_script" : Str) = _ := Prod.mk.inj (Option.some.inj h)
    cases z
  | 11, _, _, h => fun z => by
    obtain ⟨rfl, rfl⟩ : 16 = _ ∧ ("need_script" : Str) = _ := Prod.mk.inj (Option.some.inj h)
    cases z
  | 12, _, _, h => fun z => by
    obtain ⟨rfl, rfl⟩ : 213 = _ ∧ ("part_text" : Str) = _ := Prod.mk.inj (Option.some.inj h)
    cases z
  | 13, _, _, h => fun z => by
    obtain ⟨rfl, rfl⟩ : 214 = _ ∧ ("line_of" : Str) = _ := Prod.mk.inj (Option.some.inj h)
    cases z
  | 14, _, _, h => fun z => by
    obtain ⟨rfl, rfl⟩ : 215 = _ ∧ ("lines_of" : Str) = _ := Prod.mk.inj (Option.some.inj h)
    cases z
  | 15, _, _, h => fun z => by
    obtain ⟨rfl, rfl⟩ : 216 = _ ∧ ("script_text" : Str) = _ := Prod.mk.inj (Option.some.inj h)
    cases z
  | 16, _, _, h => fun z => by
    obtain ⟨rfl, rfl⟩ : 217 = _ ∧ ("part_of" : Str) = _ := Prod.mk.inj (Option.some.inj h)
    cases z
  | 17, _, _, h => fun z => by
    obtain ⟨rfl, rfl⟩ : 218 = _ ∧ ("parts_of" : Str) = _ := Prod.mk.inj (Option.some.inj h)
    cases z
  | 18, _, _, h => fun z => by
    obtain ⟨rfl, rfl⟩ : 219 = _ ∧ ("is_line" : Str) = _ := Prod.mk.inj (Option.some.inj h)
    cases z
  | 19, _, _, h => fun z => by
    obtain ⟨rfl, rfl⟩ : 220 = _ ∧ ("steps_of" : Str) = _ := Prod.mk.inj (Option.some.inj h)
    cases z
  | 20, _, _, h => fun z => by
    obtain ⟨rfl, rfl⟩ : 221 = _ ∧ ("read_script" : Str) = _ := Prod.mk.inj (Option.some.inj h)
    cases z
  | 21, _, _, h => fun z => by
    obtain ⟨rfl, rfl⟩ : 18 = _ ∧ ("_law_vat" : Str) = _ := Prod.mk.inj (Option.some.inj h)
    cases z
  | 22, _, _, h => fun z => by
    obtain ⟨rfl, rfl⟩ : 19 = _ ∧ ("_law_under" : Str) = _ := Prod.mk.inj (Option.some.inj h)
    cases z
  | 23, _, _, h => fun z => by
    obtain ⟨rfl, rfl⟩ : 20 = _ ∧ ("_law_some" : Str) = _ := Prod.mk.inj (Option.some.inj h)
    cases z
  | 24, _, _, h => fun z => by
    obtain ⟨rfl, rfl⟩ : 21 = _ ∧ ("_law_is_whole" : Str) = _ := Prod.mk.inj (Option.some.inj h)
    cases z
  | 25, _, _, h => fun z => by
    obtain ⟨rfl, rfl⟩ : 24 = _ ∧ ("_law_is_term" : Str) = _ := Prod.mk.inj (Option.some.inj h)
    cases z
  | 26, _, _, h => fun z => by
    obtain ⟨rfl, rfl⟩ : 33 = _ ∧ ("_law_size" : Str) = _ := Prod.mk.inj (Option.some.inj h)
    cases z
  | 27, _, _, h => fun z => by
    obtain ⟨rfl, rfl⟩ : 35 = _ ∧ ("_law_term" : Str) = _ := Prod.mk.inj (Option.some.inj h)
    cases z
  | 28, _, _, h => fun z => by
    obtain ⟨rfl, rfl⟩ : 38 = _ ∧ ("_law_condition" : Str) = _ := Prod.mk.inj (Option.some.inj h)
    cases z
  | 29, _, _, h => fun z => by
    obtain ⟨rfl, rfl⟩ : 39 = _ ∧ ("_law_simple" : Str) = _ := Prod.mk.inj (Option.some.inj h)
    cases z
  | 30, _, _, h => fun z => by
    obtain ⟨rfl, rfl⟩ : 40 = _ ∧ ("_law_step" : Str) = _ := Prod.mk.inj (Option.some.inj h)
    cases z
  | 31, _, _, h => fun z => by
    obtain ⟨rfl, rfl⟩ : 41 = _ ∧ ("_law_script" : Str) = _ := Prod.mk.inj (Option.some.inj h)
    cases z
  | 32, _, _, h => fun z => by
    obtain ⟨rfl, rfl⟩ : 42 = _ ∧ ("_law_numbers" : Str) = _ := Prod.mk.inj (Option.some.inj h)
    cases z
  | 33, _, _, h => fun z => by
    obtain ⟨rfl, rfl⟩ : 44 = _ ∧ ("_law_names" : Str) = _ := Prod.mk.inj (Option.some.inj h)
    cases z
  | 34, _, _, h => fun z => by
    obtain ⟨rfl, rfl⟩ : 45 = _ ∧ ("_law_error" : Str) = _ := Prod.mk.inj (Option.some.inj h)
    cases z
  | 35, _, _, h => fun z => by
    obtain ⟨rfl, rfl⟩ : 222 = _ ∧ ("_law_term_text" : Str) = _ := Prod.mk.inj (Option.some.inj h)
    cases z
  | 36, _, _, h => fun z => by
    obtain ⟨rfl, rfl⟩ : 223 = _ ∧ ("_law_word" : Str) = _ := Prod.mk.inj (Option.some.inj h)
    cases z
  | 37, _, _, h => fun z => by
    obtain ⟨rfl, rfl⟩ : 224 = _ ∧ ("_law_rows" : Str) = _ := Prod.mk.inj (Option.some.inj h)
    cases z
  | 38, _, _, h => fun z => by
    obtain ⟨rfl, rfl⟩ : 300 = _ ∧ ("law" : Str) = _ := Prod.mk.inj (Option.some.inj h)
    cases z
  | _ + 39, _, _, h => nomatch h
theorem defs_ok {G : Gm} (L : Lw G) (F : Fns G) : ∀ k, Defs G (rm k) nms (callD T k)
  | 0 => ⟨z_ok F, z_okH F⟩
  | k + 1 => ⟨p_ok L F (defs_ok L F k) (hs_ok L F (defs_ok L F k)), p_okH L F (defs_ok L F k) (hs_ok L F (defs_ok L F k))⟩
def fa : List He.Fa := [.glo "is_whole", .glo "is_word", .glo "is_term", .glo "is_condition", .glo "is_end", .glo "is_plain", .glo "is_body", .glo "is_step", .glo "size_of", .glo "steps_in", .glo "is_script", .glo "need_script", .glo "part_text", .glo "line_of", .glo "lines_of", .glo "script_text", .glo "part_of", .glo "parts_of", .glo "is_line", .glo "steps_of", .glo "read_script", .glo "_law_vat", .glo "_law_under", .glo "_law_some", .glo "_law_is_whole", .glo "_law_is_term", .glo "_law_size", .glo "_law_term", .glo "_law_condition", .glo "_law_simple", .glo "_law_step", .glo "_law_script", .glo "_law_numbers", .glo "_law_names", .glo "_law_error", .glo "_law_term_text", .glo "_law_word", .glo "_law_rows", .glo "law", .glo "WhenError", .glo "InvalidScript", .glo "InvalidStep", .glo "InvalidFacts", .glo "InvalidFact", .glo "InvalidMoments", .glo "InvalidTerm", .glo "InvalidNumber", .glo "InvalidSeen", .glo "InvalidSpan", .glo "InvalidIndex", .glo "Impossible", .glo "NothingToUndo", .glo "TooMany", .glo "InvalidText", .int "MOST" 8, .int "MOST_IN_ALL" 12, .glo "NAMES", .exc "InvalidScript", .free "abs", .free "bool", .free "enumerate", .free "int", .free "isinstance", .free "len", .free "max", .free "min", .free "range", .free "str", .free "sum", .free "tuple", .free "zip", .free "ValueError", .exm "WhenError" "WhenError" true, .exm "InvalidScript" "WhenError" true, .exm "InvalidStep" "WhenError" true, .exm "InvalidFacts" "WhenError" true, .exm "InvalidFact" "WhenError" true, .exm "InvalidMoments" "WhenError" true, .exm "InvalidTerm" "WhenError" true, .exm "InvalidNumber" "WhenError" true, .exm "InvalidSeen" "WhenError" true, .exm "InvalidSpan" "WhenError" true, .exm "InvalidIndex" "WhenError" true, .exm "Impossible" "WhenError" true, .exm "NothingToUndo" "WhenError" true, .exm "TooMany" "WhenError" true, .exm "InvalidText" "WhenError" true, .meth "InvalidText" "__init__", .noat "InvalidText" "line"]
def fn : List He.DefD := [⟨("is_whole", none), "is_whole", "is_whole", defArgs (top 20), defBody (top 20), defScope (top 20), [], []⟩, ⟨("is_word", none), "is_word", "is_word", defArgs (top 21), defBody (top 21), defScope (top 21), [], []⟩, ⟨("is_term", none), "is_term", "is_term", defArgs (top 22), defBody (top 22), defScope (top 22), [], []⟩, ⟨("is_condition", none), "is_condition", "is_condition", defArgs (top 23), defBody (top 23), defScope (top 23), [], []⟩, ⟨("is_end", none), "is_end", "is_end", defArgs (top 24), defBody (top 24), defScope (top 24), [], []⟩, ⟨("is_plain", none), "is_plain", "is_plain", defArgs (top 25), defBody (top 25), defScope (top 25), [], []⟩, ⟨("is_body", none), "is_body", "is_body", defArgs (top 26), defBody (top 26), defScope (top 26), [], []⟩, ⟨("is_step", none), "is_step", "is_step", defArgs (top 27), defBody (top 27), defScope (top 27), [], []⟩, ⟨("size_of", none), "size_of", "size_of", defArgs (top 28), defBody (top 28), defScope (top 28), [], []⟩, ⟨("steps_in", none), "steps_in", "steps_in", defArgs (top 29), defBody (top 29), defScope (top 29), [], []⟩, ⟨("is_script", none), "is_script", "is_script", defArgs (top 30), defBody (top 30), defScope (top 30), [], []⟩, ⟨("need_script", none), "need_script", "need_script", defArgs (top 31), defBody (top 31), defScope (top 31), [], []⟩, ⟨("part_text", none), "part_text", "part_text", defArgs (top 33), defBody (top 33), defScope (top 33), [], []⟩, ⟨("line_of", none), "line_of", "line_of", defArgs (top 34), defBody (top 34), defScope (top 34), [], []⟩, ⟨("lines_of", none), "lines_of", "lines_of", defArgs (top 35), defBody (top 35), defScope (top 35), [], []⟩, ⟨("script_text", none), "script_text", "script_text", defArgs (top 36), defBody (top 36), defScope (top 36), [], []⟩, ⟨("part_of", none), "part_of", "part_of", defArgs (top 37), defBody (top 37), defScope (top 37), [], []⟩, ⟨("parts_of", none), "parts_of", "parts_of", defArgs (top 38), defBody (top 38), defScope (top 38), [], []⟩, ⟨("is_line", none), "is_line", "is_line", defArgs (top 39), defBody (top 39), defScope (top 39), [], []⟩, ⟨("steps_of", none), "steps_of", "steps_of", defArgs (top 40), defBody (top 40), defScope (top 40), [], []⟩, ⟨("read_script", none), "read_script", "read_script", defArgs (top 41), defBody (top 41), defScope (top 41), [], []⟩, ⟨("_law_vat", none), "_law_vat", "_law_vat", defArgs (top 43), defBody (top 43), defScope (top 43), [], []⟩, ⟨("_law_under", none), "_law_under", "_law_under", defArgs (top 44), defBody (top 44), defScope (top 44), [], []⟩, ⟨("_law_some", none), "_law_some", "_law_some", defArgs (top 45), defBody (top 45), defScope (top 45), [], []⟩, ⟨("_law_is_whole", none), "_law_is_whole", "_law_is_whole", defArgs (top 46), defBody (top 46), defScope (top 46), [], []⟩, ⟨("_law_is_term", none), "_law_is_term", "_law_is_term", defArgs (top 47), defBody (top 47), defScope (top 47), [], []⟩, ⟨("_law_size", none), "_law_size", "_law_size", defArgs (top 48), defBody (top 48), defScope (top 48), [], []⟩, ⟨("_law_term", none), "_law_term", "_law_term", defArgs (top 49), defBody (top 49), defScope (top 49), [], []⟩, ⟨("_law_condition", none), "_law_condition", "_law_condition", defArgs (top 50), defBody (top 50), defScope (top 50), [], []⟩, ⟨("_law_simple", none), "_law_simple", "_law_simple", defArgs (top 51), defBody (top 51), defScope (top 51), [], []⟩, ⟨("_law_step", none), "_law_step", "_law_step", defArgs (top 52), defBody (top 52), defScope (top 52), [], []⟩, ⟨("_law_script", none), "_law_script", "_law_script", defArgs (top 53), defBody (top 53), defScope (top 53), [], []⟩, ⟨("_law_numbers", none), "_law_numbers", "_law_numbers", defArgs (top 54), defBody (top 54), defScope (top 54), [], []⟩, ⟨("_law_names", none), "_law_names", "_law_names", defArgs (top 55), defBody (top 55), defScope (top 55), [], []⟩, ⟨("_law_error", none), "_law_error", "_law_error", defArgs (top 56), defBody (top 56), defScope (top 56), [], []⟩, ⟨("_law_term_text", none), "_law_term_text", "_law_term_text", defArgs (top 57), defBody (top 57), defScope (top 57), [], []⟩, ⟨("_law_word", none), "_law_word", "_law_word", defArgs (top 58), defBody (top 58), defScope (top 58), [], []⟩, ⟨("_law_rows", none), "_law_rows", "_law_rows", defArgs (top 59), defBody (top 59), defScope (top 59), [], []⟩, ⟨("law", none), "law", "law", defArgs (top 60), defBody (top 60), defScope (top 60), [], []⟩, ⟨("InvalidText", some "__init__"), "__init__", "InvalidText.__init__", defArgs (meth 15 0), defBody (meth 15 0), defScope (meth 15 0), [], []⟩]
def tf : List He.Defn := [("law", none)]
def exs : List (PySem.W.Frag → Bool) := [fun K => He.tupB K "NAMES" [.str "a", .str "b", .str "c"], fun K => kokB K cls (.ref (He.ga K "Impossible")) kt_Impossible, fun K => kokB K cls (.ref (He.ga K "InvalidFact")) kt_InvalidFact, fun K => kokB K cls (.ref (He.ga K "InvalidFacts")) kt_InvalidFacts, fun K => kokB K cls (.ref (He.ga K "InvalidIndex")) kt_InvalidIndex, fun K => kokB K cls (.ref (He.ga K "InvalidMoments")) kt_InvalidMoments, fun K => kokB K cls (.ref (He.ga K "InvalidNumber")) kt_InvalidNumber, fun K => kokB K cls (.ref (He.ga K "InvalidScript")) kt_InvalidScript, fun K => kokB K cls (.ref (He.ga K "InvalidSeen")) kt_InvalidSeen, fun K => kokB K cls (.ref (He.ga K "InvalidSpan")) kt_InvalidSpan, fun K => kokB K cls (.ref (He.ga K "InvalidStep")) kt_InvalidStep, fun K => kokB K cls (.ref (He.ga K "InvalidTerm")) kt_InvalidTerm, fun K => kokB K cls (.ref (He.ga K "InvalidText")) kt_InvalidText, fun K => kokB K cls (.ref (He.ga K "NothingToUndo")) kt_NothingToUndo, fun K => kokB K cls (.ref (He.ga K "TooMany")) kt_TooMany, fun K => kokB K cls (.type "ValueError") kt_ValueError, fun K => tfB K tf, fun K => oexB K (He.ga K "InvalidText"), fun K => veB K (He.ga K "WhenError")]
def ex (K : PySem.W.Frag) : Bool := exs.all fun g => g K
theorem i_InvalidText {P : Program} {w : World} {K : PySem.W.Frag} {mg : Str → Option Value} {h : Heap} (X : K.In h) (Gn : h.Ns mainGlobals mg) (c : Says fa fn tf ex h K) (base : Heap) : GIni (gm P w K mg base fs cls tf) 1 "InvalidText" 14 "line" := by
  have mo : ∀ (i : Nat) {g : PySem.W.Frag → Bool}, exs[i]? = some g → g K = true := fun i g e => List.all_eq_true.mp c.more g (List.mem_of_getElem? e)
  obtain ⟨fd, f⟩ := c.d.def_ 39 rfl
  have M := He.meth_ok (c.d.fact 87 rfl)
  have T : OexC K (He.ga K "InvalidText") := oexB_ok (mo 17 rfl)
  exact ⟨T, ⟨_, fd, M.at_, beq_iff_eq.mp M.fn, init_ok f rfl ⟨rfl, rfl, rfl, by decide +kernel, rfl, by decide +kernel, by decide +kernel⟩ rfl rfl rfl (by decide) (by decide) (fun env => ⟨_, by rfl⟩) (He.glo_ok X Gn (c.d.fact 39 rfl)) (veB_ok (mo 18 rfl)) T (He.noat_ok (c.d.fact 88 rfl)),
    f.bindsN (ps := ["self", "line"]) fun _ _ _ _ _ _ us hl => match us, hl with | [_, _], _ => rfl⟩, He.glo_ok X Gn (c.d.fact 53 rfl)⟩
theorem facts {P : Program} {w : World} {K : PySem.W.Frag} {mg : Str → Option Value} {h : Heap} (X : K.In h) (Gn : h.Ns mainGlobals mg) (c : Says fa fn tf ex h K) (base : Heap) (TB : ∀ p ∈ tf, LamX.TabB base mg (He.cT K p).1 (He.cT K p).2) : Lw (gm P w K mg base fs cls tf) ∧ Fns (gm P w K mg base fs cls tf) := by
  have mo : ∀ (i : Nat) {g : PySem.W.Frag → Bool}, exs[i]? = some g → g K = true := fun i g e => List.all_eq_true.mp c.more g (List.mem_of_getElem? e)
  have TU : tfB K tf = true := (mo 16 rfl)
  refine ⟨⟨con_int (He.int_ok X Gn (c.d.fact 54 rfl)),
    con_int (He.int_ok X Gn (c.d.fact 55 rfl)),
    con_tup (He.glo_ok X Gn (c.d.fact 56 rfl)) (mo 0 rfl) rfl,
    ⟨(He.exc_ok (c.d.fact 57 rfl)).1, He.glo_ok X Gn (c.d.fact 40 rfl), (He.exc_ok (c.d.fact 57 rfl)).2.1, (He.exc_ok (c.d.fact 57 rfl)).2.2.1, (He.exc_ok (c.d.fact 57 rfl)).2.2.2⟩,
    He.free_ok X Gn (c.d.fact 58 rfl),
    He.free_ok X Gn (c.d.fact 59 rfl),
    He.free_ok X Gn (c.d.fact 60 rfl),
    He.free_ok X Gn (c.d.fact 61 rfl),
    He.free_ok X Gn (c.d.fact 62 rfl),
    He.free_ok X Gn (c.d.fact 63 rfl),
    He.free_ok X Gn (c.d.fact 64 rfl),
    He.free_ok X Gn (c.d.fact 65 rfl),
    He.free_ok X Gn (c.d.fact 66 rfl),
    He.free_ok X Gn (c.d.fact 67 rfl),
    He.free_ok X Gn (c.d.fact 68 rfl),
    He.free_ok X Gn (c.d.fact 69 rfl),
    He.free_ok X Gn (c.d.fact 70 rfl),
    i_InvalidText X Gn c _,
    ⟨.ref (He.ga K "Impossible"), .ref (He.ga K "Impossible"), rfl, (fun _ h => h), .inl (He.glo_ok X Gn (c.d.fact 50 rfl)), kok_ok (cs := cls) (mo 1 rfl)⟩,
    ⟨.ref (He.ga K "InvalidFact"), .ref (He.ga K "InvalidFact"), rfl, (fun _ h => h), .inl (He.glo_ok X Gn (c.d.fact 43 rfl)), kok_ok (cs := cls) (mo 2 rfl)⟩,
    ⟨.ref (He.ga K "InvalidFacts"), .ref (He.ga K "InvalidFacts"), rfl, (fun _ h => h), .inl (He.glo_ok X Gn (c.d.fact 42 rfl)), kok_ok (cs := cls) (mo 3 rfl)⟩,
    ⟨.ref (He.ga K "InvalidIndex"), .ref (He.ga K "InvalidIndex"), rfl, (fun _ h => h), .inl (He.glo_ok X Gn (c.d.fact 49 rfl)), kok_ok (cs := cls) (mo 4 rfl)⟩,
    ⟨.ref (He.ga K "InvalidMoments"), .ref (He.ga K "InvalidMoments"), rfl, (fun _ h => h), .inl (He.glo_ok X Gn (c.d.fact 44 rfl)), kok_ok (cs := cls) (mo 5 rfl)⟩,
    ⟨.ref (He.ga K "InvalidNumber"), .ref (He.ga K "InvalidNumber"), rfl, (fun _ h => h), .inl (He.glo_ok X Gn (c.d.fact 46 rfl)), kok_ok (cs := cls) (mo 6 rfl)⟩,
    ⟨.ref (He.ga K "InvalidScript"), .ref (He.ga K "InvalidScript"), rfl, (fun _ h => h), .inl (He.glo_ok X Gn (c.d.fact 40 rfl)), kok_ok (cs := cls) (mo 7 rfl)⟩,
    ⟨.ref (He.ga K "InvalidSeen"), .ref (He.ga K "InvalidSeen"), rfl, (fun _ h => h), .inl (He.glo_ok X Gn (c.d.fact 47 rfl)), kok_ok (cs := cls) (mo 8 rfl)⟩,
    ⟨.ref (He.ga K "InvalidSpan"), .ref (He.ga K "InvalidSpan"), rfl, (fun _ h => h), .inl (He.glo_ok X Gn (c.d.fact 48 rfl)), kok_ok (cs := cls) (mo 9 rfl)⟩,
    ⟨.ref (He.ga K "InvalidStep"), .ref (He.ga K "InvalidStep"), rfl, (fun _ h => h), .inl (He.glo_ok X Gn (c.d.fact 41 rfl)), kok_ok (cs := cls) (mo 10 rfl)⟩,
    ⟨.ref (He.ga K "InvalidTerm"), .ref (He.ga K "InvalidTerm"), rfl, (fun _ h => h), .inl (He.glo_ok X Gn (c.d.fact 45 rfl)), kok_ok (cs := cls) (mo 11 rfl)⟩,
    ⟨.ref (He.ga K "InvalidText"), .ref (He.ga K "InvalidText"), rfl, (fun _ h => h), .inl (He.glo_ok X Gn (c.d.fact 53 rfl)), kok_ok (cs := cls) (mo 12 rfl)⟩,
    ⟨.ref (He.ga K "NothingToUndo"), .ref (He.ga K "NothingToUndo"), rfl, (fun _ h => h), .inl (He.glo_ok X Gn (c.d.fact 51 rfl)), kok_ok (cs := cls) (mo 13 rfl)⟩,
    ⟨.ref (He.ga K "TooMany"), .ref (He.ga K "TooMany"), rfl, (fun _ h => h), .inl (He.glo_ok X Gn (c.d.fact 52 rfl)), kok_ok (cs := cls) (mo 14 rfl)⟩,
    ⟨.ty "ValueError", .type "ValueError", rfl, (fun _ h => h), .inr ⟨He.free_ok X Gn (c.d.fact 71 rfl), by kernel_rfl⟩, kok_ok (cs := cls) (mo 15 rfl)⟩,
    ⟨_, He.glo_ok X Gn (c.d.fact 39 rfl), fun j b => match j with
      | 0 => fun h => by
        cases h
        exact He.exm_ok (c.d.fact 72 rfl)
      | 1 => fun h => by
        cases h
        exact He.exm_ok (c.d.fact 73 rfl)
      | 2 => fun h => by
        cases h
        exact He.exm_ok (c.d.fact 74 rfl)
      | 3 => fun h => by
        cases h
        exact He.exm_ok (c.d.fact 75 rfl)
      | 4 => fun h => by
        cases h
        exact He.exm_ok (c.d.fact 76 rfl)
      | 5 => fun h => by
        cases h
        exact He.exm_ok (c.d.fact 77 rfl)
      | 6 => fun h => by
        cases h
        exact He.exm_ok (c.d.fact 78 rfl)
      | 7 => fun h => by
        cases h
        exact He.exm_ok (c.d.fact 79 rfl)
      | 8 => fun h => by
        cases h
        exact He.exm_ok (c.d.fact 80 rfl)
      | 9 => fun h => by
        cases h
        exact He.exm_ok (c.d.fact 81 rfl)
      | 10 => fun h => by
        cases h
        exact He.exm_ok (c.d.fact 82 rfl)
      | 11 => fun h => by
        cases h
        exact He.exm_ok (c.d.fact 83 rfl)
      | 12 => fun h => by
        cases h
        exact He.exm_ok (c.d.fact 84 rfl)
      | 13 => fun h => by
        cases h
        exact He.exm_ok (c.d.fact 85 rfl)
      | 14 => fun h => by
        cases h
        exact He.exm_ok (c.d.fact 86 rfl)
      | _ + 15 => fun h => nomatch h⟩⟩, ⟨rfl,
    ⟨_, rfl, TB _ (List.mem_of_getElem? (i := 0) rfl), tb_mem (List.mem_of_getElem? (i := 0) rfl), tb_uni TU (List.mem_of_getElem? (i := 0) rfl)⟩,
    c.d.def_ 0 rfl, He.glo_ok X Gn (c.d.fact 0 rfl),
    c.d.def_ 1 rfl, He.glo_ok X Gn (c.d.fact 1 rfl),
    c.d.def_ 2 rfl, He.glo_ok X Gn (c.d.fact 2 rfl),
    c.d.def_ 3 rfl, He.glo_ok X Gn (c.d.fact 3 rfl),
    c.d.def_ 4 rfl, He.glo_ok X Gn (c.d.fact 4 rfl),
    c.d.def_ 5 rfl, He.glo_ok X Gn (c.d.fact 5 rfl),
    c.d.def_ 6 rfl, He.glo_ok X Gn (c.d.fact 6 rfl),
    c.d.def_ 7 rfl, He.glo_ok X Gn (c.d.fact 7 rfl),
    c.d.def_ 8 rfl, He.glo_ok X Gn (c.d.fact 8 rfl),
    c.d.def_ 9 rfl, He.glo_ok X Gn (c.d.fact 9 rfl),
    c.d.def_ 10 rfl, He.glo_ok X Gn (c.d.fact 10 rfl),
    c.d.def_ 11 rfl, He.glo_ok X Gn (c.d.fact 11 rfl),
    c.d.def_ 12 rfl, He.glo_ok X Gn (c.d.fact 12 rfl),
    c.d.def_ 13 rfl, He.glo_ok X Gn (c.d.fact 13 rfl),
    c.d.def_ 14 rfl, He.glo_ok X Gn (c.d.fact 14 rfl),
    c.d.def_ 15 rfl, He.glo_ok X Gn (c.d.fact 15 rfl),
    c.d.def_ 16 rfl, He.glo_ok X Gn (c.d.fact 16 rfl),
    c.d.def_ 17 rfl, He.glo_ok X Gn (c.d.fact 17 rfl),
    c.d.def_ 18 rfl, He.glo_ok X Gn (c.d.fact 18 rfl),
    c.d.def_ 19 rfl, He.glo_ok X Gn (c.d.fact 19 rfl),
    c.d.def_ 20 rfl, He.glo_ok X Gn (c.d.fact 20 rfl),
    c.d.def_ 21 rfl, He.glo_ok X Gn (c.d.fact 21 rfl),
    c.d.def_ 22 rfl, He.glo_ok X Gn (c.d.fact 22 rfl),
    c.d.def_ 23 rfl, He.glo_ok X Gn (c.d.fact 23 rfl),
    c.d.def_ 24 rfl, He.glo_ok X Gn (c.d.fact 24 rfl),
    c.d.def_ 25 rfl, He.glo_ok X Gn (c.d.fact 25 rfl),
    c.d.def_ 26 rfl, He.glo_ok X Gn (c.d.fact 26 rfl),
    c.d.def_ 27 rfl, He.glo_ok X Gn (c.d.fact 27 rfl),
    c.d.def_ 28 rfl, He.glo_ok X Gn (c.d.fact 28 rfl),
    c.d.def_ 29 rfl, He.glo_ok X Gn (c.d.fact 29 rfl),
    c.d.def_ 30 rfl, He.glo_ok X Gn (c.d.fact 30 rfl),
    c.d.def_ 31 rfl, He.glo_ok X Gn (c.d.fact 31 rfl),
    c.d.def_ 32 rfl, He.glo_ok X Gn (c.d.fact 32 rfl),
    c.d.def_ 33 rfl, He.glo_ok X Gn (c.d.fact 33 rfl),
    c.d.def_ 34 rfl, He.glo_ok X Gn (c.d.fact 34 rfl),
    c.d.def_ 35 rfl, He.glo_ok X Gn (c.d.fact 35 rfl),
    c.d.def_ 36 rfl, He.glo_ok X Gn (c.d.fact 36 rfl),
    c.d.def_ 37 rfl, He.glo_ok X Gn (c.d.fact 37 rfl),
    c.d.def_ 38 rfl, He.glo_ok X Gn (c.d.fact 38 rfl)⟩⟩
abbrev R : PySem.W.OpenRow := PySem.W.OpenLaw.row PySem.Challenge.rw_spanwhenever_k18_scripts_written
abbrev hk : PySem.W.Hook := hookC 4 fa fn tf ex
def ob (s : PySem.W.SharedT) : AlC := obsC 4 fa fn tf ex (HandSHeadRun.getT s)
theorem ob_eq (s : PySem.W.SharedT) : ob s = hk.obs s.abs := obsC_eq (HandSHeadRun.getT_eq s)
def loose : List Str := [("is_whole" : Str), ("is_word" : Str), ("is_term" : Str), ("is_condition" : Str), ("is_end" : Str), ("is_plain" : Str), ("is_body" : Str), ("is_step" : Str), ("size_of" : Str), ("steps_in" : Str), ("is_script" : Str), ("need_script" : Str), ("part_text" : Str), ("line_of" : Str), ("lines_of" : Str), ("script_text" : Str), ("part_of" : Str), ("parts_of" : Str), ("is_line" : Str), ("steps_of" : Str), ("read_script" : Str), ("_law_vat" : Str), ("_law_under" : Str), ("_law_some" : Str), ("_law_is_whole" : Str), ("_law_is_term" : Str), ("_law_size" : Str), ("_law_term" : Str), ("_law_condition" : Str), ("_law_simple" : Str), ("_law_step" : Str), ("_law_script" : Str), ("_law_numbers" : Str), ("_law_names" : Str), ("_law_error" : Str), ("_law_term_text" : Str), ("_law_word" : Str), ("_law_rows" : Str), ("WhenError" : Str), ("InvalidScript" : Str), ("InvalidStep" : Str), ("InvalidFacts" : Str), ("InvalidFact" : Str), ("InvalidMoments" : Str), ("InvalidTerm" : Str), ("InvalidNumber" : Str), ("InvalidSeen" : Str), ("InvalidSpan" : Str), ("InvalidIndex" : Str), ("Impossible" : Str), ("NothingToUndo" : Str), ("TooMany" : Str), ("InvalidText" : Str), ("NAMES" : Str), ("MOST" : Str), ("MOST_IN_ALL" : Str)]
theorem run (w : World) : HandSHeadRun.RunEq R (PySem.W.view R.prog [60]) hk ob 9000 loose w := by
  intro os
  kernel_rfl
/-- the law, by its plain law -/
theorem holds_of (hc : ∀ ns : List Int, ns.length ≤ 63 → (∀ z ∈ ns, Builtin.Int.intBits z ≤ 1048576) → ∃ h, callD T 50 300 [.scr (ns.map .int)] [] = .ok (.bl true) h) : PySem.Challenge.rw_spanwhenever_k18_scripts_written.Holds := by
  w_on; o_law
  refine HandSHeadRun.head_any (r := R) (q := PySem.W.view R.prog [60]) (H := hk) (ob := ob) (M := 9000) (loose := loose) (d := HandSHeadRun.topDef R.prog 60) (kwd := []) ob_eq
    (by kernel_rfl) (fun s => by kernel_rfl) run (by kernel_rfl) (by kernel_rfl) (by kernel_rfl) (by rfl) (by first | assumption | decide +kernel) (by decide +kernel) ⟨rfl, rfl, rfl, rfl, rfl, by decide +kernel⟩ ?hw ?hc
  case hw => w_witness2
  case hc =>
    refine LamX.walk_ofTsE (l := PySem.Challenge.rw_spanwhenever_k18_scripts_written) (n := 63) (k := 202) (x := "script") (CX := fun w => L2N.CX PySem.Challenge.rw_spanwhenever_k18_scripts_written.prog w) rfl (by decide) (by kernel_rfl) ⟨rfl, by decide, by decide⟩ ?F cx_no
    intro w mg fad h Y Gn hmg0
    obtain ⟨K, X, c⟩ := Y
    have hmg : mg ("law" : PySem.Str) = some (.ref fad) := by
      have e : (HandSHeadRun.topDef R.prog 60).name = ("law" : PySem.Str) := by kernel_rfl
      rw [← e]
      exact hmg0
    obtain ⟨fd, f⟩ := c.d.def_ 38 rfl
    have e := hmg.symm.trans (He.glo_ok X Gn (c.d.fact 38 (f := .glo "law") rfl))
    cases e
    have bb := FunD.bindsA (ps := ["script"]) f fun _ _ _ _ _ _ us hl => match us, hl with | [_], _ => rfl
    refine ⟨K, X, law_at (i := 300) (fs := fs) (cs := cls) (c := callD T 50 300) X c rfl (fun s u => bb s [u] rfl) (fun base _ _ TB => ?_) hc⟩
    obtain ⟨L, Fn⟩ := facts (P := PySem.Challenge.rw_spanwhenever_k18_scripts_written.prog) (w := w) X Gn c base TB
    exact def_fnL (i := 300) (f := T 49 (callD T 49) 300) rfl Fn.l_300 f s_law rfl rfl fun X W C T => w_law C L (defs_ok L Fn 49) (hs_ok L Fn (defs_ok L Fn 49)) T rfl

/-! text L18.lean -/
open PySem L2 TL
/-! plain laws of k18: the law -/
section
variable {n : Nat} {h : Hd} {E : Ec → Hd → Prop} {a0 : D}
theorem r_300 : callD T (n + 1) 300 [a0] h = (b_law (callD T n) [some a0, none, none, none, none, none, none] h).fin := by kernel_rfl
def ltext : Str := "join a-9 c+9\nif free a+0 b-1\nshift -4\nelse\nkeep * -3\ndrop 3 *\nend\nif many 4\nelse\nend\ngaps"
def linner : List D := [.str "if", .tup [.str "free", .tup [.str "a", .int 0], .tup [.str "b", .int (-1)]], .tup [.tup [.str "shift", .int (-4)]], .tup [.tup [.str "keep", .non, .int (-3)], .tup [.str "drop", .int 3, .non]]]
def ldue : List D := [.tup [.str "join", .tup [.str "a", .int (-9)], .tup [.str "c", .int 9]], .tup linner, .tup [.str "if", .tup [.str "many", .int 4], .tup [], .tup []], .tup [.str "gaps"]]
theorem rd_ltext : rd ltext = .inr (.tup ldue) := by kernel_rfl
theorem rd_nil : rd "" = .inr (.tup []) := by kernel_rfl
theorem rows_ldue : joinS "\n" (rowsOf ldue) = ltext := by kernel_rfl
theorem ldue_script : isScript (.tup ldue) = true := by kernel_rfl
theorem ldue_okS : ∀ d ∈ ldue, okS 1 d := by
  have P : ∀ d, okPB d = true → okP d := fun d h => okPB_ok h
  intro d hd
  simp only [ldue, List.mem_cons, List.not_mem_nil, or_false] at hd
  rcases hd with rfl | rfl | rfl | rfl
  · exact .inl (P _ (by kernel_rfl))
  · refine .inr ⟨_, _, _, rfl, by decide, ?_, by decide, ?_, by decide, ?_⟩
    · intro z hz
      simp only [List.mem_cons, List.not_mem_nil, or_false] at hz
      rcases hz with rfl | rfl | rfl <;> kernel_rfl
    · intro z hz
      rw [List.mem_singleton.mp hz]
      exact P _ (by kernel_rfl)
    · intro z hz
      simp only [List.mem_cons, List.not_mem_nil, or_false] at hz
      rcases hz with rfl | rfl <;> exact P _ (by kernel_rfl)
  · refine .inr ⟨_, _, _, rfl, by decide, ?_, by decide, (fun z hz => nomatch hz), by decide, fun z hz => nomatch hz⟩
    intro z hz
    simp only [List.mem_cons, List.not_mem_nil, or_false] at hz
    rcases hz with rfl | rfl <;> kernel_rfl
  · exact .inl (P _ (by kernel_rfl))
theorem wt_ldue : wtS (rowsOf ldue) ≤ 16777216 := by
  have : Nat.ble (wtS (rowsOf ldue)) 16777216 = true := by kernel_rfl
  exact Nat.le_of_ble_eq_true this
theorem e_read (hn : 7 ≤ n) {s : Str} (hs : big s) {d : D} (e : rd s = .inr d) : callD T n 221 [.str s] h = .ok d h := by
  have := e_read_script (TL := TL) (h := h) hn hs
  rw [e] at this
  exact this
theorem gne_same {d : D} (hp : pur d = true) (hd : dep d ≤ 60) {h : Hd} : gne d d h = .ok (.bl false) h := by
  rw [gne_p hp hp hd, deq_refl _ hp]
  rfl
theorem geq_same {d : D} (hp : pur d = true) (hd : dep d ≤ 60) {h : Hd} : geq d d h = .ok (.bl true) h := by
  rw [geq_p hp hp hd, deq_refl _ hp]
theorem law_k18 {ns : List Int} : wR (callD T 50 300 [.scr (ns.map .int)] h) (fun d _ => d = .bl true) noE := by
  rw [r_300]
  simp only [b_law]
  have gmn (i j : Int) (h : Hd) : gmin2 (.int i) (.int j) h = .ok (.int (if j < i then j else i)) h := rfl
  have gmx (i j : Int) (h : Hd) : gmax2 (.int i) (.int j) h = .ok (.int (if j > i then j else i)) h := rfl
  have g7 (i : Nat) (h : Hd) : giR1 (.int (if (if ((ns.map D.int).length : Int) < 15 then ((ns.map D.int).length : Int) else 15) > 6 then (if ((ns.map D.int).length : Int) < 15 then ((ns.map D.int).length : Int) else 15) else 6)) h = .ok (intsFrom 0 (if (if ((ns.map D.int).length : Int) < 15 then ((ns.map D.int).length : Int) else 15) > 6 then (if ((ns.map D.int).length : Int) < 15 then ((ns.map D.int).length : Int) else 15) else 6).toNat) h := giR1_i (by split <;> omega) (by split <;> (split <;> omega))
  simp only [wp_, gmn, gmx, g7 0]
  refine w_loop (fun es σ h' => (∀ e ∈ es, ∃ k : Nat, e = .int k ∧ k ≤ 20) ∧ ∃ a b c d e f, σ = [some (.scr (ns.map .int)), a, b, c, d, e, f]) ?_ ?_ _ _ _ ?_
  · rintro d es σ h' ⟨he, a, b, c, dd, e, f, rfl⟩
    obtain ⟨k, rfl, hk⟩ := he d List.mem_cons_self
    have he := fun x hx => he x (List.mem_cons_of_mem _ hx)
    refine ⟨_, rfl, ?_⟩
    simp only [wp_]
    refine w_vat (by decide) (by omega) fun va vb v1 v2 v3 => ?_
    have vt0 := Vt.new (h := h') v1 v2 v3
    generalize h' ++ [(⟨true, [.int va, .int vb]⟩ : Ob)] = h1 at vt0
    generalize h'.length = vi at vt0
    simp only [wp_]
    refine w_scriptS (by decide) vt0 fun ds h2 hl hg hsc d2 => ?_
    simp only [wp_]
    refine w_rows 1 _ ds h2 (by decide) (fun d hd => good_okS (hg d hd)) (by omega) fun h3 a3 => ?_
    have wt0 := rows_wt hl hg
    have hp : pur (.tup ds) = true := purL_of fun d hd => good_pur (hg d hd)
    have dp := isScript_dep hsc
    rw [gjoin_nl (by omega)]
    have l0 := joinS_nl (rowsOf ds)
    have rr := rd_rows hg hsc
    have e1 := e_script_text (TL := TL) (n := 49) (h := h3) (by decide) hsc hp hl (fun d hd => good_okS (hg d hd)) (by omega)
    generalize joinS "\n" (rowsOf ds) = s0 at l0 rr e1
    have e2 := e_read (n := 49) (h := h3) (by decide) (s := s0) (by unfold big; omega) rr
    have e3 : ∀ a b c d e : Option D, flam 0 [6] (fargs (callD T 49 216) (fcons (flst (fcons (fvar 0) fnil)) fnil)) [a, b, c, d, some (.tup ds), e, some (.str s0)] [] h3 = .exc ⟨1, []⟩ h3 := fun a b c d e => e_script_no (TL := TL) (n := 49) (h := h3) (d := .lst [.str s0]) (by decide) rfl rfl
    have e3' : ∀ a b c d e f : Option D, h__law_error (callD T 49) (flam 0 [6] (fargs (callD T 49 216) (fcons (flst (fcons (fvar 0) fnil)) fnil)) [a, b, c, d, e, f, some (.str s0)]) [] h3 = .ok (.str "script value") h3 := fun a b c d e f => e_err_x (j := 1) (by decide) (by decide) (e_script_no (TL := TL) (n := 49) (h := h3) (d := .lst [.str s0]) (by decide) rfl rfl)
    have q (s : Str) : (s == s) = true := beq_self_eq_true s
    simp only [wp_, e1, gne_str, q, e2, gne_same hp (Nat.le_trans dp (by decide)), w_err, e3']
    exact ⟨he, _, _, _, _, _, _, rfl⟩
  · rintro σ h' ⟨_, a, b, c, d, e, f, rfl⟩
    have gt4' (a b c d : D) (h : Hd) : gtup [a, b, c, d] h = .ok (.tup [a, b, c, d]) h := rfl
    have gng (i : Int) (h : Hd) : gneg (.int i) h = .ok (.int (-i)) h := rfl
    have e1 := e_read (n := 49) (h := h') (by decide) (s := ltext) (Nat.le_of_ble_eq_true (by kernel_rfl)) rd_ltext
    have e2 := e_script_text (TL := TL) (n := 49) (h := h') (by decide) ldue_script (by kernel_rfl) (by decide) ldue_okS wt_ldue
    have e3 := e_read (n := 49) (h := h') (by decide) (s := "") (Nat.le_of_ble_eq_true (by kernel_rfl)) rd_nil
    rw [rows_ldue] at e2
    have q (s : Str) : (s == s) = true := beq_self_eq_true s
    have g0 := geq_same (d := .tup ldue) (h := h') (by kernel_rfl) (Nat.le_of_ble_eq_true (by kernel_rfl))
    have g00 := geq_same (d := .tup []) (h := h') rfl (by decide)
    unfold ltext ldue linner at e1 e2
    unfold ldue linner at g0
    simp only [wp_, gng, gt4', gt3, gt2, gt1, gt0, e1, e2, e3, geq_str, q, g0, g00]
  · refine ⟨fun e he => ?_, _, _, _, _, _, _, rfl⟩
    obtain ⟨j, hj, rfl⟩ := intsFrom_mem he
    refine ⟨j, by simp, ?_⟩
    have : (if (if ((ns.map D.int).length : Int) < 15 then ((ns.map D.int).length : Int) else 15) > 6 then (if ((ns.map D.int).length : Int) < 15 then ((ns.map D.int).length : Int) else 15) else 6).toNat ≤ 15 := by split <;> (split <;> omega)
    omega
end

end Pf
theorem PySem.Challenge.cw_spanwhenever_k18_scripts_written_holds : PySem.Challenge.rw_spanwhenever_k18_scripts_written.Holds := by
  exact Pf.holds_of fun ns _ _ => by
    obtain ⟨d, h, e, rfl⟩ := (Pf.law_k18 (h := []) (ns := ns)).ex
    exact ⟨h, e⟩

