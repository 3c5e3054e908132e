import PyProof.Rows.All
import Wide.All
import OpenK.AllK
import Wide.FinOn
import HandS.ForMost
import HandS.ForExc
import HandS.CallLocal
import HandS.TryOnly
import HandS.IsInst
import HandS.TupAny
import HandS.TupMul
import HandS.Style
import HandS.ExcInit
import HandS.ExcValue
import HandS.ExcIs
import HandS.Walk
import HandS.Zip
import HandS.Rev
import HandS.Strs
import HandS.Text
import HandS.Dict
import HandS.SetKeys
import HandS.ExcField
import HandS.Lambda
import PySem.Challenge.RW_forgeproved_k00_errors_and_their_fields
set_option Elab.async false
set_option linter.all false
set_option maxRecDepth 100000
set_option maxHeartbeats 4000000
/-! Lt1: values without addresses, a store by numbers, results; what relates them to the abstract heap; the judgements. -/
namespace Lt
abbrev St := L2.St
open PySem PySem.Spec PyProof.Rows L2

/-! ### values, the store, results -/
/-- a value: tuples by their items, objects that change by their number in the store, read-only lists by their items -/
inductive A where
  | non | bl (b : Bool) | int (i : Int) | str (s : Str) | tup (xs : List A) | rol (xs : List A) | hd (n : Nat) | fn (f : Addr) | exc (C : Addr) (ns : List Str) (xs : List A)
instance : Inhabited A := ⟨.non⟩
/-- what stands in the store -/
inductive Mu where
  | lst (xs : List A)
  | dic (kvs : List (Key × A))
  | ins (C : Addr) (fs : List (Str × A))
abbrev Sto := List Mu
abbrev Env := List (Option A)
structure Exc where
  cls : Addr
  fs : List (Str × A)
inductive Res (α : Type) where
  | ok (a : α) (μ : Sto)
  | ex (x : Exc) (μ : Sto)
  | bad
abbrev M (α : Type) := Sto → Res α
def ret {α : Type} (a : α) : M α := fun μ => .ok a μ
def bad {α : Type} : M α := fun _ => .bad
def bnd {α β : Type} (m : M α) (k : α → M β) : M β := fun μ => match m μ with
  | .ok a μ' => k a μ'
  | .ex x μ' => .ex x μ'
  | .bad => .bad
def Res.post {α : Type} (r : Res α) (K : α → Sto → Prop) (Kx : Exc → Sto → Prop) : Prop := match r with
  | .ok a μ => K a μ
  | .ex x μ => Kx x μ
  | .bad => False
theorem post_bnd {α β : Type} {m : M α} {k : α → M β} {μ : Sto} {K : β → Sto → Prop} {Kx : Exc → Sto → Prop} :
    (bnd m k μ).post K Kx ↔ (m μ).post (fun a μ' => (k a μ').post K Kx) Kx := by
  unfold bnd
  cases m μ <;> exact Iff.rfl
theorem post_mono {α : Type} {r : Res α} {K K' : α → Sto → Prop} {Kx Kx' : Exc → Sto → Prop} (h : r.post K Kx) (hk : ∀ a μ, K a μ → K' a μ) (hx : ∀ x μ, Kx x μ → Kx' x μ) : r.post K' Kx' := by
  cases r with
  | ok a μ => exact hk a μ h
  | ex x μ => exact hx x μ h
  | bad => exact h
theorem post_ok {α : Type} {r : Res α} {a : α} {μ : Sto} {K : α → Sto → Prop} {Kx : Exc → Sto → Prop} (e : r = .ok a μ) (h : K a μ) : r.post K Kx := by
  subst e
  exact h

/-! ### the relations -/
variable {K : PySem.W.Frag}
mutual
inductive RA (K : PySem.W.Frag) (H : Hp) (loc : List Addr) : V → A → Prop
  | non : RA K H loc .non .non
  | bl (b : Bool) : RA K H loc (.bl b) (.bl b)
  | int (i : Int) : RA K H loc (.int i) (.int i)
  | str (s : Str) : RA K H loc (.str s) (.str s)
  | tup {a : Addr} {vs : List V} {xs : List A} : SqT K H a vs → vs.length ≤ sizeLine → RAs K H loc vs xs → RA K H loc (.ref a) (.tup xs)
  | rol {a : Addr} {vs : List V} {xs : List A} : ((∃ o, H a = some (.frz o (.lst vs))) ∨ ∃ (o : Obj) (its : Array Value) (n : Nat), K.lookup a = some o ∧ o.cls = .type "list" ∧ o.dict = none ∧ o.data = .seq its n ∧ its.size ≤ sizeLine ∧ Vals vs its.toList) →
      vs.length ≤ sizeLine → RAs K H loc vs xs → RA K H loc (.ref a) (.rol xs)
  | hd {a : Addr} {n : Nat} : loc[n]? = some a → RA K H loc (.ref a) (.hd n)
  | fn {f : Addr} : RA K H loc (.ref f) (.fn f)
  | exc {a d C : Addr} {ns : List Str} {vs : List V} {xs : List A} : H a = some (L2.exo a C (some d)) → a ∉ loc → H d = some (L2.exd d (ns.zip vs)) → d ∉ loc → vs.length = ns.length → RAs K H loc vs xs → RA K H loc (.ref a) (.exc C ns xs)
  | ex0 {a C : Addr} : H a = some (L2.ExO (.ref C) a) → a ∉ loc → RA K H loc (.ref a) (.exc C [] [])
inductive RAs (K : PySem.W.Frag) (H : Hp) (loc : List Addr) : List V → List A → Prop
  | nil : RAs K H loc [] []
  | cons {v : V} {vs : List V} {x : A} {xs : List A} : RA K H loc v x → RAs K H loc vs xs → RAs K H loc (v :: vs) (x :: xs)
end
/-- what stays -/
structure Gr (K : PySem.W.Frag) (H : Hp) (loc : List Addr) (H' : Hp) (loc' : List Addr) : Prop where
  pre : ∃ more, loc' = loc ++ more
  tup : ∀ a xs, H a = some (.tup xs) → H' a = some (.tup xs)
  frz : ∀ a o u, H a = some (.frz o u) → H' a = some (.frz o u)
  frm : ∀ a o, H a = some o → a ∉ loc → H' a = some o ∧ a ∉ loc'
section
variable {H H1 H2 : Hp} {loc loc1 loc2 : List Addr}
theorem Gr.refl : Gr K H loc H loc := ⟨⟨[], (List.append_nil _).symm⟩, fun _ _ h => h, fun _ _ _ h => h, fun _ _ h n => ⟨h, n⟩⟩
theorem Gr.trans (a : Gr K H loc H1 loc1) (b : Gr K H1 loc1 H2 loc2) : Gr K H loc H2 loc2 := by
  obtain ⟨m1, rfl⟩ := a.pre
  obtain ⟨m2, rfl⟩ := b.pre
  exact ⟨⟨m1 ++ m2, List.append_assoc _ _ _⟩, fun c xs h => b.tup c xs (a.tup c xs h), fun c o u h => b.frz c o u (a.frz c o u h), fun c o h n => b.frm c o (a.frm c o h n).1 (a.frm c o h n).2⟩
theorem Gr.get (g : Gr K H loc H1 loc1) {n : Nat} {a : Addr} (h : loc[n]? = some a) : loc1[n]? = some a := by
  obtain ⟨m, rfl⟩ := g.pre
  rw [List.getElem?_append_left (List.getElem?_eq_some_iff.mp h).1]
  exact h
theorem Gr.sqT (g : Gr K H loc H1 loc1) {a : Addr} {xs : List V} (h : SqT K H a xs) : SqT K H1 a xs := by
  rcases h with (h | ⟨o, h⟩) | h
  · exact .inl (.inl (g.tup a xs h))
  · exact .inl (.inr ⟨o, g.frz a o _ h⟩)
  · exact .inr h
mutual
theorem RA.mono (g : Gr K H loc H1 loc1) : ∀ {v : V} {x : A}, RA K H loc v x → RA K H1 loc1 v x
  | _, _, .non => .non
  | _, _, .bl b => .bl b
  | _, _, .int i => .int i
  | _, _, .str s => .str s
  | _, _, .tup h l r => .tup (g.sqT h) l (RAs.mono g r)
  | _, _, .rol h l r => .rol (h.imp (fun ⟨o, q⟩ => ⟨o, g.frz _ o _ q⟩) id) l (RAs.mono g r)
  | _, _, .hd h => .hd (g.get h)
  | _, _, .fn => .fn
  | _, _, .exc h1 h2 h3 h4 l r => .exc (g.frm _ _ h1 h2).1 (g.frm _ _ h1 h2).2 (g.frm _ _ h3 h4).1 (g.frm _ _ h3 h4).2 l (RAs.mono g r)
  | _, _, .ex0 h1 h2 => .ex0 (g.frm _ _ h1 h2).1 (g.frm _ _ h1 h2).2
theorem RAs.mono (g : Gr K H loc H1 loc1) : ∀ {vs : List V} {xs : List A}, RAs K H loc vs xs → RAs K H1 loc1 vs xs
  | _, _, .nil => .nil
  | _, _, .cons r t => .cons (RA.mono g r) (RAs.mono g t)
end
mutual
theorem RA.locs (g : ∀ {n : Nat} {a : Addr}, loc[n]? = some a → loc1[n]? = some a) (hx : ∀ (a : Addr) (φ : Heap → Prop), H a = some (.ext φ) → a ∉ loc → a ∉ loc1) : ∀ {v : V} {x : A}, RA K H loc v x → RA K H loc1 v x
  | _, _, .non => .non
  | _, _, .bl b => .bl b
  | _, _, .int i => .int i
  | _, _, .str s => .str s
  | _, _, .tup h l r => .tup h l (RAs.locs g hx r)
  | _, _, .rol h l r => .rol h l (RAs.locs g hx r)
  | _, _, .hd h => .hd (g h)
  | _, _, .fn => .fn
  | _, _, .exc h1 h2 h3 h4 l r => .exc h1 (hx _ _ h1 h2) h3 (hx _ _ h3 h4) l (RAs.locs g hx r)
  | _, _, .ex0 h1 h2 => .ex0 h1 (hx _ _ h1 h2)
theorem RAs.locs (g : ∀ {n : Nat} {a : Addr}, loc[n]? = some a → loc1[n]? = some a) (hx : ∀ (a : Addr) (φ : Heap → Prop), H a = some (.ext φ) → a ∉ loc → a ∉ loc1) : ∀ {vs : List V} {xs : List A}, RAs K H loc vs xs → RAs K H loc1 vs xs
  | _, _, .nil => .nil
  | _, _, .cons r t => .cons (RA.locs g hx r) (RAs.locs g hx t)
end
theorem RAs.length : ∀ {vs : List V} {xs : List A}, RAs K H loc vs xs → vs.length = xs.length
  | _, _, .nil => rfl
  | _, _, .cons _ t => congrArg (· + 1) (RAs.length t)
theorem RAs.get : ∀ {vs : List V} {xs : List A} {i : Nat} {x : A}, RAs K H loc vs xs → xs[i]? = some x → ∃ v, vs[i]? = some v ∧ RA K H loc v x
  | _, _, _, _, .nil, e => by simp at e
  | _, _, 0, _, .cons r _, e => by simp at e; subst e; exact ⟨_, rfl, r⟩
  | _, _, i + 1, x, .cons _ t, e => by
    obtain ⟨u, h1, h2⟩ := RAs.get (i := i) (x := x) t (by simpa using e)
    exact ⟨u, by simpa using h1, h2⟩
theorem RAs.getV : ∀ {vs : List V} {xs : List A} {i : Nat} {v : V}, RAs K H loc vs xs → vs[i]? = some v → ∃ x, xs[i]? = some x ∧ RA K H loc v x
  | _, _, _, _, .nil, e => by simp at e
  | _, _, 0, _, .cons r _, e => by simp at e; subst e; exact ⟨_, rfl, r⟩
  | _, _, i + 1, x, .cons _ t, e => by
    obtain ⟨u, h1, h2⟩ := RAs.getV (i := i) (v := x) t (by simpa using e)
    exact ⟨u, by simpa using h1, h2⟩
theorem RAs.append : ∀ {vs ws : List V} {xs ys : List A}, RAs K H loc vs xs → RAs K H loc ws ys → RAs K H loc (vs ++ ws) (xs ++ ys)
  | _, _, _, _, .nil, s => s
  | _, _, _, _, .cons r t, s => .cons r (RAs.append t s)
theorem RAs.take : ∀ {vs : List V} {xs : List A} (n : Nat), RAs K H loc vs xs → RAs K H loc (vs.take n) (xs.take n)
  | _, _, 0, _ => .nil
  | _, _, _ + 1, .nil => .nil
  | _, _, n + 1, .cons r t => .cons r (RAs.take n t)
theorem RAs.drop : ∀ {vs : List V} {xs : List A} (n : Nat), RAs K H loc vs xs → RAs K H loc (vs.drop n) (xs.drop n)
  | _, _, 0, r => r
  | _, _, _ + 1, .nil => .nil
  | _, _, n + 1, .cons _ t => RAs.drop n t
theorem RAs.set : ∀ {vs : List V} {xs : List A} (n : Nat) {v : V} {x : A}, RAs K H loc vs xs → RA K H loc v x → RAs K H loc (vs.set n v) (xs.set n x)
  | _, _, _, _, _, .nil, _ => .nil
  | _, _, 0, _, _, .cons _ t, q => .cons q t
  | _, _, n + 1, _, _, .cons r t, q => .cons r (RAs.set n t q)
theorem RAs.dropLast {vs : List V} {xs : List A} (h : RAs K H loc vs xs) : RAs K H loc vs.dropLast xs.dropLast := by
  rw [List.dropLast_eq_take, List.dropLast_eq_take, h.length]
  exact h.take _
theorem RAs.reverse : ∀ {vs : List V} {xs : List A}, RAs K H loc vs xs → RAs K H loc vs.reverse xs.reverse
  | _, _, .nil => .nil
  | _, _, .cons r t => by
    rw [List.reverse_cons, List.reverse_cons]
    exact (RAs.reverse t).append (.cons r .nil)
theorem RAs.erase : ∀ {vs : List V} {xs : List A} (n : Nat), RAs K H loc vs xs → RAs K H loc (vs.eraseIdx n) (xs.eraseIdx n)
  | _, _, _, .nil => .nil
  | _, _, 0, .cons _ t => t
  | _, _, n + 1, .cons r t => .cons r (RAs.erase n t)
end
/-- an object of the store -/
def RF (K : PySem.W.Frag) (H : Hp) (loc : List Addr) : List (Str × V) → List (Str × A) → Prop := Paired fun p q => p.1 = q.1 ∧ RA K H loc p.2 q.2
def RKV (K : PySem.W.Frag) (H : Hp) (loc : List Addr) : List (Key × V) → List (Key × A) → Prop := Paired fun p q => p.1 = q.1 ∧ RA K H loc p.2 q.2
def RM (K : PySem.W.Frag) (H : Hp) (loc : List Addr) (m : Mu) (o : HO) : Prop := match m with
  | .lst xs => ∃ vs, o = .lst vs ∧ vs.length ≤ sizeLine ∧ RAs K H loc vs xs
  | .dic kvs => ∃ vs, o = .dK vs ∧ vs.length ≤ sizeLine ∧ RKV K H loc vs kvs
  | .ins C fs => ∃ dx vs, o = .ins C dx vs ∧ RF K H loc vs fs
theorem RM.mono {H H1 : Hp} {loc loc1 : List Addr} {m : Mu} {o : HO} (g : Gr K H loc H1 loc1) (h : RM K H loc m o) : RM K H1 loc1 m o := by
  cases m with
  | lst xs =>
    obtain ⟨vs, e, l, r⟩ := h
    exact ⟨vs, e, l, r.mono g⟩
  | dic kvs =>
    obtain ⟨vs, e, l, r⟩ := h
    exact ⟨vs, e, l, Paired.mapP r fun p q z => ⟨z.1, z.2.mono g⟩⟩
  | ins C fs =>
    obtain ⟨dx, vs, e, r⟩ := h
    exact ⟨dx, vs, e, Paired.mapP r fun p q z => ⟨z.1, z.2.mono g⟩⟩
structure RS (K : PySem.W.Frag) (H : Hp) (loc : List Addr) (μ : Sto) : Prop where
  len : loc.length = μ.length
  nd : loc.Nodup
  at_ : ∀ (n : Nat) (m : Mu), μ[n]? = some m → ∃ a o, loc[n]? = some a ∧ H a = some o ∧ RM K H loc m o
theorem RS.nil {H : Hp} : RS K H [] [] := ⟨rfl, List.nodup_nil, fun n m e => by simp at e⟩
theorem RM.nottup {H : Hp} {loc : List Addr} {m : Mu} {o : HO} (h : RM K H loc m o) : (∀ xs, o ≠ .tup xs) ∧ ∀ ob u, o ≠ .frz ob u := by
  cases m with
  | lst xs => obtain ⟨_, e, _⟩ := h; subst e; exact ⟨fun _ z => (nomatch z), fun _ _ z => (nomatch z)⟩
  | dic kvs => obtain ⟨_, e, _⟩ := h; subst e; exact ⟨fun _ z => (nomatch z), fun _ _ z => (nomatch z)⟩
  | ins C fs => obtain ⟨_, _, e, _⟩ := h; subst e; exact ⟨fun _ z => (nomatch z), fun _ _ z => (nomatch z)⟩
section
variable {H : Hp} {loc : List Addr} {μ : Sto}
/-- a new object that is tracked and not in the store -/
theorem Gr.new {p : Addr} {o : HO} (h : H p = none) : Gr K H loc (upd H p o) loc :=
  ⟨⟨[], (List.append_nil _).symm⟩, fun a xs e => by rw [upd_ne (ne_of_none e h)]; exact e, fun a ob u e => by rw [upd_ne (ne_of_none e h)]; exact e, fun a u e n => ⟨by rw [upd_ne (ne_of_none e h)]; exact e, n⟩⟩
theorem RS.new {p : Addr} {o : HO} (r : RS K H loc μ) (h : H p = none) : RS K (upd H p o) loc μ :=
  ⟨r.len, r.nd, fun n m e => by
    obtain ⟨a, u, h1, h2, h3⟩ := r.at_ n m e
    exact ⟨a, u, h1, by rw [upd_ne (ne_of_none h2 h)]; exact h2, h3.mono (Gr.new h)⟩⟩
theorem RS.notin (r : RS K H loc μ) {p : Addr} (h : H p = none) : p ∉ loc := fun hm => by
  obtain ⟨n, hn, e⟩ := List.mem_iff_getElem.mp hm
  have hl : n < μ.length := by rw [← r.len]; exact hn
  obtain ⟨a, u, h1, h2, _⟩ := r.at_ n μ[n] (List.getElem?_eq_getElem hl)
  rw [List.getElem?_eq_getElem hn, e] at h1
  cases h1
  rw [h] at h2
  cases h2
/-- a new object of the store -/
theorem Gr.alloc {p : Addr} {o : HO} (h : H p = none) : Gr K H loc (upd H p o) (loc ++ [p]) :=
  ⟨⟨[p], rfl⟩, fun a xs e => by rw [upd_ne (ne_of_none e h)]; exact e, fun a ob u e => by rw [upd_ne (ne_of_none e h)]; exact e, fun a u e n => ⟨by rw [upd_ne (ne_of_none e h)]; exact e, fun hm => (List.mem_append.mp hm).elim n fun z => ne_of_none e h (by simpa using z)⟩⟩
/-- an object that is tracked and not of the store comes into it -/
theorem Gr.adopt {H' : Hp} {loc' : List Addr} {p : Addr} (g : Gr K H loc H' loc') (h : H p = none) : Gr K H loc H' (loc' ++ [p]) := by
  obtain ⟨m, hm⟩ := g.pre
  refine ⟨⟨m ++ [p], by rw [hm, List.append_assoc]⟩, g.tup, g.frz, fun a o e n => ⟨(g.frm a o e n).1, fun hm => (List.mem_append.mp hm).elim (g.frm a o e n).2 fun z => ne_of_none e h (by simpa using z)⟩⟩
theorem RS.alloc {p : Addr} {o : HO} {m : Mu} (r : RS K H loc μ) (h : H p = none) (hm : RM K (upd H p o) (loc ++ [p]) m o) : RS K (upd H p o) (loc ++ [p]) (μ ++ [m]) := by
  refine ⟨by rw [List.length_append, List.length_append, r.len]; rfl, ?_, fun n m' e => ?_⟩
  · rw [List.nodup_append]
    refine ⟨r.nd, by simp, fun a ha b hb z => ?_⟩
    have : b = p := by simpa using hb
    subst this
    subst z
    exact r.notin h ha
  · by_cases hn : n < μ.length
    · rw [List.getElem?_append_left hn] at e
      obtain ⟨a, u, h1, h2, h3⟩ := r.at_ n m' e
      exact ⟨a, u, (Gr.alloc (K := K) (o := o) h).get h1, by rw [upd_ne (ne_of_none h2 h)]; exact h2, h3.mono (Gr.alloc h)⟩
    · have hn' : n = μ.length := by
        have := (List.getElem?_eq_some_iff.mp e).1
        rw [List.length_append] at this
        have e1 : [m].length = 1 := rfl
        omega
      subst hn'
      rw [List.getElem?_append_right (Nat.le_refl _), Nat.sub_self] at e
      have e' : m = m' := Option.some.inj e
      subst e'
      refine ⟨p, o, ?_, upd_same, hm⟩
      rw [← r.len, List.getElem?_append_right (Nat.le_refl _), Nat.sub_self]
      rfl
theorem upd_gr {n : Nat} {a : Addr} {m : Mu} {o : HO} (r : RS K H loc μ) (hn : μ[n]? = some m) (ha : loc[n]? = some a) : Gr K H loc (upd H a o) loc := by
  obtain ⟨a', u, h1, h2, h3⟩ := r.at_ n m hn
  rw [ha] at h1
  cases h1
  obtain ⟨n1, n2⟩ := h3.nottup
  refine ⟨⟨[], (List.append_nil _).symm⟩, fun b xs e => ?_, fun b ob w e => ?_, fun b u e n => ⟨?_, n⟩⟩
  · rw [upd_ne (fun z => by subst z; rw [h2] at e; exact n1 xs (Option.some.inj e))]
    exact e
  · rw [upd_ne (fun z => by subst z; rw [h2] at e; exact n2 ob w (Option.some.inj e))]
    exact e
  · rw [upd_ne (fun z => by subst z; exact n (List.mem_of_getElem? ha))]
    exact e
/-- an object of the store changes -/
theorem RS.set {n : Nat} {a : Addr} {m m' : Mu} {o : HO} (r : RS K H loc μ) (hn : μ[n]? = some m) (ha : loc[n]? = some a) (hm : RM K (upd H a o) loc m' o) : RS K (upd H a o) loc (μ.set n m') := by
  have hl := (List.getElem?_eq_some_iff.mp hn).1
  refine ⟨by rw [List.length_set]; exact r.len, r.nd, fun k mk e => ?_⟩
  by_cases hk : n = k
  · subst hk
    rw [List.getElem?_set_self hl] at e
    cases e
    exact ⟨a, o, ha, upd_same, hm⟩
  · rw [List.getElem?_set_ne hk] at e
    obtain ⟨b, u, h1, h2, h3⟩ := r.at_ k mk e
    refine ⟨b, u, h1, ?_, h3.mono (upd_gr r hn ha)⟩
    rw [upd_ne (fun z => ?_)]
    · exact h2
    · subst z
      exact hk (nodup_ixA r.nd ha h1)
where
  nodup_ixA {l : List Addr} (hN : l.Nodup) {i j : Nat} {x : Addr} (a : l[i]? = some x) (b : l[j]? = some x) : i = j := by
    obtain ⟨h1, e1⟩ := List.getElem?_eq_some_iff.mp a
    obtain ⟨h2, e2⟩ := List.getElem?_eq_some_iff.mp b
    exact (List.getElem_inj hN).mp (e1.trans e2.symm)
theorem RS.adopt {p : Addr} {o : HO} {m : Mu} (r : RS K H loc μ) (h : H p = some o) (hp : p ∉ loc) (hm : RM K H loc m o) : RS K H (loc ++ [p]) (μ ++ [m]) := by
  have g : ∀ {n : Nat} {a : Addr}, loc[n]? = some a → (loc ++ [p])[n]? = some a := fun {n a} e => by
    rw [List.getElem?_append_left (List.getElem?_eq_some_iff.mp e).1]
    exact e
  have hx : ∀ (a : Addr) (φ : Heap → Prop), H a = some (.ext φ) → a ∉ loc → a ∉ loc ++ [p] := fun a φ e n hm' => by
    rcases List.mem_append.mp hm' with z | z
    · exact n z
    · have z' : a = p := by simpa using z
      subst z'
      rw [h] at e
      cases e
      cases m with
      | lst xs => obtain ⟨_, e, _⟩ := hm; cases e
      | dic kvs => obtain ⟨_, e, _⟩ := hm; cases e
      | ins C fs => obtain ⟨_, _, e, _⟩ := hm; cases e
  have mono : ∀ {m : Mu} {o : HO}, RM K H loc m o → RM K H (loc ++ [p]) m o := fun {m o} q => by
    cases m with
    | lst xs =>
      obtain ⟨vs, e, l, r⟩ := q
      exact ⟨vs, e, l, RAs.locs g hx r⟩
    | dic kvs =>
      obtain ⟨vs, e, l, r⟩ := q
      exact ⟨vs, e, l, Paired.mapP r fun p q z => ⟨z.1, RA.locs g hx z.2⟩⟩
    | ins C fs =>
      obtain ⟨dx, vs, e, r⟩ := q
      exact ⟨dx, vs, e, Paired.mapP r fun p q z => ⟨z.1, RA.locs g hx z.2⟩⟩
  refine ⟨by rw [List.length_append, List.length_append, r.len]; rfl, ?_, fun n m' e => ?_⟩
  · rw [List.nodup_append]
    refine ⟨r.nd, by simp, fun a ha b hb z => ?_⟩
    have : b = p := by simpa using hb
    subst this
    subst z
    exact hp ha
  · by_cases hn : n < μ.length
    · rw [List.getElem?_append_left hn] at e
      obtain ⟨a, u, h1, h2, h3⟩ := r.at_ n m' e
      exact ⟨a, u, g h1, h2, mono h3⟩
    · have hn' : n = μ.length := by
        have := (List.getElem?_eq_some_iff.mp e).1
        rw [List.length_append] at this
        have e1 : [m].length = 1 := rfl
        omega
      subst hn'
      rw [List.getElem?_append_right (Nat.le_refl _), Nat.sub_self] at e
      have e' : m = m' := Option.some.inj e
      subst e'
      refine ⟨p, o, ?_, h, mono hm⟩
      rw [← r.len, List.getElem?_append_right (Nat.le_refl _), Nat.sub_self]
      rfl
/-- behind a change that is seen from within the store alone -/
theorem RS.lst (r : RS K H loc μ) {n : Nat} {xs : List A} (h : μ[n]? = some (.lst xs)) {a : Addr} (ha : loc[n]? = some a) : ∃ vs, H a = some (.lst vs) ∧ vs.length ≤ sizeLine ∧ RAs K H loc vs xs := by
  obtain ⟨b, o, h1, h2, vs, e, l, q⟩ := r.at_ n _ h
  rw [ha] at h1
  cases h1
  subst e
  exact ⟨vs, h2, l, q⟩
end

/-! ### the frame's values -/
structure RE (K : PySem.W.Frag) (H : Hp) (loc : List Addr) (σ : St) (δ : Env) : Prop where
  len : σ.length = δ.length
  at_ : ∀ (i : Nat) (x : A), δ[i]? = some (some x) → ∃ v, σ[i]? = some (some v) ∧ RA K H loc v x
section
variable {H H1 : Hp} {loc loc1 : List Addr} {σ : St} {δ : Env}
theorem RE.mono (g : Gr K H loc H1 loc1) (r : RE K H loc σ δ) : RE K H1 loc1 σ δ := ⟨r.len, fun i x e => let ⟨v, h, q⟩ := r.at_ i x e; ⟨v, h, q.mono g⟩⟩
theorem RE.set (r : RE K H loc σ δ) {i : Nat} {v : V} {x : A} (q : RA K H loc v x) : RE K H loc (σ.set i (some v)) (δ.set i (some x)) := by
  refine ⟨by rw [List.length_set, List.length_set]; exact r.len, fun j y e => ?_⟩
  by_cases hij : i = j
  · subst hij
    have hl : i < δ.length := by
      have := (List.getElem?_eq_some_iff.mp e).1
      rw [List.length_set] at this
      exact this
    rw [List.getElem?_set_self hl] at e
    have e' : x = y := Option.some.inj (Option.some.inj e)
    subst e'
    exact ⟨v, List.getElem?_set_self (by rw [r.len]; exact hl), q⟩
  · rw [List.getElem?_set_ne hij] at e
    obtain ⟨w, h1, h2⟩ := r.at_ j y e
    exact ⟨w, by rw [List.getElem?_set_ne hij]; exact h1, h2⟩
theorem RE.begins {vs : List V} {xs : List A} {N : List Str} (h : RAs K H loc vs xs) : RE K H loc (L2.start N vs) (xs.map some ++ List.replicate (N.length - xs.length) none) := by
  unfold L2.start
  have hl := h.length
  refine ⟨by rw [List.length_append, List.length_append, List.length_map, List.length_map, List.length_replicate, List.length_replicate, hl], fun i x e => ?_⟩
  by_cases hi : i < xs.length
  · rw [List.getElem?_append_left (by rw [List.length_map]; exact hi), List.getElem?_map] at e
    cases q : xs[i]? with
    | none => rw [q] at e; cases e
    | some y =>
      rw [q] at e
      have e' : y = x := Option.some.inj (Option.some.inj e)
      subst e'
      obtain ⟨v, h1, h2⟩ := h.get q
      refine ⟨v, ?_, h2⟩
      rw [List.getElem?_append_left (by rw [List.length_map, hl]; exact hi), List.getElem?_map, h1]
      rfl
  · rw [List.getElem?_append_right (by rw [List.length_map]; omega), List.getElem?_replicate] at e
    split at e
    · cases e
    · cases e
end
/-- an exception -/
def RX (K : PySem.W.Frag) (H : Hp) (loc : List Addr) (x : Exc) (cls : Value) (d : Option Addr) : Prop :=
  cls = .ref x.cls ∧ (x.fs ≠ [] → ∃ dd vs, d = some dd ∧ H dd = some (.xd vs) ∧ RF K H loc vs x.fs)

/-! ### the weakest readings -/
section
variable (X : Cx)
def wE (e : Expr) : TE := fun σ H Q => ∀ (pins : List (Addr × Obj)) (s : Shared), Inv X pins σ H s → wpAny (model X.prog X.w) X.A (eval e X.env) (EP X pins σ Q) X.xe s
def wT (e : Expr) : TT := fun σ H Q => ∀ (pins : List (Addr × Obj)) (s : Shared), Inv X pins σ H s → wpAny (model X.prog X.w) X.A (isTrue e X.env (eval e X.env)) (TP X pins σ Q) X.xe s
def wW (e : Expr) : TT := fun σ H Q => ∀ (whole : Sem Value) (pins : List (Addr × Obj)) (s : Shared), Inv X pins σ H s → wpAny (model X.prog X.w) X.A (isTrue e X.env whole) (TP X pins σ Q) X.xe s
def wA (es : List Expr) : TA := fun σ H Q => ∀ (pos : Pos) (pins : List (Addr × Obj)) (s : Shared), Inv X pins σ H s → wpAny (model X.prog X.w) X.A (spliced (backTo pos (starEach es X.env))) (AP X pins σ Q) X.xe s
def wS (st : Stmt) : TS := fun D σ H => ∀ (pins : List (Addr × Obj)) (s : Shared), Inv X pins σ H s → wpAny (model X.prog X.w) X.A (exec st X.env) (SP X pins D) X.xe s
def wB (sts : List Stmt) : TS := fun D σ H => ∀ (pins : List (Addr × Obj)) (s : Shared), Inv X pins σ H s → wpAny (model X.prog X.w) X.A (execs sts X.env) (SP X pins D) X.xe s
def wG (tg : Expr) : TG := fun v σ H Q => ∀ (pins : List (Addr × Obj)) (s : Shared) (u : Value), Inv X pins σ H s → RelV v u → wpAny (model X.prog X.w) X.A (assign tg X.env u) (fun _ s' => ∃ σ' H', Inv X pins σ' H' s' ∧ Q σ' H') X.xe s
def wI (tg iter : Expr) : TI := fun σ H R => ∀ (pins : List (Addr × Obj)) (s : Shared), Inv X pins σ H s →
  wpAny (model X.prog X.w) X.A (eval iter X.env) (fun v s1 => wpAny (model X.prog X.w) X.A (pyIter v) (PIE X pins σ tg R) X.xe s1) X.xe s
end
section
variable {X : Cx}
theorem pwE {e : Expr} : PE X e (wE X e) := ⟨fun pins s σ H Q I h => h pins s I⟩
theorem pwT {e : Expr} : PT X e (wT X e) := ⟨fun pins s σ H Q I h => h pins s I⟩
theorem pwW {e : Expr} : PW X e (wW X e) := ⟨fun wh pins s σ H Q I h => h wh pins s I⟩
theorem pwA {es : List Expr} : PA X es (wA X es) := ⟨fun pos pins s σ H Q I h => h pos pins s I⟩
theorem pwS {st : Stmt} : PS X st (wS X st) := ⟨fun pins s σ H D I h => h pins s I⟩
theorem pwB {sts : List Stmt} : PSs X sts (wB X sts) := ⟨fun pins s σ H D I h => h pins s I⟩
theorem pwG {tg : Expr} : PG X tg (wG X tg) := ⟨fun pins s σ H v u Q I r h => h pins s u I r⟩
theorem pwI {tg iter : Expr} : PI X tg iter (wI X tg iter) := ⟨fun pins s σ H R I h => h pins s I⟩
theorem wE_of {e : Expr} {t : TE} {σ : St} {H : Hp} {Q : VK} (h : PE X e t) (q : t σ H Q) : wE X e σ H Q := fun pins s I => h.run pins s σ H Q I q
theorem wT_of {e : Expr} {t : TT} {σ : St} {H : Hp} {Q : Bool → Hp → Prop} (h : PT X e t) (q : t σ H Q) : wT X e σ H Q := fun pins s I => h.run pins s σ H Q I q
theorem wW_of {e : Expr} {t : TT} {σ : St} {H : Hp} {Q : Bool → Hp → Prop} (h : PW X e t) (q : t σ H Q) : wW X e σ H Q := fun wh pins s I => h.run wh pins s σ H Q I q
theorem wA_of {es : List Expr} {t : TA} {σ : St} {H : Hp} {Q : List V → Hp → Prop} (h : PA X es t) (q : t σ H Q) : wA X es σ H Q := fun pos pins s I => h.run pos pins s σ H Q I q
theorem wS_of {st : Stmt} {t : TS} {σ : St} {H : Hp} {D : Ends} (h : PS X st t) (q : t D σ H) : wS X st D σ H := fun pins s I => h.run pins s σ H D I q
theorem wB_of {st : List Stmt} {t : TS} {σ : St} {H : Hp} {D : Ends} (h : PSs X st t) (q : t D σ H) : wB X st D σ H := fun pins s I => h.run pins s σ H D I q
theorem wG_of {tg : Expr} {t : TG} {v : V} {σ : St} {H : Hp} {Q : St → Hp → Prop} (h : PG X tg t) (q : t v σ H Q) : wG X tg v σ H Q := fun pins s u I r => h.run pins s σ H v u Q I r q
theorem wI_of {tg iter : Expr} {t : TI} {σ : St} {H : Hp} {R : It → Hp → Prop} (h : PI X tg iter t) (q : t σ H R) : wI X tg iter σ H R := fun pins s I => h.run pins s σ H R I q
end

/-! ### the judgements -/
/-- a statement's run never ends in an exception of its own: it is told as .rs -/
def NX : Exc → Sto → Prop := fun _ _ => False
/-- what is wanted of an exception that a piece of code lets out, from here -/
def KX (X : Cx) (W : WX) (σ : St) (H : Hp) (loc : List Addr) : Exc → Sto → Prop := fun x μ' => ∀ (H' : Hp) (loc' : List Addr) (cls : Value) (d : Option Addr), Gr X.K H loc H' loc' → RS X.K H' loc' μ' → RX X.K H' loc' x cls d → W cls d σ H'
/-- a value, from here -/
def KV_ (X : Cx) (H : Hp) (loc : List Addr) (Q : VK) : A → Sto → Prop := fun a μ' => ∀ (v : V) (H' : Hp) (loc' : List Addr), Gr X.K H loc H' loc' → RS X.K H' loc' μ' → RA X.K H' loc' v a → Q v H'
def KVs (X : Cx) (H : Hp) (loc : List Addr) (Q : List V → Hp → Prop) : List A → Sto → Prop := fun as μ' => ∀ (vs : List V) (H' : Hp) (loc' : List Addr), Gr X.K H loc H' loc' → RS X.K H' loc' μ' → RAs X.K H' loc' vs as → Q vs H'
def KB (X : Cx) (H : Hp) (loc : List Addr) (Q : Bool → Hp → Prop) : Bool → Sto → Prop := fun b μ' => ∀ (H' : Hp) (loc' : List Addr), Gr X.K H loc H' loc' → RS X.K H' loc' μ' → Q b H'
section
variable {X : Cx} {W : WX} {σ : St} {H H1 : Hp} {loc loc1 : List Addr}
theorem KX.mono {x : Exc} {μ : Sto} (g : Gr X.K H loc H1 loc1) (h : KX X W σ H loc x μ) : KX X W σ H1 loc1 x μ := fun H' loc' cls d g' => h H' loc' cls d (g.trans g')
theorem KV_.mono {Q : VK} {a : A} {μ : Sto} (g : Gr X.K H loc H1 loc1) (h : KV_ X H loc Q a μ) : KV_ X H1 loc1 Q a μ := fun v H' loc' g' => h v H' loc' (g.trans g')
theorem KVs.mono {Q : List V → Hp → Prop} {a : List A} {μ : Sto} (g : Gr X.K H loc H1 loc1) (h : KVs X H loc Q a μ) : KVs X H1 loc1 Q a μ := fun v H' loc' g' => h v H' loc' (g.trans g')
theorem KB.mono {Q : Bool → Hp → Prop} {a : Bool} {μ : Sto} (g : Gr X.K H loc H1 loc1) (h : KB X H loc Q a μ) : KB X H1 loc1 Q a μ := fun H' loc' g' => h H' loc' (g.trans g')
end
def SE (X : Cx) (W : WX) (e : Expr) (m : Env → M A) : Prop := ∀ (σ : St) (H : Hp) (loc : List Addr) (δ : Env) (μ : Sto) (Q : VK), RE X.K H loc σ δ → RS X.K H loc μ → (m δ μ).post (KV_ X H loc Q) (KX X W σ H loc) → wE X e σ H Q
def SA (X : Cx) (W : WX) (es : List Expr) (m : Env → M (List A)) : Prop := ∀ (σ : St) (H : Hp) (loc : List Addr) (δ : Env) (μ : Sto) (Q : List V → Hp → Prop), RE X.K H loc σ δ → RS X.K H loc μ → (m δ μ).post (KVs X H loc Q) (KX X W σ H loc) → wA X es σ H Q
def ST (X : Cx) (W : WX) (e : Expr) (m : Env → M Bool) : Prop := ∀ (σ : St) (H : Hp) (loc : List Addr) (δ : Env) (μ : Sto) (Q : Bool → Hp → Prop), RE X.K H loc σ δ → RS X.K H loc μ → (m δ μ).post (KB X H loc Q) (KX X W σ H loc) → wT X e σ H Q
def SW (X : Cx) (W : WX) (e : Expr) (m : Env → M Bool) : Prop := ∀ (σ : St) (H : Hp) (loc : List Addr) (δ : Env) (μ : Sto) (Q : Bool → Hp → Prop), RE X.K H loc σ δ → RS X.K H loc μ → (m δ μ).post (KB X H loc Q) (KX X W σ H loc) → wW X e σ H Q
/-- what comes of a statement -/
inductive Fl where
  | nx (δ : Env) | bk (δ : Env) | ct (δ : Env) | rt (a : A) | rs (x : Exc) (δ : Env)
def KF (X : Cx) (W : WX) (D : Ends) (H : Hp) (loc : List Addr) : Fl → Sto → Prop := fun fl μ' => match fl with
  | .nx δ => ∀ (σ' : St) (H' : Hp) (loc' : List Addr), Gr X.K H loc H' loc' → RS X.K H' loc' μ' → RE X.K H' loc' σ' δ → D.nx σ' H'
  | .bk δ => ∀ (σ' : St) (H' : Hp) (loc' : List Addr), Gr X.K H loc H' loc' → RS X.K H' loc' μ' → RE X.K H' loc' σ' δ → D.bk σ' H'
  | .ct δ => ∀ (σ' : St) (H' : Hp) (loc' : List Addr), Gr X.K H loc H' loc' → RS X.K H' loc' μ' → RE X.K H' loc' σ' δ → D.ct σ' H'
  | .rt a => ∀ (v : V) (H' : Hp) (loc' : List Addr), Gr X.K H loc H' loc' → RS X.K H' loc' μ' → RA X.K H' loc' v a → D.rt v H'
  | .rs x δ => ∀ (σ' : St) (H' : Hp) (loc' : List Addr) (cls : Value) (d : Option Addr), Gr X.K H loc H' loc' → RS X.K H' loc' μ' → RE X.K H' loc' σ' δ → RX X.K H' loc' x cls d → W cls d σ' H'
theorem KF.mono {X : Cx} {W : WX} {D : Ends} {H H1 : Hp} {loc loc1 : List Addr} {fl : Fl} {μ : Sto} (g : Gr X.K H loc H1 loc1) (h : KF X W D H loc fl μ) : KF X W D H1 loc1 fl μ := by
  cases fl with
  | nx δ => exact fun σ' H' loc' g' => h σ' H' loc' (g.trans g')
  | bk δ => exact fun σ' H' loc' g' => h σ' H' loc' (g.trans g')
  | ct δ => exact fun σ' H' loc' g' => h σ' H' loc' (g.trans g')
  | rt a => exact fun v H' loc' g' => h v H' loc' (g.trans g')
  | rs x δ => exact fun σ' H' loc' cls d g' => h σ' H' loc' cls d (g.trans g')
def SS (X : Cx) (W : WX) (st : Stmt) (m : Env → M Fl) : Prop := ∀ (σ : St) (H : Hp) (loc : List Addr) (δ : Env) (μ : Sto) (D : Ends), RE X.K H loc σ δ → RS X.K H loc μ → (m δ μ).post (KF X W D H loc) NX → wS X st D σ H
def SB (X : Cx) (W : WX) (sts : List Stmt) (m : Env → M Fl) : Prop := ∀ (σ : St) (H : Hp) (loc : List Addr) (δ : Env) (μ : Sto) (D : Ends), RE X.K H loc σ δ → RS X.K H loc μ → (m δ μ).post (KF X W D H loc) NX → wB X sts D σ H
/-- as before but for some slots -/
def Agree (T : List Nat) (σ σ' : St) : Prop := σ'.length = σ.length ∧ ∀ i, i ∉ T → σ'[i]? = σ[i]?
theorem Agree.refl {T : List Nat} {σ : St} : Agree T σ σ := ⟨rfl, fun _ _ => rfl⟩
theorem Agree.trans {T U : List Nat} {σ σ1 σ2 : St} (a : Agree T σ σ1) (b : Agree U σ1 σ2) : Agree (T ++ U) σ σ2 := ⟨b.1.trans a.1, fun i h => (b.2 i fun z => h (List.mem_append_right _ z)).trans (a.2 i fun z => h (List.mem_append_left _ z))⟩
theorem Agree.wipe {T vs : List Nat} {σ σ' : St} (a : Agree T σ σ') (h : ∀ i ∈ T, i ∈ vs) : L2.wipe σ' vs = L2.wipe σ vs := by
  refine List.ext_getElem? fun i => ?_
  have out : ∀ {τ : St} {j : Nat} {l : List Nat}, j ∉ l → (L2.wipe τ l)[j]? = τ[j]? := fun {τ j l} hj => by
    induction l with
    | nil => rfl
    | cons v l ih =>
      show ((L2.wipe τ l).set v none)[j]? = _
      rw [List.getElem?_set_ne (fun z => hj (by rw [z]; exact List.mem_cons_self ..))]
      exact ih fun z => hj (List.mem_cons_of_mem _ z)
  have inn : ∀ {τ : St} {j : Nat} {l : List Nat}, j ∈ l → (L2.wipe τ l)[j]? = if j < τ.length then some none else none := fun {τ j l} hj => by
    induction l with
    | nil => cases hj
    | cons v l ih =>
      show ((L2.wipe τ l).set v none)[j]? = _
      by_cases hv : v = j
      · subst hv
        by_cases hl : v < (L2.wipe τ l).length
        · rw [List.getElem?_set_self hl, if_pos (by rw [L2.wipe_length] at hl; exact hl)]
        · rw [List.getElem?_eq_none (by rw [List.length_set]; exact Nat.le_of_not_lt hl), if_neg (by rw [L2.wipe_length] at hl; exact hl)]
      · rw [List.getElem?_set_ne hv]
        exact ih ((List.mem_cons.mp hj).resolve_left fun z => hv z.symm)
  by_cases hi : i ∈ vs
  · rw [inn hi, inn hi, a.1]
  · rw [out hi, out hi]
    exact a.2 i fun z => hi (h i z)
/-- a target; T: the slots it sets -/
def SG (X : Cx) (W : WX) (T : List Nat) (tg : Expr) (g : A → Env → M Env) : Prop := ∀ (σ : St) (H : Hp) (loc : List Addr) (δ : Env) (μ : Sto) (v : V) (a : A) (Q : St → Hp → Prop), RE X.K H loc σ δ → RS X.K H loc μ → RA X.K H loc v a →
  (g a δ μ).post (fun δ' μ' => ∀ (σ' : St) (H' : Hp) (loc' : List Addr), Gr X.K H loc H' loc' → RS X.K H' loc' μ' → RE X.K H' loc' σ' δ' → Agree T σ σ' → Q σ' H') NX → wG X tg v σ H Q
/-- lift: an expression's run within a statement -/
def inS {α : Type} (m : M α) (δ : Env) (k : α → M Fl) : M Fl := fun μ => match m μ with
  | .ok a μ' => k a μ'
  | .ex x μ' => .ok (.rs x δ) μ'
  | .bad => .bad
theorem post_inS {α : Type} {m : M α} {δ : Env} {k : α → M Fl} {μ : Sto} {Kf : Fl → Sto → Prop} (h : (inS m δ k μ).post Kf NX) : (m μ).post (fun a μ' => (k a μ').post Kf NX) (fun x μ' => Kf (.rs x δ) μ') := by
  unfold inS at h
  cases e : m μ with
  | ok a μ' => rw [e] at h; exact h
  | ex x μ' => rw [e] at h; exact h
  | bad => rw [e] at h; exact h
theorem KF.kx {X : Cx} {W : WX} {D : Ends} {σ : St} {H : Hp} {loc : List Addr} {δ : Env} {x : Exc} {μ : Sto} (re : RE X.K H loc σ δ) (h : KF X W D H loc (.rs x δ) μ) : KX X W σ H loc x μ := fun H' loc' cls d g rs rx => h σ H' loc' cls d g rs (re.mono g) rx
end Lt

/-! Lt2: the rules for expressions: names, constants, operators, comparisons, displays, subscripts. -/
namespace Lt
open PySem PySem.Spec PyProof.Rows L2

section
variable {X : Cx} {W : WX} {σ : St} {H : Hp} {loc : List Addr} {δ : Env} {μ : Sto}
theorem SE.go {β : Type} {e : Expr} {m : Env → M A} {k : A → M β} {Kb : β → Sto → Prop} {Q : VK} (ha : SE X W e m) (re : RE X.K H loc σ δ) (rs : RS X.K H loc μ) (h : (bnd (m δ) k μ).post Kb (KX X W σ H loc))
    (nx : ∀ v x H1 loc1 μ1, Gr X.K H loc H1 loc1 → RS X.K H1 loc1 μ1 → RA X.K H1 loc1 v x → RE X.K H1 loc1 σ δ → (k x μ1).post Kb (KX X W σ H1 loc1) → Q v H1) : wE X e σ H Q :=
  ha σ H loc δ μ Q re rs (post_mono (post_bnd.mp h) (fun x μ1 h1 v H1 loc1 g1 rs1 rv => nx v x H1 loc1 μ1 g1 rs1 rv (re.mono g1) (post_mono h1 (fun _ _ z => z) fun _ _ z => KX.mono g1 z)) fun _ _ z => z)
theorem SA.go {β : Type} {e : List Expr} {m : Env → M (List A)} {k : List A → M β} {Kb : β → Sto → Prop} {Q : List V → Hp → Prop} (ha : SA X W e m) (re : RE X.K H loc σ δ) (rs : RS X.K H loc μ) (h : (bnd (m δ) k μ).post Kb (KX X W σ H loc))
    (nx : ∀ v x H1 loc1 μ1, Gr X.K H loc H1 loc1 → RS X.K H1 loc1 μ1 → RAs X.K H1 loc1 v x → RE X.K H1 loc1 σ δ → (k x μ1).post Kb (KX X W σ H1 loc1) → Q v H1) : wA X e σ H Q :=
  ha σ H loc δ μ Q re rs (post_mono (post_bnd.mp h) (fun x μ1 h1 v H1 loc1 g1 rs1 rv => nx v x H1 loc1 μ1 g1 rs1 rv (re.mono g1) (post_mono h1 (fun _ _ z => z) fun _ _ z => KX.mono g1 z)) fun _ _ z => z)
theorem ST.go {β : Type} {e : Expr} {m : Env → M Bool} {k : Bool → M β} {Kb : β → Sto → Prop} {Q : Bool → Hp → Prop} (ha : ST X W e m) (re : RE X.K H loc σ δ) (rs : RS X.K H loc μ) (h : (bnd (m δ) k μ).post Kb (KX X W σ H loc))
    (nx : ∀ b H1 loc1 μ1, Gr X.K H loc H1 loc1 → RS X.K H1 loc1 μ1 → RE X.K H1 loc1 σ δ → (k b μ1).post Kb (KX X W σ H1 loc1) → Q b H1) : wT X e σ H Q :=
  ha σ H loc δ μ Q re rs (post_mono (post_bnd.mp h) (fun x μ1 h1 H1 loc1 g1 rs1 => nx x H1 loc1 μ1 g1 rs1 (re.mono g1) (post_mono h1 (fun _ _ z => z) fun _ _ z => KX.mono g1 z)) fun _ _ z => z)
end

/-! ### names and constants -/
def getv (δ : Env) (i : Nat) : M A := fun μ => match δ[i]? with
  | some (some a) => .ok a μ
  | _ => .bad
section
variable {X : Cx} {W : WX}
theorem SE.pure {e : Expr} {v : V} {a : A} (h : PE X e (tC v)) (r : ∀ H loc, RA X.K H loc v a) : SE X W e (fun _ => ret a) := fun σ H loc δ μ Q re rs q => wE_of h (q v H loc Gr.refl rs (r H loc))
theorem se_var (i : Nat) {x : Str} {pos : Pos} (hN : X.N[i]? = some x := by rfl) (hv : Vis X.env.scope x := by first | exact Or.inl rfl | exact Or.inr (Or.inl rfl) | exact Or.inr (Or.inr rfl)) (hd : (x == ("__debug__" : Str)) = false := by decide +kernel)
    (hcd : (x == ("__classdict__" : Str)) = false := by decide +kernel) : SE X W (.Name x pos) (fun δ => getv δ i) := fun σ H loc δ μ Q re rs q => by
  refine wE_of (pe_var hN hv hd hcd) ?_
  simp only [getv] at q
  split at q
  · rename_i a e
    obtain ⟨v, h1, h2⟩ := re.at_ i a e
    exact ⟨v, h1, q v H loc Gr.refl rs h2⟩
  · exact q.elim
theorem se_int {i : Int} {j : Nat} {pos : Pos} : SE X W (.Constant (.int i) j pos) (fun _ => ret (.int i)) := .pure pe_int fun _ _ => .int i
theorem se_bl {b : Bool} {j : Nat} {pos : Pos} : SE X W (.Constant (.bool b) j pos) (fun _ => ret (.bl b)) := .pure pe_bl fun _ _ => .bl b
theorem se_non {j : Nat} {pos : Pos} : SE X W (.Constant .none j pos) (fun _ => ret .non) := .pure pe_non fun _ _ => .non
theorem se_str {x : Str} {j : Nat} {pos : Pos} : SE X W (.Constant (.str x) j pos) (fun _ => ret (.str x)) := .pure pe_str fun _ _ => .str x
/-- a name of the module: a constant, a def as a value -/
theorem se_glob {x : Str} {v : V} {u : Value} {a : A} {pos : Pos} (hg : Gl X x) (hm : X.mg x = some u) (r : RelV v u) (ra : ∀ H loc, RA X.K H loc v a) (hd : (x == ("__debug__" : Str)) = false := by decide +kernel) : SE X W (.Name x pos) (fun _ => ret a) :=
  .pure (pe_glob hg hm r hd) ra

/-! ### argument lists, displays -/
theorem sa_nil : SA X W [] (fun _ => ret []) := fun σ H loc δ μ Q re rs q => wA_of pa_nil (q [] H loc Gr.refl rs .nil)
theorem sa_cons {e : Expr} {es : List Expr} {m : Env → M A} {ms : Env → M (List A)} (h : SE X W e m) (hs : SA X W es ms) (hst : starEach (e :: es) X.env = (false, eval e X.env) :: starEach es X.env := by rfl) :
    SA X W (e :: es) (fun δ => bnd (m δ) fun a => bnd (ms δ) fun as => ret (a :: as)) := fun σ H loc δ μ Q re rs q => by
  refine wA_of (pa_cons pwE pwA hst) ?_
  refine h.go re rs q fun v x H1 loc1 μ1 g1 rs1 rv re1 q1 => ?_
  refine hs.go re1 rs1 q1 fun vs xs H2 loc2 μ2 g2 rs2 rvs re2 q2 => ?_
  exact q2 (v :: vs) H2 loc2 (g1.trans g2) rs2 (.cons (rv.mono g2) rvs)
end
def alloc (m : Mu) : M A := fun μ => .ok (.hd μ.length) (μ ++ [m])
def mkTup (as : List A) : M A := if as.length ≤ sizeLine then ret (.tup as) else bad
def mkLst (as : List A) : M A := if as.length ≤ sizeLine then alloc (.lst as) else bad
section
variable {X : Cx} {W : WX} {σ : St} {H : Hp} {loc : List Addr} {μ : Sto}
/-- a new tuple, a new list of the store -/
theorem new_tup {vs : List V} {as : List A} {Q : VK} (rs : RS X.K H loc μ) (r : RAs X.K H loc vs as) (q : (mkTup as μ).post (KV_ X H loc Q) (KX X W σ H loc)) : vs.length ≤ sizeLine ∧ ∀ p, H p = none → Q (.ref p) (upd H p (.tup vs)) := by
  unfold mkTup at q
  split at q
  · rename_i hl
    have hl' : vs.length ≤ sizeLine := by rw [r.length]; exact hl
    exact ⟨hl', fun p hp => q (.ref p) _ loc (Gr.new hp) (rs.new hp) (.tup (.inl (.inl upd_same)) hl' (r.mono (Gr.new hp)))⟩
  · exact q.elim
theorem new_lst {vs : List V} {as : List A} {Q : VK} (rs : RS X.K H loc μ) (r : RAs X.K H loc vs as) (q : (mkLst as μ).post (KV_ X H loc Q) (KX X W σ H loc)) : vs.length ≤ sizeLine ∧ ∀ p, H p = none → Q (.ref p) (upd H p (.lst vs)) := by
  unfold mkLst at q
  split at q
  · rename_i hl
    have hl' : vs.length ≤ sizeLine := by rw [r.length]; exact hl
    refine ⟨hl', fun p hp => q (.ref p) _ (loc ++ [p]) (Gr.alloc hp) (rs.alloc hp ⟨vs, rfl, hl', r.mono (Gr.alloc hp)⟩) (.hd ?_)⟩
    rw [← rs.len, List.getElem?_append_right (Nat.le_refl _), Nat.sub_self]
    rfl
  · exact q.elim
theorem se_tup {es : List Expr} {k : Nat} {pos : Pos} {ms : Env → M (List A)} (hs : SA X W es ms) : SE X W (.Tuple es k pos) (fun δ => bnd (ms δ) mkTup) := fun σ H loc δ μ Q re rs q => by
  refine wE_of (pe_tup pwA) ?_
  exact hs.go re rs q fun vs xs H1 loc1 μ1 g1 rs1 rvs re1 q1 => new_tup rs1 rvs (W := W) (σ := σ) (post_mono q1 (fun _ _ z => KV_.mono g1 z) fun _ _ z => z)
theorem se_lst {es : List Expr} {pos : Pos} {ms : Env → M (List A)} (hs : SA X W es ms) : SE X W (.List es pos) (fun δ => bnd (ms δ) mkLst) := fun σ H loc δ μ Q re rs q => by
  refine wE_of (pe_lst pwA) ?_
  exact hs.go re rs q fun vs xs H1 loc1 μ1 g1 rs1 rvs re1 q1 => new_lst rs1 rvs (W := W) (σ := σ) (post_mono q1 (fun _ _ z => KV_.mono g1 z) fun _ _ z => z)
end

/-! ### reading lists and tuples -/
/-- the items of a list, of a tuple -/
def itemsL (a : A) : M (List A) := fun μ => match a with
  | .hd n => match μ[n]? with
    | some (.lst xs) => .ok xs μ
    | _ => .bad
  | .rol xs => .ok xs μ
  | _ => .bad
def items (a : A) : M (List A) := match a with
  | .tup xs => ret xs
  | a => itemsL a
section
variable {K : PySem.W.Frag} {H : Hp} {loc : List Addr} {μ : Sto}
theorem RA.sqL {v : V} {a : A} {xs : List A} {Kp : List A → Sto → Prop} {Kx : Exc → Sto → Prop} (rs : RS K H loc μ) (r : RA K H loc v a) (h : (itemsL a μ).post Kp Kx) :
    ∃ p vs xs, v = .ref p ∧ SqL K H p vs ∧ vs.length ≤ sizeLine ∧ RAs K H loc vs xs ∧ itemsL a μ = .ok xs μ ∧ Kp xs μ := by
  cases r with
  | @hd p n hl =>
    have h' := h
    unfold itemsL at h'
    simp only at h'
    split at h'
    · rename_i xs e
      obtain ⟨vs, e2, l, q⟩ := rs.lst e hl
      refine ⟨p, vs, xs, rfl, .inl (.inl e2), l, q, ?_, h'⟩
      unfold itemsL
      simp only [e]
    · exact h'.elim
  | @rol p vs xs hq l q =>
    refine ⟨p, vs, xs, rfl, ?_, l, q, rfl, h⟩
    rcases hq with ⟨o, e⟩ | hq
    · exact .inl (.inr ⟨o, e⟩)
    · exact .inr hq
  | _ => exact h.elim
theorem RA.sq {v : V} {a : A} {Kp : List A → Sto → Prop} {Kx : Exc → Sto → Prop} (rs : RS K H loc μ) (r : RA K H loc v a) (h : (items a μ).post Kp Kx) :
    ∃ p vs xs, v = .ref p ∧ (SqL K H p vs ∨ SqT K H p vs) ∧ vs.length ≤ sizeLine ∧ RAs K H loc vs xs ∧ items a μ = .ok xs μ ∧ Kp xs μ := by
  cases r with
  | @tup p vs xs hq l q => exact ⟨p, vs, xs, rfl, .inr hq, l, q, rfl, h⟩
  | hd hl =>
    obtain ⟨p, vs, xs, e, h1, h2, h3, h4, h5⟩ := RA.sqL (xs := []) rs (.hd hl) h
    exact ⟨p, vs, xs, e, .inl h1, h2, h3, h4, h5⟩
  | rol hq l q =>
    obtain ⟨p, vs, xs, e, h1, h2, h3, h4, h5⟩ := RA.sqL (xs := []) rs (.rol hq l q) h
    exact ⟨p, vs, xs, e, .inl h1, h2, h3, h4, h5⟩
  | _ => exact h.elim
end

/-! ### operators -/
def SO (X : Cx) (W : WX) (r : R2) (f : A → A → M A) : Prop := ∀ (σ : St) (H : Hp) (loc : List Addr) (μ : Sto) (v u : V) (a b : A) (Q : VK), RS X.K H loc μ → RA X.K H loc v a → RA X.K H loc u b →
  (f a b μ).post (KV_ X H loc Q) (KX X W σ H loc) → r v u H Q
section
variable {X : Cx} {W : WX} {a b : Expr} {ma mb : Env → M A} {pos : Pos}
theorem se_bin {op : Operator} {r : R2} {f : A → A → M A} (ho : OpR X (binaryOp op) r) (hf : SO X W r f) (ha : SE X W a ma) (hb : SE X W b mb) : SE X W (.BinOp a op b pos) (fun δ => bnd (ma δ) fun x => bnd (mb δ) fun y => f x y) := fun σ H loc δ μ Q re rs q => by
  refine wE_of (pe_op ho pwE pwE) ?_
  refine ha.go re rs q fun v x H1 loc1 μ1 g1 rs1 rv re1 q1 => ?_
  refine hb.go re1 rs1 q1 fun u y H2 loc2 μ2 g2 rs2 ru re2 q2 => ?_
  exact hf σ H2 loc2 μ2 v u x y Q rs2 (rv.mono g2) ru (post_mono q2 (fun _ _ z => KV_.mono (g1.trans g2) z) fun _ _ z => z)
theorem se_cmp {op : CmpOp} {r : R2} {f : A → A → M A} (ho : OpR X (compareOp op) r) (hf : SO X W r f) (ha : SE X W a ma) (hb : SE X W b mb) (hm : behindInMarks op b = false := by first | exact nobehind _ (by decide) (by decide) | rfl) :
    SE X W (.Compare a [op] [b] pos) (fun δ => bnd (ma δ) fun x => bnd (mb δ) fun y => f x y) := fun σ H loc δ μ Q re rs q => by
  refine wE_of (pe_cmpR ho pwE pwE hm) ?_
  refine ha.go re rs q fun v x H1 loc1 μ1 g1 rs1 rv re1 q1 => ?_
  refine hb.go re1 rs1 q1 fun u y H2 loc2 μ2 g2 rs2 ru re2 q2 => ?_
  exact hf σ H2 loc2 μ2 v u x y Q rs2 (rv.mono g2) ru (post_mono q2 (fun _ _ z => KV_.mono (g1.trans g2) z) fun _ _ z => z)
/-- a value that must be a truth -/
def asB (a : A) : M Bool := match a with
  | .bl b => ret b
  | _ => bad
theorem st_cmp {op : CmpOp} {r : R2} {f : A → A → M A} (ho : OpR X (compareOp op) r) (hf : SO X W r f) (ha : SE X W a ma) (hb : SE X W b mb) (hm : behindInMarks op b = false := by first | exact nobehind _ (by decide) (by decide) | rfl) :
    ST X W (.Compare a [op] [b] pos) (fun δ => bnd (ma δ) fun x => bnd (mb δ) fun y => bnd (f x y) asB) := fun σ H loc δ μ Q re rs q => by
  refine wT_of (pt_cmpR ho pwE pwE hm) ?_
  refine ha.go re rs q fun v x H1 loc1 μ1 g1 rs1 rv re1 q1 => ?_
  refine hb.go re1 rs1 q1 fun u y H2 loc2 μ2 g2 rs2 ru re2 q2 => ?_
  refine hf σ H2 loc2 μ2 v u x y _ rs2 (rv.mono g2) ru (post_mono (post_bnd.mp q2) (fun c μ3 q3 w H3 loc3 g3 rs3 rw => ?_) fun _ _ z => z)
  cases rw with
  | bl k => exact ⟨k, rfl, q3 H3 loc3 ((g1.trans g2).trans g3) rs3⟩
  | _ => exact q3.elim
end
def i2 (f : Int → Int → M A) (a b : A) : M A := match a, b with
  | .int i, .int j => f i j
  | _, _ => bad
section
variable {X : Cx} {W : WX}
theorem so_i2 {C : Int → Int → Prop} [∀ i j, Decidable (C i j)] {g : Int → Int → V} {h : Int → Int → A} (hr : ∀ i j H loc, RA X.K H loc (g i j) (h i j)) : SO X W (rI C g) (i2 fun i j => if C i j then ret (h i j) else bad) := fun σ H loc μ v u a b Q rs ra rb q => by
  cases ra <;> first | exact q.elim | skip
  rename_i i
  cases rb <;> first | exact q.elim | skip
  rename_i j
  unfold i2 at q
  simp only at q
  split at q
  · rename_i hc
    exact ⟨i, j, rfl, rfl, hc, q (g i j) H loc Gr.refl rs (hr i j H loc)⟩
  · exact q.elim
theorem so_i0 {g : Int → Int → V} {h : Int → Int → A} (hr : ∀ i j H loc, RA X.K H loc (g i j) (h i j)) : SO X W (rI0 g) (i2 fun i j => ret (h i j)) := fun σ H loc μ v u a b Q rs ra rb q => by
  cases ra <;> first | exact q.elim | skip
  rename_i i
  cases rb <;> first | exact q.elim | skip
  rename_i j
  exact ⟨i, j, rfl, rfl, q (g i j) H loc Gr.refl rs (hr i j H loc)⟩
end
instance (i j : Int) : Decidable (CDiv i j) := by unfold CDiv; infer_instance
instance (i j : Int) : Decidable (CMul i j) := by unfold CMul; infer_instance
instance (i j : Int) : Decidable (CPow i j) := by unfold CPow; infer_instance
def subA : A → A → M A := i2 fun i j => ret (.int (i - j))
def mulA : A → A → M A := i2 fun i j => if CMul i j then ret (.int (i * j)) else bad
def modA : A → A → M A := i2 fun i j => if 0 < j then ret (.int (i % j)) else bad
def fdivA : A → A → M A := i2 fun i j => if CDiv i j then ret (.int (i / j)) else bad
def powA : A → A → M A := i2 fun i j => if CPow i j then ret (.int (i ^ j.toNat)) else bad
def ltA : A → A → M A := i2 fun i j => ret (.bl (decide (i < j)))
def leA : A → A → M A := i2 fun i j => ret (.bl (decide (i ≤ j)))
def gtA : A → A → M A := i2 fun i j => ret (.bl (decide (j < i)))
def geA : A → A → M A := i2 fun i j => ret (.bl (decide (j ≤ i)))
/-- a + b: ints, texts, tuples, lists of the store -/
def addA (a b : A) : M A := match a, b with
  | .int i, .int j => ret (.int (i + j))
  | .int i, .bl k => ret (.int (i + b2i k))
  | .str s, .str t => if s.length + t.length ≤ sizeLine then ret (.str (s ++ t)) else bad
  | .tup xs, .tup ys => if xs.length + ys.length ≤ sizeLine then ret (.tup (xs ++ ys)) else bad
  | .hd n, .hd m => fun μ => match μ[n]?, μ[m]? with
    | some (.lst xs), some (.lst ys) => if xs.length + ys.length ≤ sizeLine then alloc (.lst (xs ++ ys)) μ else .bad
    | _, _ => .bad
  | _, _ => bad
section
variable {X : Cx} {W : WX} {a b : Expr} {ma mb : Env → M A} {pos : Pos}
theorem se_sub (ha : SE X W a ma) (hb : SE X W b mb) : SE X W (.BinOp a .Sub b pos) (fun δ => bnd (ma δ) fun x => bnd (mb δ) fun y => subA x y) := se_bin op_sub (so_i0 fun _ _ _ _ => .int _) ha hb
theorem se_mul (ha : SE X W a ma) (hb : SE X W b mb) : SE X W (.BinOp a .Mult b pos) (fun δ => bnd (ma δ) fun x => bnd (mb δ) fun y => mulA x y) := se_bin op_mul (so_i2 (C := CMul) fun _ _ _ _ => .int _) ha hb
theorem se_mod (ha : SE X W a ma) (hb : SE X W b mb) : SE X W (.BinOp a .Mod b pos) (fun δ => bnd (ma δ) fun x => bnd (mb δ) fun y => modA x y) := se_bin op_mod (so_i2 (C := fun _ j => 0 < j) fun _ _ _ _ => .int _) ha hb
theorem se_fdiv (ha : SE X W a ma) (hb : SE X W b mb) : SE X W (.BinOp a .FloorDiv b pos) (fun δ => bnd (ma δ) fun x => bnd (mb δ) fun y => fdivA x y) := se_bin op_fdiv (so_i2 (C := CDiv) fun _ _ _ _ => .int _) ha hb
theorem se_pow (ha : SE X W a ma) (hb : SE X W b mb) : SE X W (.BinOp a .Pow b pos) (fun δ => bnd (ma δ) fun x => bnd (mb δ) fun y => powA x y) := se_bin op_pow (so_i2 (C := CPow) fun _ _ _ _ => .int _) ha hb
theorem se_lt (ha : SE X W a ma) (hb : SE X W b mb) : SE X W (.Compare a [.Lt] [b] pos) (fun δ => bnd (ma δ) fun x => bnd (mb δ) fun y => ltA x y) := se_cmp op_lt (so_i0 fun _ _ _ _ => .bl _) ha hb
theorem se_le (ha : SE X W a ma) (hb : SE X W b mb) : SE X W (.Compare a [.LtE] [b] pos) (fun δ => bnd (ma δ) fun x => bnd (mb δ) fun y => leA x y) := se_cmp op_le (so_i0 fun _ _ _ _ => .bl _) ha hb
theorem se_gt (ha : SE X W a ma) (hb : SE X W b mb) : SE X W (.Compare a [.Gt] [b] pos) (fun δ => bnd (ma δ) fun x => bnd (mb δ) fun y => gtA x y) := se_cmp op_gt (so_i0 fun _ _ _ _ => .bl _) ha hb
theorem se_ge (ha : SE X W a ma) (hb : SE X W b mb) : SE X W (.Compare a [.GtE] [b] pos) (fun δ => bnd (ma δ) fun x => bnd (mb δ) fun y => geA x y) := se_cmp op_ge (so_i0 fun _ _ _ _ => .bl _) ha hb
theorem st_lt (ha : SE X W a ma) (hb : SE X W b mb) : ST X W (.Compare a [.Lt] [b] pos) (fun δ => bnd (ma δ) fun x => bnd (mb δ) fun y => bnd (ltA x y) asB) := st_cmp op_lt (so_i0 fun _ _ _ _ => .bl _) ha hb
theorem st_le (ha : SE X W a ma) (hb : SE X W b mb) : ST X W (.Compare a [.LtE] [b] pos) (fun δ => bnd (ma δ) fun x => bnd (mb δ) fun y => bnd (leA x y) asB) := st_cmp op_le (so_i0 fun _ _ _ _ => .bl _) ha hb
theorem st_gt (ha : SE X W a ma) (hb : SE X W b mb) : ST X W (.Compare a [.Gt] [b] pos) (fun δ => bnd (ma δ) fun x => bnd (mb δ) fun y => bnd (gtA x y) asB) := st_cmp op_gt (so_i0 fun _ _ _ _ => .bl _) ha hb
theorem st_ge (ha : SE X W a ma) (hb : SE X W b mb) : ST X W (.Compare a [.GtE] [b] pos) (fun δ => bnd (ma δ) fun x => bnd (mb δ) fun y => bnd (geA x y) asB) := st_cmp op_ge (so_i0 fun _ _ _ _ => .bl _) ha hb
def rAddAll (K : PySem.W.Frag) : R2 := fun x y H Q => ((((rI0 fun i j => .int (i + j)) x y H Q ∨ (∃ i k, x = .int i ∧ y = .bl k ∧ Q (.int (i + b2i k)) H)) ∨ (∃ i j, x = .str i ∧ y = .str j ∧ i.length + j.length ≤ sizeLine ∧ Q (.str (i ++ j)) H)) ∨ rCatA K x y H Q) ∨ rCat x y H Q
theorem op_addAll : OpR X (binaryOp .Add) (rAddAll X.K) := OpR.or (OpR.or (OpR.or (OpR.or op_add op_add_ib) op_add_str) op_catA) op_cat
theorem so_add : SO X W (rAddAll X.K) addA := fun σ H loc μ v u a b Q rs ra rb q => by
  cases ra with
  | int i =>
    cases rb with
    | int j => exact .inl (.inl (.inl (.inl ⟨i, j, rfl, rfl, q _ H loc Gr.refl rs (.int _)⟩)))
    | bl k => exact .inl (.inl (.inl (.inr ⟨i, k, rfl, rfl, q _ H loc Gr.refl rs (.int _)⟩)))
    | _ => exact q.elim
  | str i =>
    cases rb with
    | str j =>
      unfold addA at q
      simp only at q
      split at q
      · rename_i hl
        exact .inl (.inl (.inr ⟨i, j, rfl, rfl, hl, q _ H loc Gr.refl rs (.str _)⟩))
      · exact q.elim
    | _ => exact q.elim
  | @tup p vs xs h1 h2 h3 =>
    cases rb with
    | @tup p' vs' xs' h1' h2' h3' =>
      unfold addA at q
      simp only at q
      split at q
      · rename_i hl
        have hl' : vs.length + vs'.length ≤ sizeLine := by rw [h3.length, h3'.length]; exact hl
        refine .inl (.inr ⟨p, p', vs, vs', rfl, rfl, h1, h1', hl', ?_⟩)
        have e1 : vs = [] → xs = [] := fun e => by subst e; cases h3; rfl
        have e2 : vs' = [] → xs' = [] := fun e => by subst e; cases h3'; rfl
        refine ⟨fun e => ?_, fun _ e => ?_, fun e e' => fun r hr => ?_⟩
        · refine q _ H loc Gr.refl rs ?_
          rw [e1 e, List.nil_append]
          exact .tup h1' h2' h3'
        · refine q _ H loc Gr.refl rs ?_
          rw [e2 e, List.append_nil]
          exact .tup h1 h2 h3
        · exact q _ _ loc (Gr.new hr) (rs.new hr) (.tup (.inl (.inl upd_same)) (by rw [List.length_append]; exact hl') ((h3.append h3').mono (Gr.new hr)))
      · exact q.elim
    | _ => exact q.elim
  | @hd p n hn =>
    cases rb with
    | @hd p' m hm =>
      unfold addA at q
      simp only at q
      split at q
      · rename_i xs ys e1 e2
        split at q
        · rename_i hl
          obtain ⟨vs, a1, a2, a3⟩ := rs.lst e1 hn
          obtain ⟨ws, b1, b2, b3⟩ := rs.lst e2 hm
          have hl' : vs.length + ws.length ≤ sizeLine := by rw [a3.length, b3.length]; exact hl
          refine .inr ⟨p, p', vs, ws, rfl, rfl, a1, b1, hl', fun r hr => ?_⟩
          refine q (.ref r) _ (loc ++ [r]) (Gr.alloc hr) (rs.alloc hr ⟨vs ++ ws, rfl, by rw [List.length_append]; exact hl', (a3.append b3).mono (Gr.alloc hr)⟩) (.hd ?_)
          rw [← rs.len, List.getElem?_append_right (Nat.le_refl _), Nat.sub_self]
          rfl
        · exact q.elim
      · exact q.elim
    | _ => exact q.elim
  | _ => exact q.elim
theorem se_add (ha : SE X W a ma) (hb : SE X W b mb) : SE X W (.BinOp a .Add b pos) (fun δ => bnd (ma δ) fun x => bnd (mb δ) fun y => addA x y) := se_bin op_addAll so_add ha hb
end
end Lt

/-! Lt3: equality, is, truth, and, or, not; statements; loops. -/
namespace Lt
open PySem PySem.Spec PyProof.Rows L2

/-! ### equality -/
mutual
def dat : A → Option PyData
  | .non => some .none
  | .bl b => some (.bool b)
  | .int i => some (.int i)
  | .str s => some (.str s)
  | .tup xs => match dats xs with
    | some ds => some (.tuple ds)
    | none => none
  | .rol xs => match dats xs with
    | some ds => some (.list ds)
    | none => none
  | .hd _ => none
  | .fn _ => none
  | .exc _ _ _ => none
def dats : List A → Option (List PyData)
  | [] => some []
  | x :: xs => match dat x, dats xs with
    | some d, some ds => some (d :: ds)
    | _, _ => none
end
section
variable {K : PySem.W.Frag} {H : Hp} {loc : List Addr}
theorem rol_sq {a : Addr} {vs : List V} (h : (∃ o, H a = some (.frz o (.lst vs))) ∨ ∃ (o : Obj) (its : Array Value) (n : Nat), K.lookup a = some o ∧ o.cls = .type "list" ∧ o.dict = none ∧ o.data = .seq its n ∧ its.size ≤ sizeLine ∧ Vals vs its.toList) : SqL K H a vs := by
  rcases h with ⟨o, e⟩ | h
  · exact .inl (.inr ⟨o, e⟩)
  · exact .inr h
mutual
theorem dat_dp : ∀ {v : V} {a : A} {d : PyData}, RA K H loc v a → dat a = some d → Dp K H v d
  | _, _, _, .non, e => by cases e; exact .non
  | _, _, _, .bl b, e => by cases e; exact .bl b
  | _, _, _, .int i, e => by cases e; exact .int i
  | _, _, _, .str s, e => by cases e; exact .str s
  | _, .tup xs, _, .tup h _ r, e => by
    simp only [dat] at e
    split at e
    · rename_i ds hd
      cases e
      exact .tup h (dats_dp r hd)
    · cases e
  | _, .rol xs, _, .rol h _ r, e => by
    simp only [dat] at e
    split at e
    · rename_i ds hd
      cases e
      exact .lst (rol_sq h) (dats_dp r hd)
    · cases e
  | _, _, _, .hd _, e => by simp [dat] at e
  | _, _, _, .fn, e => by simp [dat] at e
  | _, _, _, .exc .., e => by simp [dat] at e
  | _, _, _, .ex0 .., e => by simp [dat] at e
theorem dats_dp : ∀ {vs : List V} {xs : List A} {ds : List PyData}, RAs K H loc vs xs → dats xs = some ds → DpAll K H vs ds
  | _, _, _, .nil, e => by simp only [dats] at e; cases e; exact .nil
  | _, _, _, .cons r t, e => by
    simp only [dats] at e
    split at e
    · rename_i d ds h1 h2
      cases e
      exact .cons (dat_dp r h1) (dats_dp t h2)
    · cases e
end
end
/-- a list of the store too -/
def datS (μ : Sto) (a : A) : Option PyData := match a with
  | .hd n => match μ[n]? with
    | some (.lst xs) => match dats xs with
      | some ds => some (.list ds)
      | none => none
    | _ => none
  | a => dat a
theorem datS_dp {K : PySem.W.Frag} {H : Hp} {loc : List Addr} {μ : Sto} {v : V} {a : A} {d : PyData} (rs : RS K H loc μ) (r : RA K H loc v a) (e : datS μ a = some d) : Dp K H v d := by
  cases r with
  | hd h =>
    simp only [datS] at e
    split at e
    · rename_i xs h1
      split at e
      · rename_i ds h2
        cases e
        obtain ⟨vs, q1, q2, q3⟩ := rs.lst h1 h
        exact .lst (.of q1) (dats_dp q3 h2)
      · cases e
    · cases e
  | non => exact dat_dp (.non : RA K H loc _ _) e
  | bl b => exact dat_dp (.bl b : RA K H loc _ _) e
  | int b => exact dat_dp (.int b : RA K H loc _ _) e
  | str b => exact dat_dp (.str b : RA K H loc _ _) e
  | tup a b c => exact dat_dp (.tup a b c) e
  | rol a b c => exact dat_dp (.rol a b c) e
  | fn => exact dat_dp (.fn : RA K H loc _ _) e
  | exc => simp [datS, dat] at e
  | ex0 => simp [datS, dat] at e
/-- of flat values; of data -/
def eqS (a b : A) : Option Bool := match a, b with
  | .int i, .int j => some (decide (i = j))
  | .str i, .str j => some (decide (i = j))
  | .bl i, .bl j => some (decide (i = j))
  | .non, .non => some true
  | .non, .int _ => some false
  | .int _, .non => some false
  | .non, .bl _ => some false
  | .bl _, .non => some false
  | .non, .str _ => some false
  | .str _, .non => some false
  | .int _, .str _ => some false
  | .str _, .int _ => some false
  | .bl _, .str _ => some false
  | .str _, .bl _ => some false
  | _, _ => none
def eqB (μ : Sto) (a b : A) : Option Bool := match eqS a b with
  | some k => some k
  | none => match datS μ a, datS μ b with
    | some d, some e => if SeqAt.shaped d = true ∧ SeqAt.shaped e = true then some (PyData.eqv d e) else none
    | _, _ => none
def eqA (a b : A) : M A := fun μ => match eqB μ a b with
  | some k => .ok (.bl k) μ
  | none => .bad
def neA (a b : A) : M A := fun μ => match eqB μ a b with
  | some k => .ok (.bl (!k)) μ
  | none => .bad
section
variable {K : PySem.W.Frag} {H : Hp} {loc : List Addr} {μ : Sto}
theorem eqS_ok {v u : V} {a b : A} {k : Bool} (ra : RA K H loc v a) (rb : RA K H loc u b) (e : eqS a b = some k) : scal v u = true ∧ decide (v = u) = k := by
  cases ra <;> cases rb <;> simp only [eqS] at e <;> first
    | (cases e; exact ⟨rfl, by simp⟩)
    | (cases e; exact ⟨rfl, by first | rfl | decide | (rw [dec_int]; rfl) | (rw [dec_str]; rfl) | (rw [dec_bl]; rfl)⟩)
    | cases e
theorem eqB_ok {v u : V} {a b : A} {k : Bool} {Q : VK} (rs : RS K H loc μ) (ra : RA K H loc v a) (rb : RA K H loc u b) (e : eqB μ a b = some k) (q : Q (.bl k) H) : rEq v u H Q ∨ rEqD K v u H Q := by
  unfold eqB at e
  split at e
  · rename_i k' e'
    cases e
    obtain ⟨h1, h2⟩ := eqS_ok ra rb e'
    refine .inl ⟨h1, ?_⟩
    rw [h2]
    exact q
  · split at e
    · rename_i d d' h1 h2
      split at e
      · rename_i hs
        cases e
        exact .inr ⟨d, d', datS_dp rs ra h1, datS_dp rs rb h2, hs.1, hs.2, q⟩
      · cases e
    · cases e
theorem neB_ok {v u : V} {a b : A} {k : Bool} {Q : VK} (rs : RS K H loc μ) (ra : RA K H loc v a) (rb : RA K H loc u b) (e : eqB μ a b = some k) (q : Q (.bl (!k)) H) : rNe v u H Q ∨ rNeD K v u H Q := by
  unfold eqB at e
  split at e
  · rename_i k' e'
    cases e
    obtain ⟨h1, h2⟩ := eqS_ok ra rb e'
    refine .inl ⟨h1, ?_⟩
    rw [h2]
    exact q
  · split at e
    · rename_i d d' h1 h2
      split at e
      · rename_i hs
        cases e
        exact .inr ⟨d, d', datS_dp rs ra h1, datS_dp rs rb h2, hs.1, hs.2, q⟩
      · cases e
    · cases e
end
section
variable {X : Cx} {W : WX} {a b : Expr} {ma mb : Env → M A} {pos : Pos} {k : Nat}
theorem so_eq : SO X W (fun x y H Q => rEq x y H Q ∨ rEqD X.K x y H Q) eqA := fun σ H loc μ v u a b Q rs ra rb q => by
  unfold eqA at q
  split at q
  · rename_i k e
    exact eqB_ok rs ra rb e (q _ H loc Gr.refl rs (.bl _))
  · exact q.elim
theorem so_ne : SO X W (fun x y H Q => rNe x y H Q ∨ rNeD X.K x y H Q) neA := fun σ H loc μ v u a b Q rs ra rb q => by
  unfold neA at q
  split at q
  · rename_i k e
    exact neB_ok rs ra rb e (q _ H loc Gr.refl rs (.bl _))
  · exact q.elim
theorem se_eq (hr : Room k X.A) (ha : SE X W a ma) (hb : SE X W b mb) : SE X W (.Compare a [.Eq] [b] pos) (fun δ => bnd (ma δ) fun x => bnd (mb δ) fun y => eqA x y) := se_cmp (OpR.or op_eq (op_eqD hr.units)) so_eq ha hb
theorem se_ne (hr : Room k X.A) (ha : SE X W a ma) (hb : SE X W b mb) : SE X W (.Compare a [.NotEq] [b] pos) (fun δ => bnd (ma δ) fun x => bnd (mb δ) fun y => neA x y) := se_cmp (OpR.or op_ne (op_neD hr.units)) so_ne ha hb
theorem st_eq (hr : Room k X.A) (ha : SE X W a ma) (hb : SE X W b mb) : ST X W (.Compare a [.Eq] [b] pos) (fun δ => bnd (ma δ) fun x => bnd (mb δ) fun y => bnd (eqA x y) asB) := st_cmp (OpR.or op_eq (op_eqD hr.units)) so_eq ha hb
theorem st_ne (hr : Room k X.A) (ha : SE X W a ma) (hb : SE X W b mb) : ST X W (.Compare a [.NotEq] [b] pos) (fun δ => bnd (ma δ) fun x => bnd (mb δ) fun y => bnd (neA x y) asB) := st_cmp (OpR.or op_ne (op_neD hr.units)) so_ne ha hb
/-! ### is -/
def isN (a : A) : Bool := match a with
  | .non => true
  | _ => false
theorem RA.isN {K : PySem.W.Frag} {H : Hp} {loc : List Addr} {v : V} {a : A} (r : RA K H loc v a) : decide (v = V.non) = Lt.isN a := by
  cases r <;> rfl
/-- is None, is True, is False (the right side written) -/
def isA (a b : A) : M A := match b with
  | .non => ret (.bl (isN a))
  | .bl k => match a with
    | .bl j => ret (.bl (decide (j = k)))
    | _ => bad
  | _ => bad
def nisA (a b : A) : M A := match b with
  | .non => ret (.bl (!isN a))
  | .bl k => match a with
    | .bl j => ret (.bl (!decide (j = k)))
    | _ => bad
  | _ => bad
theorem so_is : SO X W (fun x y H Q => (y = .non ∧ Q (.bl (decide (x = .non))) H) ∨ rIsB x y H Q) isA := fun σ H loc μ v u a b Q rs ra rb q => by
  cases rb with
  | non =>
    refine .inl ⟨rfl, ?_⟩
    rw [ra.isN]
    exact q _ H loc Gr.refl rs (.bl _)
  | bl k =>
    cases ra with
    | bl j => exact .inr ⟨j, k, rfl, rfl, q _ H loc Gr.refl rs (.bl _)⟩
    | _ => exact q.elim
  | _ => exact q.elim
theorem so_nis : SO X W (fun x y H Q => (y = .non ∧ Q (.bl (!decide (x = .non))) H) ∨ rNotB x y H Q) nisA := fun σ H loc μ v u a b Q rs ra rb q => by
  cases rb with
  | non =>
    refine .inl ⟨rfl, ?_⟩
    rw [ra.isN]
    exact q _ H loc Gr.refl rs (.bl _)
  | bl k =>
    cases ra with
    | bl j => exact .inr ⟨j, k, rfl, rfl, q _ H loc Gr.refl rs (.bl _)⟩
    | _ => exact q.elim
  | _ => exact q.elim
theorem se_is (ha : SE X W a ma) (hb : SE X W b mb) : SE X W (.Compare a [.Is] [b] pos) (fun δ => bnd (ma δ) fun x => bnd (mb δ) fun y => isA x y) := se_cmp (OpR.or op_isN op_isBl) so_is ha hb
theorem se_nis (ha : SE X W a ma) (hb : SE X W b mb) : SE X W (.Compare a [.IsNot] [b] pos) (fun δ => bnd (ma δ) fun x => bnd (mb δ) fun y => nisA x y) := se_cmp (OpR.or op_notN op_notBl) so_nis ha hb
theorem st_is (ha : SE X W a ma) (hb : SE X W b mb) : ST X W (.Compare a [.Is] [b] pos) (fun δ => bnd (ma δ) fun x => bnd (mb δ) fun y => bnd (isA x y) asB) := st_cmp (OpR.or op_isN op_isBl) so_is ha hb
theorem st_nis (ha : SE X W a ma) (hb : SE X W b mb) : ST X W (.Compare a [.IsNot] [b] pos) (fun δ => bnd (ma δ) fun x => bnd (mb δ) fun y => bnd (nisA x y) asB) := st_cmp (OpR.or op_notN op_notBl) so_nis ha hb

/-! ### truth -/
def truA (a : A) : M Bool := fun μ => match a with
  | .non => .ok false μ
  | .bl b => .ok b μ
  | .int i => .ok (i != 0) μ
  | .str s => if s.length ≤ sizeLine then .ok ((s.length : Int) != 0) μ else .bad
  | .tup xs => .ok (!xs.isEmpty) μ
  | .rol xs => .ok (!xs.isEmpty) μ
  | .hd n => match μ[n]? with
    | some (.lst xs) => .ok (!xs.isEmpty) μ
    | some (.dic xs) => .ok (!xs.isEmpty) μ
    | _ => .bad
  | .fn _ => .bad
  | .exc _ _ _ => .bad
theorem RAs.isEmpty {K : PySem.W.Frag} {H : Hp} {loc : List Addr} {vs : List V} {xs : List A} (r : RAs K H loc vs xs) : vs.isEmpty = xs.isEmpty := by
  cases r <;> rfl
theorem tru_of {H : Hp} {loc : List Addr} {μ : Sto} {v : V} {a : A} {Kp : Bool → Sto → Prop} {Kx : Exc → Sto → Prop} (rs : RS X.K H loc μ) (r : RA X.K H loc v a) (h : (truA a μ).post Kp Kx) : ∃ k, TruV X.K v H k ∧ Kp k μ := by
  cases r with
  | non => exact ⟨false, rfl, h⟩
  | bl b => exact ⟨b, rfl, h⟩
  | int i => exact ⟨_, rfl, h⟩
  | str s =>
    simp only [truA] at h
    split at h
    · rename_i hl
      exact ⟨_, ⟨hl, rfl⟩, h⟩
    · exact h.elim
  | tup q l t => exact ⟨_, .inr (.inl ⟨_, q, rfl⟩), by rw [t.isEmpty]; exact h⟩
  | rol q l t => exact ⟨_, .inl ⟨_, rol_sq q, rfl⟩, by rw [t.isEmpty]; exact h⟩
  | hd q =>
    simp only [truA] at h
    split at h
    · rename_i xs e
      obtain ⟨vs, q1, q2, q3⟩ := rs.lst e q
      exact ⟨_, .inl ⟨vs, .of q1, rfl⟩, by rw [q3.isEmpty]; exact h⟩
    · rename_i xs e
      obtain ⟨b, o, h1, h2, vs, e2, l, r⟩ := rs.at_ _ _ e
      rw [q] at h1
      cases h1
      subst e2
      refine ⟨_, .inr (.inr ⟨vs, h2, rfl⟩), ?_⟩
      have : vs.isEmpty = xs.isEmpty := by cases r <;> rfl
      rw [this]
      exact h
    · exact h.elim
  | fn => exact h.elim
  | exc => exact h.elim
  | ex0 => exact h.elim
/-- an expression's truth as a test (a name, a call, a subscript, a field ..) -/
theorem st_val (ha : SE X W a ma) (he : ∀ whole, isTrue a X.env whole = (do let v ← whole; standAt a.pos; holding [v] (truthy v)) := by intro _; rfl) : ST X W a (fun δ => bnd (ma δ) truA) := fun σ H loc δ μ Q re rs q => by
  refine wT_of (pt_truth pwE he) ?_
  refine ha.go re rs q fun v x H1 loc1 μ1 g1 rs1 rv re1 q1 => ?_
  obtain ⟨k, h1, h2⟩ := tru_of rs1 rv q1
  exact ⟨k, h1, h2 H1 loc1 g1 rs1⟩
theorem st_not {ta : Env → M Bool} (ha : ST X W a ta) : ST X W (.UnaryOp .Not a pos) (fun δ => bnd (ta δ) fun k => ret (!k)) := fun σ H loc δ μ Q re rs q => by
  refine wT_of (pt_not pwT) ?_
  exact ha.go re rs q fun k H1 loc1 μ1 g1 rs1 re1 q1 => q1 H1 loc1 g1 rs1
theorem sw_and1 {ta : Env → M Bool} (ha : ST X W a ta) : SW X W (.BoolOp .And [a] pos) ta := fun σ H loc δ μ Q re rs q => wW_of (pw_and1 pwT) (ha σ H loc δ μ Q re rs q)
theorem sw_or1 {ta : Env → M Bool} (ha : ST X W a ta) : SW X W (.BoolOp .Or [a] pos) ta := fun σ H loc δ μ Q re rs q => wW_of (pw_or1 pwT) (ha σ H loc δ μ Q re rs q)
theorem sw_and {ta tb : Env → M Bool} {rest : List Expr} (ha : ST X W a ta) (hb : SW X W (.BoolOp .And (b :: rest) pos) tb) : SW X W (.BoolOp .And (a :: b :: rest) pos) (fun δ => bnd (ta δ) fun k => match k with | true => tb δ | false => ret false) := fun σ H loc δ μ Q re rs q => by
  refine wW_of (pw_and pwT pwW) ?_
  refine ha.go re rs q fun k H1 loc1 μ1 g1 rs1 re1 q1 => ?_
  cases k with
  | true =>
    show (if true = true then _ else _)
    rw [if_pos rfl]
    exact hb σ H1 loc1 δ μ1 Q re1 rs1 (post_mono q1 (fun _ _ z => KB.mono g1 z) fun _ _ z => z)
  | false =>
    show (if false = true then _ else _)
    rw [if_neg Bool.false_ne_true]
    exact q1 H1 loc1 g1 rs1
theorem sw_or {ta tb : Env → M Bool} {rest : List Expr} (ha : ST X W a ta) (hb : SW X W (.BoolOp .Or (b :: rest) pos) tb) : SW X W (.BoolOp .Or (a :: b :: rest) pos) (fun δ => bnd (ta δ) fun k => match k with | true => ret true | false => tb δ) := fun σ H loc δ μ Q re rs q => by
  refine wW_of (pw_or pwT pwW) ?_
  refine ha.go re rs q fun k H1 loc1 μ1 g1 rs1 re1 q1 => ?_
  cases k with
  | false =>
    show (if false = true then _ else _)
    rw [if_neg Bool.false_ne_true]
    exact hb σ H1 loc1 δ μ1 Q re1 rs1 (post_mono q1 (fun _ _ z => KB.mono g1 z) fun _ _ z => z)
  | true =>
    show (if true = true then _ else _)
    rw [if_pos rfl]
    exact q1 H1 loc1 g1 rs1
theorem st_w {ta : Env → M Bool} (h : SW X W a ta) : ST X W a ta := fun σ H loc δ μ Q re rs q => wT_of (PW.pt pwW) (h σ H loc δ μ Q re rs q)
/-- and, or, not as values -/
theorem se_one {op : BoolOp} (ha : SE X W a ma) : SE X W (.BoolOp op [a] pos) ma := fun σ H loc δ μ Q re rs q => wE_of (pe_one pwE) (ha σ H loc δ μ Q re rs q)
theorem se_and {rest : List Expr} (ha : SE X W a ma) (hb : SE X W (.BoolOp .And (b :: rest) pos) mb) : SE X W (.BoolOp .And (a :: b :: rest) pos) (fun δ => bnd (ma δ) fun x => bnd (asB x) fun k => match k with | true => mb δ | false => ret (.bl false)) := fun σ H loc δ μ Q re rs q => by
  refine wE_of (pe_and pwE pwE) ?_
  refine ha.go re rs q fun v x H1 loc1 μ1 g1 rs1 rv re1 q1 => ?_
  cases rv with
  | bl k =>
    refine ⟨k, rfl, ?_⟩
    cases k with
    | true =>
      rw [if_pos rfl]
      exact hb σ H1 loc1 δ μ1 Q re1 rs1 (post_mono (show (mb δ μ1).post _ _ from q1) (fun _ _ z => KV_.mono g1 z) fun _ _ z => z)
    | false =>
      rw [if_neg Bool.false_ne_true]
      exact q1 _ H1 loc1 g1 rs1 (.bl false)
  | _ => exact q1.elim
theorem se_or {rest : List Expr} (ha : SE X W a ma) (hb : SE X W (.BoolOp .Or (b :: rest) pos) mb) : SE X W (.BoolOp .Or (a :: b :: rest) pos) (fun δ => bnd (ma δ) fun x => bnd (asB x) fun k => match k with | true => ret (.bl true) | false => mb δ) := fun σ H loc δ μ Q re rs q => by
  refine wE_of (pe_or pwE pwE) ?_
  refine ha.go re rs q fun v x H1 loc1 μ1 g1 rs1 rv re1 q1 => ?_
  cases rv with
  | bl k =>
    refine ⟨k, rfl, ?_⟩
    cases k with
    | false =>
      rw [if_neg Bool.false_ne_true]
      exact hb σ H1 loc1 δ μ1 Q re1 rs1 (post_mono (show (mb δ μ1).post _ _ from q1) (fun _ _ z => KV_.mono g1 z) fun _ _ z => z)
    | true =>
      rw [if_pos rfl]
      exact q1 _ H1 loc1 g1 rs1 (.bl true)
  | _ => exact q1.elim
theorem se_not (ha : SE X W a ma) : SE X W (.UnaryOp .Not a pos) (fun δ => bnd (ma δ) fun x => bnd (asB x) fun k => ret (.bl (!k))) := fun σ H loc δ μ Q re rs q => by
  refine wE_of (pe_not pwE) ?_
  refine ha.go re rs q fun v x H1 loc1 μ1 g1 rs1 rv re1 q1 => ?_
  cases rv with
  | bl k => exact ⟨k, rfl, q1 _ H1 loc1 g1 rs1 (.bl _)⟩
  | _ => exact q1.elim
theorem se_if {c : Expr} {tc : Env → M Bool} (hc : ST X W c tc) (ha : SE X W a ma) (hb : SE X W b mb) : SE X W (.IfExp c a b pos) (fun δ => bnd (tc δ) fun k => match k with | true => ma δ | false => mb δ) := fun σ H loc δ μ Q re rs q => by
  refine wE_of (pe_ifExp pwT pwE pwE) ?_
  refine hc.go re rs q fun k H1 loc1 μ1 g1 rs1 re1 q1 => ?_
  cases k with
  | true =>
    show (if true = true then _ else _)
    rw [if_pos rfl]
    exact ha σ H1 loc1 δ μ1 Q re1 rs1 (post_mono q1 (fun _ _ z => KV_.mono g1 z) fun _ _ z => z)
  | false =>
    show (if false = true then _ else _)
    rw [if_neg Bool.false_ne_true]
    exact hb σ H1 loc1 δ μ1 Q re1 rs1 (post_mono q1 (fun _ _ z => KV_.mono g1 z) fun _ _ z => z)
end

/-! ### statements -/
/-- one statement, then the rest -/
def seqM (m : Env → M Fl) (k : Env → M Fl) : Env → M Fl := fun δ => bnd (m δ) fun fl => match fl with
  | .nx δ' => k δ'
  | fl => ret fl
section
variable {X : Cx} {W : WX} {σ : St} {H : Hp} {loc : List Addr} {δ : Env} {μ : Sto}
theorem SE.goS {e : Expr} {m : Env → M A} {k : A → M Fl} {D : Ends} {Q : VK} (ha : SE X W e m) (re : RE X.K H loc σ δ) (rs : RS X.K H loc μ) (h : (inS (m δ) δ k μ).post (KF X W D H loc) NX)
    (nx : ∀ v x H1 loc1 μ1, Gr X.K H loc H1 loc1 → RS X.K H1 loc1 μ1 → RA X.K H1 loc1 v x → RE X.K H1 loc1 σ δ → (k x μ1).post (KF X W D H1 loc1) NX → Q v H1) : wE X e σ H Q :=
  ha σ H loc δ μ Q re rs (post_mono (post_inS h) (fun x μ1 h1 v H1 loc1 g1 rs1 rv => nx v x H1 loc1 μ1 g1 rs1 rv (re.mono g1) (post_mono h1 (fun _ _ z => KF.mono g1 z) fun _ _ z => z)) fun _ _ z => KF.kx re z)
theorem ST.goS {e : Expr} {m : Env → M Bool} {k : Bool → M Fl} {D : Ends} {Q : Bool → Hp → Prop} (ha : ST X W e m) (re : RE X.K H loc σ δ) (rs : RS X.K H loc μ) (h : (inS (m δ) δ k μ).post (KF X W D H loc) NX)
    (nx : ∀ b H1 loc1 μ1, Gr X.K H loc H1 loc1 → RS X.K H1 loc1 μ1 → RE X.K H1 loc1 σ δ → (k b μ1).post (KF X W D H1 loc1) NX → Q b H1) : wT X e σ H Q :=
  ha σ H loc δ μ Q re rs (post_mono (post_inS h) (fun x μ1 h1 H1 loc1 g1 rs1 => nx x H1 loc1 μ1 g1 rs1 (re.mono g1) (post_mono h1 (fun _ _ z => KF.mono g1 z) fun _ _ z => z)) fun _ _ z => KF.kx re z)
theorem sb_nil : SB X W [] (fun δ => ret (.nx δ)) := fun σ H loc δ μ D re rs q => wB_of pss_nil (q σ H loc Gr.refl rs re)
theorem sb_cons {st : Stmt} {rest : List Stmt} {m k : Env → M Fl} (h : SS X W st m) (hk : SB X W rest k) : SB X W (st :: rest) (seqM m k) := fun σ H loc δ μ D re rs q => by
  refine wB_of (pss_cons pwS pwB) ?_
  refine h σ H loc δ μ _ re rs (post_mono (post_bnd.mp q) (fun fl μ1 h1 => ?_) fun _ _ z => z)
  cases fl with
  | nx δ' => exact fun σ' H' loc' g rs' re' => hk σ' H' loc' δ' μ1 D re' rs' (post_mono h1 (fun _ _ z => KF.mono g z) fun _ _ z => z)
  | bk δ' => exact h1
  | ct δ' => exact h1
  | rt a => exact h1
  | rs x δ' => exact h1
theorem sb_one {st : Stmt} {m : Env → M Fl} (h : SS X W st m) : SB X W [st] m := fun σ H loc δ μ D re rs q => wB_of (pss_one pwS) (h σ H loc δ μ D re rs q)
theorem ss_pass {pos : Pos} : SS X W (.Pass pos) (fun δ => ret (.nx δ)) := fun σ H loc δ μ D re rs q => wS_of ps_pass (q σ H loc Gr.refl rs re)
theorem ss_break {pos : Pos} : SS X W (.Break pos) (fun δ => ret (.bk δ)) := fun σ H loc δ μ D re rs q => wS_of ps_break (q σ H loc Gr.refl rs re)
theorem ss_cont {pos : Pos} : SS X W (.Continue pos) (fun δ => ret (.ct δ)) := fun σ H loc δ μ D re rs q => wS_of ps_continue (q σ H loc Gr.refl rs re)
theorem ss_doc {x j pos pos'} : SS X W (.Expr (.Constant (.str x) j pos) pos') (fun δ => ret (.nx δ)) := fun σ H loc δ μ D re rs q => wS_of ps_doc (q σ H loc Gr.refl rs re)
theorem ss_expr {e : Expr} {m : Env → M A} {pos : Pos} (h : SE X W e m) (hs : swapsWith e none pos.line X.env = pure false := by rfl) : SS X W (.Expr e pos) (fun δ => inS (m δ) δ fun _ => ret (.nx δ)) := fun σ H loc δ μ D re rs q => by
  refine wS_of (ps_expr pwE hs) ?_
  exact h.goS re rs q fun v x H1 loc1 μ1 g1 rs1 rv re1 q1 => q1 σ H1 loc1 Gr.refl rs1 re1
theorem ss_ret {e : Expr} {m : Env → M A} {pos : Pos} (h : SE X W e m) : SS X W (.Return (some e) pos) (fun δ => inS (m δ) δ fun a => ret (.rt a)) := fun σ H loc δ μ D re rs q => by
  refine wS_of (ps_ret pwE) ?_
  exact h.goS re rs q fun v x H1 loc1 μ1 g1 rs1 rv re1 q1 => q1 v H1 loc1 Gr.refl rs1 rv
theorem ss_retN {pos : Pos} : SS X W (.Return none pos) (fun δ => ret (.rt .non)) := fun σ H loc δ μ D re rs q => wS_of ps_retN (q .non H loc Gr.refl rs .non)
theorem ss_if {c : Expr} {a b : List Stmt} {tc : Env → M Bool} {ma mb : Env → M Fl} {pos : Pos} (hc : ST X W c tc) (ha : SB X W a ma) (hb : SB X W b mb) : SS X W (.If c a b pos) (fun δ => inS (tc δ) δ fun k => match k with | true => ma δ | false => mb δ) := fun σ H loc δ μ D re rs q => by
  refine wS_of (ps_if pwT pwB pwB) ?_
  refine hc.goS re rs q fun k H1 loc1 μ1 g1 rs1 re1 q1 => ?_
  cases k with
  | true =>
    show (if true = true then _ else _)
    rw [if_pos rfl]
    exact ha σ H1 loc1 δ μ1 D re1 rs1 q1
  | false =>
    show (if false = true then _ else _)
    rw [if_neg Bool.false_ne_true]
    exact hb σ H1 loc1 δ μ1 D re1 rs1 q1

/-! ### targets -/
def setG (i : Nat) : A → Env → M Env := fun a δ => ret (δ.set i (some a))
theorem sg_name (i : Nat) {x : Str} {pos : Pos} (hN : X.N.Nodup) (hi : X.N[i]? = some x := by rfl) (hx : Loc X.env.scope x := by first | exact Or.inl rfl | exact Or.inr rfl) (hf : X.fn x = true ∨ X.env.scope.names.lookup x = some .local := by first | exact .inl rfl | exact .inr rfl) : SG X W [i] (.Name x pos) (setG i) :=
  fun σ H loc δ μ v a Q re rs ra q => wG_of (pg_name hN hi hx hf) (q _ H loc Gr.refl rs (re.set ra) ⟨List.length_set .., fun j hj => List.getElem?_set_ne (fun z => hj (by rw [z]; exact List.mem_cons_self ..))⟩)
/-- several targets -/
def SGs (X : Cx) (W : WX) (T : List Nat) (es : List Expr) (g : List A → Env → M Env) : Prop := ∃ t : TGs, PGs X es t ∧ ∀ (σ : St) (H : Hp) (loc : List Addr) (δ : Env) (μ : Sto) (vs : List V) (as : List A) (Q : St → Hp → Prop), RE X.K H loc σ δ → RS X.K H loc μ → RAs X.K H loc vs as →
  (g as δ μ).post (fun δ' μ' => ∀ (σ' : St) (H' : Hp) (loc' : List Addr), Gr X.K H loc H' loc' → RS X.K H' loc' μ' → RE X.K H' loc' σ' δ' → Agree T σ σ' → Q σ' H') NX → t vs σ H Q
def gsNil : List A → Env → M Env := fun as δ => match as with
  | [] => ret δ
  | _ => bad
def gsCons (g : A → Env → M Env) (gs : List A → Env → M Env) : List A → Env → M Env := fun as δ => match as with
  | a :: as => bnd (g a δ) fun δ' => gs as δ'
  | [] => bad
theorem sgs_nil : SGs X W [] [] gsNil := ⟨gNil, pgs_nil, fun σ H loc δ μ vs as Q re rs ra q => by
  cases ra with
  | nil => exact ⟨rfl, q σ H loc Gr.refl rs re Agree.refl⟩
  | cons _ _ => exact q.elim⟩
theorem sgs_cons {T U : List Nat} {e : Expr} {es : List Expr} {g : A → Env → M Env} {gs : List A → Env → M Env} (h : SG X W T e g) (hs : SGs X W U es gs)
    (ha : (assignEach (e :: es) X.env).map (·.2) = assign e X.env :: (assignEach es X.env).map (·.2) := by rfl) : SGs X W (T ++ U) (e :: es) (gsCons g gs) := by
  obtain ⟨t, h1, h2⟩ := hs
  refine ⟨gCons (wG X e) t, pgs_cons pwG h1 ha, fun σ H loc δ μ vs as Q re rs ra q => ?_⟩
  cases ra with
  | nil => exact q.elim
  | @cons v vs a as r rr =>
    refine ⟨v, vs, rfl, ?_⟩
    refine h σ H loc δ μ v a _ re rs r (post_mono (post_bnd.mp q) (fun δ' μ' q' σ' H' loc' g' rs' re' ag => ?_) fun _ _ z => z)
    exact h2 σ' H' loc' δ' μ' vs as Q re' rs' (rr.mono g') (post_mono q' (fun _ _ z σ2 H2 loc2 g2 rs2 re2 ag2 => z σ2 H2 loc2 (g'.trans g2) rs2 re2 (ag.trans ag2)) fun _ _ z => z)
/-- (a, b, ..) = a tuple -/
def tupG (n : Nat) (gs : List A → Env → M Env) : A → Env → M Env := fun a δ => match a with
  | .tup xs => if xs.length = n then gs xs δ else bad
  | _ => bad
theorem sg_tup {T : List Nat} {es : List Expr} {k n : Nat} {pos : Pos} {gs : List A → Env → M Env} (hc : X.calm = true) (h : SGs X W T es gs)
    (hn : (assignEach es X.env).length = n := by rfl) (hst : (assignEach es X.env).findIdx? (·.1) = none := by rfl) : SG X W T (.Tuple es k pos) (tupG n gs) := fun σ H loc δ μ v a Q re rs ra q => by
  obtain ⟨t, h1, h2⟩ := h
  refine wG_of (pg_tup hc h1 hn hst) ?_
  cases ra with
  | @tup p vs xs hq hl r =>
    simp only [tupG] at q
    split at q
    · rename_i hx
      exact ⟨p, vs, rfl, hq, by rw [r.length]; exact hx, h2 σ H loc δ μ vs xs Q re rs r q⟩
    · exact q.elim
  | _ => exact q.elim
/-- target = value -/
theorem ss_set (i : Nat) {x : Str} {e : Expr} {m : Env → M A} {pos pos' : Pos} (hN : X.N.Nodup) (h : SE X W e m) (hi : X.N[i]? = some x := by rfl) (hx : Loc X.env.scope x := by first | exact Or.inl rfl | exact Or.inr rfl)
    (hs : swapsWith e (some (.Name x pos')) pos.line X.env = pure false := by rfl) (hf : X.fn x = true ∨ X.env.scope.names.lookup x = some .local := by first | exact .inl rfl | exact .inr rfl) :
    SS X W (.Assign [.Name x pos'] e pos) (fun δ => inS (m δ) δ fun a => ret (.nx (δ.set i (some a)))) := fun σ H loc δ μ D re rs q => by
  refine wS_of (ps_set hN hi hx pwE hs hf) ?_
  exact h.goS re rs q fun v x H1 loc1 μ1 g1 rs1 rv re1 q1 => q1 _ H1 loc1 Gr.refl rs1 (re1.set rv)
theorem ss_asg {T : List Nat} {tg e : Expr} {g : A → Env → M Env} {m : Env → M A} {pos : Pos} (h : SE X W e m) (hg : SG X W T tg g) (hs : swapsWithSole [tg] e pos.line X.env = pure false := by rfl) (hw : swappedStores [tg] e X.env = pure none := by rfl)
    (h1 : (assignEach [tg] X.env).map (·.2) = [assign tg X.env] := by rfl) : SS X W (.Assign [tg] e pos) (fun δ => inS (m δ) δ fun a => bnd (g a δ) fun δ' => ret (.nx δ')) := fun σ H loc δ μ D re rs q => by
  refine wS_of (ps_asg pwE pwG hs hw h1) ?_
  refine h.goS re rs q fun v x H1 loc1 μ1 g1 rs1 rv re1 q1 => ?_
  exact hg σ H1 loc1 δ μ1 v x _ re1 rs1 rv (post_mono (post_bnd.mp q1) (fun δ' μ' q' σ' H' loc' g' rs' re' _ => q' σ' H' loc' g' rs' re') fun _ _ z => z)
end
end Lt

/-! Lt4: calls of defs, loops, what is walked. -/
namespace Lt
open PySem PySem.Spec PyProof.Rows L2

/-! ### a def by its mirror -/
def raiseM {α : Type} (x : Exc) : M α := fun μ => .ex x μ
def spM (K : PySem.W.Frag) (n : Nat) (mf : List A → M A) : Sp := fun vs H Q E => ∃ (loc : List Addr) (μ : Sto) (as : List A), as.length = n ∧ RS K H loc μ ∧ RAs K H loc vs as ∧
  (mf as μ).post (fun a μ' => ∀ (v : V) (H' : Hp) (loc' : List Addr), Gr K H loc H' loc' → RS K H' loc' μ' → RA K H' loc' v a → Q v H')
    (fun x μ' => ∀ (H' : Hp) (loc' : List Addr) (cls : Value) (d : Option Addr), Gr K H loc H' loc' → RS K H' loc' μ' → RX K H' loc' x cls d → E cls d H')
def FnM (P : Program) (w : World) (K : PySem.W.Frag) (mg : Str → Option Value) (base : Heap) (k : Nat) (f : Addr) (fd : FuncData) (ps : List Str) (mf : List A → M A) : Prop := FnOk P w K mg base (L2.CX P w) k f fd ps (spM K ps.length mf)
/-- a def's body, run from its arguments -/
def endM (fl : Fl) : M A := match fl with
  | .rt a => ret a
  | .nx _ => ret .non
  | .rs x _ => raiseM x
  | _ => bad
def startE (n : Nat) (as : List A) : Env := as.map some ++ List.replicate (n - as.length) none
def runBody (n : Nat) (m : Env → M Fl) (as : List A) : M A := fun μ => match m (startE n as) μ with
  | .ok fl μ' => endM fl μ'
  | _ => .bad
section
variable {P : Program} {w : World} {K : PySem.W.Frag} {mg : Str → Option Value} {base : Heap}
/-- the wish of a def's body: what leaves it -/
abbrev wOut (E : XK) : WX := fun cls d _ H => E cls d H
theorem fnM_of {x qual : Str} {st : Stmt} {f : Addr} {fd : FuncData} {N ps : List Str} {k : Nat} {m : Env → M Fl} (F : Fun K x qual st f fd) (S : FnScope N ps (defScope st))
    (hb : ∀ (cdv : Value) (A : Around) (outer : List PySem.Env) (s : Shared) (H : Hp) (E : XK), Room k (A.deeper (envOfC qual (defScope st) s.heap.objs.size f cdv)) →
      Takes (cxOf (L2.CX P w) P w K mg base N qual (defScope st) f cdv A outer s H E) (wOut E) → SB (cxOf (L2.CX P w) P w K mg base N qual (defScope st) f cdv A outer s H E) (wOut E) (defBody st) m) :
    FnM P w K mg base (k + 1) f fd ps (runBody N.length m) := by
  refine F.okX S (fun vs H Q E h => ?_) fun cdv A outer s H vs Q E hr h => ?_
  · obtain ⟨loc, μ, as, hl, _, ra, _⟩ := h
    rw [ra.length]
    exact hl
  · obtain ⟨loc, μ, as, hl, rs, ra, q⟩ := h
    refine ⟨wB _ _, pwB, ?_⟩
    refine hb cdv A outer s H E hr (takes_of rfl rfl rfl rfl) (L2.start N vs) H loc (startE N.length as) μ _ (RE.begins ra) rs ?_
    unfold runBody at q
    split at q
    · rename_i fl μ' e
      refine post_ok e ?_
      cases fl with
      | nx δ => exact fun σ' H' loc' g rs' re' => q .non H' loc' g rs' .non
      | rt a => exact fun v H' loc' g rs' rv => q v H' loc' g rs' rv
      | rs x δ => exact fun σ' H' loc' cls d g rs' re' rx => q H' loc' cls d g rs' rx
      | bk δ => exact q.elim
      | ct δ => exact q.elim
    · exact q.elim
end
/-- a call of a def -/
def callM (n : Nat) (mf : List A → M A) (as : List A) : M A := if as.length = n then mf as else bad
section
variable {X : Cx} {W : WX} {k : Nat} {f : Addr} {fd : FuncData} {ps : List Str} {mf : List A → M A} {x : Str} {p pos : Pos} {e : Expr} {es : List Expr} {ma : Env → M (List A)}
theorem spM_of {σ : St} {H : Hp} {loc : List Addr} {μ : Sto} {vs : List V} {as : List A} {Q : VK} (rs : RS X.K H loc μ) (ra : RAs X.K H loc vs as) (q : (callM ps.length mf as μ).post (KV_ X H loc Q) (KX X W σ H loc)) : spM X.K ps.length mf vs H Q (WE W σ) := by
  unfold callM at q
  split at q
  · rename_i hl
    exact ⟨loc, μ, as, hl, rs, ra, q⟩
  · exact q.elim
theorem se_call (F : FnM X.prog X.w X.K X.mg X.base k f fd ps mf) (hr : Room k X.A) (tk : Takes X W) (hm : X.mg x = some (.ref f)) (hk : PySem.W.keepIn X.K (.ref f) = true) (hb : Binds X.K fd ps []) (ha : SA X W (e :: es) ma) (hg : Gl X x := by rfl)
    (hdb : (x == ("__debug__" : Str)) = false := by decide +kernel) (he : starEach (e :: es) X.env = (false, eval e X.env) :: starEach es X.env := by rfl) (hpl : (backTo pos (starEach es X.env)).any (·.1) = false := by rfl) :
    SE X W (.Call (.Name x p) (e :: es) [] pos) (fun δ => bnd (ma δ) (callM ps.length mf)) := fun σ H loc δ μ Q re rs q => by
  refine wE_of (pe_callS F hr hg hm hk hb (fun σ => passAt tk σ) pwA hdb he hpl) ?_
  refine ha.go re rs q fun vs as H1 loc1 μ1 g1 rs1 ra re1 q1 => ?_
  exact spM_of rs1 ra (post_mono q1 (fun _ _ z => KV_.mono g1 z) fun _ _ z => z)
theorem se_call0 (F : FnM X.prog X.w X.K X.mg X.base k f fd ps mf) (hr : Room k X.A) (tk : Takes X W) (hm : X.mg x = some (.ref f)) (hk : PySem.W.keepIn X.K (.ref f) = true) (hb : Binds X.K fd ps []) (hg : Gl X x := by rfl)
    (hdb : (x == ("__debug__" : Str)) = false := by decide +kernel) : SE X W (.Call (.Name x p) [] [] pos) (fun _ => callM ps.length mf []) := fun σ H loc δ μ Q re rs q => fun pins s I => by
  refine wpAny_Call_Name_kw (ld_glob I hg hm ?_ hdb)
  exact PySem.W.callWith_K0 I.kIn hk (run_fnS (us := []) F hr hb (passAt tk σ) I .nil (spM_of rs .nil q))
end

/-! ### what is walked -/
structure MIt where
  items : List A
  src : List (Nat × List A)
def MIt.still (mi : MIt) (μ : Sto) : Prop := ∀ p ∈ mi.src, μ[p.1]? = some (.lst p.2)
def ItOk (K : PySem.W.Frag) (J : It) (mi : MIt) (H0 : Hp) (loc0 : List Addr) : Prop := ∀ (H : Hp) (loc : List Addr) (μ : Sto), Gr K H0 loc0 H loc → RS K H loc μ → mi.still μ →
  J.stop mi.items.length H ∧ ∀ (i : Nat) (x : A), mi.items[i]? = some x → J.go i H ∧ ∀ (v : V) (H' : Hp), J.yld i H v H' → Gr K H loc H' loc ∧ RS K H' loc μ ∧ RA K H' loc v x
def KI (X : Cx) (H : Hp) (loc : List Addr) (R : It → Hp → Prop) : MIt → Sto → Prop := fun mi μ' => ∀ (J : It) (H' : Hp) (loc' : List Addr), Gr X.K H loc H' loc' → RS X.K H' loc' μ' → ItOk X.K J mi H' loc' → R J H'
def SI (X : Cx) (W : WX) (tg iter : Expr) (m : Env → M MIt) : Prop := ∀ (σ : St) (H : Hp) (loc : List Addr) (δ : Env) (μ : Sto) (R : It → Hp → Prop), RE X.K H loc σ δ → RS X.K H loc μ → (m δ μ).post (KI X H loc R) (KX X W σ H loc) → wI X tg iter σ H R
theorem KI.mono {X : Cx} {H H1 : Hp} {loc loc1 : List Addr} {R : It → Hp → Prop} {mi : MIt} {μ : Sto} (g : Gr X.K H loc H1 loc1) (h : KI X H loc R mi μ) : KI X H1 loc1 R mi μ := fun J H' loc' g' => h J H' loc' (g.trans g')
/-- where a list's items come from -/
def srcOf (a : A) (xs : List A) : List (Nat × List A) := match a with
  | .hd n => [(n, xs)]
  | _ => []
/-- a list or a tuple that stands: it may be read later as it was -/
theorem sq_later {K : PySem.W.Frag} {H0 H : Hp} {loc0 loc : List Addr} {μ0 μ : Sto} {p : Addr} {a : A} {xs : List A} (rs0 : RS K H0 loc0 μ0) (ra : RA K H0 loc0 (.ref p) a) (hi : items a μ0 = .ok xs μ0)
    (g : Gr K H0 loc0 H loc) (rs : RS K H loc μ) (st : ∀ q ∈ srcOf a xs, μ[q.1]? = some (.lst q.2)) :
    ∃ vs, (SqL K H p vs ∨ SqT K H p vs) ∧ vs.length ≤ sizeLine ∧ RAs K H loc vs xs ∧ (∀ zs, a = .tup zs → SqT K H p vs) ∧ ((∀ zs, a ≠ .tup zs) → SqL K H p vs) := by
  have ra' := ra.mono g
  cases ra' with
  | @tup _ vs ys h1 h2 h3 =>
    have e : ys = xs := by simp only [items, ret] at hi; injection hi
    subst e
    exact ⟨vs, .inr h1, h2, h3, fun _ _ => h1, fun z => absurd rfl (z ys)⟩
  | @rol _ vs ys h1 h2 h3 =>
    have e : ys = xs := by simp only [items, itemsL] at hi; injection hi
    subst e
    exact ⟨vs, .inl (rol_sq h1), h2, h3, fun _ z => (nomatch z), fun _ => rol_sq h1⟩
  | @hd _ n h1 =>
    have h2 := st (n, xs) (by simp [srcOf])
    obtain ⟨vs, q1, q2, q3⟩ := rs.lst h2 h1
    exact ⟨vs, .inl (.of q1), q2, q3, fun _ z => (nomatch z), fun _ => .of q1⟩
  | fn => simp only [items, itemsL] at hi; cases hi
  | exc => simp only [items, itemsL] at hi; cases hi
  | ex0 => simp only [items, itemsL] at hi; cases hi
section
variable {X : Cx} {W : WX} {tg e : Expr} {m : Env → M A}
/-- a list, a tuple -/
def iterM (a : A) : M MIt := bnd (items a) fun xs => ret ⟨xs, srcOf a xs⟩
theorem getv_eq {vs : List V} {xs : List A} {K : PySem.W.Frag} {H : Hp} {loc : List Addr} {i : Nat} {v : V} {x : A} (r : RAs K H loc vs xs) (h1 : vs[i]? = some v) (h2 : xs[i]? = some x) : RA K H loc v x := by
  obtain ⟨w, q1, q2⟩ := r.get h2
  rw [h1] at q1
  cases q1
  exact q2
theorem si_seq (h : SE X W e m) : SI X W tg e (fun δ => bnd (m δ) iterM) := fun σ H loc δ μ R re rs q => fun pins s I => by
  refine thn (h.go (Q := fun v H1 => ∃ loc1 μ1 x, Gr X.K H loc H1 loc1 ∧ RS X.K H1 loc1 μ1 ∧ RA X.K H1 loc1 v x ∧ (iterM x μ1).post (KI X H1 loc1 R) (KX X W σ H1 loc1)) re rs q (fun v x H1 loc1 μ1 g1 rs1 rv re1 q1 => ⟨loc1, μ1, x, g1, rs1, rv, post_mono q1 (fun _ _ z => KI.mono g1 z) fun _ _ z => z⟩) pins s I) fun u s1 ⟨v, H1, I1, r1, loc1, μ1, x, g1, rs1, rv, q1⟩ => ?_
  obtain ⟨p, vs, xs, ev, hs, hl, ra, hi, q2⟩ := rv.sq rs1 (post_bnd.mp q1)
  subst ev
  cases r1
  by_cases ht : ∃ zs, x = .tup zs
  · obtain ⟨zs, ez⟩ := ht
    have hq : SqT X.K H1 p vs := by
      obtain ⟨ws, _, _, ra', hT, _⟩ := sq_later rs1 rv hi Gr.refl rs1 (by subst ez; intro q hq; simp [srcOf] at hq)
      rcases hs with hs | hs
      · have := hT zs ez
        subst ez
        cases rv with
        | @tup _ ws' _ h1 h2 h3 =>
          obtain ⟨its, _, ⟨o, n, e1, c1, _, _⟩, _⟩ := I1.list hs
          obtain ⟨its', _, ⟨o', e2, c2, _⟩, _⟩ := I1.tuple h1
          rw [e1] at e2
          cases e2
          rw [c1] at c2
          exact absurd (Value.type.inj c2) (by decide)
      · exact hs
    obtain ⟨its, rv', p', hz⟩ := I1.tuple hq
    refine wpAny_pyIter_tuple (show s1.heap.IsTuple p its.toArray from p') ?_
    refine ⟨s1.heap.objs.size, [s1.heap.objs.size], _, _, H1, rfl, I1.kept (t' := s1.toks) fun b o e => Heap.get?_push_of_some _ e, turn_tuple p _, ⟨_, Heap.get?_push_size _ rfl, rfl, rfl⟩, fun b hb => ?_, ?_⟩
    · have e : b = s1.heap.objs.size := by simpa using hb
      subst e
      exact I1.fpOk (Nat.le_refl _) (I1.hok.fresh (Nat.le_refl _))
    · refine q2 (Itt X.K p) H1 loc1 Gr.refl rs1 fun H2 loc2 μ2 g2 rs2 st => ?_
      obtain ⟨ws, _, _, ra', hT, _⟩ := sq_later rs1 rv hi g2 rs2 st
      have hT' := hT zs ez
      refine ⟨⟨ws, hT', by rw [ra'.length]; exact Nat.le_refl _⟩, fun i y hy => ?_⟩
      obtain ⟨w, h1, h2⟩ := ra'.get hy
      refine ⟨⟨ws, w, hT', h1⟩, fun v' H' ⟨e, y'⟩ => ?_⟩
      subst e
      have := y' ws hT'
      rw [h1] at this
      cases this
      exact ⟨Gr.refl, rs2, h2⟩
  · have hL : ∀ {H2 loc2 μ2}, Gr X.K H1 loc1 H2 loc2 → RS X.K H2 loc2 μ2 → (∀ q ∈ srcOf x xs, μ2[q.1]? = some (.lst q.2)) → ∃ ws, SqL X.K H2 p ws ∧ ws.length ≤ sizeLine ∧ RAs X.K H2 loc2 ws xs := fun g2 rs2 st => by
      obtain ⟨ws, _, h1, ra', _, hl⟩ := sq_later rs1 rv hi g2 rs2 st
      exact ⟨ws, hl fun zs ez => ht ⟨zs, ez⟩, h1, ra'⟩
    have st0 : ∀ q ∈ srcOf x xs, μ1[q.1]? = some (.lst q.2) := fun q hq => by
      cases x with
      | hd n =>
        have e : q = (n, xs) := by simpa [srcOf] using hq
        subst e
        simp only [items, itemsL] at hi
        split at hi
        · rename_i ys e
          injection hi with h1 h2
          subst h1
          exact e
        · cases hi
      | _ => simp [srcOf] at hq
    obtain ⟨ws, hq, hz, _⟩ := hL Gr.refl rs1 st0
    obtain ⟨its, rv', p', _⟩ := I1.list hq
    refine wpAny_pyIter_list p'.isList ?_
    refine ⟨s1.heap.objs.size, [s1.heap.objs.size], _, _, H1, rfl, I1.kept (t' := s1.toks) fun b o e => Heap.get?_push_of_some _ e, turn_list p _, ⟨_, Heap.get?_push_size _ rfl, rfl, rfl⟩, fun b hb => ?_, ?_⟩
    · have e : b = s1.heap.objs.size := by simpa using hb
      subst e
      exact I1.fpOk (Nat.le_refl _) (I1.hok.fresh (Nat.le_refl _))
    · refine q2 (Itl X.K p) H1 loc1 Gr.refl rs1 fun H2 loc2 μ2 g2 rs2 st => ?_
      obtain ⟨ws, hL', _, ra'⟩ := hL g2 rs2 st
      refine ⟨⟨ws, hL', by rw [ra'.length]; exact Nat.le_refl _⟩, fun i y hy => ?_⟩
      obtain ⟨w, h1, h2⟩ := ra'.get hy
      refine ⟨⟨ws, w, hL', h1⟩, fun v' H' ⟨e, y'⟩ => ?_⟩
      subst e
      have := y' ws hL'
      rw [h1] at this
      cases this
      exact ⟨Gr.refl, rs2, h2⟩
end

section
variable {X : Cx} {W : WX}
theorem still_nil {xs : List A} {μ : Sto} : (MIt.mk xs []).still μ := fun _ h => nomatch h
theorem itOk_range {K : PySem.W.Frag} {H : Hp} {loc : List Addr} {lo : Int} {n : Nat} : ItOk K (Itr lo n) ⟨(List.range n).map fun i => .int (lo + (i : Nat)), []⟩ H loc := fun H1 loc1 μ1 g rs _ => by
  refine ⟨by show n ≤ _; simp, fun i x hx => ?_⟩
  rw [List.getElem?_map] at hx
  cases e : (List.range n)[i]? with
  | none => rw [e] at hx; cases hx
  | some j =>
    rw [e] at hx
    have hx' : A.int (lo + (j : Nat)) = x := Option.some.inj hx
    subst hx'
    have hj : i < n ∧ j = i := by
      obtain ⟨h1, h2⟩ := List.getElem?_eq_some_iff.mp e
      rw [List.length_range] at h1
      rw [List.getElem_range] at h2
      exact ⟨h1, h2.symm⟩
    obtain ⟨h1, rfl⟩ := hj
    refine ⟨h1, fun v H' ⟨e1, e2⟩ => ?_⟩
    subst e1 e2
    exact ⟨Gr.refl, rs, .int _⟩
/-- range(n) | range(a, b) -/
def range1M (as : List A) : M MIt := match as with
  | [.int j] => if -(2 ^ 62) ≤ j ∧ j < 2 ^ 62 then ret ⟨(List.range j.toNat).map fun i => .int (0 + (i : Nat)), []⟩ else bad
  | _ => bad
def range2M (as : List A) : M MIt := match as with
  | [.int i, .int j] => if -(2 ^ 62) ≤ i ∧ i < 2 ^ 62 ∧ -(2 ^ 62) ≤ j ∧ j < 2 ^ 62 then ret ⟨(List.range (j - i).toNat).map fun k => .int (i + (k : Nat)), []⟩ else bad
  | _ => bad
theorem si_range1 {tg a : Expr} {ma : Env → M (List A)} {p pos : Pos} (hm : X.mg "range" = none) (ha : SA X W [a] ma) (hg : Gl X "range" := by rfl) (hs : starEach [a] X.env = [(false, eval a X.env)] := by rfl) : SI X W tg (.Call (.Name "range" p) [a] [] pos) (fun δ => bnd (ma δ) range1M) := fun σ H loc δ μ R re rs q => by
  refine wI_of (pi_range1 hg hm pwA hs) ?_
  refine ha.go re rs q fun vs as H1 loc1 μ1 g1 rs1 ra re1 q1 => ?_
  unfold range1M at q1
  split at q1
  · rename_i j
    cases ra with
    | cons r rr =>
      cases rr
      cases r
      split at q1
      · rename_i hj
        exact ⟨j, rfl, hj.1, hj.2, q1 _ H1 loc1 g1 rs1 itOk_range⟩
      · exact q1.elim
  · exact q1.elim
theorem si_range2 {tg a b : Expr} {ma : Env → M (List A)} {p pos : Pos} (hm : X.mg "range" = none) (ha : SA X W [a, b] ma) (hg : Gl X "range" := by rfl) (hs : starEach [a, b] X.env = [(false, eval a X.env), (false, eval b X.env)] := by rfl) (hs2 : starEach [b] X.env = [(false, eval b X.env)] := by rfl) :
    SI X W tg (.Call (.Name "range" p) [a, b] [] pos) (fun δ => bnd (ma δ) range2M) := fun σ H loc δ μ R re rs q => by
  refine wI_of (pi_range2 hg hm pwA hs hs2) ?_
  refine ha.go re rs q fun vs as H1 loc1 μ1 g1 rs1 ra re1 q1 => ?_
  unfold range2M at q1
  split at q1
  · rename_i i j
    cases ra with
    | cons r rr =>
      cases r
      cases rr with
      | cons r' rr' =>
        cases rr'
        cases r'
        split at q1
        · rename_i hj
          exact ⟨i, j, rfl, hj, q1 _ H1 loc1 g1 rs1 itOk_range⟩
        · exact q1.elim
  · exact q1.elim
/-- the signs of a text -/
def signs (s : Str) : List A := s.cps.toList.map fun c => .str ⟨#[c]⟩
def strIterM (a : A) : M MIt := match a with
  | .str s => ret ⟨signs s, []⟩
  | _ => bad
theorem si_str {tg e : Expr} {m : Env → M A} (h : SE X W e m) : SI X W tg e (fun δ => bnd (m δ) strIterM) := fun σ H loc δ μ R re rs q => by
  refine wI_of (pi_str pwE) ?_
  refine h.go re rs q fun v x H1 loc1 μ1 g1 rs1 rv re1 q1 => ?_
  cases rv with
  | str s =>
    refine ⟨s, rfl, q1 _ H1 loc1 g1 rs1 fun H2 loc2 μ2 g2 rs2 _ => ⟨?_, fun i x hx => ?_⟩⟩
    · show s.cps.size ≤ (signs s).length
      unfold signs
      rw [List.length_map, Array.length_toList]
      exact Nat.le_refl _
    · have hx' : (signs s)[i]? = some x := hx
      unfold signs at hx'
      rw [List.getElem?_map] at hx'
      cases e : s.cps.toList[i]? with
      | none => rw [e] at hx'; cases hx'
      | some c =>
        rw [e] at hx'
        have hx2 : A.str ⟨#[c]⟩ = x := Option.some.inj hx'
        subst hx2
        have hc : s.cps[i]? = some c := by rw [← Array.getElem?_toList]; exact e
        refine ⟨(Array.getElem?_eq_some_iff.mp hc).1, fun v H' ⟨e1, c', e2, e3⟩ => ?_⟩
        subst e1
        rw [hc] at e2
        cases e2
        subst e3
        exact ⟨Gr.refl, rs2, .str _⟩
  | _ => exact q1.elim
/-- enumerate(list) -/
def pairsFrom : Nat → List A → List A
  | _, [] => []
  | n, x :: xs => .tup [.int (n : Nat), x] :: pairsFrom (n + 1) xs
theorem pairsFrom_get : ∀ (xs : List A) (n i : Nat), (pairsFrom n xs)[i]? = (xs[i]?).map fun x => A.tup [.int ((n + i : Nat) : Int), x]
  | [], _, _ => by simp [pairsFrom]
  | x :: xs, n, 0 => by simp [pairsFrom]
  | x :: xs, n, i + 1 => by
    have := pairsFrom_get xs (n + 1) i
    simp only [pairsFrom, List.getElem?_cons_succ, this]
    congr 1
    funext y
    congr 4
    omega
theorem pairsFrom_len : ∀ (xs : List A) (n : Nat), (pairsFrom n xs).length = xs.length
  | [], _ => rfl
  | _ :: xs, n => congrArg (· + 1) (pairsFrom_len xs (n + 1))
def enumM (as : List A) : M MIt := match as with
  | [a] => bnd (itemsL a) fun xs => ret ⟨pairsFrom 0 xs, srcOf a xs⟩
  | _ => bad
theorem pair_new {K : PySem.W.Frag} {H : Hp} {loc : List Addr} {μ : Sto} {T : Addr} {v w : V} {a b : A} (rs : RS K H loc μ) (hT : H T = none) (ra : RA K H loc v a) (rb : RA K H loc w b) :
    Gr K H loc (upd H T (.tup [v, w])) loc ∧ RS K (upd H T (.tup [v, w])) loc μ ∧ RA K (upd H T (.tup [v, w])) loc (.ref T) (.tup [a, b]) :=
  ⟨Gr.new hT, rs.new hT, .tup (.inl (.inl upd_same)) (by show 2 ≤ sizeLine; decide) (.cons (ra.mono (Gr.new hT)) (.cons (rb.mono (Gr.new hT)) .nil))⟩
theorem items_of_L {a : A} {xs : List A} {μ : Sto} (h : itemsL a μ = .ok xs μ) : items a μ = .ok xs μ := by
  cases a with
  | tup zs => simp only [itemsL] at h; cases h
  | _ => exact h
theorem notTup_of_L {a : A} {xs : List A} {μ : Sto} (h : itemsL a μ = .ok xs μ) : ∀ zs, a ≠ .tup zs := fun zs e => by
  subst e
  simp only [itemsL] at h
  cases h
theorem si_enum {e : Expr} {ma : Env → M (List A)} {p pos tpos : Pos} {elts : List Expr} {kk : Nat} (hm : X.mg "enumerate" = none) (ha : SA X W [e] ma) (hg : Gl X "enumerate" := by rfl) (hs : starEach [e] X.env = [(false, eval e X.env)] := by rfl) :
    SI X W (.Tuple elts kk tpos) (.Call (.Name "enumerate" p) [e] [] pos) (fun δ => bnd (ma δ) enumM) := fun σ H loc δ μ R re rs q => by
  refine wI_of (pi_enum hg hm pwA hs) ?_
  refine ha.go re rs q fun vs as H1 loc1 μ1 g1 rs1 ra re1 q1 => ?_
  unfold enumM at q1
  split at q1
  · rename_i a
    cases ra with
    | @cons v _ _ _ r rr =>
      cases rr
      obtain ⟨p', ws, xs, ev, hq, hl, ra', hi, q2⟩ := RA.sqL (xs := []) rs1 r (post_bnd.mp q1)
      subst ev
      refine ⟨p', ws, rfl, hq, q2 _ H1 loc1 g1 rs1 fun H2 loc2 μ2 g2 rs2 st => ?_⟩
      obtain ⟨ws2, _, _, ra2, _, hL⟩ := sq_later rs1 r (items_of_L hi) g2 rs2 st
      have hL' := hL (notTup_of_L hi)
      refine ⟨⟨ws2, hL', by rw [pairsFrom_len, ra2.length]; exact Nat.le_refl _⟩, fun i x hx => ?_⟩
      rw [pairsFrom_get] at hx
      cases e : xs[i]? with
      | none => rw [e] at hx; cases hx
      | some y =>
        rw [e] at hx
        have hx' := Option.some.inj hx
        subst hx'
        obtain ⟨w, h1, h2⟩ := ra2.get e
        refine ⟨⟨ws2, w, hL', h1⟩, fun v' H' ⟨T, x', e1, hT, e2, e3⟩ => ?_⟩
        subst e1 e2
        have := e3 ws2 hL'
        rw [h1] at this
        cases this
        rw [Nat.zero_add]
        exact pair_new rs2 hT (.int _) h2
  · exact q1.elim
/-- zip of two lists or of two tuples -/
def zipL : List A → List A → List A
  | x :: xs, y :: ys => .tup [x, y] :: zipL xs ys
  | _, _ => []
theorem zipL_get : ∀ (xs ys : List A) (i : Nat), (zipL xs ys)[i]? = match xs[i]?, ys[i]? with | some x, some y => some (A.tup [x, y]) | _, _ => none
  | [], ys, i => by simp [zipL]
  | x :: xs, [], i => by
    simp only [zipL, List.getElem?_nil]
    cases (x :: xs)[i]? <;> rfl
  | x :: xs, y :: ys, 0 => by simp [zipL]
  | x :: xs, y :: ys, i + 1 => by simpa [zipL] using zipL_get xs ys i
theorem zipL_len : ∀ (xs ys : List A), (zipL xs ys).length = min xs.length ys.length
  | [], _ => by simp [zipL]
  | _ :: _, [] => by simp [zipL]
  | _ :: xs, _ :: ys => by simp only [zipL, List.length_cons, zipL_len xs ys]; omega
def zipM (as : List A) : M MIt := match as with
  | [.tup xs, .tup ys] => ret ⟨zipL xs ys, []⟩
  | [a, b] => bnd (itemsL a) fun xs => bnd (itemsL b) fun ys => ret ⟨zipL xs ys, srcOf a xs ++ srcOf b ys⟩
  | _ => bad
theorem si_zip {e e2 : Expr} {ma : Env → M (List A)} {p pos tpos : Pos} {elts : List Expr} {kk : Nat} (hm : X.mg "zip" = none) (ha : SA X W [e, e2] ma) (hg : Gl X "zip" := by rfl)
    (hs : starEach [e, e2] X.env = (false, eval e X.env) :: starEach [e2] X.env := by rfl) (hpl : (backTo pos (starEach [e2] X.env)).any (·.1) = false := by rfl) :
    SI X W (.Tuple elts kk tpos) (.Call (.Name "zip" p) [e, e2] [] pos) (fun δ => bnd (ma δ) zipM) := fun σ H loc δ μ R re rs q => by
  refine wI_of (RZ.pi_zipA hg hm pwA hs hpl) ?_
  refine ha.go re rs q fun vs as H1 loc1 μ1 g1 rs1 ra re1 q1 => ?_
  have main : ∀ a b v w, as = [a, b] → vs = [v, w] → RA X.K H1 loc1 v a → RA X.K H1 loc1 w b → (bnd (itemsL a) (fun xs => bnd (itemsL b) fun ys => ret (MIt.mk (zipL xs ys) (srcOf a xs ++ srcOf b ys))) μ1).post (KI X H loc R) (KX X W σ H1 loc1) →
      ∃ a b xs ys, vs = [.ref a, .ref b] ∧ ((SqL X.K H1 a xs ∧ SqL X.K H1 b ys ∧ R (Itz X.K a b) H1) ∨ (SqT X.K H1 a xs ∧ SqT X.K H1 b ys ∧ R (RZ.ItzT X.K a b) H1)) := fun a b v w ea ev r r' q1 => by
    obtain ⟨p1, ws, xs, e1, hq, hl, ra1, hi, q2⟩ := RA.sqL (xs := []) rs1 r (post_bnd.mp q1)
    obtain ⟨p2, zs, ys, e2, hq', hl', ra2, hi', q3⟩ := RA.sqL (xs := []) rs1 r' (post_bnd.mp q2)
    subst e1 e2 ev
    refine ⟨p1, p2, ws, zs, rfl, .inl ⟨hq, hq', q3 _ H1 loc1 g1 rs1 fun H2 loc2 μ2 g2 rs2 st => ?_⟩⟩
    obtain ⟨w1, _, _, rb1, _, hL1⟩ := sq_later rs1 r (items_of_L hi) g2 rs2 fun q hq => st q (List.mem_append_left _ hq)
    obtain ⟨w2, _, _, rb2, _, hL2⟩ := sq_later rs1 r' (items_of_L hi') g2 rs2 fun q hq => st q (List.mem_append_right _ hq)
    have h1 := hL1 (notTup_of_L hi)
    have h2 := hL2 (notTup_of_L hi')
    refine ⟨⟨w1, w2, h1, h2, ?_⟩, fun i x hx => ?_⟩
    · have : (zipL xs ys).length = min xs.length ys.length := zipL_len xs ys
      rw [rb1.length, rb2.length]
      show xs.length ≤ (zipL xs ys).length ∨ ys.length ≤ (zipL xs ys).length
      omega
    · have hx' : (zipL xs ys)[i]? = some x := hx
      rw [zipL_get] at hx'
      split at hx'
      · rename_i x1 y1 ex ey
        have hx2 := Option.some.inj hx'
        subst hx2
        obtain ⟨u1, b1, b2⟩ := rb1.get ex
        obtain ⟨u2, c1, c2⟩ := rb2.get ey
        refine ⟨⟨w1, w2, u1, u2, h1, h2, b1, c1⟩, fun v' H' ⟨T, x', y', e1, hT, e2, e3, e4⟩ => ?_⟩
        subst e1 e2
        have k1 := e3 w1 h1
        rw [b1] at k1
        cases k1
        have k2 := e4 w2 h2
        rw [c1] at k2
        cases k2
        exact pair_new rs2 hT b2 c2
      · cases hx'
  cases ra with
  | nil => exact q1.elim
  | cons r rr =>
    rename_i v vs' a as'
    cases rr with
    | nil =>
      cases a <;> exact q1.elim
    | cons r' rr' =>
      rename_i w vs2 b as2
      cases rr' with
      | cons _ _ => cases a <;> first | exact q1.elim | (cases b <;> exact q1.elim)
      | nil =>
        by_cases hab : ∃ xs ys, a = .tup xs ∧ b = .tup ys
        · obtain ⟨xs, ys, rfl, rfl⟩ := hab
          cases r with
          | @tup p1 ws _ k1 k2 k3 =>
            cases r' with
            | @tup p2 zs _ l1 l2 l3 =>
              refine ⟨p1, p2, ws, zs, rfl, .inr ⟨k1, l1, q1 _ H1 loc1 g1 rs1 fun H2 loc2 μ2 g2 rs2 _ => ?_⟩⟩
              have h1 := g2.sqT k1
              have h2 := g2.sqT l1
              refine ⟨⟨ws, zs, h1, h2, ?_⟩, fun i x hx => ?_⟩
              · have : (zipL xs ys).length = min xs.length ys.length := zipL_len xs ys
                rw [k3.length, l3.length]
                show xs.length ≤ (zipL xs ys).length ∨ ys.length ≤ (zipL xs ys).length
                omega
              · have hx' : (zipL xs ys)[i]? = some x := hx
                rw [zipL_get] at hx'
                split at hx'
                · rename_i x1 y1 ex ey
                  have hx2 := Option.some.inj hx'
                  subst hx2
                  obtain ⟨u1, b1, b2⟩ := (k3.mono g2).get ex
                  obtain ⟨u2, c1, c2⟩ := (l3.mono g2).get ey
                  refine ⟨⟨ws, zs, u1, u2, h1, h2, b1, c1⟩, fun v' H' ⟨T, x', y', e1, hT, e2, e3, e4⟩ => ?_⟩
                  subst e1 e2
                  have k1 := e3 ws h1
                  rw [b1] at k1
                  cases k1
                  have k2 := e4 zs h2
                  rw [c1] at k2
                  cases k2
                  exact pair_new rs2 hT b2 c2
                · cases hx'
        · refine main a b v w rfl rfl r r' ?_
          cases a with
          | tup xs =>
            cases b with
            | tup ys => exact absurd ⟨xs, ys, rfl, rfl⟩ hab
            | _ => exact q1
          | _ => exact q1
end

/-! ### loops -/
open Classical in
/-- for target in ..: body, from the items that are left -/
noncomputable def forM' (g : A → Env → M Env) (body : Env → M Fl) (mi : MIt) : List A → Env → M Fl
  | [], δ => fun μ => if mi.still μ then .ok (.nx δ) μ else .bad
  | a :: as, δ => fun μ => if mi.still μ then bnd (g a δ) (fun δ1 => bnd (body δ1) fun fl => match fl with
      | .nx δ2 => forM' g body mi as δ2
      | .ct δ2 => forM' g body mi as δ2
      | .bk δ2 => ret (.nx δ2)
      | fl => ret fl) μ else .bad
noncomputable def forS (m : Env → M MIt) (g : A → Env → M Env) (body : Env → M Fl) : Env → M Fl := fun δ => inS (m δ) δ fun mi => forM' g body mi mi.items δ
section
variable {X : Cx} {W : WX}
theorem ss_for {T : List Nat} {tg iter : Expr} {body : List Stmt} {pos : Pos} {m : Env → M MIt} {g : A → Env → M Env} {mb : Env → M Fl} (hp : PassesOwn (model X.prog X.w) X.A X.env X.xe) (hc : X.calm = true) (hi : SI X W tg iter m) (hg : SG X W T tg g) (hb : SB X W body mb)
    (hs : ∀ x, foldedSetIterable iter X.env x = pure x := by intro _; rfl) : SS X W (.For tg iter body [] pos) (forS m g mb) := fun σ H loc δ μ D re rs q => by
  refine wS_of (ps_for hp hc pwI pwG pwB hs) ?_
  refine hi σ H loc δ μ _ re rs (post_mono (post_inS q) (fun mi μ1 q1 J H1 loc1 g1 rs1 ok => ?_) fun _ _ z => KF.kx re z)
  refine ⟨fun i n σ2 H2 => n = mi.items.length - i ∧ i ≤ mi.items.length ∧ ∃ loc2 δ2 μ2, Gr X.K H1 loc1 H2 loc2 ∧ RS X.K H2 loc2 μ2 ∧ RE X.K H2 loc2 σ2 δ2 ∧ (forM' g mb mi (mi.items.drop i) δ2 μ2).post (KF X W D H2 loc2) NX,
    ⟨mi.items.length, by simp, Nat.zero_le _, loc1, δ, μ1, Gr.refl, rs1, re.mono g1, post_mono q1 (fun _ _ z => KF.mono g1 z) fun _ _ z => z⟩, ?_⟩
  rintro i n σ2 H2 ⟨rfl, hin, loc2, δ2, μ2, g2, rs2, re2, q2⟩
  by_cases hlt : i < mi.items.length
  · have hd : mi.items.drop i = mi.items[i] :: mi.items.drop (i + 1) := List.drop_eq_getElem_cons hlt
    rw [hd] at q2
    simp only [forM'] at q2
    split at q2
    · rename_i st
      obtain ⟨_, hyl⟩ := ok H2 loc2 μ2 g2 rs2 st
      obtain ⟨go, hy⟩ := hyl i mi.items[i] (List.getElem?_eq_getElem hlt)
      refine .inr ⟨go, fun σ' H' => ∃ loc' δ' μ', Gr X.K H1 loc1 H' loc' ∧ RS X.K H' loc' μ' ∧ RE X.K H' loc' σ' δ' ∧ (forM' g mb mi (mi.items.drop (i + 1)) δ' μ').post (KF X W D H' loc') NX,
        fun σ' H' ⟨loc', δ', μ', a1, a2, a3, a4⟩ => ⟨mi.items.length - (i + 1), by omega, rfl, hlt, loc', δ', μ', a1, a2, a3, a4⟩, fun v H' y => ?_⟩
      obtain ⟨g3, rs3, rv⟩ := hy v H' y
      refine hg σ2 H' loc2 δ2 μ2 v _ _ (re2.mono g3) rs3 rv (post_mono (post_bnd.mp q2) (fun δ3 μ3 q3 σ3 H3 loc3 g4 rs4 re4 _ => ?_) fun _ _ z => z)
      refine hb σ3 H3 loc3 δ3 μ3 _ re4 rs4 (post_mono (post_bnd.mp q3) (fun fl μ4 q4 => ?_) fun _ _ z => z)
      have g24 := g3.trans g4
      cases fl with
      | nx δ4 => exact fun σ4 H4 loc4 g5 rs5 re5 => ⟨loc4, δ4, μ4, g2.trans (g24.trans g5), rs5, re5, post_mono q4 (fun _ _ z => KF.mono (g24.trans g5) z) fun _ _ z => z⟩
      | ct δ4 => exact fun σ4 H4 loc4 g5 rs5 re5 => ⟨loc4, δ4, μ4, g2.trans (g24.trans g5), rs5, re5, post_mono q4 (fun _ _ z => KF.mono (g24.trans g5) z) fun _ _ z => z⟩
      | bk δ4 => exact fun σ4 H4 loc4 g5 rs5 re5 => q4 σ4 H4 loc4 (g24.trans g5) rs5 re5
      | rt a => exact fun v' H4 loc4 g5 rs5 rv5 => q4 v' H4 loc4 (g24.trans g5) rs5 rv5
      | rs x δ4 => exact fun σ4 H4 loc4 cls d g5 rs5 re5 rx => q4 σ4 H4 loc4 cls d (g24.trans g5) rs5 re5 rx
    · exact q2.elim
  · have e : i = mi.items.length := by omega
    subst e
    rw [List.drop_eq_nil_of_le (Nat.le_refl _)] at q2
    simp only [forM'] at q2
    split at q2
    · rename_i st
      obtain ⟨stop, _⟩ := ok H2 loc2 μ2 g2 rs2 st
      exact .inl ⟨stop, q2 σ2 H2 loc2 Gr.refl rs2 re2⟩
    · exact q2.elim
/-- while test: body, so many turns at most -/
def whileM (c : Env → M Bool) (body : Env → M Fl) : Nat → Env → M Fl
  | 0, _ => bad
  | n + 1, δ => inS (c δ) δ fun k => match k with
    | false => ret (.nx δ)
    | true => bnd (body δ) fun fl => match fl with
      | .nx δ' => whileM c body n δ'
      | .ct δ' => whileM c body n δ'
      | .bk δ' => ret (.nx δ')
      | fl => ret fl
theorem ss_while (n : Nat) {c : Expr} {body : List Stmt} {pos : Pos} {mc : Env → M Bool} {mb : Env → M Fl} (hp : PassesOwn (model X.prog X.w) X.A X.env X.xe) (hc : ST X W c mc) (hb : SB X W body mb) : SS X W (.While c body [] pos) (whileM mc mb n) := fun σ H loc δ μ D re rs q => by
  refine wS_of (ps_while hp pwT pwB) ?_
  refine ⟨fun n' σ2 H2 => ∃ loc2 δ2 μ2, Gr X.K H loc H2 loc2 ∧ RS X.K H2 loc2 μ2 ∧ RE X.K H2 loc2 σ2 δ2 ∧ (whileM mc mb n' δ2 μ2).post (KF X W D H2 loc2) NX, ⟨n, loc, δ, μ, Gr.refl, rs, re, q⟩, ?_⟩
  rintro n' σ2 H2 ⟨loc2, δ2, μ2, g2, rs2, re2, q2⟩
  cases n' with
  | zero => exact q2.elim
  | succ n' =>
    refine hc.goS re2 rs2 q2 fun k H3 loc3 μ3 g3 rs3 re3 q3 => ?_
    cases k with
    | false =>
      rw [if_neg Bool.false_ne_true]
      exact q3 σ2 H3 loc3 Gr.refl rs3 re3
    | true =>
      rw [if_pos rfl]
      refine ⟨fun σ' H' => ∃ loc' δ' μ', Gr X.K H loc H' loc' ∧ RS X.K H' loc' μ' ∧ RE X.K H' loc' σ' δ' ∧ (whileM mc mb n' δ' μ').post (KF X W D H' loc') NX, fun σ' H' a => ⟨n', Nat.lt_succ_self _, a⟩, ?_⟩
      refine hb σ2 H3 loc3 δ2 μ3 _ re3 rs3 (post_mono (post_bnd.mp q3) (fun fl μ4 q4 => ?_) fun _ _ z => z)
      have g23 := g2.trans g3
      cases fl with
      | nx δ4 => exact fun σ4 H4 loc4 g5 rs5 re5 => ⟨loc4, δ4, μ4, g23.trans g5, rs5, re5, post_mono q4 (fun _ _ z => KF.mono g5 z) fun _ _ z => z⟩
      | ct δ4 => exact fun σ4 H4 loc4 g5 rs5 re5 => ⟨loc4, δ4, μ4, g23.trans g5, rs5, re5, post_mono q4 (fun _ _ z => KF.mono g5 z) fun _ _ z => z⟩
      | bk δ4 => exact fun σ4 H4 loc4 g5 rs5 re5 => q4 σ4 H4 loc4 g5 rs5 re5
      | rt a => exact fun v' H4 loc4 g5 rs5 rv5 => q4 v' H4 loc4 g5 rs5 rv5
      | rs x δ4 => exact fun σ4 H4 loc4 cls d g5 rs5 re5 rx => q4 σ4 H4 loc4 cls d g5 rs5 re5 rx
end
end Lt

/-! Lt5: subscripts, slices, methods, built-in functions, comprehensions. -/
namespace Lt
open PySem PySem.Spec PyProof.Rows L2

/-! ### dicts -/
def lookA (kvs : List (Key × A)) (k : Key) : Option A := (kvs.find? fun kv => decide (kv.1 = k)).map (·.2)
def putA (kvs : List (Key × A)) (k : Key) (v : A) : List (Key × A) :=
  if (kvs.any fun kv => decide (kv.1 = k)) = true then kvs.map (fun kv => if kv.1 = k then (kv.1, v) else kv) else kvs ++ [(k, v)]
def dropA (kvs : List (Key × A)) (k : Key) : List (Key × A) := kvs.filter fun kv => decide (kv.1 ≠ k)
def keyA (a : A) : Option Key := match a with
  | .int i => some (.inl i)
  | .str s => some (.inr s)
  | _ => none
section
variable {K : PySem.W.Frag} {H : Hp} {loc : List Addr}
theorem RKV.look {vs : List (Key × V)} {xs : List (Key × A)} (r : RKV K H loc vs xs) (k : Key) : (∀ a, lookA xs k = some a → ∃ v, valV vs k = some v ∧ RA K H loc v a) ∧ (lookA xs k = none → valV vs k = none) := by
  induction r with
  | nil => exact ⟨fun a e => by simp [lookA] at e, fun _ => rfl⟩
  | @cons p q vs xs h t ih =>
    obtain ⟨e, ra⟩ := h
    obtain ⟨k1, v1⟩ := p
    obtain ⟨k2, x1⟩ := q
    simp only at e ra
    subst e
    by_cases hk : k1 = k
    · subst hk
      refine ⟨fun a e => ?_, fun e => ?_⟩
      · have : lookA ((k1, x1) :: xs) k1 = some x1 := by simp [lookA]
        rw [this] at e
        cases e
        exact ⟨v1, by simp [valV], ra⟩
      · have : lookA ((k1, x1) :: xs) k1 = some x1 := by simp [lookA]
        rw [this] at e
        cases e
    · have e1 : lookA ((k1, x1) :: xs) k = lookA xs k := by simp [lookA, List.find?_cons, hk]
      have e2 : valV ((k1, v1) :: vs) k = valV vs k := by simp [valV, List.find?_cons, hk]
      rw [e1, e2]
      exact ih
theorem RKV.any {vs : List (Key × V)} {xs : List (Key × A)} (r : RKV K H loc vs xs) (k : Key) : (vs.any fun kv => decide (kv.1 = k)) = xs.any fun kv => decide (kv.1 = k) := by
  induction r with
  | nil => rfl
  | cons h t ih => rw [List.any_cons, List.any_cons, ih, h.1]
theorem RKV.app {vs ws : List (Key × V)} {xs ys : List (Key × A)} (r : RKV K H loc vs xs) (q : RKV K H loc ws ys) : RKV K H loc (vs ++ ws) (xs ++ ys) := by
  induction r with
  | nil => exact q
  | cons h t ih => exact .cons h ih
theorem RKV.len {vs : List (Key × V)} {xs : List (Key × A)} (r : RKV K H loc vs xs) : vs.length = xs.length := Paired.length r
theorem RKV.upd (k : Key) {v : V} {a : A} (ra : RA K H loc v a) : ∀ {vs : List (Key × V)} {xs : List (Key × A)}, RKV K H loc vs xs → RKV K H loc (vs.map fun kv => if kv.1 = k then (kv.1, v) else kv) (xs.map fun kv => if kv.1 = k then (kv.1, a) else kv)
  | _, _, .nil => .nil
  | p :: vs, q :: xs, .cons h t => by
    obtain ⟨e, r1⟩ := h
    rw [List.map_cons, List.map_cons]
    refine .cons ?_ (RKV.upd k ra t)
    by_cases hk : p.1 = k
    · rw [if_pos hk, if_pos (e ▸ hk)]
      exact ⟨e, ra⟩
    · rw [if_neg hk, if_neg (fun z => hk (e.trans z))]
      exact ⟨e, r1⟩
theorem RKV.put {vs : List (Key × V)} {xs : List (Key × A)} (r : RKV K H loc vs xs) (k : Key) {v : V} {a : A} (ra : RA K H loc v a) : RKV K H loc (putK vs k v) (putA xs k a) := by
  unfold putK putA
  rw [r.any k]
  split
  · exact RKV.upd k ra r
  · exact r.app (.cons ⟨rfl, ra⟩ .nil)
theorem RA.key {v : V} {a : A} {k : Key} (r : RA K H loc v a) (h : keyA a = some k) : v = kV k := by
  cases r <;> simp only [keyA] at h <;> cases h <;> rfl
theorem RS.dic {μ : Sto} (r : RS K H loc μ) {n : Nat} {xs : List (Key × A)} (h : μ[n]? = some (.dic xs)) {a : Addr} (ha : loc[n]? = some a) : ∃ vs, H a = some (.dK vs) ∧ vs.length ≤ sizeLine ∧ RKV K H loc vs xs := by
  obtain ⟨b, o, h1, h2, vs, e, l, q⟩ := r.at_ n _ h
  rw [ha] at h1
  cases h1
  subst e
  exact ⟨vs, h2, l, q⟩
theorem RKV.mono {H1 : Hp} {loc1 : List Addr} (g : Gr K H loc H1 loc1) {vs : List (Key × V)} {xs : List (Key × A)} (r : RKV K H loc vs xs) : RKV K H1 loc1 vs xs := Paired.mapP r fun _ _ z => ⟨z.1, z.2.mono g⟩
end

/-! ### subscripts -/
theorem atI_ra {K : PySem.W.Frag} {H : Hp} {loc : List Addr} {vs : List V} {xs : List A} {i : Int} {x : A} (r : RAs K H loc vs xs) (h : atI xs i = some x) : ∃ v, atI vs i = some v ∧ RA K H loc v x := by
  unfold atI at h ⊢
  rw [r.length]
  cases e : ixN xs.length i with
  | none => rw [e] at h; cases h
  | some j =>
    rw [e] at h
    obtain ⟨v, h1, h2⟩ := r.get (show xs[j]? = some x from h)
    exact ⟨v, h1, h2⟩
def optM {α : Type} (o : Option α) : M α := match o with
  | some a => ret a
  | none => bad
def ixA (a b : A) : M A := fun μ => match a with
  | .tup xs => match b with
    | .int i => optM (atI xs i) μ
    | _ => .bad
  | .rol xs => match b with
    | .int i => optM (atI xs i) μ
    | _ => .bad
  | .str s => match b with
    | .int i => if s.length ≤ sizeLine then optM ((atI s.cps.toList i).map fun c => .str ⟨#[c]⟩) μ else .bad
    | _ => .bad
  | .hd n => match μ[n]? with
    | some (.lst xs) => match b with
      | .int i => optM (atI xs i) μ
      | _ => .bad
    | some (.dic kvs) => optM ((keyA b).bind fun k => lookA kvs k) μ
    | _ => .bad
  | _ => .bad
def rIxD : R2 := fun x y H Q => ∃ a v, x = .ref a ∧ DGet H a y (some v) ∧ Q v H
theorem ix_dict {X : Cx} (hu : X.A.units + 1 < cLine) : IxR X rIxD := by
  intro value slice pins s σ H x y v u Q I rx ry h hs
  obtain ⟨a, z, rfl, g, q⟩ := h
  cases rx
  exact tail_any (dict_typeIs I g) PySem.F.slot_dict_getitem.lookup (d_getItem hu I g ry fun w' s' I' rw' => ⟨z, H, I', rw', q⟩) hs
section
variable {X : Cx} {W : WX} {σ : St} {H : Hp} {loc : List Addr} {μ : Sto}
theorem post_opt {α : Type} {o : Option α} {Kp : α → Sto → Prop} {Kx : Exc → Sto → Prop} (h : (optM o μ).post Kp Kx) : ∃ a, o = some a ∧ Kp a μ := by
  cases o with
  | none => exact h.elim
  | some a => exact ⟨a, rfl, h⟩
theorem so_ix : SO X W (fun x y H Q => rIx X.K x y H Q ∨ rIxD x y H Q) ixA := fun σ H loc μ v u a b Q rs ra rb q => by
  cases ra with
  | @tup p vs xs h1 h2 h3 =>
    cases rb with
    | int i =>
      obtain ⟨x, e, q'⟩ := post_opt (show (optM (atI xs i) μ).post _ _ from q)
      obtain ⟨w, e1, e2⟩ := atI_ra h3 e
      exact .inl (.inr (.inl ⟨p, vs, i, w, rfl, rfl, h1, e1, q' w H loc Gr.refl rs e2⟩))
    | _ => exact q.elim
  | @rol p vs xs h1 h2 h3 =>
    cases rb with
    | int i =>
      obtain ⟨x, e, q'⟩ := post_opt (show (optM (atI xs i) μ).post _ _ from q)
      obtain ⟨w, e1, e2⟩ := atI_ra h3 e
      exact .inl (.inl ⟨p, vs, i, w, rfl, rfl, rol_sq h1, e1, q' w H loc Gr.refl rs e2⟩)
    | _ => exact q.elim
  | str s =>
    cases rb with
    | int i =>
      simp only [ixA] at q
      split at q
      · rename_i hl
        obtain ⟨x, e, q'⟩ := post_opt q
        cases ec : atI s.cps.toList i with
        | none => rw [ec] at e; cases e
        | some c =>
          rw [ec] at e
          have e' : A.str ⟨#[c]⟩ = x := Option.some.inj e
          subst e'
          exact .inl (.inr (.inr ⟨s, i, c, rfl, rfl, hl, ec, q' _ H loc Gr.refl rs (.str _)⟩))
      · exact q.elim
    | _ => exact q.elim
  | @hd p n hn =>
    simp only [ixA] at q
    split at q
    · rename_i xs e0
      obtain ⟨vs, h1, h2, h3⟩ := rs.lst e0 hn
      cases rb with
      | int i =>
        obtain ⟨x, e, q'⟩ := post_opt (show (optM (atI xs i) μ).post _ _ from q)
        obtain ⟨w, e1, e2⟩ := atI_ra h3 e
        exact .inl (.inl ⟨p, vs, i, w, rfl, rfl, .of h1, e1, q' w H loc Gr.refl rs e2⟩)
      | _ => exact q.elim
    · rename_i kvs e0
      obtain ⟨vs, h1, h2, h3⟩ := rs.dic e0 hn
      obtain ⟨x, e, q'⟩ := post_opt q
      cases ek : keyA b with
      | none => rw [ek] at e; cases e
      | some k =>
        rw [ek] at e
        obtain ⟨w, e1, e2⟩ := (h3.look k).1 x e
        have hu := rb.key ek
        subst hu
        exact .inr ⟨p, w, rfl, by rw [← e1]; exact .k h1, q' w H loc Gr.refl rs e2⟩
    · exact q.elim
  | _ => exact q.elim
theorem se_ix {a b : Expr} {ma mb : Env → M A} {pos : Pos} {k : Nat} (hr : Room k X.A) (ha : SE X W a ma) (hb : SE X W b mb) (hs : PlainIx b := by exact fun _ _ => rfl) : SE X W (.Subscript a b pos) (fun δ => bnd (ma δ) fun x => bnd (mb δ) fun y => ixA x y) := fun σ H loc δ μ Q re rs q => by
  refine wE_of (pe_ix (IxR.or ix_seq (ix_dict (hu_of hr))) pwE pwE hs) ?_
  refine ha.go re rs q fun v x H1 loc1 μ1 g1 rs1 rv re1 q1 => ?_
  refine hb.go re1 rs1 q1 fun u y H2 loc2 μ2 g2 rs2 ru re2 q2 => ?_
  exact so_ix σ H2 loc2 μ2 v u x y Q rs2 (rv.mono g2) ru (post_mono q2 (fun _ _ z => KV_.mono (g1.trans g2) z) fun _ _ z => z)

/-! ### slices -/
def cutA (xs : List A) (lo hi : Option Int) : List A := (xs.drop (HT.sIx xs.length 0 lo)).take (HT.sIx xs.length xs.length hi - HT.sIx xs.length 0 lo)
theorem RAs.cut {K : PySem.W.Frag} {vs : List V} {xs : List A} (r : RAs K H loc vs xs) (lo hi : Option Int) : RAs K H loc (cutV vs lo hi) (cutA xs lo hi) := by
  unfold cutV cutA
  rw [r.length]
  exact (r.drop _).take _
def sliceA (a : A) (lo hi : Option Int) : M A := fun μ => match a with
  | .tup xs => .ok (.tup (cutA xs lo hi)) μ
  | .rol xs => alloc (.lst (cutA xs lo hi)) μ
  | .hd n => match μ[n]? with
    | some (.lst xs) => alloc (.lst (cutA xs lo hi)) μ
    | _ => .bad
  | .str s => if s.length ≤ sizeLine then .ok (.str (cutS s lo hi)) μ else .bad
  | _ => .bad
/-- a part of a slice -/
def SP_ (X : Cx) (W : WX) (e : Option Expr) (m : Env → M (Option Int)) : Prop := ∃ t : TO, PO X e t ∧ ∀ (σ : St) (H : Hp) (loc : List Addr) (δ : Env) (μ : Sto) (Q : Option Int → Hp → Prop), RE X.K H loc σ δ → RS X.K H loc μ →
  (m δ μ).post (fun o μ' => ∀ (H' : Hp) (loc' : List Addr), Gr X.K H loc H' loc' → RS X.K H' loc' μ' → Q o H') (KX X W σ H loc) → t σ H Q
def partM (a : A) : M (Option Int) := match a with
  | .int i => ret (some i)
  | _ => bad
theorem sp_none : SP_ X W none (fun _ => ret none) := ⟨tNoPart, po_none, fun σ H loc δ μ Q re rs q => q H loc Gr.refl rs⟩
theorem sp_some {e : Expr} {m : Env → M A} (h : SE X W e m) : SP_ X W (some e) (fun δ => bnd (m δ) partM) := ⟨tPart (wE X e), po_some pwE, fun σ H loc δ μ Q re rs q => by
  refine h.go re rs q fun v x H1 loc1 μ1 g1 rs1 rv re1 q1 => ?_
  cases rv with
  | int i => exact ⟨i, rfl, q1 H1 loc1 g1 rs1⟩
  | _ => exact q1.elim⟩
theorem at_end_of {p : Addr} (rs : RS X.K H loc μ) : (loc ++ [p])[μ.length]? = some p := by
  rw [← rs.len, List.getElem?_append_right (Nat.le_refl _), Nat.sub_self]
  rfl
theorem cutV_le {vs : List V} {lo hi : Option Int} (h : vs.length ≤ sizeLine) : (cutV vs lo hi).length ≤ sizeLine := Nat.le_trans (cutV_length vs lo hi) h
theorem se_slice {e : Expr} {lo hi : Option Expr} {m : Env → M A} {ml mh : Env → M (Option Int)} {pos p2 : Pos} (h : SE X W e m) (hl : SP_ X W lo ml) (hh : SP_ X W hi mh) :
    SE X W (.Subscript e (.Slice lo hi none p2) pos) (fun δ => bnd (m δ) fun a => bnd (ml δ) fun l => bnd (mh δ) fun u => sliceA a l u) := fun σ H loc δ μ Q re rs q => by
  obtain ⟨tl, hl1, hl2⟩ := hl
  obtain ⟨th, hh1, hh2⟩ := hh
  refine wE_of (pe_slice (SlR.or (SlR.or sl_list sl_tupA) sl_str) pwE hl1 hh1) ?_
  refine h.go re rs q fun v x H1 loc1 μ1 g1 rs1 rv re1 q1 => ?_
  refine hl2 σ H1 loc1 δ μ1 _ re1 rs1 (post_mono (post_bnd.mp q1) (fun l μ2 q2 H2 loc2 g2 rs2 => ?_) fun _ _ z => z)
  refine hh2 σ H2 loc2 δ μ2 _ (re1.mono g2) rs2 (post_mono (post_bnd.mp q2) (fun u μ3 q3 H3 loc3 g3 rs3 => ?_) fun _ _ z => KX.mono g2 z)
  have g := (g1.trans g2).trans g3
  have rv3 := (rv.mono g2).mono g3
  cases rv3 with
  | @tup p vs xs h1 h2 h3 =>
    refine .inl (.inr ⟨p, vs, rfl, h1, fun hw => ?_, fun _ r hr => ?_⟩)
    · refine q3 _ H3 loc3 g rs3 ?_
      have e : cutA xs l u = xs := by
        unfold cutA
        rw [← h3.length, hw.1, hw.2, List.drop_zero, Nat.sub_zero, h3.length, List.take_length]
      rw [e]
      exact .tup h1 h2 h3
    · exact q3 _ _ loc3 (g.trans (Gr.new hr)) (rs3.new hr) (.tup (.inl (.inl upd_same)) (cutV_le h2) ((h3.cut l u).mono (Gr.new hr)))
  | @rol p vs xs h1 h2 h3 =>
    refine .inl (.inl ⟨p, vs, rfl, rol_sq h1, fun r hr => ?_⟩)
    exact q3 (.ref r) _ (loc3 ++ [r]) (g.trans (Gr.alloc hr)) (rs3.alloc hr ⟨_, rfl, cutV_le h2, (h3.cut l u).mono (Gr.alloc hr)⟩) (.hd (at_end_of rs3))
  | @hd p n hn =>
    simp only [sliceA] at q3
    split at q3
    · rename_i xs e
      obtain ⟨vs, h1, h2, h3⟩ := rs3.lst e hn
      refine .inl (.inl ⟨p, vs, rfl, .of h1, fun r hr => ?_⟩)
      exact q3 (.ref r) _ (loc3 ++ [r]) (g.trans (Gr.alloc hr)) (rs3.alloc hr ⟨_, rfl, cutV_le h2, (h3.cut l u).mono (Gr.alloc hr)⟩) (.hd (at_end_of rs3))
    · exact q3.elim
  | str s =>
    simp only [sliceA] at q3
    split at q3
    · rename_i hl
      exact .inr ⟨s, rfl, hl, q3 _ H3 loc3 g rs3 (.str _)⟩
    · exact q3.elim
  | _ => exact q3.elim
/-- xs[::-1] of a list -/
def revA (a : A) : M A := bnd (itemsL a) fun xs => alloc (.lst xs.reverse)
theorem se_rev {e : Expr} {m : Env → M A} {k : Nat} {p1 p2 p3 pos : Pos} (h : SE X W e m) : SE X W (.Subscript e (.Slice none none (some (.UnaryOp .USub (.Constant (.int 1) k p1) p2)) p3) pos) (fun δ => bnd (m δ) revA) := fun σ H loc δ μ Q re rs q => by
  refine wE_of (pe_revL pwE) ?_
  refine h.go re rs q fun v x H1 loc1 μ1 g1 rs1 rv re1 q1 => ?_
  obtain ⟨p, vs, xs, ev, hq, hl, ra, hi, q2⟩ := RA.sqL (xs := []) rs1 rv (post_bnd.mp q1)
  refine ⟨p, vs, ev, hq, fun r hr => ?_⟩
  exact q2 (.ref r) _ (loc1 ++ [r]) (g1.trans (Gr.alloc hr)) (rs1.alloc hr ⟨_, rfl, by rw [List.length_reverse]; exact hl, ra.reverse.mono (Gr.alloc hr)⟩) (.hd (at_end_of rs1))

/-! ### o[i] = v -/
def setA (o i v : A) : M Unit := fun μ => match o with
  | .hd n => match μ[n]? with
    | some (.lst xs) => match i with
      | .int k => match ixN xs.length k with
        | some j => .ok () (μ.set n (.lst (xs.set j v)))
        | none => .bad
      | _ => .bad
    | some (.dic kvs) => match keyA i with
      | some k => if kvs.length < sizeLine then .ok () (μ.set n (.dic (putA kvs k v))) else .bad
      | none => .bad
    | _ => .bad
  | _ => .bad
theorem set_dict (hu : X.A.units + 1 < cLine) : PSet X (fun o i v H Q => ∃ a H', o = .ref a ∧ DPut H a i v H' ∧ Q H') := by
  intro pins s σ H o i v ov iv u Q I ro ri rv h
  obtain ⟨a, H', rfl, g, q⟩ := h
  cases ro
  exact d_setItem hu I g ri rv fun s' I' => ⟨H', I', q⟩
theorem PSet.or {t t' : TSet} (h : PSet X t) (h' : PSet X t') : PSet X (fun o i v H Q => t o i v H Q ∨ t' o i v H Q) := by
  intro pins s σ H o i v ov iv u Q I ro ri rv q
  rcases q with q | q
  · exact h pins s σ H o i v ov iv u Q I ro ri rv q
  · exact h' pins s σ H o i v ov iv u Q I ro ri rv q
def noX {α : Type} (m : M α) : M α := fun μ => match m μ with
  | .ok a μ' => .ok a μ'
  | _ => .bad
theorem post_noX {α : Type} {m : M α} {Kp : α → Sto → Prop} {Kx Kx' : Exc → Sto → Prop} (h : (noX m μ).post Kp Kx) : (m μ).post Kp Kx' := by
  unfold noX at h
  split at h
  · rename_i a μ' e
    rw [e]
    exact h
  · exact h.elim
def subG (mo mi : Env → M A) : A → Env → M Env := fun v δ => bnd (noX (mo δ)) fun o => bnd (noX (mi δ)) fun i => bnd (setA o i v) fun _ => ret δ
theorem sg_sub {o i : Expr} {mo mi : Env → M A} {pos : Pos} {k : Nat} (hr : Room k X.A) (ho : SE X W o mo) (hi : SE X W i mi)
    (ha : ∀ v, assign (.Subscript o i pos) X.env v = (do
      let ov ← holding [v] (eval o X.env)
      let iv ← holding [v, ov] (eval i X.env)
      standAt pos
      holding [v, ov, iv] (setItem ov iv v)
      release [v, ov, iv] []) := by intro _; rfl) : SG X W [] (.Subscript o i pos) (subG mo mi) := fun σ H loc δ μ v a Q re rs ra q => by
  refine wG_of (pg_sub pwE pwE (PSet.or set_list (set_dict (hu_of hr))) ha) ?_
  refine ho σ H loc δ μ _ re rs (post_noX (post_mono (post_bnd.mp q) (fun x μ1 q1 u H1 loc1 g1 rs1 ru => ?_) fun _ _ z => z))
  refine hi σ H1 loc1 δ μ1 _ (re.mono g1) rs1 (post_noX (post_mono (post_bnd.mp q1) (fun y μ2 q2 w H2 loc2 g2 rs2 rw' => ?_) fun _ _ z => z))
  have g := g1.trans g2
  have ru2 := ru.mono g2
  have ra2 := ra.mono g
  have re2 := re.mono g
  have q3 := post_bnd.mp q2
  cases ru2 with
  | @hd p n hn =>
    simp only [setA] at q3
    split at q3
    · rename_i xs e
      obtain ⟨vs, h1, h2, h3⟩ := rs2.lst e hn
      cases rw' with
      | int k =>
        simp only at q3
        split at q3
        · rename_i j ej
          refine .inl ⟨p, vs, k, j, rfl, rfl, h1, by rw [h3.length]; exact ej, ?_⟩
          have gu := upd_gr (o := .lst (vs.set j v)) rs2 e hn
          exact q3 σ _ loc2 (g.trans gu) (rs2.set e hn ⟨_, rfl, by rw [List.length_set]; exact h2, (h3.set j ra2).mono gu⟩) (re2.mono gu) Agree.refl
        · exact q3.elim
      | _ => exact q3.elim
    · rename_i kvs e
      obtain ⟨vs, h1, h2, h3⟩ := rs2.dic e hn
      split at q3
      · rename_i k ek
        split at q3
        · rename_i hl
          have hy := rw'.key ek
          subst hy
          have hlv : vs.length < sizeLine := by rw [h3.len]; exact hl
          refine .inr ⟨p, _, rfl, .k h1 hlv, ?_⟩
          have gu := upd_gr (o := .dK (putK vs k v)) rs2 e hn
          have hz : (putK vs k v).length ≤ sizeLine := by
            unfold putK
            split
            · rw [List.length_map]; exact h2
            · rw [List.length_append]; exact hlv
          exact q3 σ _ loc2 (g.trans gu) (rs2.set e hn ⟨_, rfl, hz, (h3.put k ra2).mono gu⟩) (re2.mono gu) Agree.refl
        · exact q3.elim
      · exact q3.elim
    · exact q3.elim
  | _ => exact q3.elim
end
end Lt

/-! Lt6: methods, built-in functions, comprehensions. -/
namespace Lt
open PySem PySem.Spec PyProof.Rows L2

/-! ### methods of lists and texts -/
def SM (X : Cx) (W : WX) (r : V → List V → Hp → VK → Prop) (f : A → List A → M A) : Prop := ∀ (σ : St) (H : Hp) (loc : List Addr) (μ : Sto) (v : V) (a : A) (vs : List V) (as : List A) (Q : VK), RS X.K H loc μ → RA X.K H loc v a → RAs X.K H loc vs as →
  (f a as μ).post (KV_ X H loc Q) (KX X W σ H loc) → r v vs H Q
/-- a value that must be a text -/
def strM (a : A) : M Str := match a with
  | .str s => ret s
  | _ => bad
section
variable {X : Cx} {W : WX} {o e : Expr} {es : List Expr} {mo : Env → M A} {ma : Env → M (List A)} {name : Str} {apos cpos : Pos} {id : String} {r : V → List V → Hp → VK → Prop} {f : A → List A → M A}
theorem se_lm (slot : Slot "list" name id) (hty : typeOf (.builtin id) = pure (.type "method_descriptor")) (hm : MtR X id r) (hf : SM X W r f) (ho : SE X W o mo) (ha : SA X W (e :: es) ma)
    (hbase : attributeBase o name X.env (eval o X.env) = eval o X.env := by rfl)
    (hfew : ((backTo cpos (starEach (e :: es) X.env)).all (fun x => !x.1) && (backToKw cpos (keywordEach [] X.env)).all (fun x => x.1.isSome)
      && decide ((e :: es).length + ([] : List Keyword).length + (if ([] : List Keyword).isEmpty then 0 else 1) < 30)) = true := by rfl)
    (hline : (apos.endLine == cpos.line) = true := by rfl) (hs : starEach (e :: es) X.env = (false, eval e X.env) :: starEach es X.env := by rfl) (hplain : (backTo cpos (starEach es X.env)).any (·.1) = false := by rfl) :
    SE X W (.Call (.Attribute o name apos) (e :: es) [] cpos) (fun δ => bnd (mo δ) fun a => bnd (itemsL a) fun _ => bnd (ma δ) fun as => f a as) := fun σ H loc δ μ Q re rs q => by
  refine wE_of (pe_bm PySem.F.plainAttrs_list slot hty hm pwE pwA hbase hfew hline hs hplain) ?_
  refine ho.go re rs q fun v x H1 loc1 μ1 g1 rs1 rv re1 q1 => ?_
  obtain ⟨p, ws, xs, ev, hq, _, _, hi, q2⟩ := RA.sqL (xs := []) rs1 rv (post_bnd.mp q1)
  subst ev
  refine ⟨.inl ⟨rfl, ws, hq⟩, ?_⟩
  refine ha.go re1 rs1 q2 fun vs as H2 loc2 μ2 g2 rs2 ra re2 q3 => ?_
  exact hf σ H2 loc2 μ2 _ x vs as Q rs2 (rv.mono g2) ra (post_mono q3 (fun _ _ z => KV_.mono (g1.trans g2) z) fun _ _ z => z)
theorem se_lm0 (slot : Slot "list" name id) (hty : typeOf (.builtin id) = pure (.type "method_descriptor")) (hm : MtR X id r) (hf : SM X W r f) (ho : SE X W o mo)
    (hbase : attributeBase o name X.env (eval o X.env) = eval o X.env := by rfl) (hline : (apos.endLine == cpos.line) = true := by rfl) : SE X W (.Call (.Attribute o name apos) [] [] cpos) (fun δ => bnd (mo δ) fun a => bnd (itemsL a) fun _ => f a []) := fun σ H loc δ μ Q re rs q => by
  refine wE_of (pe_bm0 PySem.F.plainAttrs_list slot hty hm pwE hbase hline) ?_
  refine ho.go re rs q fun v x H1 loc1 μ1 g1 rs1 rv re1 q1 => ?_
  obtain ⟨p, ws, xs, ev, hq, _, _, hi, q2⟩ := RA.sqL (xs := []) rs1 rv (post_bnd.mp q1)
  subst ev
  exact ⟨.inl ⟨rfl, ws, hq⟩, hf σ H1 loc1 μ1 _ x [] [] Q rs1 rv .nil (post_mono q2 (fun _ _ z => KV_.mono g1 z) fun _ _ z => z)⟩
end
def appendA (a : A) (as : List A) : M A := fun μ => match a with
  | .hd n => match μ[n]? with
    | some (.lst xs) => match as with
      | [x] => if xs.length < sizeLine then .ok .non (μ.set n (.lst (xs ++ [x]))) else .bad
      | _ => .bad
    | _ => .bad
  | _ => .bad
def popA (a : A) (as : List A) : M A := fun μ => match a with
  | .hd n => match μ[n]? with
    | some (.lst xs) => match as with
      | [] => match xs[xs.length - 1]? with
        | some y => .ok y (μ.set n (.lst xs.dropLast))
        | none => .bad
      | _ => .bad
    | _ => .bad
  | _ => .bad
def popAtA (a : A) (as : List A) : M A := fun μ => match a with
  | .hd n => match μ[n]? with
    | some (.lst xs) => match as with
      | [.int i] => if -(2 ^ 63) ≤ i ∧ i < 2 ^ 63 then match seqIndex? i xs.length with
          | some k => match xs[k]? with
            | some y => .ok y (μ.set n (.lst (xs.eraseIdx k)))
            | none => .bad
          | none => .bad
        else .bad
      | _ => .bad
    | _ => .bad
  | _ => .bad
def extendA (a : A) (as : List A) : M A := fun μ => match a with
  | .hd n => match μ[n]? with
    | some (.lst xs) => match as with
      | [.hd m] => match μ[m]? with
        | some (.lst ys) => if xs.length + ys.length ≤ sizeLine then .ok .non (μ.set n (.lst (xs ++ ys))) else .bad
        | _ => .bad
      | _ => .bad
    | _ => .bad
  | _ => .bad
section
variable {X : Cx} {W : WX} {σ : St} {H : Hp} {loc : List Addr} {μ : Sto}
theorem sm_append : SM X W rAppend appendA := fun σ H loc μ v a vs as Q rs ra ras q => by
  cases ra with
  | @hd p n hn =>
    simp only [appendA] at q
    split at q
    · rename_i xs e
      obtain ⟨ws, h1, h2, h3⟩ := rs.lst e hn
      cases ras with
      | nil => exact q.elim
      | @cons w _ _ _ r rr =>
        cases rr with
        | cons _ _ => exact q.elim
        | nil =>
          simp only at q
          split at q
          · rename_i hl
            have hl' : ws.length < sizeLine := by rw [h3.length]; exact hl
            refine ⟨p, ws, _, rfl, rfl, h1, hl', ?_⟩
            have gu := upd_gr (o := .lst (ws ++ [w])) rs e hn
            exact q .non _ loc gu (rs.set e hn ⟨_, rfl, by rw [List.length_append]; exact hl', (h3.append (.cons r .nil)).mono gu⟩) .non
          · exact q.elim
    · exact q.elim
  | _ => exact q.elim
theorem sm_pop : SM X W rPop popA := fun σ H loc μ v a vs as Q rs ra ras q => by
  cases ra with
  | @hd p n hn =>
    simp only [popA] at q
    split at q
    · rename_i xs e
      obtain ⟨ws, h1, h2, h3⟩ := rs.lst e hn
      cases ras with
      | cons _ _ => exact q.elim
      | nil =>
        simp only at q
        split at q
        · rename_i y ey
          obtain ⟨w, w1, w2⟩ := h3.get ey
          refine ⟨p, ws, w, rfl, rfl, h1, by rw [h3.length]; exact w1, ?_⟩
          have gu := upd_gr (o := .lst ws.dropLast) rs e hn
          exact q w _ loc gu (rs.set e hn ⟨_, rfl, by rw [List.length_dropLast]; omega, h3.dropLast.mono gu⟩) (w2.mono gu)
        · exact q.elim
    · exact q.elim
  | _ => exact q.elim
theorem sm_popAt : SM X W rPopAt popAtA := fun σ H loc μ v a vs as Q rs ra ras q => by
  cases ra with
  | @hd p n hn =>
    simp only [popAtA] at q
    split at q
    · rename_i xs e
      obtain ⟨ws, h1, h2, h3⟩ := rs.lst e hn
      split at q
      · rename_i i
        cases ras with
        | cons r rr =>
          cases rr
          cases r
          split at q
          · rename_i hi
            split at q
            · rename_i k ek
              split at q
              · rename_i y ey
                obtain ⟨w, w1, w2⟩ := h3.get ey
                refine ⟨p, ws, i, k, w, rfl, rfl, h1, hi.1, hi.2, by rw [h3.length]; exact ek, w1, ?_⟩
                have gu := upd_gr (o := .lst (ws.eraseIdx k)) rs e hn
                exact q w _ loc gu (rs.set e hn ⟨_, rfl, Nat.le_trans (len_erase _ _) h2, (h3.erase k).mono gu⟩) (w2.mono gu)
              · exact q.elim
            · exact q.elim
          · exact q.elim
      · exact q.elim
    · exact q.elim
  | _ => exact q.elim
theorem sm_extend : SM X W rExtend extendA := fun σ H loc μ v a vs as Q rs ra ras q => by
  cases ra with
  | @hd p n hn =>
    simp only [extendA] at q
    split at q
    · rename_i xs e
      obtain ⟨ws, h1, h2, h3⟩ := rs.lst e hn
      split at q
      · rename_i m
        split at q
        · rename_i ys e2
          split at q
          · rename_i hl
            cases ras with
            | cons r rr =>
              cases rr
              cases r with
              | @hd b _ hb =>
                obtain ⟨zs, k1, k2, k3⟩ := rs.lst e2 hb
                have hl' : ws.length + zs.length ≤ sizeLine := by rw [h3.length, k3.length]; exact hl
                refine ⟨p, b, ws, zs, rfl, rfl, h1, k1, hl', ?_⟩
                have gu := upd_gr (o := .lst (ws ++ zs)) rs e hn
                exact q .non _ loc gu (rs.set e hn ⟨_, rfl, by rw [List.length_append]; exact hl', (h3.append k3).mono gu⟩) .non
          · exact q.elim
        · exact q.elim
      · exact q.elim
    · exact q.elim
  | _ => exact q.elim
end

/-! ### built-in functions -/
def SC (X : Cx) (W : WX) (r : List V → Hp → VK → Prop) (f : List A → M A) : Prop := ∀ (σ : St) (H : Hp) (loc : List Addr) (μ : Sto) (vs : List V) (as : List A) (Q : VK), RS X.K H loc μ → RAs X.K H loc vs as →
  (f as μ).post (KV_ X H loc Q) (KX X W σ H loc) → r vs H Q
section
variable {X : Cx} {W : WX} {x : Str} {p pos : Pos} {e : Expr} {es : List Expr} {id : String} {r : List V → Hp → VK → Prop} {ma : Env → M (List A)} {f : List A → M A}
theorem se_callB (hc : CallR X (.builtin id) r) (hf : SC X W r f) (hm : X.mg x = none) (hv : bootBuiltins x = some (.builtin id)) (ha : SA X W (e :: es) ma) (hg : Gl X x := by rfl) (hn : x ≠ "__name__" := by decide) (hdb : (x == ("__debug__" : Str)) = false := by decide +kernel)
    (he : starEach (e :: es) X.env = (false, eval e X.env) :: starEach es X.env := by rfl) (hpl : (backTo pos (starEach es X.env)).any (·.1) = false := by rfl) : SE X W (.Call (.Name x p) (e :: es) [] pos) (fun δ => bnd (ma δ) f) := fun σ H loc δ μ Q re rs q => by
  refine wE_of (pe_callB hc hg hm hv pwA hn hdb he hpl) ?_
  exact ha.go re rs q fun vs as H1 loc1 μ1 g1 rs1 ra re1 q1 => hf σ H1 loc1 μ1 vs as Q rs1 ra (post_mono q1 (fun _ _ z => KV_.mono g1 z) fun _ _ z => z)
theorem se_callT (hc : CallR X (.type id) r) (hf : SC X W r f) (hm : X.mg x = none) (hv : bootBuiltins x = some (.type id)) (ha : SA X W (e :: es) ma) (hg : Gl X x := by rfl) (hn : x ≠ "__name__" := by decide) (hdb : (x == ("__debug__" : Str)) = false := by decide +kernel)
    (he : starEach (e :: es) X.env = (false, eval e X.env) :: starEach es X.env := by rfl) (hpl : (backTo pos (starEach es X.env)).any (·.1) = false := by rfl) : SE X W (.Call (.Name x p) (e :: es) [] pos) (fun δ => bnd (ma δ) f) := fun σ H loc δ μ Q re rs q => by
  refine wE_of (pe_callTy hc hg hm hv pwA hn hdb he hpl) ?_
  exact ha.go re rs q fun vs as H1 loc1 μ1 g1 rs1 ra re1 q1 => hf σ H1 loc1 μ1 vs as Q rs1 ra (post_mono q1 (fun _ _ z => KV_.mono g1 z) fun _ _ z => z)
end
def lenA (as : List A) : M A := fun μ => match as with
  | [.tup xs] => .ok (.int xs.length) μ
  | [.rol xs] => .ok (.int xs.length) μ
  | [.str s] => if s.length ≤ sizeLine then .ok (.int s.length) μ else .bad
  | [.hd n] => match μ[n]? with
    | some (.lst xs) => .ok (.int xs.length) μ
    | some (.dic xs) => .ok (.int xs.length) μ
    | _ => .bad
  | _ => .bad
def rLenD : List V → Hp → VK → Prop := fun xs H Q => ∃ a kvs, xs = [.ref a] ∧ H a = some (.dK kvs) ∧ Q (.int kvs.length) H
theorem call_lenK {X : Cx} : CallR X (.builtin "len") rLenD := by
  intro pins s σ H xs us Q I r h
  obtain ⟨a, kvs, rfl, e, q⟩ := h
  obtain ⟨u, rfl, rx⟩ := vals1 r
  cases rx
  exact d_len I (.of e) fun t s' I' => ⟨.int kvs.length, H, I', ⟨t, rfl⟩, q⟩
section
variable {X : Cx} {W : WX}
theorem sc_len : SC X W (fun xs H Q => (∃ x n, xs = [x] ∧ LenV X.K x H n ∧ Q (.int n) H) ∨ rLenD xs H Q) lenA := fun σ H loc μ vs as Q rs ras q => by
  cases ras with
  | nil => exact q.elim
  | cons r rr =>
    rename_i v _ a _
    cases rr with
    | cons _ _ => cases r <;> exact q.elim
    | nil =>
      cases r with
      | @tup p ws xs h1 h2 h3 => exact .inl ⟨_, _, rfl, .inr ⟨ws, h1, rfl⟩, by rw [h3.length]; exact q _ H loc Gr.refl rs (.int _)⟩
      | @rol p ws xs h1 h2 h3 => exact .inl ⟨_, _, rfl, .inl ⟨ws, rol_sq h1, rfl⟩, by rw [h3.length]; exact q _ H loc Gr.refl rs (.int _)⟩
      | str s =>
        simp only [lenA] at q
        split at q
        · rename_i hl
          exact .inl ⟨_, _, rfl, ⟨hl, rfl⟩, q _ H loc Gr.refl rs (.int _)⟩
        · exact q.elim
      | @hd p n hn =>
        simp only [lenA] at q
        split at q
        · rename_i xs e
          obtain ⟨ws, h1, h2, h3⟩ := rs.lst e hn
          exact .inl ⟨_, _, rfl, .inl ⟨ws, .of h1, rfl⟩, by rw [h3.length]; exact q _ H loc Gr.refl rs (.int _)⟩
        · rename_i xs e
          obtain ⟨ws, h1, h2, h3⟩ := rs.dic e hn
          exact .inr ⟨p, ws, rfl, h1, by rw [h3.len]; exact q _ H loc Gr.refl rs (.int _)⟩
        · exact q.elim
      | _ => exact q.elim
theorem se_len {p pos : Pos} {e : Expr} {ma : Env → M (List A)} (hm : X.mg "len" = none) (ha : SA X W [e] ma) (hg : Gl X "len" := by rfl) (he : starEach [e] X.env = (false, eval e X.env) :: starEach [] X.env := by rfl) (hpl : (backTo pos (starEach [] X.env)).any (·.1) = false := by rfl) :
    SE X W (.Call (.Name "len" p) [e] [] pos) (fun δ => bnd (ma δ) lenA) := se_callB (CallR.or call_len call_lenK) sc_len hm PySem.boot_len ha hg (he := he) (hpl := hpl)
/-- int(x): a number, a truth, a text -/
def intA (as : List A) : M A := match as with
  | [.int i] => ret (.int i)
  | [.bl b] => ret (.int (if b then 1 else 0))
  | [.str s] => if s.length ≤ 640 then bnd (optM (PySem.intText? s)) fun n => ret (.int n) else bad
  | _ => bad
theorem sc_int : SC X W (fun xs H Q => ((∃ i, xs = [.int i] ∧ Q (.int i) H) ∨ ∃ k, xs = [.bl k] ∧ Q (.int (if k then 1 else 0)) H) ∨ (∃ a n, xs = [.str a] ∧ PySem.intText? a = some n ∧ a.length ≤ 640 ∧ Q (.int n) H)) intA := fun σ H loc μ vs as Q rs ras q => by
  cases ras with
  | nil => exact q.elim
  | cons r rr =>
    cases rr with
    | cons _ _ => cases r <;> exact q.elim
    | nil =>
      cases r with
      | int i => exact .inl (.inl ⟨i, rfl, q _ H loc Gr.refl rs (.int _)⟩)
      | bl i => exact .inl (.inr ⟨i, rfl, q _ H loc Gr.refl rs (.int _)⟩)
      | str s =>
        simp only [intA] at q
        split at q
        · rename_i hl
          obtain ⟨n, e, q⟩ := post_opt (post_bnd.mp q)
          exact .inr ⟨s, n, rfl, e, hl, q _ H loc Gr.refl rs (.int _)⟩
        · exact q.elim
      | _ => exact q.elim
theorem se_toint {p pos : Pos} {e : Expr} {ma : Env → M (List A)} (hm : X.mg "int" = none) (ha : SA X W [e] ma) (hg : Gl X "int" := by rfl) (he : starEach [e] X.env = (false, eval e X.env) :: starEach [] X.env := by rfl) (hpl : (backTo pos (starEach [] X.env)).any (·.1) = false := by rfl) :
    SE X W (.Call (.Name "int" p) [e] [] pos) (fun δ => bnd (ma δ) intA) := se_callT (CallR.or call_int1 call_int_str) sc_int hm PyProof.Rows.boot_int ha hg (he := he) (hpl := hpl)
/-- the type of a value, by its name -/
def typA (μ : Sto) (a : A) : Option String := match a with
  | .non => some "NoneType"
  | .bl _ => some "bool"
  | .int _ => some "int"
  | .str _ => some "str"
  | .tup _ => some "tuple"
  | .rol _ => some "list"
  | .hd n => match μ[n]? with
    | some (.lst _) => some "list"
    | some (.dic _) => some "dict"
    | _ => none
  | .fn _ => none
  | .exc _ _ _ => none
theorem typA_ok {K : PySem.W.Frag} {H : Hp} {loc : List Addr} {μ : Sto} {v : V} {a : A} {t : String} (rs : RS K H loc μ) (r : RA K H loc v a) (e : typA μ a = some t) : TyX K H v (.type t) := by
  cases r with
  | non => cases e; exact .base .non
  | bl b => cases e; exact .base (.bl b)
  | int b => cases e; exact .base (.int b)
  | str b => cases e; exact .base (.str b)
  | tup h1 h2 h3 =>
    cases e
    rcases h1 with (h1 | ⟨o, h1⟩) | ⟨o, its, n, h1, h4, _⟩
    · exact .base (.tup h1)
    · exact .fTuple h1
    · exact .kTuple h1 h4
  | rol h1 h2 h3 =>
    cases e
    rcases h1 with ⟨o, h1⟩ | ⟨o, its, n, h1, h4, _⟩
    · exact .base (.frz h1)
    · exact .kList h1 h4
  | hd h =>
    simp only [typA] at e
    split at e
    · rename_i xs e1
      cases e
      obtain ⟨vs, q1, _, _⟩ := rs.lst e1 h
      exact .base (.lst q1)
    · rename_i xs e1
      cases e
      obtain ⟨vs, q1, _, _⟩ := rs.dic e1 h
      exact .base (.dK q1)
    · cases e
  | fn => cases e
  | exc => cases e
  | ex0 => cases e
def isiA (T : String) (a : A) : M A := fun μ => match typA μ a with
  | some t => match kitB t T with
    | some b => .ok (.bl b) μ
    | none => .bad
  | none => .bad
/-- isinstance(x, T), T a built-in type -/
theorem se_isi (T : String) {xT : Str} {e : Expr} {m : Env → M A} {p pT pos : Pos} (hm : X.mg "isinstance" = none) (hmT : X.mg xT = none) (hvT : bootBuiltins xT = some (.type T)) (h : SE X W e m) (hg : Gl X "isinstance" := by rfl) (hgT : Gl X xT := by rfl) (hnT : xT ≠ "__name__" := by decide +kernel) (hdT : (xT == ("__debug__" : Str)) = false := by decide +kernel)
    (he : starEach [e, .Name xT pT] X.env = (false, eval e X.env) :: starEach [.Name xT pT] X.env := by rfl) (hpl : (backTo pos (starEach [.Name xT pT] X.env)).any (·.1) = false := by rfl) (he2 : starEach [Expr.Name xT pT] X.env = (false, eval (.Name xT pT) X.env) :: starEach [] X.env := by rfl) :
    SE X W (.Call (.Name "isinstance" p) [e, .Name xT pT] [] pos) (fun δ => bnd (m δ) (isiA T)) := fun σ H loc δ μ Q re rs q => by
  refine wE_of (pe_callB call_isi hg hm PyProof.Rows.boot_isinstance (pa_cons pwE (pa_cons (pe_bltn (v := .ty T) hgT hmT hvT rfl hnT hdT) pa_nil he2) he) (he := he) (hpl := hpl)) ?_
  refine h.go re rs q fun v x H1 loc1 μ1 g1 rs1 rv re1 q1 => ?_
  unfold isiA at q1
  split at q1
  · rename_i t et
    split at q1
    · rename_i b eb
      exact ⟨v, .ty T, .type t, .type T, b, rfl, .ty T, typA_ok rs1 rv et, kit_ty eb, q1 _ H1 loc1 g1 rs1 (.bl b)⟩
    · exact q1.elim
  · exact q1.elim
end

/-! ### lists that are used at once -/
def KL (X : Cx) (H : Hp) (loc : List Addr) (Q : VK) : List A → Sto → Prop := fun as μ' => ∀ (p : Addr) (vs : List V) (H' : Hp) (loc' : List Addr), Gr X.K H loc H' loc' → RS X.K H' loc' μ' → H p = none → H' p = some (.lst vs) → p ∉ loc' → vs.length ≤ sizeLine → RAs X.K H' loc' vs as → Q (.ref p) H'
def SL (X : Cx) (W : WX) (e : Expr) (m : Env → M (List A)) : Prop := ∀ (σ : St) (H : Hp) (loc : List Addr) (δ : Env) (μ : Sto) (Q : VK), RE X.K H loc σ δ → RS X.K H loc μ → (m δ μ).post (KL X H loc Q) (KX X W σ H loc) → wE X e σ H Q
/-- what a call makes of such a list: by its items -/
def SLC (X : Cx) (W : WX) (r : List V → Hp → VK → Prop) (f : List A → M A) : Prop := ∀ (σ : St) (H : Hp) (loc : List Addr) (μ : Sto) (p : Addr) (vs : List V) (as : List A) (Q : VK), RS X.K H loc μ → SqL X.K H p vs → vs.length ≤ sizeLine → RAs X.K H loc vs as →
  (f as μ).post (KV_ X H loc Q) (KX X W σ H loc) → r [.ref p] H Q
def boolsOf : List A → Option (List Bool)
  | [] => some []
  | .bl b :: as => (boolsOf as).map (b :: ·)
  | _ :: _ => none
def intsOf : List A → Option (List Int)
  | [] => some []
  | .int b :: as => (intsOf as).map (b :: ·)
  | _ :: _ => none
def strsOf : List A → Option (List Str)
  | [] => some []
  | .str b :: as => (strsOf as).map (b :: ·)
  | _ :: _ => none
def allF (as : List A) : M A := bnd (optM (boolsOf as)) fun bs => ret (.bl (bs.all id))
def anyF (as : List A) : M A := bnd (optM (boolsOf as)) fun bs => ret (.bl (bs.any id))
def sumF (as : List A) : M A := bnd (optM (intsOf as)) fun bs => ret (.int bs.sum)
def tupF (as : List A) : M A := ret (.tup as)
def lstF (as : List A) : M A := alloc (.lst as)
def lenF (as : List A) : M A := ret (.int as.length)
def joinF (s : Str) (as : List A) : M A := bnd (optM (strsOf as)) fun ys => if (ys.map (·.length)).sum + ys.length * s.length ≤ 16777216 then ret (.str (Txt.join s ys)) else bad
section
variable {K : PySem.W.Frag} {H : Hp} {loc : List Addr}
theorem bools_ra : ∀ {vs : List V} {as : List A} {bs : List Bool}, RAs K H loc vs as → boolsOf as = some bs → vs = bs.map V.bl
  | _, _, _, .nil, e => by cases e; rfl
  | _, .bl b :: as, bs, .cons r t, e => by
    cases r
    simp only [boolsOf] at e
    cases h : boolsOf as with
    | none => rw [h] at e; cases e
    | some cs =>
      rw [h] at e
      cases e
      rw [bools_ra t h]
      rfl
  | _, .non :: _, _, .cons _ _, e => by cases e
  | _, .int _ :: _, _, .cons _ _, e => by cases e
  | _, .str _ :: _, _, .cons _ _, e => by cases e
  | _, .tup _ :: _, _, .cons _ _, e => by cases e
  | _, .rol _ :: _, _, .cons _ _, e => by cases e
  | _, .hd _ :: _, _, .cons _ _, e => by cases e
  | _, .fn _ :: _, _, .cons _ _, e => by cases e
  | _, .exc _ _ _ :: _, _, .cons _ _, e => by cases e
theorem ints_ra : ∀ {vs : List V} {as : List A} {bs : List Int}, RAs K H loc vs as → intsOf as = some bs → vs = bs.map V.int
  | _, _, _, .nil, e => by cases e; rfl
  | _, .int b :: as, bs, .cons r t, e => by
    cases r
    simp only [intsOf] at e
    cases h : intsOf as with
    | none => rw [h] at e; cases e
    | some cs =>
      rw [h] at e
      cases e
      rw [ints_ra t h]
      rfl
  | _, .non :: _, _, .cons _ _, e => by cases e
  | _, .bl _ :: _, _, .cons _ _, e => by cases e
  | _, .str _ :: _, _, .cons _ _, e => by cases e
  | _, .tup _ :: _, _, .cons _ _, e => by cases e
  | _, .rol _ :: _, _, .cons _ _, e => by cases e
  | _, .hd _ :: _, _, .cons _ _, e => by cases e
  | _, .fn _ :: _, _, .cons _ _, e => by cases e
  | _, .exc _ _ _ :: _, _, .cons _ _, e => by cases e
theorem strs_ra : ∀ {vs : List V} {as : List A} {bs : List Str}, RAs K H loc vs as → strsOf as = some bs → vs = bs.map V.str
  | _, _, _, .nil, e => by cases e; rfl
  | _, .str b :: as, bs, .cons r t, e => by
    cases r
    simp only [strsOf] at e
    cases h : strsOf as with
    | none => rw [h] at e; cases e
    | some cs =>
      rw [h] at e
      cases e
      rw [strs_ra t h]
      rfl
  | _, .non :: _, _, .cons _ _, e => by cases e
  | _, .bl _ :: _, _, .cons _ _, e => by cases e
  | _, .int _ :: _, _, .cons _ _, e => by cases e
  | _, .tup _ :: _, _, .cons _ _, e => by cases e
  | _, .rol _ :: _, _, .cons _ _, e => by cases e
  | _, .hd _ :: _, _, .cons _ _, e => by cases e
  | _, .fn _ :: _, _, .cons _ _, e => by cases e
  | _, .exc _ _ _ :: _, _, .cons _ _, e => by cases e
end
section
variable {X : Cx} {W : WX}
theorem slc_all : SLC X W (rAll X.K) allF := fun σ H loc μ p vs as Q rs hq hl ra q => by
  obtain ⟨bs, e, q⟩ := post_opt (post_bnd.mp q)
  exact ⟨p, bs, rfl, by rw [← bools_ra ra e]; exact hq, q _ H loc Gr.refl rs (.bl _)⟩
theorem slc_any : SLC X W (rAny X.K) anyF := fun σ H loc μ p vs as Q rs hq hl ra q => by
  obtain ⟨bs, e, q⟩ := post_opt (post_bnd.mp q)
  exact ⟨p, bs, rfl, by rw [← bools_ra ra e]; exact hq, q _ H loc Gr.refl rs (.bl _)⟩
theorem slc_sum : SLC X W (rSum X.K) sumF := fun σ H loc μ p vs as Q rs hq hl ra q => by
  obtain ⟨bs, e, q⟩ := post_opt (post_bnd.mp q)
  exact ⟨p, bs, rfl, by rw [← ints_ra ra e]; exact hq, q _ H loc Gr.refl rs (.int _)⟩
theorem slc_tup : SLC X W (fun xs H Q => ∃ p ys, xs = [.ref p] ∧ ((SqL X.K H p ys ∧ ∀ l, H l = none → Q (.ref l) (upd H l (.tup ys))) ∨ (SqT X.K H p ys ∧ Q (.ref p) H))) tupF := fun σ H loc μ p vs as Q rs hq hl ra q =>
  ⟨p, vs, rfl, .inl ⟨hq, fun l hn => q (.ref l) _ loc (Gr.new hn) (rs.new hn) (.tup (.inl (.inl upd_same)) hl (ra.mono (Gr.new hn)))⟩⟩
theorem slc_list : SLC X W (fun xs H Q => ∃ p ys, xs = [.ref p] ∧ (SqL X.K H p ys ∨ SqT X.K H p ys) ∧ ∀ l, H l = none → Q (.ref l) (upd H l (.lst ys))) lstF := fun σ H loc μ p vs as Q rs hq hl ra q =>
  ⟨p, vs, rfl, .inl hq, fun l hn => q (.ref l) _ (loc ++ [l]) (Gr.alloc hn) (rs.alloc hn ⟨vs, rfl, hl, ra.mono (Gr.alloc hn)⟩) (.hd (at_end_of rs))⟩
theorem slc_len : SLC X W (fun xs H Q => ∃ x n, xs = [x] ∧ LenV X.K x H n ∧ Q (.int n) H) lenF := fun σ H loc μ p vs as Q rs hq hl ra q =>
  ⟨_, _, rfl, .inl ⟨vs, hq, rfl⟩, by rw [ra.length]; exact q _ H loc Gr.refl rs (.int _)⟩
/-- f(..), the argument a list that is used at once -/
theorem se_callBL {x : Str} {p pos : Pos} {e : Expr} {id : String} {r : List V → Hp → VK → Prop} {m : Env → M (List A)} {f : List A → M A} (hc : CallR X (.builtin id) r) (hf : SLC X W r f) (hm : X.mg x = none) (hv : bootBuiltins x = some (.builtin id)) (h : SL X W e m) (hg : Gl X x := by rfl) (hn : x ≠ "__name__" := by decide) (hdb : (x == ("__debug__" : Str)) = false := by decide +kernel)
    (he : starEach [e] X.env = (false, eval e X.env) :: starEach [] X.env := by rfl) (hpl : (backTo pos (starEach [] X.env)).any (·.1) = false := by rfl) : SE X W (.Call (.Name x p) [e] [] pos) (fun δ => bnd (m δ) f) := fun σ H loc δ μ Q re rs q => by
  refine wE_of (pe_callB hc hg hm hv (pa_cons pwE pa_nil he) hn hdb he hpl) ?_
  refine h σ H loc δ μ _ re rs (post_mono (post_bnd.mp q) (fun as μ1 q1 p vs H1 loc1 g1 rs1 _ hp _ hl ra => ?_) fun _ _ z => z)
  exact hf σ H1 loc1 μ1 p vs as Q rs1 (.of hp) hl ra (post_mono q1 (fun _ _ z => KV_.mono g1 z) fun _ _ z => KX.mono g1 z)
theorem se_callTL {x : Str} {p pos : Pos} {e : Expr} {id : String} {r : List V → Hp → VK → Prop} {m : Env → M (List A)} {f : List A → M A} (hc : CallR X (.type id) r) (hf : SLC X W r f) (hm : X.mg x = none) (hv : bootBuiltins x = some (.type id)) (h : SL X W e m) (hg : Gl X x := by rfl) (hn : x ≠ "__name__" := by decide) (hdb : (x == ("__debug__" : Str)) = false := by decide +kernel)
    (he : starEach [e] X.env = (false, eval e X.env) :: starEach [] X.env := by rfl) (hpl : (backTo pos (starEach [] X.env)).any (·.1) = false := by rfl) : SE X W (.Call (.Name x p) [e] [] pos) (fun δ => bnd (m δ) f) := fun σ H loc δ μ Q re rs q => by
  refine wE_of (pe_callTy hc hg hm hv (pa_cons pwE pa_nil he) hn hdb he hpl) ?_
  refine h σ H loc δ μ _ re rs (post_mono (post_bnd.mp q) (fun as μ1 q1 p vs H1 loc1 g1 rs1 _ hp _ hl ra => ?_) fun _ _ z => z)
  exact hf σ H1 loc1 μ1 p vs as Q rs1 (.of hp) hl ra (post_mono q1 (fun _ _ z => KV_.mono g1 z) fun _ _ z => KX.mono g1 z)
/-- .. the argument a list of the store -/
theorem SLC.sc {r : List V → Hp → VK → Prop} {f : List A → M A} (hf : SLC X W r f) : SC X W r (fun as => match as with | [a] => bnd (itemsL a) f | _ => bad) := fun σ H loc μ vs as Q rs ras q => by
  cases ras with
  | nil => exact q.elim
  | cons rr ss =>
    cases ss with
    | cons _ _ => exact q.elim
    | nil =>
      obtain ⟨p, ws, xs, ev, hq, hl, ra, hi, q2⟩ := RA.sqL (xs := []) rs rr (post_bnd.mp q)
      subst ev
      exact hf σ H loc μ p ws xs Q rs hq hl ra q2
/-- tuple(x), list(x) of a list or a tuple -/
def tupleA (as : List A) : M A := match as with
  | [a] => bnd (items a) tupF
  | _ => bad
def listA (as : List A) : M A := match as with
  | [a] => bnd (items a) lstF
  | _ => bad
theorem sc_tuple : SC X W (fun xs H Q => ∃ p ys, xs = [.ref p] ∧ ((SqL X.K H p ys ∧ ∀ l, H l = none → Q (.ref l) (upd H l (.tup ys))) ∨ (SqT X.K H p ys ∧ Q (.ref p) H))) tupleA := fun σ H loc μ vs as Q rs ras q => by
  cases ras with
  | nil => exact q.elim
  | cons rr ss =>
    cases ss with
    | cons _ _ => exact q.elim
    | nil =>
      obtain ⟨p, ws, xs, ev, hq, hl, ra, hi, q2⟩ := RA.sq rs rr (post_bnd.mp (show (bnd (items _) tupF μ).post _ _ from q))
      subst ev
      refine ⟨p, ws, rfl, ?_⟩
      rcases hq with hq | hq
      · exact .inl ⟨hq, fun l hn => q2 (.ref l) _ loc (Gr.new hn) (rs.new hn) (.tup (.inl (.inl upd_same)) hl (ra.mono (Gr.new hn)))⟩
      · exact .inr ⟨hq, q2 _ H loc Gr.refl rs (.tup hq hl ra)⟩
theorem sc_list : SC X W (fun xs H Q => ∃ p ys, xs = [.ref p] ∧ (SqL X.K H p ys ∨ SqT X.K H p ys) ∧ ∀ l, H l = none → Q (.ref l) (upd H l (.lst ys))) listA := fun σ H loc μ vs as Q rs ras q => by
  cases ras with
  | nil => exact q.elim
  | cons rr ss =>
    cases ss with
    | cons _ _ => exact q.elim
    | nil =>
      obtain ⟨p, ws, xs, ev, hq, hl, ra, hi, q2⟩ := RA.sq rs rr (post_bnd.mp (show (bnd (items _) lstF μ).post _ _ from q))
      subst ev
      exact ⟨p, ws, rfl, hq, fun l hn => q2 (.ref l) _ (loc ++ [l]) (Gr.alloc hn) (rs.alloc hn ⟨ws, rfl, hl, ra.mono (Gr.alloc hn)⟩) (.hd (at_end_of rs))⟩
/-- such a list comes into the store -/
theorem se_ofL {e : Expr} {m : Env → M (List A)} (h : SL X W e m) : SE X W e (fun δ => bnd (m δ) lstF) := fun σ H loc δ μ Q re rs q => by
  refine h σ H loc δ μ _ re rs (post_mono (post_bnd.mp q) (fun as μ1 q1 p vs H1 loc1 g1 rs1 hn hp hnl hl ra => ?_) fun _ _ z => z)
  have hm : RM X.K H1 loc1 (.lst as) (.lst vs) := ⟨vs, rfl, hl, ra⟩
  exact q1 (.ref p) H1 (loc1 ++ [p]) (g1.adopt hn) (rs1.adopt hp hnl hm) (.hd (at_end_of rs1))
/-- s.join(..) -/
theorem se_joinL {o e : Expr} {mo : Env → M A} {m : Env → M (List A)} {apos pos : Pos} (ho : SE X W o mo) (h : SL X W e m) (hs : starEach [e] X.env = [(false, eval e X.env)] := by rfl) (hbase : attributeBase o "join" X.env (eval o X.env) = eval o X.env := by rfl) (hline : (apos.endLine == pos.line) = true := by rfl) :
    SE X W (.Call (.Attribute o "join" apos) [e] [] pos) (fun δ => bnd (mo δ) fun a => bnd (strM a) fun s => bnd (m δ) (joinF s)) := fun σ H loc δ μ Q re rs q => by
  refine wE_of (pe_join pwE pwE hs hbase hline) ?_
  refine ho.go re rs q fun v x H1 loc1 μ1 g1 rs1 rv re1 q1 => ?_
  cases rv with
  | str s =>
    refine ⟨⟨s, rfl⟩, ?_⟩
    refine h σ H1 loc1 δ μ1 _ re1 rs1 (post_mono (post_bnd.mp q1) (fun as μ2 q2 p vs H2 loc2 g2 rs2 _ hp _ hl ra => ?_) fun _ _ z => z)
    obtain ⟨ys, e, q3⟩ := post_opt (post_bnd.mp q2)
    split at q3
    · rename_i hz
      exact ⟨s, p, ys, rfl, rfl, .inl (by rw [← strs_ra ra e]; exact .of hp), hz, q3 _ H2 loc2 (g1.trans g2) rs2 (.str _)⟩
    · exact q3.elim
  | _ => exact q1.elim
def joinA (s : Str) (a : A) : M A := bnd (items a) (joinF s)
theorem se_join {o e : Expr} {mo m : Env → M A} {apos pos : Pos} (ho : SE X W o mo) (h : SE X W e m) (hs : starEach [e] X.env = [(false, eval e X.env)] := by rfl) (hbase : attributeBase o "join" X.env (eval o X.env) = eval o X.env := by rfl) (hline : (apos.endLine == pos.line) = true := by rfl) :
    SE X W (.Call (.Attribute o "join" apos) [e] [] pos) (fun δ => bnd (mo δ) fun a => bnd (strM a) fun s => bnd (m δ) (joinA s)) := fun σ H loc δ μ Q re rs q => by
  refine wE_of (pe_join pwE pwE hs hbase hline) ?_
  refine ho.go re rs q fun v x H1 loc1 μ1 g1 rs1 rv re1 q1 => ?_
  cases rv with
  | str s =>
    refine ⟨⟨s, rfl⟩, ?_⟩
    refine h.go re1 rs1 q1 fun u y H2 loc2 μ2 g2 rs2 ru re2 q2 => ?_
    obtain ⟨p, ws, xs, ev, hq, hl, ra, hi, q3⟩ := RA.sq rs2 ru (post_bnd.mp q2)
    subst ev
    obtain ⟨ys, e, q4⟩ := post_opt (post_bnd.mp q3)
    split at q4
    · rename_i hz
      exact ⟨s, p, ys, rfl, rfl, by rw [← strs_ra ra e]; exact hq, hz, q4 _ H2 loc2 (g1.trans g2) rs2 (.str _)⟩
    · exact q4.elim
  | _ => exact q1.elim
def upperA (a : A) : M A := bnd (strM a) fun s => if s.length ≤ 5592405 then ret (.str (Txt.upper s)) else bad
theorem se_upper {o : Expr} {mo : Env → M A} {apos pos : Pos} (ho : SE X W o mo) (hbase : attributeBase o "upper" X.env (eval o X.env) = eval o X.env := by rfl) (hline : (apos.endLine == pos.line) = true := by rfl) :
    SE X W (.Call (.Attribute o "upper" apos) [] [] pos) (fun δ => bnd (mo δ) upperA) := fun σ H loc δ μ Q re rs q => by
  refine wE_of (pe_upper pwE hbase hline) ?_
  refine ho.go re rs q fun v x H1 loc1 μ1 g1 rs1 rv re1 q1 => ?_
  cases rv with
  | str s =>
    have q2 : ((if s.length ≤ 5592405 then ret (.str (Txt.upper s)) else bad : M A) μ1).post _ _ := q1
    split at q2
    · rename_i hl
      exact ⟨⟨s, rfl⟩, s, rfl, rfl, hl, q2 _ H1 loc1 g1 rs1 (.str _)⟩
    · exact q2.elim
  | _ => exact q1.elim
end
end Lt

/-! Lt7: comprehensions. -/
namespace Lt
open PySem PySem.Spec PyProof.Rows L2
/-- within a block nothing is raised -/
abbrev W0 : WX := fun _ _ _ _ => False
def wipeE (δ : Env) : List Nat → Env
  | [] => δ
  | v :: vs => (wipeE δ vs).set v none
theorem RE.wipe {K : PySem.W.Frag} {H : Hp} {loc : List Addr} {σ : St} {δ : Env} (re : RE K H loc σ δ) : ∀ vs : List Nat, RE K H loc (L2.wipe σ vs) (wipeE δ vs)
  | [] => re
  | v :: vs => by
    have ih := RE.wipe re vs
    refine ⟨by show ((L2.wipe σ vs).set v none).length = ((wipeE δ vs).set v none).length; rw [List.length_set, List.length_set]; exact ih.len, fun i x e => ?_⟩
    have e' : ((wipeE δ vs).set v none)[i]? = some (some x) := e
    by_cases hv : v = i
    · subst hv
      by_cases hl : v < (wipeE δ vs).length
      · rw [List.getElem?_set_self hl] at e'; cases e'
      · rw [List.getElem?_eq_none (by rw [List.length_set]; exact Nat.le_of_not_lt hl)] at e'; cases e'
    · rw [List.getElem?_set_ne hv] at e'
      obtain ⟨w, h1, h2⟩ := ih.at_ i x e'
      exact ⟨w, by show ((L2.wipe σ vs).set v none)[i]? = _; rw [List.getElem?_set_ne hv]; exact h1, h2⟩
/-- all blocks of a scope -/
abbrev Blk (X : Cx) (scope : Scope) (P : Cx → Prop) : Prop := ∀ (s : Shared) (H : Hp) (C : Addr) (cl : List (Str × Addr)) (fp : List Addr), P (X.blk s H scope (compEnvC scope cl C X.env) fp)
/-- the tests of a clause -/
def STs (X : Cx) (scope : Scope) (ifs : List Expr) (m : Env → M Bool) : Prop := ∃ tt : TT, Blk X scope (fun Y => PTs Y ifs tt) ∧ ∀ (σ : St) (H : Hp) (loc : List Addr) (δ : Env) (μ : Sto) (Q : Bool → Hp → Prop), RE X.K H loc σ δ → RS X.K H loc μ → (m δ μ).post (KB X H loc Q) NX → tt σ H Q
section
variable {X : Cx} {scope : Scope}
theorem sts_nil : STs X scope [] (fun _ => ret true) := ⟨tYes, fun _ _ _ _ _ => pts_nil, fun σ H loc δ μ Q re rs q => q H loc Gr.refl rs⟩
theorem sts_one {c : Expr} {m : Env → M Bool} (h : Blk X scope (fun Y => ST Y W0 c m)) : STs X scope [c] m :=
  ⟨fun σ H Q => Blk X scope (fun Y => wT Y c σ H Q), fun s H C cl fp => pts_one ⟨fun pins s' σ H' Q I q => q s H C cl fp pins s' I⟩, fun σ H loc δ μ Q re rs q s0 H0 C cl fp => h s0 H0 C cl fp σ H loc δ μ Q re rs (post_mono q (fun _ _ z => z) fun _ _ z => z.elim)⟩
end
structure Gr0 (K : PySem.W.Frag) (H : Hp) (loc : List Addr) (H' : Hp) (loc' : List Addr) : Prop where
  pre : ∃ more, loc' = loc ++ more
  tup : ∀ a xs, H a = some (.tup xs) → H' a = some (.tup xs)
  frz : ∀ a o u, H a = some (.frz o u) → H' a = some (.frz o u)
  exs : ∀ a φ, H a = some (.ext φ) → a ∉ loc → H' a = some (.ext φ) ∧ a ∉ loc'
section
variable {K : PySem.W.Frag} {H H1 : Hp} {loc loc1 : List Addr}
theorem Gr0.get (g : Gr0 K H loc H1 loc1) {n : Nat} {a : Addr} (h : loc[n]? = some a) : loc1[n]? = some a := by
  obtain ⟨m, rfl⟩ := g.pre
  rw [List.getElem?_append_left (List.getElem?_eq_some_iff.mp h).1]
  exact h
theorem Gr0.sqT (g : Gr0 K H loc H1 loc1) {a : Addr} {xs : List V} (h : SqT K H a xs) : SqT K H1 a xs := by
  rcases h with (h | ⟨o, h⟩) | h
  · exact .inl (.inl (g.tup a xs h))
  · exact .inl (.inr ⟨o, g.frz a o _ h⟩)
  · exact .inr h
mutual
theorem RA.mono0 (g : Gr0 K H loc H1 loc1) : ∀ {v : V} {x : A}, RA K H loc v x → RA K H1 loc1 v x
  | _, _, .non => .non
  | _, _, .bl b => .bl b
  | _, _, .int i => .int i
  | _, _, .str s => .str s
  | _, _, .tup h l r => .tup (g.sqT h) l (RAs.mono0 g r)
  | _, _, .rol h l r => .rol (h.imp (fun ⟨o, q⟩ => ⟨o, g.frz _ o _ q⟩) id) l (RAs.mono0 g r)
  | _, _, .hd h => .hd (g.get h)
  | _, _, .fn => .fn
  | _, _, .exc h1 h2 h3 h4 l r => .exc (g.exs _ _ h1 h2).1 (g.exs _ _ h1 h2).2 (g.exs _ _ h3 h4).1 (g.exs _ _ h3 h4).2 l (RAs.mono0 g r)
  | _, _, .ex0 h1 h2 => .ex0 (g.exs _ _ h1 h2).1 (g.exs _ _ h1 h2).2
theorem RAs.mono0 (g : Gr0 K H loc H1 loc1) : ∀ {vs : List V} {xs : List A}, RAs K H loc vs xs → RAs K H1 loc1 vs xs
  | _, _, .nil => .nil
  | _, _, .cons r t => .cons (RA.mono0 g r) (RAs.mono0 g t)
end
theorem RM.mono0 {m : Mu} {o : HO} (g : Gr0 K H loc H1 loc1) (h : RM K H loc m o) : RM K H1 loc1 m o := by
  cases m with
  | lst xs =>
    obtain ⟨vs, e, l, r⟩ := h
    exact ⟨vs, e, l, r.mono0 g⟩
  | dic kvs =>
    obtain ⟨vs, e, l, r⟩ := h
    exact ⟨vs, e, l, Paired.mapP r fun p q z => ⟨z.1, z.2.mono0 g⟩⟩
  | ins C fs =>
    obtain ⟨dx, vs, e, r⟩ := h
    exact ⟨dx, vs, e, Paired.mapP r fun p q z => ⟨z.1, z.2.mono0 g⟩⟩
/-- a list outside of the store changes -/
theorem Gr0.at {D : Addr} {xs : List V} {o : HO} (h : H D = some (.lst xs)) : Gr0 K H loc (upd H D o) loc :=
  ⟨⟨[], (List.append_nil _).symm⟩, fun b xs e => by rw [upd_ne (fun z => by subst z; rw [h] at e; cases e)]; exact e, fun b ob u e => by rw [upd_ne (fun z => by subst z; rw [h] at e; cases e)]; exact e, fun b φ e n => ⟨by rw [upd_ne (fun z => by subst z; rw [h] at e; cases e)]; exact e, n⟩⟩
theorem RS.at {D : Addr} {xs : List V} {o : HO} {μ : Sto} (h : H D = some (.lst xs)) (hD : D ∉ loc) (r : RS K H loc μ) : RS K (upd H D o) loc μ :=
  ⟨r.len, r.nd, fun n m e => by
    obtain ⟨a, u, h1, h2, h3⟩ := r.at_ n m e
    exact ⟨a, u, h1, by rw [upd_ne (fun z => by subst z; exact hD (List.mem_of_getElem? h1))]; exact h2, h3.mono0 (Gr0.at h)⟩⟩
/-- from a heap that has it not -/
theorem Gr.at {D : Addr} {xs : List V} {o : HO} (h0 : H D = none) (h : H1 D = some (.lst xs)) (g : Gr K H loc H1 loc1) : Gr K H loc (upd H1 D o) loc1 :=
  ⟨g.pre, fun b ys e => by rw [upd_ne (ne_of_none e h0)]; exact g.tup b ys e, fun b ob u e => by rw [upd_ne (ne_of_none e h0)]; exact g.frz b ob u e, fun b u e n => ⟨by rw [upd_ne (ne_of_none e h0)]; exact (g.frm b u e n).1, (g.frm b u e n).2⟩⟩
theorem Gr.none0 {D : Addr} {μ : Sto} (g : Gr K H loc H1 loc1) (rs : RS K H1 loc1 μ) (h : H1 D = none) : H D = none := by
  cases e : H D with
  | none => rfl
  | some o =>
    have hn : D ∉ loc := fun hm => by
      obtain ⟨m, rfl⟩ := g.pre
      exact rs.notin h (List.mem_append_left _ hm)
    have := (g.frm D o e hn).1
    rw [h] at this
    cases this
end
theorem wipe_wipe {σ : St} {vs : List Nat} : L2.wipe (L2.wipe σ vs) vs = L2.wipe σ vs :=
  Agree.wipe (T := vs) ⟨L2.wipe_length σ vs, fun i h => L2.wipe_out h⟩ fun _ h => h
open Classical in
noncomputable def lcM (g : A → Env → M Env) (t : Env → M Bool) (elt : Env → M A) (mi : MIt) (δ : Env) : List A → M (List A)
  | [] => fun μ => if mi.still μ then .ok [] μ else .bad
  | a :: as => fun μ => if mi.still μ then bnd (noX (g a δ)) (fun δ1 => bnd (noX (t δ1)) fun k => match k with
      | true => bnd (noX (elt δ1)) fun y => bnd (noX (lcM g t elt mi δ as)) fun ys => ret (y :: ys)
      | false => lcM g t elt mi δ as) μ else .bad
/-- [elt for target in .. if ..] -/
noncomputable def compM (m : Env → M MIt) (g : A → Env → M Env) (t : Env → M Bool) (elt : Env → M A) (vs : List Nat) (δ : Env) : M (List A) := bnd (m δ) fun mi => if mi.items.length ≤ sizeLine then noX (lcM g t elt mi (wipeE δ vs) mi.items) else bad
section
variable {X : Cx} {W : WX}
theorem lc_reading {tg iter elt : Expr} {ifs : List Expr} {scope : Scope} {vs T : List Nat} {m : Env → M MIt} {g : A → Env → M Env} {t : Env → M Bool} {me : Env → M A} (hi : SI X W tg iter m) (hg : Blk X scope (fun Y => SG Y W0 T tg g)) (hT : ∀ i ∈ T, i ∈ vs)
    (ht : STs X scope ifs t) (he : Blk X scope (fun Y => SE Y W0 elt me)) :
    ∃ (gg : TG) (tt : TT) (te : TE), Blk X scope (fun Y => PG Y tg gg) ∧ Blk X scope (fun Y => PTs Y ifs tt) ∧ Blk X scope (fun Y => PE Y elt te) ∧ ∀ (σ : St) (H : Hp) (loc : List Addr) (δ : Env) (μ : Sto) (Q : VK), RE X.K H loc σ δ → RS X.K H loc μ →
      (compM m g t me vs δ μ).post (KL X H loc Q) (KX X W σ H loc) → tLc (wI X tg iter) gg tt te vs σ H Q := by
  obtain ⟨tt, ht1, ht2⟩ := ht
  refine ⟨fun v σ H Q => Blk X scope (fun Y => wG Y tg v σ H Q), tt, fun σ H Q => Blk X scope (fun Y => wE Y elt σ H Q), fun s H C cl fp => ⟨fun pins s' σ H' v u Q I r q => q s H C cl fp pins s' u I r⟩, ht1, fun s H C cl fp => ⟨fun pins s' σ H' Q I q => q s H C cl fp pins s' I⟩, fun σ H loc δ μ Q re rs q => ?_⟩
  refine hi σ H loc δ μ _ re rs (post_mono (post_bnd.mp q) (fun mi μ1 q1 J H1 loc1 g1 rs1 ok => ?_) fun _ _ z => z)
  intro D hD
  have re1 := (re.mono g1).wipe vs
  split at q1
  · rename_i hlen
    refine ⟨fun i n H2 => n = mi.items.length - i ∧ i ≤ mi.items.length ∧ ∃ loc2 μ2 acc accA, Gr X.K H1 loc1 H2 loc2 ∧ RS X.K H2 loc2 μ2 ∧ H2 D = some (.lst acc) ∧ D ∉ loc2 ∧ acc.length ≤ i ∧ RAs X.K H2 loc2 acc accA ∧
        (lcM g t me mi (wipeE δ vs) (mi.items.drop i) μ2).post (fun ys μ' => KL X H loc Q (accA ++ ys) μ') NX,
      ⟨mi.items.length, by simp, Nat.zero_le _, loc1, μ1, [], [], Gr.new hD, rs1.new hD, upd_same, rs1.notin hD, Nat.le_refl _, .nil, ?_⟩, ?_⟩
    · exact post_noX q1
    · rintro i n H2 ⟨rfl, hin, loc2, μ2, acc, accA, g2, rs2, hD2, hDn, hacc, ra, q2⟩
      by_cases hlt : i < mi.items.length
      · have hd : mi.items.drop i = mi.items[i] :: mi.items.drop (i + 1) := List.drop_eq_getElem_cons hlt
        rw [hd] at q2
        simp only [lcM] at q2
        split at q2
        · rename_i st
          obtain ⟨_, hyl⟩ := ok H2 loc2 μ2 g2 rs2 st
          obtain ⟨go, hy⟩ := hyl i mi.items[i] (List.getElem?_eq_getElem hlt)
          refine .inr ⟨go, fun H' => ∃ loc' μ' acc' accA', Gr X.K H1 loc1 H' loc' ∧ RS X.K H' loc' μ' ∧ H' D = some (.lst acc') ∧ D ∉ loc' ∧ acc'.length ≤ i + 1 ∧ RAs X.K H' loc' acc' accA' ∧
              (lcM g t me mi (wipeE δ vs) (mi.items.drop (i + 1)) μ').post (fun ys μ' => KL X H loc Q (accA' ++ ys) μ') NX,
            fun H' ⟨loc', μ', acc', accA', a1, a2, a3, a4, a5, a6, a7⟩ => ⟨mi.items.length - (i + 1), by omega, rfl, hlt, loc', μ', acc', accA', a1, a2, a3, a4, a5, a6, a7⟩, fun v H' y => ?_⟩
          obtain ⟨g3, rs3, rv⟩ := hy v H' y
          have g13 := g2.trans g3
          intro s0 H0 C cl fp
          refine hg s0 H0 C cl fp (L2.wipe σ vs) H' loc2 (wipeE δ vs) μ2 v _ _ (re1.mono g13) rs3 rv (post_noX (post_mono (post_bnd.mp q2) (fun δ3 μ3 q3 σ3 H3 loc3 g4 rs4 re4 ag => ?_) fun _ _ z => z))
          refine ⟨?_, ?_⟩
          · have e1 := ag.wipe hT
            rw [e1, wipe_wipe]
          · have g24 := g3.trans g4
            refine ht2 σ3 H3 loc3 δ3 μ3 _ re4 rs4 (post_noX (post_mono (post_bnd.mp q3) (fun k μ4 q4 H4 loc4 g5 rs5 => ?_) fun _ _ z => z))
            have g25 := g24.trans g5
            obtain ⟨hD4, hDn4⟩ := g25.frm D _ hD2 hDn
            cases k with
            | false =>
              show (if false = true then _ else _)
              rw [if_neg Bool.false_ne_true]
              exact ⟨loc4, μ4, acc, accA, g2.trans g25, rs5, hD4, hDn4, Nat.le_succ_of_le hacc, ra.mono g25, q4⟩
            | true =>
              show (if true = true then _ else _)
              rw [if_pos rfl]
              intro s1 H1' C1 cl1 fp1
              refine he s1 H1' C1 cl1 fp1 σ3 H4 loc4 δ3 μ4 _ (re4.mono g5) rs5 (post_noX (post_mono (post_bnd.mp q4) (fun y' μ5 q5 w H5 loc5 g6 rs6 rw' => ?_) fun _ _ z => z))
              obtain ⟨hD5, hDn5⟩ := g6.frm D _ hD4 hDn4
              refine ⟨acc, hD5, Nat.lt_of_le_of_lt hacc (Nat.lt_of_lt_of_le hlt hlen), loc5, μ5, acc ++ [w], accA ++ [y'], ?_⟩
              have g26 := (g2.trans g25).trans g6
              refine ⟨g26.at hD hD5, RS.at hD5 hDn5 rs6, upd_same, hDn5, by rw [List.length_append]; exact Nat.succ_le_succ hacc, ((ra.mono (g25.trans g6)).append (.cons rw' .nil)).mono0 (Gr0.at hD5), ?_⟩
              refine post_mono (post_noX (post_bnd.mp q5)) (fun ys μ' z => ?_) fun _ _ z => z
              show KL X H loc Q (accA ++ [y'] ++ ys) μ'
              rw [List.append_assoc]
              exact z
        · exact q2.elim
      · have e : i = mi.items.length := by omega
        subst e
        rw [List.drop_eq_nil_of_le (Nat.le_refl _)] at q2
        simp only [lcM] at q2
        split at q2
        · rename_i st
          obtain ⟨stop, _⟩ := ok H2 loc2 μ2 g2 rs2 st
          refine .inl ⟨stop, ?_⟩
          have q3 : KL X H loc Q (accA ++ []) μ2 := q2
          rw [List.append_nil] at q3
          have hDH : H D = none := g1.none0 rs1 hD
          exact q3 D acc H2 loc2 (g1.trans g2) rs2 hDH hD2 hDn (Nat.le_trans hacc hlen) ra
        · exact q2.elim
  · exact q1.elim
variable {tg iter elt : Expr} {ifs : List Expr} {scope : Scope} {own : List (Str × Nat)} {T : List Nat} {m : Env → M MIt} {g : A → Env → M Env} {t : Env → M Bool} {me : Env → M A} {pos : Pos}
theorem se_lc (hc : X.calm = true) (hN : X.N.Nodup) (hi : SI X W tg iter m) (ok : BlkOk X.N X.env.scope scope own) (hg : Blk X scope (fun Y => SG Y W0 T tg g)) (hT : ∀ i ∈ T, i ∈ own.map (·.2))
    (ht : STs X scope ifs t) (he : Blk X scope (fun Y => SE Y W0 elt me)) (hs : ∀ x, foldedSetIterable iter X.env x = pure x := by intro _; rfl) : SL X W (.ListComp elt [⟨tg, iter, ifs, 0⟩] scope pos) (compM m g t me (own.map (·.2))) := fun σ H loc δ μ Q re rs q => by
  obtain ⟨gg, tt, te, h1, h2, h3, h4⟩ := lc_reading hi hg hT ht he
  exact wE_of (pe_lc hc hN pwI ok h1 h2 h3 hs) (h4 σ H loc δ μ Q re rs q)
theorem ss_setLc (i : Nat) {y : Str} {py spos : Pos} (hc : X.calm = true) (hN : X.N.Nodup) (hi : SI X W tg iter m) (ok : BlkOk X.N X.env.scope scope own) (hg : Blk X scope (fun Y => SG Y W0 T tg g)) (hT : ∀ i ∈ T, i ∈ own.map (·.2))
    (ht : STs X scope ifs t) (he : Blk X scope (fun Y => SE Y W0 elt me)) (hy : X.N[i]? = some y := by rfl) (hyl : X.env.scope.names.lookup y = some .local := by rfl)
    (hsw : swapsWith (.ListComp elt [⟨tg, iter, ifs, 0⟩] scope pos) (some (.Name y py)) spos.line X.env = pure true := by rfl) (hs : ∀ x, foldedSetIterable iter X.env x = pure x := by intro _; rfl) :
    SS X W (.Assign [.Name y py] (.ListComp elt [⟨tg, iter, ifs, 0⟩] scope pos) spos) (fun δ => inS (compM m g t me (own.map (·.2)) δ) δ fun as => bnd (lstF as) fun a => ret (.nx (δ.set i (some a)))) := fun σ H loc δ μ D re rs q => by
  obtain ⟨gg, tt, te, h1, h2, h3, h4⟩ := lc_reading hi hg hT ht he
  refine wS_of (ps_setLc hc hN hy hyl hsw pwI ok h1 h2 h3 hs) ?_
  refine h4 σ H loc δ μ _ re rs (post_mono (post_inS q) (fun as μ1 q1 p vs H1 loc1 g1 rs1 hn hp hnl hl ra => ?_) fun _ _ z => KF.kx re z)
  have hm : RM X.K H1 loc1 (.lst as) (.lst vs) := ⟨vs, rfl, hl, ra⟩
  have gA := g1.adopt hn
  exact q1 (σ.set i (some (.ref p))) H1 (loc1 ++ [p]) gA (rs1.adopt hp hnl hm) ((re.mono gA).set (.hd (at_end_of rs1)))
end
end Lt

/-! Lt8: exceptions as values. -/
namespace PySem.W
open PySem PySem.Spec PySem.Calls PyProof.Rows
section
variable {prog : Program} {w : World} {A : Around} {E : Value → Shared → Prop} {s : Shared} {K : Frag} {x D : Addr} {ox : Obj}
theorem lt_findData {C : Addr} {od : Option Obj} {name : Str} {a g : Value} (hc : (clsIn K C).isSome = true) (ha : findIn K (.ref C) name = some (some a)) (hg : specialIn K a "__get__" = some (some g)) (ht : takesIn K a = some true) : findObj K C od name = some (.bind g a) := by
  obtain ⟨cd, hc⟩ := Option.isSome_iff_exists.mp hc
  unfold findObj
  rw [hc, Option.bind_some, ha, Option.bind_some]
  simp [hg, ht]
theorem lt_classE {od : Option Obj} {Q : Option Value → Shared → Prop} (hga : findIn K (.ref D) "__getattribute__" = some (some (.builtin "BaseException.__getattribute__"))) (hgt : findIn K (.ref D) "__getattr__" = some none) (hsub : subIn K (.ref D) (.type "BaseException") = some true)
    (hdct : hasDictIn K D = true) (ha : findIn K (.ref D) "__class__" = some (some (.builtin "object.__class__")))
    (hn : specialIn K (.builtin "object.__class__") "__get__" = some (some (.builtin "getset_descriptor.__get__"))) (htk : takesIn K (.builtin "object.__class__") = some true) (hm : mroIn K D (.type "object") = some true)
    (X : K.In s.heap) (I : InstAt s.heap x ox D od) (h : Q (some (.ref D)) { s with toks := s.toks + 1 }) : wpAny (model prog w) A (getAttr? (.ref x) "__class__") Q E s := by
  have hf : findObj K D od "__class__" = some (.bind (.builtin "getset_descriptor.__get__") (.builtin "object.__class__")) := lt_findData (by obtain ⟨cd, hc, _⟩ := any_some hdct; rw [hc]; rfl) ha hn htk
  obtain ⟨hp, g, d, t, os⟩ := s
  have L0 := I.type (M := model prog w)
  have L1 := looks_findIn (M := model prog w) X hga
  have L2 := looks_findIn (M := model prog w) X hgt
  have L3 := looks_find (M := model prog w) X I hf
  have sub : Looks (model prog w) hp (isInstance (.ref x) (.type "BaseException")) true := L0.andThen (looks_subIn X hsub)
  have hx0 : (false && onTheHeap (Value.builtin "BaseException.__getattribute__")) = false := rfl
  have hx2 : (Value.builtin "BaseException.__getattribute__" == Value.builtin "object.__getattribute__") = false := by decide +kernel
  have hx1 : (onTheHeap (Value.ref D) && Value.builtin "BaseException.__getattribute__" == Value.builtin "object.__getattribute__") = false := by rw [hx2]; rfl
  unfold getAttr? getAttrBy? getAttrBy
  refine wpAny_bind (wpAny_mkText (wpAny_bind (wpAny_attempt (wpAny_holding (wpAny_bind (L0.at (wpAny_bind (L1.at ?_))))))))
  show wpAny _ _ (if (onTheHeap (Value.ref D) && Value.builtin "BaseException.__getattribute__" == Value.builtin "object.__getattribute__") = true then _ else _) _ _ _
  rw [hx1, if_neg Bool.false_ne_true]
  unfold getAttrByItsOwn hookBefore
  refine wpAny_bind ?_
  rw [if_pos (show onTheHeap (Value.ref D) = true from rfl)]
  refine L2.at ?_
  refine wpAny_bind (wpAny_attempt (wpAny_holding ?_))
  unfold callGetattribute
  rw [hx0, if_neg Bool.false_ne_true]
  unfold boundAndCalled
  rw [PySem.F.excAttr_ValueError.ga.bind (.ref x)]
  refine wpAny_bind (wpAny_pure ?_)
  show wpAny _ _ (call (.builtin "BaseException.__getattribute__") [.ref x, .str "__class__" t]) _ _ _
  refine wpAny_call (codeAny_call_builtin PySem.F.excAttr_ValueError.ga.plain PySem.F.entry_bexc_ga ?_)
  refine @check_slot (model prog w) _ _ ⟨hp, g, d, t + 1, os⟩ "BaseException.__getattribute__" "BaseException" "__getattribute__" (.ref x) [.str "__class__" t] [] _ (by decide +kernel) (by decide +kernel) sub (PySem.F.args_bexc_ga (.ref x) (.str "__class__" t)) ?_
  unfold Builtin.«object.__getattribute__»
  refine wpAny_bind (wpAny_of_eq (a := ((Value.ref x : Value), [Value.str "__class__" t])) (by first | rfl | (simp only [slotArgs]; rfl)) ?_)
  refine wpAny_bind (wpAny_pure (wpAny_bind (L0.at (wpAny_bind (L3.at ?_)))))
  show wpAny _ _ (holding [Value.builtin "object.__class__"] (call (.builtin "getset_descriptor.__get__") [.builtin "object.__class__", .ref x, .ref D]) >>= ret) _ _ _
  refine wpAny_bind (wpAny_holding (wpAny_call (class_get (s := ⟨hp, g, d, t + 1, os⟩) (ox := ox) (od := od) X I hm ?_)))
  refine wpAny_pure ?_
  show wpAny _ _ (handedOut (.ref D)) _ _ _
  rw [handedOut_of (v := .ref D) rfl]
  first
    | exact wpAny_pure (wpAny_pure h)
    | exact wpAny_pure h
    | exact wpAny_pure (wpAny_bind (wpAny_pure (wpAny_pure h)))
theorem lt_kitx_exc {od : Option Obj} (hga : findIn K (.ref D) "__getattribute__" = some (some (.builtin "BaseException.__getattribute__"))) (hgt : findIn K (.ref D) "__getattr__" = some none) (hsub : subIn K (.ref D) (.type "BaseException") = some true) (hdct : hasDictIn K D = true) (ha : findIn K (.ref D) "__class__" = some (some (.builtin "object.__class__")))
    (hn : specialIn K (.builtin "object.__class__") "__get__" = some (some (.builtin "getset_descriptor.__get__"))) (htk : takesIn K (.builtin "object.__class__") = some true) (hm : mroIn K D (.type "object") = some true) :
    KitX K (.ref x) (.ref D) (fun h => InstAt h x ox D od) where
  ty := fun _ _ _ I => I.type
  it := fun _ _ X _ => by
    obtain ⟨cdD, hcD, _⟩ := any_some hdct
    unfold clsIn at hcD
    split at hcD
    · rename_i c' d' cd' sl' ho
      intro A' Q' E' s' k q
      unfold isType loadHead
      exact wpAny_bind (wpAny_loadPart (k _ _ (X _ _ ho)) (wpAny_pure q))
    · cases hcD
  ne := fun h tp dd its n sl X htp => by
    obtain ⟨cdD, hcD, _⟩ := any_some hdct
    refine Bool.eq_false_iff.mpr fun q => ?_
    have e : D = tp := Value.ref.inj (beq_iff_eq.mp q)
    subst e
    unfold clsIn at hcD
    split at hcD
    · rename_i c' d' cd' sl' ho
      have z := (X _ _ ho).symm.trans htp
      cases z
    · cases hcD
  ca := fun X I k => lt_classE hga hgt hsub hdct ha hn htk hm X I k
end
end PySem.W
namespace Lt
open PySem PySem.Spec PyProof.Rows L2
/-- at a: an exception of class D, as a value -/
def IsX (H : Hp) (a D : Addr) : Prop := H a = some (ExO (.ref D) a) ∨ ∃ d fs, H a = some (exo a D (some d)) ∧ H d = some (exd d fs)
theorem exO_at {P : Program} {w : World} {H : Hp} {h : Heap} {a : Addr} {cls : Value} (hok : HOk P w H h) (e : H a = some (ExO cls a)) : ∃ (oe : Obj) (vs : Array Value), h.get? a = some oe ∧ Zc cls none oe ∧ oe.data = .fields vs := by
  have x : ObjOk P w H h a (.ext fun h => ∃ (oe : Obj) (vs : Array Value), h.get? a = some oe ∧ Zc cls none oe ∧ oe.data = .fields vs ∧ vs[1]? = some .none ∧ vs[2]? = some .none ∧ 4 < vs.size) := hok a _ e
  obtain ⟨oe, vs, h1, h2, h3, _⟩ := x.1
  exact ⟨oe, vs, h1, h2, h3⟩
theorem isX_inst {P : Program} {w : World} {H : Hp} {h : Heap} {a D : Addr} (hok : HOk P w H h) (e : IsX H a D) : ∃ ox od, PySem.W.InstAt h a ox D od := by
  rcases e with e | ⟨d, fs, e, ed⟩
  · obtain ⟨oe, vs, h1, h2, h3⟩ := exO_at hok e
    exact ⟨oe, none, h1, h2.1, by unfold PySem.W.notCls; rw [h3] <;> rfl, by rw [h2.2]; trivial⟩
  · obtain ⟨t1, h1⟩ := exo_at hok e
    obtain ⟨mA, hns, _⟩ := exd_at hok ed
    obtain ⟨od, ho, _⟩ := lookIn_ns hns
    exact ⟨_, some od, h1, rfl, rfl, ho⟩
def rIsX (K : PySem.W.Frag) : List V → Hp → VK → Prop := fun xs H Q => ∃ (a D : Addr) (c : V) (cv : Value) (b : Bool), xs = [.ref a, c] ∧ (∀ u, RelV c u → u = cv) ∧ ExcC K D ∧ IsX H a D ∧ PySem.W.kitOne K (.ref D) cv = some b ∧ Q (.bl b) H
theorem call_isX {X : Cx} : CallR X (.builtin "isinstance") (rIsX X.K) := by
  intro pins s σ H xs us Q I r h
  obtain ⟨a, D, c, cv, b, rfl, hcv, C, hx, e, q⟩ := h
  obtain ⟨u1, u2, rfl, r1, r2⟩ := vals2 r
  have ec := hcv _ r2
  subst ec
  obtain rfl : u1 = Value.ref a := r1
  obtain ⟨ox, od, J⟩ := isX_inst I.hok hx
  exact PySem.W.kia_one (PySem.W.lt_kitx_exc C.hg C.hk C.hs C.hd C.ha C.hn C.ht C.hm) I.kIn J e (fun z => nomatch z) fun tk => ⟨.bl b, H, I.tok tk, rfl, q⟩
/-- isinstance of an exception: what each class answers -/
def isxA (sub : Addr → Option Bool) (a : A) : M A := match a with
  | .exc D _ _ => bnd (optM (sub D)) fun b => ret (.bl b)
  | _ => bad
theorem RA.isX {K : PySem.W.Frag} {H : Hp} {loc : List Addr} {v : V} {D : Addr} {ns : List Str} {xs : List A} (r : RA K H loc v (.exc D ns xs)) : ∃ a, v = .ref a ∧ IsX H a D := by
  cases r with
  | exc h1 _ h3 _ _ _ => exact ⟨_, rfl, .inr ⟨_, _, h1, h3⟩⟩
  | ex0 h1 _ => exact ⟨_, rfl, .inl h1⟩
section
variable {X : Cx} {W : WX}
/-- isinstance(e, C), e an exception, C an own class -/
theorem se_isX (sub : Addr → Option Bool) {xT : Str} {C : Addr} {e : Expr} {m : Env → M A} {p pT pos : Pos} (hs : ∀ D b, sub D = some b → ExcC X.K D ∧ PySem.W.kitOne X.K (.ref D) (.ref C) = some b) (hm : X.mg "isinstance" = none) (hmT : X.mg xT = some (.ref C)) (h : SE X W e m) (hg : Gl X "isinstance" := by rfl) (hgT : Gl X xT := by rfl) (hdT : (xT == ("__debug__" : Str)) = false := by decide +kernel)
    (he : starEach [e, .Name xT pT] X.env = (false, eval e X.env) :: starEach [.Name xT pT] X.env := by rfl) (hpl : (backTo pos (starEach [.Name xT pT] X.env)).any (·.1) = false := by rfl) (he2 : starEach [Expr.Name xT pT] X.env = (false, eval (.Name xT pT) X.env) :: starEach [] X.env := by rfl) :
    SE X W (.Call (.Name "isinstance" p) [e, .Name xT pT] [] pos) (fun δ => bnd (m δ) (isxA sub)) := fun σ H loc δ μ Q re rs q => by
  refine wE_of (pe_callB call_isX hg hm PyProof.Rows.boot_isinstance (pa_cons pwE (pa_cons (pe_glob (v := .ref C) hgT hmT (by first | rfl | exact rfl) hdT) pa_nil he2) he) (he := he) (hpl := hpl)) ?_
  refine h.go re rs q fun v x H1 loc1 μ1 g1 rs1 rv re1 q1 => ?_
  unfold isxA at q1
  split at q1
  · rename_i D ns xs
    obtain ⟨b, eb, q2⟩ := post_opt (post_bnd.mp q1)
    obtain ⟨a, ev, hx⟩ := rv.isX
    subst ev
    obtain ⟨h1, h2⟩ := hs D b eb
    exact ⟨a, D, .ref C, .ref C, b, rfl, fun u z => z, h1, hx, h2, q2 _ H1 loc1 g1 rs1 (.bl b)⟩
  · exact q1.elim
/-- isinstance(e, T), e an exception, T a built-in class -/
theorem se_isXB (T : String) (sub : Addr → Option Bool) {xT : Str} {e : Expr} {m : Env → M A} {p pT pos : Pos} (hs : ∀ D b, sub D = some b → ExcC X.K D ∧ PySem.W.kitOne X.K (.ref D) (.type T) = some b) (hm : X.mg "isinstance" = none) (hmT : X.mg xT = none) (hvT : bootBuiltins xT = some (.type T)) (h : SE X W e m) (hg : Gl X "isinstance" := by rfl) (hgT : Gl X xT := by rfl) (hnT : xT ≠ "__name__" := by decide +kernel) (hdT : (xT == ("__debug__" : Str)) = false := by decide +kernel)
    (he : starEach [e, .Name xT pT] X.env = (false, eval e X.env) :: starEach [.Name xT pT] X.env := by rfl) (hpl : (backTo pos (starEach [.Name xT pT] X.env)).any (·.1) = false := by rfl) (he2 : starEach [Expr.Name xT pT] X.env = (false, eval (.Name xT pT) X.env) :: starEach [] X.env := by rfl) :
    SE X W (.Call (.Name "isinstance" p) [e, .Name xT pT] [] pos) (fun δ => bnd (m δ) (isxA sub)) := fun σ H loc δ μ Q re rs q => by
  refine wE_of (pe_callB call_isX hg hm PyProof.Rows.boot_isinstance (pa_cons pwE (pa_cons (pe_bltn (v := .ty T) hgT hmT hvT rfl hnT hdT) pa_nil he2) he) (he := he) (hpl := hpl)) ?_
  refine h.go re rs q fun v x H1 loc1 μ1 g1 rs1 rv re1 q1 => ?_
  unfold isxA at q1
  split at q1
  · rename_i D ns xs
    obtain ⟨b, eb, q2⟩ := post_opt (post_bnd.mp q1)
    obtain ⟨a, ev, hx⟩ := rv.isX
    subst ev
    obtain ⟨h1, h2⟩ := hs D b eb
    exact ⟨a, D, .ty T, .type T, b, rfl, fun u z => z, h1, hx, h2, q2 _ H1 loc1 g1 rs1 (.bl b)⟩
  · exact q1.elim
end
/-- e.f -/
def tXfV (K : PySem.W.Frag) (n : Str) (te : TE) : TE := fun σ H Q => te σ H fun x H1 => ∃ (a D d : Addr) (fs : List (Str × V)) (v : V), x = .ref a ∧ XfC K D ∧ PySem.W.findIn K (.ref D) n = some none ∧ H1 a = some (exo a D (some d)) ∧ H1 d = some (exd d fs) ∧ fs.lookup n = some v ∧ Q v H1
theorem pe_xfV {X : Cx} {e : Expr} {te : TE} {pos : Pos} {n : Str} (he : PE X e te) (hb : attributeBase e n X.env (eval e X.env) = eval e X.env := by rfl) : PE X (.Attribute e n pos) (tXfV X.K n te) := by
  refine ⟨fun pins s σ H Q I h => ?_⟩
  refine attr_of hb (thn (he.run pins s σ H _ I h) fun u s1 hh => ?_)
  obtain ⟨x, H1, I1, rx, a, D, d, fs, v, ex, T, hno, ea, ed, l, q⟩ := hh
  subst ex
  obtain rfl : u = Value.ref a := rx
  obtain ⟨t1, h1⟩ := exo_at I1.hok ea
  obtain ⟨mA, hns, hr⟩ := exd_at I1.hok ed
  obtain ⟨od, ho, hl⟩ := lookIn_ns hns
  obtain ⟨u, hu, ru⟩ := RelO.some_of (v := v) (o := mA n) (by rw [← l]; exact hr n)
  have J : PySem.W.InstAt s1.heap a _ D (some od) := ⟨h1, rfl, rfl, ho⟩
  exact HandSPX.exc_get I1.kIn J T.ga T.gg T.exC (PySem.W.findObj_own T.hdC hno rfl (by rw [hl, hu])) (handed_of ru) ⟨v, H1, I1.tok _, ru, q⟩
def lookN (n : Str) : List Str → List A → Option A
  | m :: ns, x :: xs => if n == m then some x else lookN n ns xs
  | _, _ => none
theorem lookN_ok {K : PySem.W.Frag} {H : Hp} {loc : List Addr} {n : Str} : ∀ {ns : List Str} {vs : List V} {xs : List A} {x : A}, RAs K H loc vs xs → lookN n ns xs = some x → ∃ v, (ns.zip vs).lookup n = some v ∧ RA K H loc v x
  | [], _, _, _, _, e => by simp [lookN] at e
  | _ :: _, _, _, _, .nil, e => by simp [lookN] at e
  | m :: ns, v :: vs, y :: ys, x, .cons r t, e => by
    unfold lookN at e
    by_cases h : (n == m) = true
    · rw [if_pos h] at e
      cases e
      refine ⟨v, ?_, r⟩
      show List.lookup n ((m, v) :: ns.zip vs) = _
      unfold List.lookup
      rw [h]
    · rw [if_neg h] at e
      obtain ⟨w, h1, h2⟩ := lookN_ok t e
      refine ⟨w, ?_, h2⟩
      show List.lookup n ((m, v) :: ns.zip vs) = _
      unfold List.lookup
      rw [Bool.eq_false_iff.mpr h]
      exact h1
/-- a field of an exception, D of the classes ok -/
def xfA (ok : Addr → Bool) (n : Str) (a : A) : M A := match a with
  | .exc D ns xs => if ok D = true then optM (lookN n ns xs) else bad
  | _ => bad
section
variable {X : Cx} {W : WX}
theorem se_xf (ok : Addr → Bool) {n : Str} {e : Expr} {m : Env → M A} {pos : Pos} (hok : ∀ D, ok D = true → XfC X.K D ∧ PySem.W.findIn X.K (.ref D) n = some none) (h : SE X W e m) (hb : attributeBase e n X.env (eval e X.env) = eval e X.env := by rfl) : SE X W (.Attribute e n pos) (fun δ => bnd (m δ) (xfA ok n)) := fun σ H loc δ μ Q re rs q => by
  refine wE_of (pe_xfV pwE hb) ?_
  refine h.go re rs q fun v x H1 loc1 μ1 g1 rs1 rv re1 q1 => ?_
  unfold xfA at q1
  split at q1
  · rename_i D ns xs
    split at q1
    · rename_i hD
      obtain ⟨T, hno⟩ := hok D hD
      obtain ⟨y, ey, q2⟩ := post_opt q1
      cases rv with
      | exc h1 h2 h3 h4 h5 h6 =>
        obtain ⟨w, l1, l2⟩ := lookN_ok h6 ey
        exact ⟨_, D, _, _, w, rfl, T, hno, h1, h3, l1, q2 w H1 loc1 g1 rs1 l2⟩
      | ex0 h1 h2 => simp [lookN] at ey
    · exact q1.elim
  · exact q1.elim
end
/-! ### making -/
/-- B.__init__(self, ..), B an own class over ValueError -/
theorem pe_oinit {X : Cx} {e : Expr} {es : List Expr} {ta : TA} {B : Addr} {x : Str} {p1 p2 pos : Pos} {pl : Sem Bool} (hg : Gl X x) (hm : X.mg x = some (.ref B)) (hs : PySem.W.specialIn X.K (.ref B) "__getattribute__" = some (some (.builtin "type.__getattribute__"))) (hr : PySem.W.readsIn X.K B (.type "type") = true)
    (vV : PySem.W.findCls X.K (.ref B) (.type "type") "__init__" = some (.val (.builtin "ValueError.__init__"))) (ha : PA X (e :: es) ta)
    (hc : eval (.Call (.Attribute (.Name x p1) "__init__" p2) (e :: es) [] pos) X.env = (do
      let ov ← eval (.Name x p1) X.env
      standAt p2.atName
      let (f, first) ← holding [ov] (getMethod ov "__init__" pl)
      callWith pos f first (backTo pos (starEach (e :: es) X.env)) (backToKw pos (keywordEach [] X.env))) := by rfl)
    (hdb : (x == ("__debug__" : Str)) = false := by decide +kernel)
    (he : starEach (e :: es) X.env = (false, eval e X.env) :: starEach es X.env := by rfl) (hpl : (backTo pos (starEach es X.env)).any (·.1) = false := by rfl) :
    PE X (.Call (.Attribute (.Name x p1) "__init__" p2) (e :: es) [] pos) (tVeI X.K ta) := by
  refine ⟨fun pins s σ H Q I h => ?_⟩
  refine PySem.W.methodCall_KW (ld_glob I hg hm ?_ hdb) hc
  refine PySem.W.method_cls I.kIn hs ?_
  refine PySem.W.cls_value I.kIn hr vV (by decide +kernel) ?_
  show wpAny _ _ (callWith pos (Value.builtin "ValueError.__init__") [] (backTo pos (starEach (e :: es) X.env)) []) _ _ _
  refine PyProof.Rows.callWith_method1 (thn (ha.run pos pins _ σ H _ (I.tok _) h) fun us s1 ⟨vs, H1, I1, r1, a, C, ws, ev, hl, T, ea, q⟩ => ?_) he hpl
  subst ev
  cases r1 with
  | @cons _ u0 _ ur ra rw' =>
    obtain rfl : u0 = Value.ref a := ra
    have hlen : ur.length ≤ sizeLine := by
      rw [← Paired.length rw', sizeLine_eq]
      omega
    exact oinit_ok T I1 ea hlen fun s' J => ⟨.non, H1, J, rfl, q⟩
/-- what C's __init__ (self, y) does: it sets f -/
def spInit (K : PySem.W.Frag) (f : Str) : Sp := fun vs H Q _ => ∃ (a C : Addr) (y : V), vs = [.ref a, y] ∧ OexC K C ∧ PySem.W.findIn K (.ref C) f = some none ∧ H a = some (exo a C none) ∧ ∀ dx, H dx = none → dx ≠ a → Q .non (upd (upd H dx (exd dx [(f, y)])) a (exo a C (some dx)))
/-- C(e, ..) as a value -/
def tMkV (C : Addr) (sp : Sp) (ta : TA) : TE := fun σ H Q => ta σ H fun vs H1 => vs.length ≤ 1000 ∧ ∀ a, H1 a = none → sp (.ref a :: vs) (upd H1 a (exo a C none)) (fun v H2 => v = .non ∧ Q (.ref a) H2) (fun _ _ _ => False)
theorem pe_mkV {X : Cx} {CX : CXT} {x : Str} {C fI : Addr} {k : Nat} {fd : FuncData} {ps : List Str} {sp : Sp} {e : Expr} {es : List Expr} {ta : TA} {p pos : Pos} (T : OexC X.K C) (iC : PySem.W.findIn X.K (.ref C) "__init__" = some (some (.ref fI))) (tI : PySem.W.typeIn X.K (.ref fI) = some (.type "function"))
    (F1 : FnOk X.prog X.w X.K X.mg X.base CX k fI fd ps sp) (hr : Room (k + 1) X.A) (hb : Binds X.K fd ps []) (hx : Passes CX X (fun _ _ _ => False)) (hg : Gl X x) (hm : X.mg x = some (.ref C)) (ha : PA X (e :: es) ta)
    (hdb : (x == ("__debug__" : Str)) = false := by decide +kernel) (he : starEach (e :: es) X.env = (false, eval e X.env) :: starEach es X.env := by rfl) (hpl : (backTo pos (starEach es X.env)).any (·.1) = false := by rfl) :
    PE X (.Call (.Name x p) (e :: es) [] pos) (tMkV C sp ta) := by
  refine ⟨fun pins s σ H Q I h => ?_⟩
  obtain ⟨nm, q, N, bs, bm, sn, sub, ab, col, dd, k0, k1, k2, k3, k5, hC, hbm⟩ := T.cls
  refine wpAny_Call_Name_kw (ld_glob I hg hm ?_ hdb)
  refine PySem.W.callWith_K (h₀ := X.base) I.ok.mod.kin T.kC (thn (ha.run pos pins s σ H _ I h) fun us s1 ⟨vs, H1, I1, r1, hz, q1⟩ => ⟨I1.kIn, ?_⟩) he hpl
  show wpAny _ _ (call (.ref C) us) _ _ _
  obtain ⟨hp, g, dr, tk, os⟩ := s1
  have hsz : hp.objs.size ≤ hp.objs.size + 1 := Nat.le_succ _
  have hn : H1 (hp.objs.size + 1) = none := I1.hok.fresh hsz
  have hq := q1 (hp.objs.size + 1) hn
  have kk : ∀ b o, hp.get? b = some o → ((hp.push (PySem.W.kdv_tup us)).push (PySem.HandSPX.excO C hp.objs.size)).get? b = some o := fun b o e => Heap.get?_push_of_some _ (Heap.get?_push_of_some _ e)
  have hget : ((hp.push (PySem.W.kdv_tup us)).push (PySem.HandSPX.excO C hp.objs.size)).get? (hp.objs.size + 1) = some (PySem.HandSPX.excO C hp.objs.size) := by heap_get
  have I2 : Inv X pins σ (upd H1 (hp.objs.size + 1) (exo (hp.objs.size + 1) C none)) ⟨(hp.push (PySem.W.kdv_tup us)).push (PySem.HandSPX.excO C hp.objs.size), g, dr, tk, os⟩ :=
    I1.laid (t' := tk) (a := hp.objs.size + 1) (o := exo (hp.objs.size + 1) C none) (h' := (hp.push (PySem.W.kdv_tup us)).push (PySem.HandSPX.excO C hp.objs.size)) kk hsz (exo_ok hget)
  have r2 : Vals (V.ref (hp.objs.size + 1) :: vs) (Value.ref (hp.objs.size + 1) :: us) := .cons rfl r1
  have hl : (Value.ref (hp.objs.size + 1) :: us).length = ps.length := by
    have e := r2.length
    rw [F1.len _ _ _ _ hq] at e
    exact e.symm
  have hus : us.length ≤ sizeLine := by
    rw [← Paired.length r1, sizeLine_eq]
    omega
  have hb' := hb _ (Value.ref (hp.objs.size + 1) :: us) I2.kIn (by rw [List.append_nil]; exact hl)
  rw [List.append_nil] at hb'
  refine wpAny_call (PySem.HandSPX.call_own F.excBase_ValueError (fun Y => PySem.HandSPX.refsVE_contains Y bm hbm) (I1.kIn _ _ hC) (PySem.W.looks_findIn I1.kIn iC) (fun self => PySem.W.bind_fn I1.kIn self tI) hus
    (codeAny_mono (F1.run _ X.stack _ _ ⟨Value.ref (hp.objs.size + 1) :: us, []⟩ (Value.ref (hp.objs.size + 1) :: us) _ _ (fun _ _ _ => False) (hr.make C us []) (I2.env0.make C us []) hb' r2 hq) fun r s' hq' => ?_))
  cases r with
  | error er => exact hx pins σ _ _ er s' I2 hq'
  | ok fl =>
    cases fl with
    | ret u =>
      obtain ⟨v, H2, os2, bare2, un2, hok2, rv, ev, q2⟩ := hq'
      subst ev
      obtain ⟨h2, g2, d2, t2, os'⟩ := s'
      exact ⟨rv, .ref (hp.objs.size + 1), H2, I2.call' (ch := []) os2 un2 hok2 bare2 (fun b z => absurd z (by simp)), rfl, q2⟩
    | next => exact False.elim hq'
    | brk => exact False.elim hq'
    | cont => exact False.elim hq'
end Lt

/-! Lt9: methods by name, exceptions made, the defs of a text together, the end. -/
namespace Lt
open PySem PySem.Spec PyProof.Rows L2
section
variable {X : Cx} {W : WX} {o e : Expr} {mo me : Env → M A} {apos pos : Pos}
theorem se_append (ho : SE X W o mo) (he : SE X W e me)
    (hbase : attributeBase o "append" X.env (eval o X.env) = eval o X.env := by rfl)
    (hfew : ((backTo pos (starEach [e] X.env)).all (fun x => !x.1) && (backToKw pos (keywordEach [] X.env)).all (fun x => x.1.isSome)
      && decide (([e] : List Expr).length + ([] : List Keyword).length + (if ([] : List Keyword).isEmpty then 0 else 1) < 30)) = true := by rfl)
    (hline : (apos.endLine == pos.line) = true := by rfl) (hs : starEach [e] X.env = (false, eval e X.env) :: starEach [] X.env := by rfl) (hplain : (backTo pos (starEach [] X.env)).any (·.1) = false := by rfl) :
    SE X W (.Call (.Attribute o "append" apos) [e] [] pos) (fun δ => bnd (mo δ) fun a => bnd (itemsL a) fun _ => bnd (bnd (me δ) fun x => bnd (ret []) fun xs => ret (x :: xs)) fun as => appendA a as) :=
  se_lm PySem.F.slot_list_append PySem.F.type_list_append mt_append sm_append ho (sa_cons he sa_nil hs) hbase hfew hline hs hplain
theorem se_extend (ho : SE X W o mo) (he : SE X W e me)
    (hbase : attributeBase o "extend" X.env (eval o X.env) = eval o X.env := by rfl)
    (hfew : ((backTo pos (starEach [e] X.env)).all (fun x => !x.1) && (backToKw pos (keywordEach [] X.env)).all (fun x => x.1.isSome)
      && decide (([e] : List Expr).length + ([] : List Keyword).length + (if ([] : List Keyword).isEmpty then 0 else 1) < 30)) = true := by rfl)
    (hline : (apos.endLine == pos.line) = true := by rfl) (hs : starEach [e] X.env = (false, eval e X.env) :: starEach [] X.env := by rfl) (hplain : (backTo pos (starEach [] X.env)).any (·.1) = false := by rfl) :
    SE X W (.Call (.Attribute o "extend" apos) [e] [] pos) (fun δ => bnd (mo δ) fun a => bnd (itemsL a) fun _ => bnd (bnd (me δ) fun x => bnd (ret []) fun xs => ret (x :: xs)) fun as => extendA a as) :=
  se_lm PySem.F.slot_list_extend PySem.F.type_list_extend mt_extend sm_extend ho (sa_cons he sa_nil hs) hbase hfew hline hs hplain
theorem se_pop0 (ho : SE X W o mo) (hbase : attributeBase o "pop" X.env (eval o X.env) = eval o X.env := by rfl) (hline : (apos.endLine == pos.line) = true := by rfl) :
    SE X W (.Call (.Attribute o "pop" apos) [] [] pos) (fun δ => bnd (mo δ) fun a => bnd (itemsL a) fun _ => popA a []) :=
  se_lm0 PySem.F.slot_list_pop PySem.F.type_list_pop mt_pop sm_pop ho hbase hline
end
/-! ### exceptions made -/
section
variable {X : Cx} {W : WX}
theorem se_mkV {x : Str} {C fI : Addr} {k : Nat} {fd : FuncData} {ps : List Str} {f : Str} {e : Expr} {m : Env → M A} {p pos : Pos} (T : OexC X.K C) (iC : PySem.W.findIn X.K (.ref C) "__init__" = some (some (.ref fI))) (tI : PySem.W.typeIn X.K (.ref fI) = some (.type "function"))
    (nf : PySem.W.findIn X.K (.ref C) f = some none) (F1 : FnOk X.prog X.w X.K X.mg X.base (L2.CX X.prog X.w) k fI fd ps (spInit X.K f)) (hr : Room (k + 1) X.A) (hb : Binds X.K fd ps []) (hm : X.mg x = some (.ref C)) (h : SE X W e m) (hg : Gl X x := by rfl)
    (hdb : (x == ("__debug__" : Str)) = false := by decide +kernel) (he : starEach [e] X.env = (false, eval e X.env) :: starEach [] X.env := by rfl) (hpl : (backTo pos (starEach [] X.env)).any (·.1) = false := by rfl) :
    SE X W (.Call (.Name x p) [e] [] pos) (fun δ => bnd (m δ) fun a => ret (.exc C [f] [a])) := fun σ H loc δ μ Q re rs q => by
  refine wE_of (pe_mkV T iC tI F1 hr hb (fun pins σ H s e s' I c => passAt takes0 σ pins H s e s' I c) hg hm (pa_cons pwE pa_nil he) hdb he hpl) ?_
  refine h.go re rs q fun v a H1 loc1 μ1 g1 rs1 rv re1 q1 => ?_
  refine ⟨(by show 1 ≤ 1000; decide), fun b hb' => ?_⟩
  refine ⟨b, C, v, rfl, T, nf, upd_same, fun dx hd ne => ⟨rfl, ?_⟩⟩
  rw [upd_ne ne] at hd
  have e1 : upd (upd (upd H1 b (exo b C none)) dx (exd dx [(f, v)])) b (exo b C (some dx)) = upd (upd H1 dx (exd dx [(f, v)])) b (exo b C (some dx)) := by
    funext c
    by_cases h1 : c = b
    · subst h1; rw [upd_same, upd_same]
    · rw [upd_ne h1, upd_ne h1]
      by_cases h2 : c = dx
      · subst h2; rw [upd_same, upd_same]
      · rw [upd_ne h2, upd_ne h2, upd_ne h1]
  rw [e1]
  have g2 : Gr X.K H1 loc1 (upd H1 dx (exd dx [(f, v)])) loc1 := Gr.new hd
  have rs2 := rs1.new (o := exd dx [(f, v)]) hd
  have hb2 : upd H1 dx (exd dx [(f, v)]) b = none := by rw [upd_ne (Ne.symm ne)]; exact hb'
  have g3 : Gr X.K H1 loc1 (upd (upd H1 dx (exd dx [(f, v)])) b (exo b C (some dx))) loc1 := g2.trans (Gr.new hb2)
  exact q1 (.ref b) _ loc1 (g1.trans g3) (rs2.new hb2) (.exc upd_same (rs1.notin hb') (by rw [upd_ne ne]; exact upd_same) (rs1.notin hd) rfl (.cons (rv.mono g3) .nil))
/-- C(e), an own class over ValueError without own __init__ -/
theorem se_mk0 {x : Str} {C : Addr} {e : Expr} {m : Env → M A} {p pos : Pos} (q : PySem.W.excIn X.K C [.type "ValueError", .type "Exception", .type "BaseException", .type "object"] "ValueError.__new__" = true) (hm : X.mg x = some (.ref C)) (kC : PySem.W.keepIn X.K (.ref C) = true) (h : SE X W e m) (hg : Gl X x := by rfl)
    (hs : starEach [e] X.env = (false, eval e X.env) :: starEach [] X.env := by rfl) (hdb : (x == ("__debug__" : Str)) = false := by decide +kernel) :
    SE X W (.Call (.Name x p) [e] [] pos) (fun δ => bnd (m δ) fun _ => ret (.exc C [] [])) := fun σ H loc δ μ Q re rs q' => by
  refine wE_of (pe_exc1 PySem.F.excBase_ValueError q hm kC hg pwE hs hdb) ?_
  refine h.go re rs q' fun v a H1 loc1 μ1 g1 rs1 rv re1 q1 => ?_
  intro b hb
  exact q1 (.ref b) _ loc1 (g1.trans (Gr.new hb)) (rs1.new hb) (.ex0 upd_same (rs1.notin hb))
end
/-! ### what the classes say -/
def excB (K : PySem.W.Frag) (D : Addr) : Bool := decide (PySem.W.findIn K (.ref D) "__getattribute__" = some (some (.builtin "BaseException.__getattribute__"))) && (decide (PySem.W.findIn K (.ref D) "__getattr__" = some none) && (decide (PySem.W.subIn K (.ref D) (.type "BaseException") = some true) && (PySem.W.hasDictIn K D && (decide (PySem.W.findIn K (.ref D) "__class__" = some (some (.builtin "object.__class__"))) && (decide (PySem.W.specialIn K (.builtin "object.__class__") "__get__" = some (some (.builtin "getset_descriptor.__get__"))) && (decide (PySem.W.takesIn K (.builtin "object.__class__") = some true) && decide (PySem.W.mroIn K D (.type "object") = some true)))))))
theorem excB_ok {K : PySem.W.Frag} {D : Addr} (h : excB K D = true) : ExcC K D := by
  obtain ⟨h1, h⟩ := Bool.and_eq_true_iff.mp h
  obtain ⟨h2, h⟩ := Bool.and_eq_true_iff.mp h
  obtain ⟨h3, h⟩ := Bool.and_eq_true_iff.mp h
  obtain ⟨h4, h⟩ := Bool.and_eq_true_iff.mp h
  obtain ⟨h5, h⟩ := Bool.and_eq_true_iff.mp h
  obtain ⟨h6, h⟩ := Bool.and_eq_true_iff.mp h
  obtain ⟨h7, h8⟩ := Bool.and_eq_true_iff.mp h
  exact ⟨of_decide_eq_true h1, of_decide_eq_true h2, of_decide_eq_true h3, h4, of_decide_eq_true h5, of_decide_eq_true h6, of_decide_eq_true h7, of_decide_eq_true h8⟩
/-- what isinstance(an instance of D, c) answers -/
def subK (K : PySem.W.Frag) (c : Value) (D : Addr) : Option Bool := if excB K D = true then PySem.W.kitOne K (.ref D) c else none
theorem subK_ok {K : PySem.W.Frag} {c : Value} {D : Addr} {b : Bool} (h : subK K c D = some b) : ExcC K D ∧ PySem.W.kitOne K (.ref D) c = some b := by
  unfold subK at h
  split at h
  · rename_i e
    exact ⟨excB_ok e, h⟩
  · cases h
def fokK (K : PySem.W.Frag) (n : Str) (D : Addr) : Bool := xfB K D && decide (PySem.W.findIn K (.ref D) n = some none)
theorem fokK_ok {K : PySem.W.Frag} {n : Str} {D : Addr} (h : fokK K n D = true) : XfC K D ∧ PySem.W.findIn K (.ref D) n = some none := by
  obtain ⟨h1, h2⟩ := Bool.and_eq_true_iff.mp h
  exact ⟨xfB_ok h1, of_decide_eq_true h2⟩
def oexB (K : PySem.W.Frag) (C : Addr) : Bool := (match K.lookup C with
  | some ⟨.type "type", _, .cls cd, sl⟩ => (match cd.mro, sl.toList with
    | .ref C' :: bm, [_, _, _, _, some (.builtin n), _] => C' == C && n == "ValueError.__new__" && !cd.hasDel && cd.hasDict && PySem.HandSPX.refsVE bm
    | _, _ => false)
  | _ => false) && (decide (PySem.W.findIn K (.ref C) "__setattr__" = some (some (.builtin "object.__setattr__"))) && (decide (PySem.W.subIn K (.ref C) (.type "BaseException") = some true) && decide (PySem.W.typeIn K (.ref C) = some (.type "type"))))
theorem oexB_ok {K : PySem.W.Frag} {C : Addr} (h : oexB K C = true) (kC : PySem.W.keepIn K (.ref C) = true) : OexC K C := by
  obtain ⟨q, h⟩ := Bool.and_eq_true_iff.mp h
  obtain ⟨h2, h⟩ := Bool.and_eq_true_iff.mp h
  obtain ⟨h3, h4⟩ := Bool.and_eq_true_iff.mp h
  refine ⟨?_, of_decide_eq_true h2, of_decide_eq_true h3, of_decide_eq_true h4, kC⟩
  split at q
  · rename_i dd cd sl ho
    split at q
    · rename_i C' bm k0 k1 k2 k3 n k5 hm hs
      simp only [Bool.and_eq_true, beq_iff_eq, Bool.not_eq_true'] at q
      obtain ⟨⟨⟨⟨rfl, rfl⟩, hdel⟩, hdic⟩, hrf⟩ := q
      obtain ⟨nm, bs, mro, ns, qn, hd, sn, sub, ab, col, del⟩ := cd
      dsimp only at hm hdel hdic
      subst hm hdel hdic
      have hsl : sl = #[k0, k1, k2, k3, some (.builtin "ValueError.__new__"), k5] := by
        obtain ⟨l⟩ := sl
        simp only at hs
        rw [hs]
      subst hsl
      exact ⟨nm, qn, ns, bs, bm, sn, sub, ab, col, dd, k0, k1, k2, k3, k5, ho, hrf⟩
    · cases q
  · cases q
theorem cx_none {P : Program} {w : World} {H : Hp} {s : Shared} {e : Value} {s' : Shared} (z : L2.CX P w [] H s (fun _ _ _ => False) e s') : False := by
  obtain ⟨_, _, _, _, _, _, _, _, _, _, _, _, q⟩ := z
  exact q
/-! ### defs together -/
section
variable {P : Program} {w : World} {K : PySem.W.Frag} {mg : Str → Option Value} {base : Heap}
theorem fnM_bad {k : Nat} {f : Addr} {fd : FuncData} {ps : List Str} : FnM P w K mg base k f fd ps (fun _ => bad) :=
  ⟨fun vs H Q E h => by obtain ⟨_, _, _, _, _, _, z⟩ := h; exact z.elim, fun A outer s H args us vs Q E _ _ _ _ h => by obtain ⟨_, _, _, _, _, _, z⟩ := h; exact z.elim⟩
/-- a promise made weaker -/
theorem fnOk_weak {CX : CXT} {k : Nat} {f : Addr} {fd : FuncData} {ps : List Str} {sp sp' : Sp} (F : FnOk P w K mg base CX k f fd ps sp) (h : ∀ vs H Q E, sp' vs H Q E → sp vs H Q E) : FnOk P w K mg base CX k f fd ps sp' :=
  ⟨fun vs H Q E q => F.len vs H Q E (h _ _ _ _ q), fun A outer s H args us vs Q E a b c d q => F.run A outer s H args us vs Q E a b c d (h _ _ _ _ q)⟩
/-- what law(script) is asked -/
def spLaw (K : PySem.W.Frag) : Sp := fun vs H Q _ => ∃ (a : Addr) (ns : List Int), vs = [.ref a] ∧ SqL K H a (ns.map V.int) ∧ ns.length ≤ 63 ∧ ∀ H', Q (.bl true) H'
theorem ints_RAs {H : Hp} {loc : List Addr} : ∀ ns : List Int, RAs K H loc (ns.map V.int) (ns.map A.int)
  | [] => .nil
  | n :: ns => .cons (.int n) (ints_RAs ns)
/-- the script as an argument -/
def Scr (a : A) (μ : Sto) (ns : List Int) : Prop := (a = .rol (ns.map A.int) ∧ μ = []) ∨ (a = .hd 0 ∧ μ = [.lst (ns.map A.int)])
theorem law_of {k : Nat} {f : Addr} {fd : FuncData} {x : Str} {mf : List A → M A} (F : FnM P w K mg base k f fd [x] mf) (h : ∀ (ns : List Int) (a : A) (μ : Sto), ns.length ≤ 63 → Scr a μ ns → (mf [a] μ).post (fun r _ => r = .bl true) (fun _ _ => False)) :
    FnOk P w K mg base (L2.CX P w) k f fd [x] (spLaw K) := fnOk_weak F fun vs H Q E q => by
  obtain ⟨a, ns, rfl, hq, hl, q⟩ := q
  have hz : (ns.map V.int).length ≤ sizeLine := by
    rw [List.length_map, sizeLine_eq]
    omega
  have fin : ∀ {H : Hp} {loc : List Addr} {r : Res A}, r.post (fun r _ => r = .bl true) (fun _ _ => False) → r.post (fun a μ' => ∀ (v : V) (H' : Hp) (loc' : List Addr), Gr K H loc H' loc' → RS K H' loc' μ' → RA K H' loc' v a → Q v H')
      (fun x μ' => ∀ (H' : Hp) (loc' : List Addr) (cls : Value) (d : Option Addr), Gr K H loc H' loc' → RS K H' loc' μ' → RX K H' loc' x cls d → E cls d H') := fun z => post_mono z (fun a μ' e v H' loc' _ _ ra => by
    subst e
    cases ra
    exact q H') fun _ _ z => z.elim
  rcases hq with hq | hq
  · rcases hq with hq | ⟨o, hq⟩
    · refine ⟨[a], [.lst (ns.map A.int)], [.hd 0], rfl, ⟨rfl, by simp, fun n m e => ?_⟩, .cons (.hd rfl) .nil, fin (h ns _ _ hl (.inr ⟨rfl, rfl⟩))⟩
      cases n with
      | zero =>
        cases e
        exact ⟨a, _, rfl, hq, _, rfl, hz, ints_RAs ns⟩
      | succ n => simp at e
    · exact ⟨[], [], [.rol (ns.map A.int)], rfl, RS.nil, .cons (.rol (.inl ⟨o, hq⟩) hz (ints_RAs ns)) .nil, fin (h ns _ _ hl (.inl ⟨rfl, rfl⟩))⟩
  · exact ⟨[], [], [.rol (ns.map A.int)], rfl, RS.nil, .cons (.rol (.inr hq) hz (ints_RAs ns)) .nil, fin (h ns _ _ hl (.inl ⟨rfl, rfl⟩))⟩
end
end Lt

/-! Lt10: runs of mirrors in plain Lean: what a run gives, as rewriting rules. -/
namespace Lt
open PySem PySem.Spec PyProof.Rows L2
/-- what a statement's run gives: goes on, returns, breaks, continues; nothing is raised -/
def fin (r : Res Fl) (Kn : Env → Sto → Prop) (Kr : A → Sto → Prop) (Kb Kc : Env → Sto → Prop) : Prop := match r with
  | .ok (.nx δ) μ => Kn δ μ
  | .ok (.rt a) μ => Kr a μ
  | .ok (.bk δ) μ => Kb δ μ
  | .ok (.ct δ) μ => Kc δ μ
  | _ => False
/-- the same of an expression -/
abbrev gives {α : Type} (r : Res α) (K : α → Sto → Prop) : Prop := r.post K NX
section
variable {μ : Sto} {δ : Env} {Kn Kb Kc : Env → Sto → Prop} {Kr : A → Sto → Prop} {α β : Type}
@[simp] theorem w_bnd {m : M α} {k : α → M β} {K : β → Sto → Prop} : gives (bnd m k μ) K ↔ gives (m μ) fun a μ' => gives (k a μ') K := post_bnd
@[simp] theorem w_ret {a : α} {K : α → Sto → Prop} : gives (ret a μ) K ↔ K a μ := Iff.rfl
@[simp] theorem w_bad {K : α → Sto → Prop} : gives ((bad : M α) μ) K ↔ False := Iff.rfl
@[simp] theorem w_ok {a : α} {K : α → Sto → Prop} : gives (.ok a μ) K ↔ K a μ := Iff.rfl
@[simp] theorem w_noX {m : M α} {K : α → Sto → Prop} : gives (noX m μ) K ↔ gives (m μ) K := by
  unfold noX gives
  cases m μ <;> exact Iff.rfl
@[simp] theorem w_optS {a : α} {K : α → Sto → Prop} : gives (optM (some a) μ) K ↔ K a μ := Iff.rfl
theorem w_opt {o : Option α} {K : α → Sto → Prop} : gives (optM o μ) K ↔ ∃ a, o = some a ∧ K a μ := by
  cases o with
  | none => exact ⟨fun h => h.elim, fun ⟨_, h, _⟩ => by cases h⟩
  | some a => exact ⟨fun h => ⟨a, rfl, h⟩, fun ⟨_, h, q⟩ => by cases h; exact q⟩
@[simp] theorem f_inS {m : M α} {k : α → M Fl} {δ0 : Env} : fin (inS m δ0 k μ) Kn Kr Kb Kc ↔ gives (m μ) fun a μ' => fin (k a μ') Kn Kr Kb Kc := by
  unfold inS gives
  cases m μ <;> exact Iff.rfl
@[simp] theorem f_bnd {m : M α} {k : α → M Fl} : fin (bnd m k μ) Kn Kr Kb Kc ↔ gives (m μ) fun a μ' => fin (k a μ') Kn Kr Kb Kc := by
  unfold bnd gives
  cases m μ <;> exact Iff.rfl
@[simp] theorem f_seq {m k : Env → M Fl} : fin (seqM m k δ μ) Kn Kr Kb Kc ↔ fin (m δ μ) (fun δ' μ' => fin (k δ' μ') Kn Kr Kb Kc) Kr Kb Kc := by
  unfold seqM bnd
  cases m δ μ with
  | ok fl μ' => cases fl <;> exact Iff.rfl
  | _ => exact Iff.rfl
theorem f_mono {r : Res Fl} {Kn' : Env → Sto → Prop} (h : fin r Kn Kr Kb Kc) (k : ∀ δ μ, Kn δ μ → Kn' δ μ) : fin r Kn' Kr Kb Kc := by
  cases r with
  | ok fl μ' =>
    cases fl with
    | nx δ => exact k _ _ h
    | _ => exact h
  | _ => exact h
@[simp] theorem f_nx : fin (ret (.nx δ) μ) Kn Kr Kb Kc ↔ Kn δ μ := Iff.rfl
@[simp] theorem f_rt {a : A} : fin (ret (.rt a) μ) Kn Kr Kb Kc ↔ Kr a μ := Iff.rfl
@[simp] theorem f_bk : fin (ret (.bk δ) μ) Kn Kr Kb Kc ↔ Kb δ μ := Iff.rfl
@[simp] theorem f_ct : fin (ret (.ct δ) μ) Kn Kr Kb Kc ↔ Kc δ μ := Iff.rfl
@[simp] theorem w_run {n : Nat} {m : Env → M Fl} {as : List A} {K : A → Sto → Prop} : gives (runBody n m as μ) K ↔ fin (m (startE n as) μ) (fun _ μ' => K .non μ') K (fun _ _ => False) (fun _ _ => False) := by
  unfold runBody fin gives
  cases m (startE n as) μ with
  | ok fl μ' => cases fl <;> exact Iff.rfl
  | _ => exact Iff.rfl
@[simp] theorem w_call {n : Nat} {mf : List A → M A} {as : List A} {K : A → Sto → Prop} : gives (callM n mf as μ) K ↔ as.length = n ∧ gives (mf as μ) K := by
  unfold callM
  split
  · rename_i h
    exact ⟨fun q => ⟨h, q⟩, fun q => q.2⟩
  · rename_i h
    exact ⟨fun q => q.elim, fun q => absurd q.1 h⟩
/-- the monad's rules -/
theorem wM : (∀ {μ : Sto} {m : M α} {k : α → M β} {K : β → Sto → Prop}, gives (bnd m k μ) K ↔ gives (m μ) fun a μ' => gives (k a μ') K) ∧ True := ⟨w_bnd, trivial⟩
/-! ### names -/
@[simp] theorem g_zero {a : A} {K : A → Sto → Prop} : gives (getv (some a :: δ) 0 μ) K ↔ K a μ := Iff.rfl
@[simp] theorem g_succ {o : Option A} {n : Nat} {K : A → Sto → Prop} : gives (getv (o :: δ) (n + 1) μ) K ↔ gives (getv δ n μ) K := by
  unfold getv
  rw [List.getElem?_cons_succ]
@[simp] theorem w_setG {i : Nat} {a : A} {K : Env → Sto → Prop} : gives (setG i a δ μ) K ↔ K (δ.set i (some a)) μ := Iff.rfl
@[simp] theorem w_gsNil {K : Env → Sto → Prop} : gives (gsNil [] δ μ) K ↔ K δ μ := Iff.rfl
@[simp] theorem w_gsCons {g : A → Env → M Env} {gs : List A → Env → M Env} {a : A} {as : List A} {K : Env → Sto → Prop} : gives (gsCons g gs (a :: as) δ μ) K ↔ gives (g a δ μ) fun δ' μ' => gives (gs as δ' μ') K := post_bnd
@[simp] theorem w_tupG {n : Nat} {gs : List A → Env → M Env} {xs : List A} {K : Env → Sto → Prop} : gives (tupG n gs (.tup xs) δ μ) K ↔ xs.length = n ∧ gives (gs xs δ μ) K := by
  unfold tupG
  simp only
  split
  · rename_i h
    exact ⟨fun q => ⟨h, q⟩, fun q => q.2⟩
  · rename_i h
    exact ⟨fun q => q.elim, fun q => absurd q.1 h⟩
@[simp] theorem w_subG {mo mi : Env → M A} {v : A} {K : Env → Sto → Prop} : gives (subG mo mi v δ μ) K ↔ gives (mo δ μ) fun o μ1 => gives (mi δ μ1) fun i μ2 => gives (setA o i v μ2) fun _ μ3 => K δ μ3 := by
  unfold subG
  rw [w_bnd, w_noX]
  refine iff_of_eq (congrArg _ (funext fun o => funext fun μ1 => propext ?_))
  rw [w_bnd, w_noX]
  refine iff_of_eq (congrArg _ (funext fun i => funext fun μ2 => propext ?_))
  rw [w_bnd]
  exact Iff.rfl
/-! ### numbers -/
variable {i j : Int} {K : A → Sto → Prop} {KB : Bool → Sto → Prop}
@[simp] theorem w_add : gives (addA (.int i) (.int j) μ) K ↔ K (.int (i + j)) μ := Iff.rfl
@[simp] theorem w_sub : gives (subA (.int i) (.int j) μ) K ↔ K (.int (i - j)) μ := Iff.rfl
theorem ite_bad {c : Prop} [Decidable c] {m : M α} {K : α → Sto → Prop} : gives ((if c then m else bad) μ) K ↔ c ∧ gives (m μ) K := by
  split
  · rename_i h
    exact ⟨fun q => ⟨h, q⟩, fun q => q.2⟩
  · rename_i h
    exact ⟨fun q => q.elim, fun q => absurd q.1 h⟩
@[simp] theorem w_mul : gives (mulA (.int i) (.int j) μ) K ↔ CMul i j ∧ K (.int (i * j)) μ := ite_bad
@[simp] theorem w_mod : gives (modA (.int i) (.int j) μ) K ↔ 0 < j ∧ K (.int (i % j)) μ := ite_bad
@[simp] theorem w_fdiv : gives (fdivA (.int i) (.int j) μ) K ↔ CDiv i j ∧ K (.int (i / j)) μ := ite_bad
@[simp] theorem w_pow : gives (powA (.int i) (.int j) μ) K ↔ CPow i j ∧ K (.int (i ^ j.toNat)) μ := ite_bad
@[simp] theorem w_lt : gives (ltA (.int i) (.int j) μ) K ↔ K (.bl (decide (i < j))) μ := Iff.rfl
@[simp] theorem w_le : gives (leA (.int i) (.int j) μ) K ↔ K (.bl (decide (i ≤ j))) μ := Iff.rfl
@[simp] theorem w_gt : gives (gtA (.int i) (.int j) μ) K ↔ K (.bl (decide (j < i))) μ := Iff.rfl
@[simp] theorem w_ge : gives (geA (.int i) (.int j) μ) K ↔ K (.bl (decide (j ≤ i))) μ := Iff.rfl
@[simp] theorem w_asB {b : Bool} : gives (asB (.bl b) μ) KB ↔ KB b μ := Iff.rfl
@[simp] theorem w_int : gives (intA [.int i] μ) K ↔ K (.int i) μ := Iff.rfl
@[simp] theorem w_intB {b : Bool} : gives (intA [.bl b] μ) K ↔ K (.int (if b then 1 else 0)) μ := Iff.rfl
@[simp] theorem w_eqI : gives (eqA (.int i) (.int j) μ) K ↔ K (.bl (decide (i = j))) μ := Iff.rfl
@[simp] theorem w_neI : gives (neA (.int i) (.int j) μ) K ↔ K (.bl (!decide (i = j))) μ := Iff.rfl
@[simp] theorem w_eqT {s t : Str} : gives (eqA (.str s) (.str t) μ) K ↔ K (.bl (decide (s = t))) μ := Iff.rfl
@[simp] theorem w_neT {s t : Str} : gives (neA (.str s) (.str t) μ) K ↔ K (.bl (!decide (s = t))) μ := Iff.rfl
@[simp] theorem w_eqB {s t : Bool} : gives (eqA (.bl s) (.bl t) μ) K ↔ K (.bl (decide (s = t))) μ := Iff.rfl
@[simp] theorem w_truB {b : Bool} : gives (truA (.bl b) μ) KB ↔ KB b μ := Iff.rfl
@[simp] theorem w_truI : gives (truA (.int i) μ) KB ↔ KB (i != 0) μ := Iff.rfl
@[simp] theorem w_isNn {a : A} : gives (isA a .non μ) K ↔ K (.bl (isN a)) μ := by unfold isA; exact Iff.rfl
@[simp] theorem w_nisN {a : A} : gives (nisA a .non μ) K ↔ K (.bl (!isN a)) μ := by unfold nisA; exact Iff.rfl
@[simp] theorem w_isBl {a b : Bool} : gives (isA (.bl a) (.bl b) μ) K ↔ K (.bl (decide (a = b))) μ := Iff.rfl
/-! ### sequences -/
@[simp] theorem w_mkTup {as : List A} : gives (mkTup as μ) K ↔ as.length ≤ sizeLine ∧ K (.tup as) μ := ite_bad
@[simp] theorem w_mkLst {as : List A} : gives (mkLst as μ) K ↔ as.length ≤ sizeLine ∧ K (.hd μ.length) (μ ++ [.lst as]) := ite_bad
@[simp] theorem w_lstF {as : List A} : gives (lstF as μ) K ↔ K (.hd μ.length) (μ ++ [.lst as]) := Iff.rfl
@[simp] theorem w_tupF {as : List A} : gives (tupF as μ) K ↔ K (.tup as) μ := Iff.rfl
@[simp] theorem w_addT {xs ys : List A} : gives (addA (.tup xs) (.tup ys) μ) K ↔ xs.length + ys.length ≤ sizeLine ∧ K (.tup (xs ++ ys)) μ := ite_bad
@[simp] theorem w_addS {s t : Str} : gives (addA (.str s) (.str t) μ) K ↔ s.length + t.length ≤ sizeLine ∧ K (.str (s ++ t)) μ := ite_bad
theorem w_itemsL {n : Nat} {xs : List A} {KL : List A → Sto → Prop} (h : μ[n]? = some (.lst xs)) : gives (itemsL (.hd n) μ) KL ↔ KL xs μ := by
  unfold itemsL
  simp only [h]
  exact Iff.rfl
@[simp] theorem w_itemsR {xs : List A} {KL : List A → Sto → Prop} : gives (itemsL (.rol xs) μ) KL ↔ KL xs μ := Iff.rfl
@[simp] theorem w_itemsT {xs : List A} {KL : List A → Sto → Prop} : gives (items (.tup xs) μ) KL ↔ KL xs μ := Iff.rfl
theorem w_itemsH {n : Nat} {xs : List A} {KL : List A → Sto → Prop} (h : μ[n]? = some (.lst xs)) : gives (items (.hd n) μ) KL ↔ KL xs μ := w_itemsL h
theorem w_append {n : Nat} {xs : List A} {x : A} (h : μ[n]? = some (.lst xs)) : gives (appendA (.hd n) [x] μ) K ↔ xs.length < sizeLine ∧ K .non (μ.set n (.lst (xs ++ [x]))) := by
  unfold appendA
  simp only [h]
  split
  · rename_i q
    exact ⟨fun z => ⟨q, z⟩, fun z => z.2⟩
  · rename_i q
    exact ⟨fun z => z.elim, fun z => absurd z.1 q⟩
theorem w_pop {n : Nat} {xs : List A} {x : A} (h : μ[n]? = some (.lst (xs ++ [x]))) : gives (popA (.hd n) [] μ) K ↔ K x (μ.set n (.lst xs)) := by
  unfold popA
  simp only [h, List.length_append, List.length_singleton, Nat.add_sub_cancel, List.getElem?_concat_length, List.dropLast_concat]
  exact Iff.rfl
@[simp] theorem w_lenT {xs : List A} : gives (lenA [.tup xs] μ) K ↔ K (.int xs.length) μ := Iff.rfl
theorem w_lenH {n : Nat} {xs : List A} (h : μ[n]? = some (.lst xs)) : gives (lenA [.hd n] μ) K ↔ K (.int xs.length) μ := by
  unfold lenA
  simp only [h]
  exact Iff.rfl
@[simp] theorem w_lenS {s : Str} : gives (lenA [.str s] μ) K ↔ s.length ≤ sizeLine ∧ K (.int s.length) μ := by
  unfold lenA
  simp only
  split
  · rename_i q
    exact ⟨fun z => ⟨q, z⟩, fun z => z.2⟩
  · rename_i q
    exact ⟨fun z => z.elim, fun z => absurd z.1 q⟩
@[simp] theorem w_ixT {xs : List A} : gives (ixA (.tup xs) (.int i) μ) K ↔ ∃ a, atI xs i = some a ∧ K a μ := by
  unfold ixA
  exact w_opt
theorem w_ixH {n : Nat} {xs : List A} (h : μ[n]? = some (.lst xs)) : gives (ixA (.hd n) (.int i) μ) K ↔ ∃ a, atI xs i = some a ∧ K a μ := by
  unfold ixA
  simp only [h]
  exact w_opt
@[simp] theorem w_ixS {s : Str} : gives (ixA (.str s) (.int i) μ) K ↔ s.length ≤ sizeLine ∧ ∃ c, atI s.cps.toList i = some c ∧ K (.str ⟨#[c]⟩) μ := by
  unfold ixA
  simp only
  split
  · rename_i q
    refine ⟨fun z => ⟨q, ?_⟩, fun ⟨_, c, e, z⟩ => ?_⟩
    · obtain ⟨a, e, z⟩ := w_opt.mp z
      cases e2 : atI s.cps.toList i with
      | none => rw [e2] at e; cases e
      | some c =>
        rw [e2] at e
        cases e
        exact ⟨c, rfl, z⟩
    · rw [e]
      exact z
  · rename_i q
    exact ⟨fun z => z.elim, fun z => absurd z.1 q⟩
theorem w_setL {n : Nat} {xs : List A} {v : A} {KU : Unit → Sto → Prop} (h : μ[n]? = some (.lst xs)) : gives (setA (.hd n) (.int i) v μ) KU ↔ ∃ k, ixN xs.length i = some k ∧ KU () (μ.set n (.lst (xs.set k v))) := by
  unfold setA
  simp only [h]
  cases e : ixN xs.length i with
  | none => exact ⟨fun z => z.elim, fun ⟨_, z, _⟩ => by cases z⟩
  | some k => exact ⟨fun z => ⟨k, rfl, z⟩, fun ⟨_, z, q⟩ => by cases z; exact q⟩
@[simp] theorem w_part {KO : Option Int → Sto → Prop} : gives (partM (.int i) μ) KO ↔ KO (some i) μ := Iff.rfl
theorem w_rev {n : Nat} {xs : List A} (h : μ[n]? = some (.lst xs)) : gives (revA (.hd n) μ) K ↔ K (.hd μ.length) (μ ++ [.lst xs.reverse]) := by
  unfold revA
  rw [w_bnd, w_itemsL h]
  exact Iff.rfl
theorem w_addH {n m : Nat} {xs ys : List A} (h : μ[n]? = some (.lst xs)) (h2 : μ[m]? = some (.lst ys)) : gives (addA (.hd n) (.hd m) μ) K ↔ xs.length + ys.length ≤ sizeLine ∧ K (.hd μ.length) (μ ++ [.lst (xs ++ ys)]) := by
  unfold addA
  simp only [h, h2]
  split
  · rename_i q
    exact ⟨fun z => ⟨q, z⟩, fun z => z.2⟩
  · rename_i q
    exact ⟨fun z => z.elim, fun z => absurd z.1 q⟩
section
variable {x0 x1 x2 x3 x4 x5 : α} {r : List α} {n : Nat}
@[simp] theorem ixN_0 : ixN (n + 1) 0 = some 0 := by unfold ixN; rw [if_pos (by decide), if_pos (by omega)] <;> rfl
@[simp] theorem ixN_1 : ixN (n + 1 + 1) 1 = some 1 := by unfold ixN; rw [if_pos (by decide), if_pos (by omega)] <;> rfl
@[simp] theorem atI_0 : atI (x0 :: r) 0 = some x0 := by unfold atI; simp
@[simp] theorem atI_1 : atI (x0 :: x1 :: r) 1 = some x1 := by unfold atI; simp
theorem atI_nat (xs : List α) (k : Nat) (h : k < xs.length) : atI xs (k : Int) = some xs[k] := by
  unfold atI ixN
  rw [if_pos (by omega), if_pos (by omega)]
  simp [h]
@[simp] theorem atI_2 : atI (x0 :: x1 :: x2 :: r) 2 = some x2 := atI_nat (x0 :: x1 :: x2 :: r) 2 (by simp)
@[simp] theorem atI_3 : atI (x0 :: x1 :: x2 :: x3 :: r) 3 = some x3 := atI_nat (x0 :: x1 :: x2 :: x3 :: r) 3 (by simp)
@[simp] theorem atI_4 : atI (x0 :: x1 :: x2 :: x3 :: x4 :: r) 4 = some x4 := atI_nat (x0 :: x1 :: x2 :: x3 :: x4 :: r) 4 (by simp)
theorem atI_in {xs : List α} {i : Int} (h0 : 0 ≤ i) (h1 : i < xs.length) : ∃ a, atI xs i = some a ∧ a ∈ xs := by
  obtain ⟨k, rfl⟩ : ∃ k : Nat, i = (k : Int) := ⟨i.toNat, by omega⟩
  have hk : k < xs.length := by omega
  exact ⟨xs[k], atI_nat xs k hk, List.getElem_mem hk⟩
end
theorem gm {r : Res α} {K K' : α → Sto → Prop} (h : gives r K) (k : ∀ a μ, K a μ → K' a μ) : gives r K' := post_mono h k fun _ _ z => z
@[simp] theorem w_strM {s : Str} {KS : Str → Sto → Prop} : gives (strM (.str s) μ) KS ↔ KS s μ := Iff.rfl
theorem w_enumH {n : Nat} {xs : List A} {KI : MIt → Sto → Prop} (h : μ[n]? = some (.lst xs)) : gives (enumM [.hd n] μ) KI ↔ KI ⟨pairsFrom 0 xs, [(n, xs)]⟩ μ := by
  unfold enumM
  rw [w_bnd, w_itemsL h]
  exact Iff.rfl
theorem still_one {n : Nat} {ys xs : List A} (h : μ[n]? = some (.lst xs)) : (MIt.mk ys [(n, xs)]).still μ := fun p hp => by
  rw [List.mem_singleton.mp hp]
  exact h
theorem cmulL {i j : Int} (h0 : -(2 ^ 64) < i) (h1 : i < 2 ^ 64) : CMul i j := .inl ⟨h0, h1⟩
theorem cmulR {i j : Int} (h0 : -(2 ^ 64) < j) (h1 : j < 2 ^ 64) : CMul i j := .inr ⟨h0, h1⟩
@[simp] theorem wipeE_nil : wipeE δ [] = δ := rfl
@[simp] theorem wipeE_cons {v : Nat} {vs : List Nat} : wipeE δ (v :: vs) = (wipeE δ vs).set v none := rfl
theorem get_0 {μ : List β} {a : β} : (μ ++ [a])[μ.length]? = some a := by simp
theorem get_1 {μ : List β} {a b : β} : (μ ++ [a] ++ [b])[μ.length]? = some a := by simp
theorem get_2 {μ : List β} {a b : β} : (μ ++ [a] ++ [b])[(μ ++ [a]).length]? = some b := by simp
theorem get_app {μ more : List β} {n : Nat} {a : β} (h : μ[n]? = some a) : (μ ++ more)[n]? = some a := by rw [List.getElem?_append_left (List.getElem?_eq_some_iff.mp h).1]; exact h
/-! ### equality, kinds -/
theorem eqS_self {a : A} {k : Bool} (h : eqS a a = some k) : k = true := by
  cases a <;> simp [eqS] at h <;> first | exact h | exact h.symm
theorem eqB_self {a : A} {d : PyData} (h : datS μ a = some d) (hs : SeqAt.shaped d = true) : eqB μ a a = some true := by
  unfold eqB
  cases e : eqS a a with
  | some k => simp only; rw [eqS_self e]
  | none =>
    simp only [h]
    rw [if_pos ⟨hs, hs⟩, SeqAt.eqv_refl d (SeqAt.canLay_of_shaped hs)]
theorem w_eq_self {a : A} {d : PyData} (h : datS μ a = some d) (hs : SeqAt.shaped d = true) : gives (eqA a a μ) K ↔ K (.bl true) μ := by
  unfold eqA
  simp only [eqB_self h hs]
  exact Iff.rfl
theorem w_ne_self {a : A} {d : PyData} (h : datS μ a = some d) (hs : SeqAt.shaped d = true) : gives (neA a a μ) K ↔ K (.bl false) μ := by
  unfold neA
  simp only [eqB_self h hs]
  exact Iff.rfl
theorem w_eqD {a b : A} {d e : PyData} (hn : eqS a b = none) (h : datS μ a = some d) (h2 : datS μ b = some e) (hs : SeqAt.shaped d = true) (hs2 : SeqAt.shaped e = true) : gives (eqA a b μ) K ↔ K (.bl (PyData.eqv d e)) μ := by
  unfold eqA eqB
  simp only [hn, h, h2, hs, hs2, and_self, if_true]
  exact Iff.rfl
theorem w_neD {a b : A} {d e : PyData} (hn : eqS a b = none) (h : datS μ a = some d) (h2 : datS μ b = some e) (hs : SeqAt.shaped d = true) (hs2 : SeqAt.shaped e = true) : gives (neA a b μ) K ↔ K (.bl (!PyData.eqv d e)) μ := by
  unfold neA eqB
  simp only [hn, h, h2, hs, hs2, and_self, if_true]
  exact Iff.rfl
theorem w_isi {T t : String} {b : Bool} {a : A} (h : typA μ a = some t) (h2 : kitB t T = some b) : gives (isiA T a μ) K ↔ K (.bl b) μ := by
  unfold isiA
  simp only [h, h2]
  exact Iff.rfl
@[simp] theorem w_isi_ss {s : Str} : gives (isiA "str" (.str s) μ) K ↔ K (.bl true) μ := w_isi rfl (by decide +kernel)
@[simp] theorem w_isi_ii : gives (isiA "int" (.int i) μ) K ↔ K (.bl true) μ := w_isi rfl (by decide +kernel)
@[simp] theorem w_isi_ib : gives (isiA "bool" (.int i) μ) K ↔ K (.bl false) μ := w_isi rfl (by decide +kernel)
@[simp] theorem w_isi_tt {xs : List A} : gives (isiA "tuple" (.tup xs) μ) K ↔ K (.bl true) μ := w_isi rfl (by decide +kernel)
@[simp] theorem w_isx {sub : Addr → Option Bool} {D : Addr} {ns : List Str} {xs : List A} : gives (isxA sub (.exc D ns xs) μ) K ↔ ∃ b, sub D = some b ∧ K (.bl b) μ := by
  unfold isxA
  rw [w_bnd, w_opt]
  exact Iff.rfl
theorem w_xf {ok : Addr → Bool} {n : Str} {D : Addr} {ns : List Str} {xs : List A} {x : A} (h : ok D = true) (h2 : lookN n ns xs = some x) : gives (xfA ok n (.exc D ns xs) μ) K ↔ K x μ := by
  unfold xfA
  simp only [h, h2, if_true]
  exact Iff.rfl
theorem w_xf1 {ok : Addr → Bool} {n : Str} {D : Addr} {x : A} (h : ok D = true) : gives (xfA ok n (.exc D [n] [x]) μ) K ↔ K x μ := w_xf h (by unfold lookN; rw [if_pos (by simp)])
/-! ### loops -/
open Classical in
/-- a loop's rule: what holds before item k -/
theorem f_for {g : A → Env → M Env} {body : Env → M Fl} {mi : MIt} (I : List A → Env → Sto → Prop) (hI : ∀ a as δ μ, I (a :: as) δ μ → mi.still μ ∧ gives (g a δ μ) fun δ1 μ1 => fin (body δ1 μ1) (I as) Kr Kn (I as)) (hn : ∀ δ μ, I [] δ μ → mi.still μ ∧ Kn δ μ) :
    ∀ (as : List A) (δ : Env) (μ : Sto), I as δ μ → fin (forM' g body mi as δ μ) Kn Kr Kb Kc
  | [], δ, μ, h => by
    obtain ⟨s, q⟩ := hn δ μ h
    simp only [forM', if_pos s]
    exact q
  | a :: as, δ, μ, h => by
    obtain ⟨s, q⟩ := hI a as δ μ h
    simp only [forM', if_pos s]
    rw [f_bnd]
    refine post_mono q (fun δ1 μ1 z => ?_) fun _ _ z => z
    unfold bnd
    revert z
    cases body δ1 μ1 with
    | ok fl μ2 =>
      cases fl with
      | nx δ2 => exact fun z => f_for I hI hn as δ2 μ2 z
      | ct δ2 => exact fun z => f_for I hI hn as δ2 μ2 z
      | bk δ2 => exact fun z => z
      | rt a => exact fun z => z
      | rs x δ2 => exact fun z => z.elim
    | _ => exact fun z => z.elim
@[simp] theorem f_forS {m : Env → M MIt} {g : A → Env → M Env} {body : Env → M Fl} : fin (forS m g body δ μ) Kn Kr Kb Kc ↔ gives (m δ μ) fun mi μ' => fin (forM' g body mi mi.items δ μ') Kn Kr Kb Kc := f_inS
open Classical in
/-- a comprehension's rule: ys so far -/
theorem w_lc {g : A → Env → M Env} {t : Env → M Bool} {elt : Env → M A} {mi : MIt} {δ : Env} (I : List A → List A → Sto → Prop) {KL : List A → Sto → Prop}
    (hI : ∀ a as ys μ, I (a :: as) ys μ → mi.still μ ∧ gives (g a δ μ) fun δ1 μ1 => gives (t δ1 μ1) fun k μ2 => match k with | true => gives (elt δ1 μ2) fun y μ3 => I as (ys ++ [y]) μ3 | false => I as ys μ2) (hn : ∀ ys μ, I [] ys μ → mi.still μ ∧ KL ys μ) :
    ∀ (as ys : List A) (μ : Sto), I as ys μ → gives (lcM g t elt mi δ as μ) fun zs μ' => KL (ys ++ zs) μ'
  | [], ys, μ, h => by
    obtain ⟨s, q⟩ := hn ys μ h
    simp only [lcM, if_pos s]
    rw [w_ok, List.append_nil]
    exact q
  | a :: as, ys, μ, h => by
    obtain ⟨s, q⟩ := hI a as ys μ h
    simp only [lcM, if_pos s]
    rw [w_bnd, w_noX]
    refine post_mono q (fun δ1 μ1 z => ?_) fun _ _ z => z
    rw [w_bnd, w_noX]
    refine post_mono z (fun k μ2 z => ?_) fun _ _ z => z
    cases k with
    | false => exact w_lc I hI hn as ys μ2 z
    | true =>
      show gives (bnd _ _ μ2) _
      rw [w_bnd, w_noX]
      refine post_mono z (fun y μ3 z => ?_) fun _ _ z => z
      rw [w_bnd, w_noX]
      refine post_mono (w_lc I hI hn as (ys ++ [y]) μ3 z) (fun zs μ4 z => ?_) fun _ _ z => z
      rw [w_ret]
      rw [List.append_assoc] at z
      exact z
/-- .. over what nobody changes, item by item -/
@[simp] theorem w_lcN {g : A → Env → M Env} {t : Env → M Bool} {elt : Env → M A} {its : List A} {δ : Env} {KL : List A → Sto → Prop} : gives (lcM g t elt ⟨its, []⟩ δ [] μ) KL ↔ KL [] μ := by
  simp only [lcM, if_pos still_nil]
  exact Iff.rfl
@[simp] theorem w_lcC {g : A → Env → M Env} {t : Env → M Bool} {elt : Env → M A} {its as : List A} {a : A} {δ : Env} {KL : List A → Sto → Prop} : gives (lcM g t elt ⟨its, []⟩ δ (a :: as) μ) KL ↔ gives (g a δ μ) fun δ1 μ1 => gives (t δ1 μ1) fun k μ2 =>
    (k = true → gives (elt δ1 μ2) fun y μ3 => gives (lcM g t elt ⟨its, []⟩ δ as μ3) fun ys μ4 => KL (y :: ys) μ4) ∧ (k = false → gives (lcM g t elt ⟨its, []⟩ δ as μ2) KL) := by
  simp only [lcM, if_pos still_nil]
  rw [w_bnd, w_noX]
  refine iff_of_eq (congrArg _ (funext fun δ1 => funext fun μ1 => propext ?_))
  rw [w_bnd, w_noX]
  refine iff_of_eq (congrArg _ (funext fun k => funext fun μ2 => propext ?_))
  cases k with
  | false => exact ⟨fun h => ⟨fun z => (nomatch z), fun _ => h⟩, fun h => h.2 rfl⟩
  | true =>
    refine Iff.trans ?_ ⟨fun h => ⟨fun _ => h, fun z => (nomatch z)⟩, fun h => h.1 rfl⟩
    show gives (bnd _ _ μ2) _ ↔ _
    rw [w_bnd, w_noX]
    refine iff_of_eq (congrArg _ (funext fun y => funext fun μ3 => propext ?_))
    rw [w_bnd, w_noX]
    exact Iff.rfl
@[simp] theorem w_comp {m : Env → M MIt} {g : A → Env → M Env} {t : Env → M Bool} {elt : Env → M A} {vs : List Nat} {KL : List A → Sto → Prop} : gives (compM m g t elt vs δ μ) KL ↔ gives (m δ μ) fun mi μ' => mi.items.length ≤ sizeLine ∧ gives (lcM g t elt mi (wipeE δ vs) mi.items μ') KL := by
  unfold compM
  rw [w_bnd]
  refine iff_of_eq (congrArg _ (funext fun o => funext fun μ1 => propext ?_))
  rw [ite_bad, w_noX]
@[simp] theorem w_range {KI : MIt → Sto → Prop} : gives (range1M [.int j] μ) KI ↔ (-(2 ^ 62) ≤ j ∧ j < 2 ^ 62) ∧ KI ⟨(List.range j.toNat).map fun i => .int (0 + (i : Nat)), []⟩ μ := by
  unfold range1M
  exact ite_bad
end
end Lt

namespace Tx
open PySem PySem.Spec PyProof.Rows L2 Lt
/-! ### the text by places -/
def top (i : Nat) : Stmt := PySem.Challenge.pw_forgeproved_k00_errors_and_their_fields.main.body.getD i (.Pass ⟨0, 0, 0, 0⟩)
abbrev s__law_feed : Stmt := top 12
abbrev s__law_take : Stmt := top 13
abbrev s__law_word : Stmt := top 14
abbrev s__law_classes : Stmt := top 15
abbrev s__law_is : Stmt := top 16
abbrev s_law : Stmt := top 17
abbrev i_TooMany : Stmt := inClass (top 3) 0
abbrev i_Stuck : Stmt := inClass (top 7) 0
abbrev i_InvalidUse : Stmt := inClass (top 8) 0
abbrev i_NotTotal : Stmt := inClass (top 9) 0
abbrev i_NotProved : Stmt := inClass (top 10) 0
inductive Fn where
  | _law_feed | _law_take | _law_word | _law_classes | _law_is | law
def nm : Fn → Str
  | ._law_feed => "_law_feed"
  | ._law_take => "_law_take"
  | ._law_word => "_law_word"
  | ._law_classes => "_law_classes"
  | ._law_is => "_law_is"
  | .law => "law"
def ps : Fn → List Str
  | ._law_feed => ["script"]
  | ._law_take => ["feed", "many"]
  | ._law_word => ["feed", "letters", "size"]
  | ._law_classes => ["e"]
  | ._law_is => ["e", "at"]
  | .law => ["script"]
def sf : Fn → Stmt
  | ._law_feed => s__law_feed
  | ._law_take => s__law_take
  | ._law_word => s__law_word
  | ._law_classes => s__law_classes
  | ._law_is => s__law_is
  | .law => s_law
inductive Cl where
  | ForgeError | NoSteps | TooMany | InvalidEquation | InvalidCommand | NothingKept | Stuck | InvalidUse | NotTotal | NotProved
def cn : Cl → Str
  | .ForgeError => "ForgeError"
  | .NoSteps => "NoSteps"
  | .TooMany => "TooMany"
  | .InvalidEquation => "InvalidEquation"
  | .InvalidCommand => "InvalidCommand"
  | .NothingKept => "NothingKept"
  | .Stuck => "Stuck"
  | .InvalidUse => "InvalidUse"
  | .NotTotal => "NotTotal"
  | .NotProved => "NotProved"
/-- the field of a class -/
def cf : Cl → Str
  | .ForgeError => "none"
  | .NoSteps => "none"
  | .TooMany => "limit"
  | .InvalidEquation => "none"
  | .InvalidCommand => "none"
  | .NothingKept => "none"
  | .Stuck => "name"
  | .InvalidUse => "index"
  | .NotTotal => "found"
  | .NotProved => "found"
def ci : Cl → Bool
  | .ForgeError => false
  | .NoSteps => false
  | .TooMany => true
  | .InvalidEquation => false
  | .InvalidCommand => false
  | .NothingKept => false
  | .Stuck => true
  | .InvalidUse => true
  | .NotTotal => true
  | .NotProved => true
def cp : Cl → List Str
  | .ForgeError => ["self", "x"]
  | .NoSteps => ["self", "x"]
  | .TooMany => ["self", "limit"]
  | .InvalidEquation => ["self", "x"]
  | .InvalidCommand => ["self", "x"]
  | .NothingKept => ["self", "x"]
  | .Stuck => ["self", "name"]
  | .InvalidUse => ["self", "index"]
  | .NotTotal => ["self", "found"]
  | .NotProved => ["self", "found"]
structure Cxp where
  ca : Cl → Addr
  isa : Cl → Addr → Option Bool
  isv : Addr → Option Bool
  fok : Str → Addr → Bool
/-! ### the mirrors -/
noncomputable def m__law_feed (cx : Cxp) (fa : Fn → Addr) (g : Fn → List A → M A) : Lt.Env → M Fl :=
 (seqM (fun δ => inS (ret (.int 7)) δ fun a => ret (.nx (δ.set 1 (some a)))) (seqM (fun δ => inS (bnd (ret []) mkLst) δ fun a => ret (.nx (δ.set 2 (some a)))) (seqM (forS (fun δ => bnd (bnd (bnd (getv δ 0) fun a => bnd (ret none) fun l => bnd (bnd (ret (.int 63)) partM) fun u => sliceA a l u) fun x => bnd (ret []) fun xs => ret (x :: xs)) enumM) (tupG 2 (gsCons (setG 3) (gsCons (setG 4) (gsNil)))) (seqM (fun δ => inS (bnd (ret (.int 1)) fun x => bnd (bnd (bnd (bnd (bnd (bnd (bnd (getv δ 1) fun x => bnd (ret (.int 69621)) fun y => mulA x y) fun x => bnd (bnd (bnd (bnd (bnd (getv δ 4) fun x => bnd (ret []) fun xs => ret (x :: xs)) intA) fun x => bnd (ret (.int 1000003)) fun y => modA x y) fun x => bnd (ret (.int 48271)) fun y => mulA x y) fun y => addA x y) fun x => bnd (bnd (getv δ 3) fun x => bnd (ret (.int 40009)) fun y => mulA x y) fun y => addA x y) fun x => bnd (ret []) fun xs => ret (x :: xs)) intA) fun x => bnd (ret (.int 2147483645)) fun y => modA x y) fun y => addA x y) δ fun a => ret (.nx (δ.set 1 (some a)))) (seqM (fun δ => inS (bnd (bnd (getv δ 4) fun x => bnd (bnd (ret (.int 10)) fun x => bnd (ret (.int 18)) fun y => powA x y) fun y => bnd (geA x y) asB) fun k => (match k with | true => (getv δ 4) | false => (ret (.int 0)))) δ fun a => ret (.nx (δ.set 5 (some a)))) (forS (fun δ => bnd (bnd (ret (.int 60)) fun x => bnd (ret []) fun xs => ret (x :: xs)) range1M) (setG 6) (fun δ => inS (bnd (getv δ 5) fun x => bnd (ret (.int 0)) fun y => bnd (gtA x y) asB) δ fun k => (match k with | true => (seqM (fun δ => inS (bnd (getv δ 2) fun a => bnd (itemsL a) fun _ => bnd (bnd (bnd (bnd (bnd (getv δ 5) fun x => bnd (ret []) fun xs => ret (x :: xs)) intA) fun x => bnd (ret (.int 997)) fun y => modA x y) fun x => bnd (ret []) fun xs => ret (x :: xs)) fun as => appendA a as) δ fun _ => ret (.nx δ)) (fun δ => inS (bnd (getv δ 5) fun x => bnd (ret (.int 997)) fun y => fdivA x y) δ fun a => ret (.nx (δ.set 5 (some a))))) δ | false => (fun δ => ret (.nx δ)) δ)))))) (fun δ => inS (bnd (bnd (bnd (getv δ 1) fun x => bnd (ret []) fun xs => ret (x :: xs)) mkLst) fun x => bnd (bnd (getv δ 2) revA) fun y => addA x y) δ fun a => ret (.rt a)))))
noncomputable def m__law_take (cx : Cxp) (fa : Fn → Addr) (g : Fn → List A → M A) : Lt.Env → M Fl :=
 (seqM (fun δ => inS (bnd (bnd (bnd (getv δ 0) fun x => bnd (ret []) fun xs => ret (x :: xs)) lenA) fun x => bnd (ret (.int 1)) fun y => bnd (gtA x y) asB) δ fun k => (match k with | true => (fun δ => inS (bnd (bnd (bnd (bnd (getv δ 0) fun a => bnd (itemsL a) fun _ => popA a []) fun x => bnd (ret []) fun xs => ret (x :: xs)) intA) fun x => bnd (getv δ 1) fun y => modA x y) δ fun a => ret (.rt a)) δ | false => (fun δ => ret (.nx δ)) δ)) (seqM (fun δ => inS (bnd (bnd (getv δ 0) fun x => bnd (ret (.int 0)) fun y => ixA x y) fun x => bnd (ret (.int 1)) fun y => addA x y) δ fun a => bnd (subG (fun δ => getv δ 0) (fun δ => ret (.int 0)) a δ) fun δ' => ret (.nx δ')) (seqM (fun δ => inS (bnd (bnd (bnd (bnd (bnd (bnd (bnd (getv δ 0) fun x => bnd (ret (.int 0)) fun y => ixA x y) fun x => bnd (bnd (getv δ 0) fun x => bnd (ret (.int 0)) fun y => ixA x y) fun y => mulA x y) fun x => bnd (bnd (getv δ 0) fun x => bnd (ret (.int 0)) fun y => ixA x y) fun y => mulA x y) fun x => bnd (bnd (bnd (getv δ 0) fun x => bnd (ret (.int 0)) fun y => ixA x y) fun x => bnd (ret (.int 69621)) fun y => mulA x y) fun y => addA x y) fun x => bnd (ret []) fun xs => ret (x :: xs)) intA) fun x => bnd (ret (.int 2147483647)) fun y => modA x y) δ fun a => ret (.nx (δ.set 2 (some a)))) (seqM (fun δ => inS (bnd (bnd (bnd (bnd (bnd (getv δ 2) fun x => bnd (getv δ 2) fun y => mulA x y) fun x => bnd (bnd (getv δ 2) fun x => bnd (ret (.int 4093)) fun y => fdivA x y) fun y => addA x y) fun x => bnd (ret []) fun xs => ret (x :: xs)) intA) fun x => bnd (ret (.int 2147483629)) fun y => modA x y) δ fun a => ret (.nx (δ.set 2 (some a)))) (fun δ => inS (bnd (bnd (bnd (bnd (getv δ 2) fun x => bnd (ret (.int 89)) fun y => fdivA x y) fun x => bnd (ret []) fun xs => ret (x :: xs)) intA) fun x => bnd (getv δ 1) fun y => modA x y) δ fun a => ret (.rt a))))))
noncomputable def m__law_word (cx : Cxp) (fa : Fn → Addr) (g : Fn → List A → M A) : Lt.Env → M Fl :=
 (fun δ => inS (bnd (ret (.str ("" : Str))) fun a => bnd (strM a) fun s => bnd (compM (fun δ => bnd (bnd (getv δ 2) fun x => bnd (ret []) fun xs => ret (x :: xs)) range1M) (setG 3) (fun δ => ret true) (fun δ => bnd (getv δ 1) fun x => bnd (bnd (bnd (getv δ 0) fun x => bnd (bnd (bnd (bnd (getv δ 1) fun x => bnd (ret []) fun xs => ret (x :: xs)) lenA) fun x => bnd (ret []) fun xs => ret (x :: xs)) fun xs => ret (x :: xs)) (callM 2 (g ._law_take))) fun y => ixA x y) [3] δ) (joinF s)) δ fun a => ret (.rt a))
noncomputable def m__law_classes (cx : Cxp) (fa : Fn → Addr) (g : Fn → List A → M A) : Lt.Env → M Fl :=
 (seqM (fun δ => inS (bnd (bnd (bnd (getv δ 0) (isxA (cx.isa .Stuck))) fun x => bnd (bnd (bnd (getv δ 0) (isxA (cx.isa .InvalidUse))) fun x => bnd (bnd (bnd (getv δ 0) (isxA (cx.isa .NotTotal))) fun x => bnd (bnd (bnd (getv δ 0) (isxA (cx.isa .NotProved))) fun x => bnd (ret []) fun xs => ret (x :: xs)) fun xs => ret (x :: xs)) fun xs => ret (x :: xs)) fun xs => ret (x :: xs)) mkLst) δ fun a => ret (.nx (δ.set 1 (some a)))) (seqM (fun δ => inS (bnd (getv δ 1) fun x => bnd (bnd (bnd (bnd (getv δ 0) (isxA (cx.isa .InvalidEquation))) fun x => bnd (bnd (bnd (getv δ 0) (isxA (cx.isa .InvalidCommand))) fun x => bnd (bnd (bnd (getv δ 0) (isxA (cx.isa .NothingKept))) fun x => bnd (ret []) fun xs => ret (x :: xs)) fun xs => ret (x :: xs)) fun xs => ret (x :: xs)) mkLst) fun y => addA x y) δ fun a => ret (.nx (δ.set 1 (some a)))) (fun δ => inS (bnd (getv δ 1) fun x => bnd (bnd (bnd (bnd (getv δ 0) (isxA (cx.isa .TooMany))) fun x => bnd (bnd (bnd (getv δ 0) (isxA (cx.isa .NoSteps))) fun x => bnd (ret []) fun xs => ret (x :: xs)) fun xs => ret (x :: xs)) mkLst) fun y => addA x y) δ fun a => ret (.rt a))))
noncomputable def m__law_is (cx : Cxp) (fa : Fn → Addr) (g : Fn → List A → M A) : Lt.Env → M Fl :=
 (seqM (fun δ => inS (bnd (bnd (bnd (bnd (getv δ 0) (isxA (cx.isa .ForgeError))) truA) fun k => ret (!k)) fun k => (match k with | true => ret true | false => (bnd (bnd (bnd (getv δ 0) (isxA cx.isv)) truA) fun k => ret (!k)))) δ fun k => (match k with | true => (fun δ => inS (ret (.bl false)) δ fun a => ret (.rt a)) δ | false => (fun δ => ret (.nx δ)) δ)) (fun δ => inS (bnd (bnd (bnd (getv δ 0) fun x => bnd (ret []) fun xs => ret (x :: xs)) (callM 1 (g ._law_classes))) fun x => bnd (bnd (compM (fun δ => bnd (bnd (ret (.int 9)) fun x => bnd (ret []) fun xs => ret (x :: xs)) range1M) (setG 2) (fun δ => ret true) (fun δ => bnd (getv δ 2) fun x => bnd (getv δ 1) fun y => eqA x y) [2] δ) lstF) fun y => eqA x y) δ fun a => ret (.rt a)))
noncomputable def m_law (cx : Cxp) (fa : Fn → Addr) (g : Fn → List A → M A) : Lt.Env → M Fl :=
 (seqM (fun δ => inS (bnd (bnd (getv δ 0) fun x => bnd (ret []) fun xs => ret (x :: xs)) (callM 1 (g ._law_feed))) δ fun a => ret (.nx (δ.set 1 (some a)))) (seqM (fun δ => inS (bnd (bnd (getv δ 1) fun x => bnd (bnd (ret (.str ("abcdefghijklmnopqrstuvwxyz" : Str))) fun x => bnd (bnd (bnd (ret (.int 1)) fun x => bnd (bnd (bnd (getv δ 1) fun x => bnd (bnd (ret (.int 8)) fun x => bnd (ret []) fun xs => ret (x :: xs)) fun xs => ret (x :: xs)) (callM 2 (g ._law_take))) fun y => addA x y) fun x => bnd (ret []) fun xs => ret (x :: xs)) fun xs => ret (x :: xs)) fun xs => ret (x :: xs)) (callM 3 (g ._law_word))) δ fun a => ret (.nx (δ.set 2 (some a)))) (seqM (fun δ => inS (bnd (bnd (bnd (bnd (getv δ 1) fun x => bnd (bnd (ret (.int 997)) fun x => bnd (ret []) fun xs => ret (x :: xs)) fun xs => ret (x :: xs)) (callM 2 (g ._law_take))) fun x => bnd (bnd (bnd (bnd (ret (.int 1)) fun x => bnd (bnd (bnd (ret (.int 10)) fun x => bnd (ret (.int 9)) fun y => powA x y) fun x => bnd (bnd (bnd (ret (.int 10)) fun x => bnd (ret (.int 18)) fun y => powA x y) fun x => bnd (bnd (bnd (ret (.int 10)) fun x => bnd (ret (.int 27)) fun y => powA x y) fun x => bnd (ret []) fun xs => ret (x :: xs)) fun xs => ret (x :: xs)) fun xs => ret (x :: xs)) fun xs => ret (x :: xs)) mkLst) fun x => bnd (bnd (bnd (getv δ 1) fun x => bnd (bnd (ret (.int 4)) fun x => bnd (ret []) fun xs => ret (x :: xs)) fun xs => ret (x :: xs)) (callM 2 (g ._law_take))) fun y => ixA x y) fun y => mulA x y) fun x => bnd (bnd (bnd (getv δ 1) fun x => bnd (bnd (ret (.int 997)) fun x => bnd (ret []) fun xs => ret (x :: xs)) fun xs => ret (x :: xs)) (callM 2 (g ._law_take))) fun y => addA x y) δ fun a => ret (.nx (δ.set 3 (some a)))) (seqM (fun δ => inS (bnd (bnd (ret (.str ("ring" : Str))) fun x => bnd (bnd (bnd (bnd (bnd (bnd (getv δ 2) fun x => bnd (bnd (getv δ 3) fun x => bnd (bnd (getv δ 2) fun x => bnd (ret []) fun xs => ret (x :: xs)) fun xs => ret (x :: xs)) fun xs => ret (x :: xs)) mkTup) fun x => bnd (bnd (bnd (bnd (getv δ 2) fun x => bnd (bnd (ret (.int 0)) fun x => bnd (bnd (getv δ 2) fun x => bnd (ret []) fun xs => ret (x :: xs)) fun xs => ret (x :: xs)) fun xs => ret (x :: xs)) mkTup) fun x => bnd (ret []) fun xs => ret (x :: xs)) fun xs => ret (x :: xs)) mkTup) fun x => bnd (ret []) fun xs => ret (x :: xs)) fun xs => ret (x :: xs)) mkTup) δ fun a => ret (.nx (δ.set 4 (some a)))) (seqM (fun δ => inS (bnd (bnd (bnd (getv δ 1) fun x => bnd (bnd (ret (.int 2)) fun x => bnd (ret []) fun xs => ret (x :: xs)) fun xs => ret (x :: xs)) (callM 2 (g ._law_take))) fun x => bnd (ret (.int 0)) fun y => bnd (eqA x y) asB) δ fun k => (match k with | true => (fun δ => inS (bnd (bnd (ret (.str ("missing" : Str))) fun x => bnd (bnd (getv δ 2) fun x => bnd (bnd (bnd (bnd (bnd (bnd (ret (.str ("any" : Str))) fun x => bnd (ret []) fun xs => ret (x :: xs)) mkTup) fun x => bnd (bnd (bnd (bnd (ret (.str ("num" : Str))) fun x => bnd (bnd (getv δ 3) fun x => bnd (ret []) fun xs => ret (x :: xs)) fun xs => ret (x :: xs)) mkTup) fun x => bnd (ret []) fun xs => ret (x :: xs)) fun xs => ret (x :: xs)) mkTup) fun x => bnd (ret []) fun xs => ret (x :: xs)) fun xs => ret (x :: xs)) fun xs => ret (x :: xs)) mkTup) δ fun a => ret (.nx (δ.set 4 (some a)))) δ | false => (fun δ => ret (.nx δ)) δ)) (seqM (fun δ => inS (bnd (bnd (bnd (getv δ 2) fun a => ret (.exc (cx.ca .Stuck) [("name" : Str)] [a])) fun x => bnd (bnd (bnd (getv δ 3) fun a => ret (.exc (cx.ca .InvalidUse) [("index" : Str)] [a])) fun x => bnd (bnd (bnd (getv δ 4) fun a => ret (.exc (cx.ca .NotTotal) [("found" : Str)] [a])) fun x => bnd (bnd (bnd (bnd (bnd (ret (.str ("false" : Str))) fun x => bnd (bnd (getv δ 4) fun x => bnd (ret []) fun xs => ret (x :: xs)) fun xs => ret (x :: xs)) mkTup) fun a => ret (.exc (cx.ca .NotProved) [("found" : Str)] [a])) fun x => bnd (ret []) fun xs => ret (x :: xs)) fun xs => ret (x :: xs)) fun xs => ret (x :: xs)) fun xs => ret (x :: xs)) mkTup) δ fun a => bnd (tupG 4 (gsCons (setG 5) (gsCons (setG 6) (gsCons (setG 7) (gsCons (setG 8) (gsNil))))) a δ) fun δ' => ret (.nx δ')) (seqM (fun δ => inS (bnd (bnd (bnd (bnd (bnd (getv δ 5) (xfA (cx.fok ("name" : Str)) ("name" : Str))) (isiA "str")) truA) fun k => ret (!k)) fun k => (match k with | true => ret true | false => (bnd (bnd (bnd (getv δ 5) (xfA (cx.fok ("name" : Str)) ("name" : Str))) fun x => bnd (getv δ 2) fun y => bnd (neA x y) asB) fun k => (match k with | true => ret true | false => (bnd (bnd (bnd (bnd (getv δ 5) fun x => bnd (bnd (ret (.int 0)) fun x => bnd (ret []) fun xs => ret (x :: xs)) fun xs => ret (x :: xs)) (callM 2 (g ._law_is))) truA) fun k => ret (!k)))))) δ fun k => (match k with | true => (fun δ => inS (ret (.bl false)) δ fun a => ret (.rt a)) δ | false => (fun δ => ret (.nx δ)) δ)) (seqM (fun δ => inS (bnd (bnd (bnd (bnd (bnd (getv δ 6) (xfA (cx.fok ("index" : Str)) ("index" : Str))) (isiA "int")) truA) fun k => ret (!k)) fun k => (match k with | true => ret true | false => (bnd (bnd (bnd (bnd (getv δ 6) (xfA (cx.fok ("index" : Str)) ("index" : Str))) (isiA "bool")) truA) fun k => (match k with | true => ret true | false => (bnd (bnd (bnd (getv δ 6) (xfA (cx.fok ("index" : Str)) ("index" : Str))) fun x => bnd (getv δ 3) fun y => bnd (neA x y) asB) fun k => (match k with | true => ret true | false => (bnd (bnd (bnd (bnd (getv δ 6) fun x => bnd (bnd (ret (.int 1)) fun x => bnd (ret []) fun xs => ret (x :: xs)) fun xs => ret (x :: xs)) (callM 2 (g ._law_is))) truA) fun k => ret (!k)))))))) δ fun k => (match k with | true => (fun δ => inS (ret (.bl false)) δ fun a => ret (.rt a)) δ | false => (fun δ => ret (.nx δ)) δ)) (seqM (fun δ => inS (bnd (bnd (bnd (bnd (bnd (getv δ 7) (xfA (cx.fok ("found" : Str)) ("found" : Str))) (isiA "tuple")) truA) fun k => ret (!k)) fun k => (match k with | true => ret true | false => (bnd (bnd (bnd (getv δ 7) (xfA (cx.fok ("found" : Str)) ("found" : Str))) fun x => bnd (getv δ 4) fun y => bnd (neA x y) asB) fun k => (match k with | true => ret true | false => (bnd (bnd (bnd (bnd (getv δ 7) fun x => bnd (bnd (ret (.int 2)) fun x => bnd (ret []) fun xs => ret (x :: xs)) fun xs => ret (x :: xs)) (callM 2 (g ._law_is))) truA) fun k => ret (!k)))))) δ fun k => (match k with | true => (fun δ => inS (ret (.bl false)) δ fun a => ret (.rt a)) δ | false => (fun δ => ret (.nx δ)) δ)) (seqM (fun δ => inS (bnd (bnd (bnd (bnd (bnd (getv δ 8) (xfA (cx.fok ("found" : Str)) ("found" : Str))) (isiA "tuple")) truA) fun k => ret (!k)) fun k => (match k with | true => ret true | false => (bnd (bnd (bnd (getv δ 8) (xfA (cx.fok ("found" : Str)) ("found" : Str))) fun x => bnd (bnd (bnd (ret (.str ("false" : Str))) fun x => bnd (bnd (getv δ 4) fun x => bnd (ret []) fun xs => ret (x :: xs)) fun xs => ret (x :: xs)) mkTup) fun y => bnd (neA x y) asB) fun k => (match k with | true => ret true | false => (bnd (bnd (bnd (bnd (getv δ 8) fun x => bnd (bnd (ret (.int 3)) fun x => bnd (ret []) fun xs => ret (x :: xs)) fun xs => ret (x :: xs)) (callM 2 (g ._law_is))) truA) fun k => ret (!k)))))) δ fun k => (match k with | true => (fun δ => inS (ret (.bl false)) δ fun a => ret (.rt a)) δ | false => (fun δ => ret (.nx δ)) δ)) (seqM (fun δ => inS (bnd (bnd (bnd (bnd (bnd (bnd (getv δ 2) fun _ => ret (.exc (cx.ca .InvalidEquation) [] [])) fun x => bnd (bnd (ret (.int 4)) fun x => bnd (ret []) fun xs => ret (x :: xs)) fun xs => ret (x :: xs)) (callM 2 (g ._law_is))) truA) fun k => ret (!k)) fun k => (match k with | true => ret true | false => (bnd (bnd (bnd (bnd (bnd (getv δ 2) fun _ => ret (.exc (cx.ca .InvalidCommand) [] [])) fun x => bnd (bnd (ret (.int 5)) fun x => bnd (ret []) fun xs => ret (x :: xs)) fun xs => ret (x :: xs)) (callM 2 (g ._law_is))) truA) fun k => ret (!k)))) δ fun k => (match k with | true => (fun δ => inS (ret (.bl false)) δ fun a => ret (.rt a)) δ | false => (fun δ => ret (.nx δ)) δ)) (fun δ => inS (bnd (bnd (bnd (bnd (getv δ 2) fun _ => ret (.exc (cx.ca .NothingKept) [] [])) fun x => bnd (bnd (ret (.int 6)) fun x => bnd (ret []) fun xs => ret (x :: xs)) fun xs => ret (x :: xs)) (callM 2 (g ._law_is))) fun x => bnd (asB x) fun k => (match k with | true => (bnd (bnd (bnd (bnd (getv δ 3) fun a => ret (.exc (cx.ca .TooMany) [("limit" : Str)] [a])) fun x => bnd (bnd (ret (.int 7)) fun x => bnd (ret []) fun xs => ret (x :: xs)) fun xs => ret (x :: xs)) (callM 2 (g ._law_is))) fun x => bnd (asB x) fun k => (match k with | true => (bnd (bnd (bnd (getv δ 2) fun _ => ret (.exc (cx.ca .NoSteps) [] [])) fun x => bnd (bnd (ret (.int 8)) fun x => bnd (ret []) fun xs => ret (x :: xs)) fun xs => ret (x :: xs)) (callM 2 (g ._law_is))) | false => ret (.bl false))) | false => ret (.bl false))) δ fun a => ret (.rt a)))))))))))))
noncomputable def fns (cx : Cxp) (fa : Fn → Addr) : Nat → Fn → List A → M A
  | 0, _ => fun _ => bad
  | d + 1, ._law_feed => runBody 7 (m__law_feed cx fa (fns cx fa d))
  | d + 1, ._law_take => runBody 3 (m__law_take cx fa (fns cx fa d))
  | d + 1, ._law_word => runBody 4 (m__law_word cx fa (fns cx fa d))
  | d + 1, ._law_classes => runBody 2 (m__law_classes cx fa (fns cx fa d))
  | d + 1, ._law_is => runBody 3 (m__law_is cx fa (fns cx fa d))
  | d + 1, .law => runBody 9 (m_law cx fa (fns cx fa d))
/-! ### the derivations -/
variable {cx : Cxp} {fa : Fn → Addr}
structure Tok (P : Program) (w : World) (K : PySem.W.Frag) (mg : Str → Option Value) (base : Heap) (cx : Cxp) (fa : Fn → Addr) (fd : Fn → FuncData) (fi : Cl → Addr) (fdi : Cl → FuncData) : Prop where
  mg_ : ∀ i, mg (nm i) = some (.ref (fa i))
  kp : ∀ i, PySem.W.keepIn K (.ref (fa i)) = true
  bd : ∀ i, L2.Binds K (fd i) (ps i) []
  fn : ∀ i, Fun K (nm i) (nm i) (sf i) (fa i) (fd i)
  b_ValueError : mg "ValueError" = none
  b_bool : mg "bool" = none
  b_enumerate : mg "enumerate" = none
  b_int : mg "int" = none
  b_isinstance : mg "isinstance" = none
  b_len : mg "len" = none
  b_range : mg "range" = none
  b_str : mg "str" = none
  b_tuple : mg "tuple" = none
  mgc : ∀ c, mg (cn c) = some (.ref (cx.ca c))
  kpc : ∀ c, PySem.W.keepIn K (.ref (cx.ca c)) = true
  oex : ∀ c, ci c = true → OexC K (cx.ca c)
  exn : ∀ c, ci c = false → PySem.W.excIn K (cx.ca c) [.type "ValueError", .type "Exception", .type "BaseException", .type "object"] "ValueError.__new__" = true
  isa : ∀ c D b, cx.isa c D = some b → ExcC K D ∧ PySem.W.kitOne K (.ref D) (.ref (cx.ca c)) = some b
  isv : ∀ D b, cx.isv D = some b → ExcC K D ∧ PySem.W.kitOne K (.ref D) (.type "ValueError") = some b
  fok : ∀ n D, cx.fok n D = true → XfC K D ∧ PySem.W.findIn K (.ref D) n = some none
  ini : ∀ c, ci c = true → PySem.W.findIn K (.ref (cx.ca c)) "__init__" = some (some (.ref (fi c)))
  tyi : ∀ c, ci c = true → PySem.W.typeIn K (.ref (fi c)) = some (.type "function")
  nof : ∀ c, ci c = true → PySem.W.findIn K (.ref (cx.ca c)) (cf c) = some none
  fin : ∀ c, ci c = true → FnOk P w K mg base (L2.CX P w) 1 (fi c) (fdi c) (cp c) (spInit K (cf c))
  bin : ∀ c, ci c = true → L2.Binds K (fdi c) (cp c) []
section
variable {P : Program} {w : World} {K : PySem.W.Frag} {mg : Str → Option Value} {base : Heap} {fd : Fn → FuncData} {fi : Cl → Addr} {fdi : Cl → FuncData}
theorem S__law_feed : FnScope ["script", "state", "found", "at", "cell", "left", "turn"] (ps ._law_feed) (defScope s__law_feed) := ⟨rfl, rfl, rfl, by decide +kernel, rfl, by decide +kernel, by decide +kernel⟩
theorem d__law_feed (T : Tok P w K mg base cx fa fd fi fdi) {g : Fn → List A → M A} {k : Nat} (hk : 2 ≤ k) (G : ∀ i, FnM P w K mg base k (fa i) (fd i) (ps i) (g i)) : FnM P w K mg base (k + 1) (fa ._law_feed) (fd ._law_feed) (ps ._law_feed) (runBody 7 (m__law_feed cx fa g)) := by
  have S := S__law_feed
  refine fnM_of (T.fn ._law_feed) S fun cdv A outer s H E hr tk => ?_
  exact (sb_cons (ss_set 1 S.nd se_int) (sb_cons (ss_set 2 S.nd (se_lst sa_nil)) (sb_cons (ss_for (passes_of rfl) rfl (si_enum T.b_enumerate (sa_cons (se_slice (se_var 0) sp_none (sp_some se_int)) sa_nil)) (sg_tup rfl (sgs_cons (sg_name 3 S.nd) (sgs_cons (sg_name 4 S.nd) sgs_nil))) (sb_cons (ss_set 1 S.nd (se_add se_int (se_mod (se_toint T.b_int (sa_cons (se_add (se_add (se_mul (se_var 1) se_int) (se_mul (se_mod (se_toint T.b_int (sa_cons (se_var 4) sa_nil)) se_int) se_int)) (se_mul (se_var 3) se_int)) sa_nil)) se_int))) (sb_cons (ss_set 5 S.nd (se_if (st_ge (se_var 4) (se_pow se_int se_int)) (se_var 4) se_int)) (sb_one (ss_for (passes_of rfl) rfl (si_range1 T.b_range (sa_cons se_int sa_nil)) (sg_name 6 S.nd) (sb_one (ss_if (st_gt (se_var 5) se_int) (sb_cons (ss_expr (se_append (se_var 2) (se_mod (se_toint T.b_int (sa_cons (se_var 5) sa_nil)) se_int))) (sb_one (ss_set 5 S.nd (se_fdiv (se_var 5) se_int)))) sb_nil))))))) (sb_one (ss_ret (se_add (se_lst (sa_cons (se_var 1) sa_nil)) (se_rev (se_var 2))))))))
theorem S__law_take : FnScope ["feed", "many", "mixed"] (ps ._law_take) (defScope s__law_take) := ⟨rfl, rfl, rfl, by decide +kernel, rfl, by decide +kernel, by decide +kernel⟩
theorem d__law_take (T : Tok P w K mg base cx fa fd fi fdi) {g : Fn → List A → M A} {k : Nat} (hk : 2 ≤ k) (G : ∀ i, FnM P w K mg base k (fa i) (fd i) (ps i) (g i)) : FnM P w K mg base (k + 1) (fa ._law_take) (fd ._law_take) (ps ._law_take) (runBody 3 (m__law_take cx fa g)) := by
  have S := S__law_take
  refine fnM_of (T.fn ._law_take) S fun cdv A outer s H E hr tk => ?_
  exact (sb_cons (ss_if (st_gt (se_len T.b_len (sa_cons (se_var 0) sa_nil)) se_int) (sb_one (ss_ret (se_mod (se_toint T.b_int (sa_cons (se_pop0 (se_var 0)) sa_nil)) (se_var 1)))) sb_nil) (sb_cons (ss_asg (se_add (se_ix hr (se_var 0) se_int) se_int) (sg_sub hr (se_var 0) se_int)) (sb_cons (ss_set 2 S.nd (se_mod (se_toint T.b_int (sa_cons (se_add (se_mul (se_mul (se_ix hr (se_var 0) se_int) (se_ix hr (se_var 0) se_int)) (se_ix hr (se_var 0) se_int)) (se_mul (se_ix hr (se_var 0) se_int) se_int)) sa_nil)) se_int)) (sb_cons (ss_set 2 S.nd (se_mod (se_toint T.b_int (sa_cons (se_add (se_mul (se_var 2) (se_var 2)) (se_fdiv (se_var 2) se_int)) sa_nil)) se_int)) (sb_one (ss_ret (se_mod (se_toint T.b_int (sa_cons (se_fdiv (se_var 2) se_int) sa_nil)) (se_var 1))))))))
theorem S__law_word : FnScope ["feed", "letters", "size", "k"] (ps ._law_word) (defScope s__law_word) := ⟨rfl, rfl, rfl, by decide +kernel, rfl, by decide +kernel, by decide +kernel⟩
theorem d__law_word (T : Tok P w K mg base cx fa fd fi fdi) {g : Fn → List A → M A} {k : Nat} (hk : 2 ≤ k) (G : ∀ i, FnM P w K mg base k (fa i) (fd i) (ps i) (g i)) : FnM P w K mg base (k + 1) (fa ._law_word) (fd ._law_word) (ps ._law_word) (runBody 4 (m__law_word cx fa g)) := by
  have S := S__law_word
  refine fnM_of (T.fn ._law_word) S fun cdv A outer s H E hr tk => ?_
  exact (sb_one (ss_ret (se_joinL se_str (se_lc (own := [(("k" : Str), 3)]) rfl S.nd (si_range1 T.b_range (sa_cons (se_var 2) sa_nil)) (blkOk_by rfl) (fun _ _ _ _ _ => by exact (sg_name 3 S.nd)) (by decide) sts_nil (fun _ _ _ _ _ => by exact (se_ix hr (se_var 1) (se_call (ps := ps ._law_take) (mf := g ._law_take) (G ._law_take) hr takes0 (T.mg_ ._law_take) (T.kp ._law_take) (T.bd ._law_take) (sa_cons (se_var 0) (sa_cons (se_len T.b_len (sa_cons (se_var 1) sa_nil)) sa_nil)))))))))
theorem S__law_classes : FnScope ["e", "found"] (ps ._law_classes) (defScope s__law_classes) := ⟨rfl, rfl, rfl, by decide +kernel, rfl, by decide +kernel, by decide +kernel⟩
theorem d__law_classes (T : Tok P w K mg base cx fa fd fi fdi) {g : Fn → List A → M A} {k : Nat} (hk : 2 ≤ k) (G : ∀ i, FnM P w K mg base k (fa i) (fd i) (ps i) (g i)) : FnM P w K mg base (k + 1) (fa ._law_classes) (fd ._law_classes) (ps ._law_classes) (runBody 2 (m__law_classes cx fa g)) := by
  have S := S__law_classes
  refine fnM_of (T.fn ._law_classes) S fun cdv A outer s H E hr tk => ?_
  exact (sb_cons (ss_set 1 S.nd (se_lst (sa_cons (se_isX (cx.isa .Stuck) (T.isa .Stuck) T.b_isinstance (T.mgc .Stuck) (se_var 0)) (sa_cons (se_isX (cx.isa .InvalidUse) (T.isa .InvalidUse) T.b_isinstance (T.mgc .InvalidUse) (se_var 0)) (sa_cons (se_isX (cx.isa .NotTotal) (T.isa .NotTotal) T.b_isinstance (T.mgc .NotTotal) (se_var 0)) (sa_cons (se_isX (cx.isa .NotProved) (T.isa .NotProved) T.b_isinstance (T.mgc .NotProved) (se_var 0)) sa_nil)))))) (sb_cons (ss_set 1 S.nd (se_add (se_var 1) (se_lst (sa_cons (se_isX (cx.isa .InvalidEquation) (T.isa .InvalidEquation) T.b_isinstance (T.mgc .InvalidEquation) (se_var 0)) (sa_cons (se_isX (cx.isa .InvalidCommand) (T.isa .InvalidCommand) T.b_isinstance (T.mgc .InvalidCommand) (se_var 0)) (sa_cons (se_isX (cx.isa .NothingKept) (T.isa .NothingKept) T.b_isinstance (T.mgc .NothingKept) (se_var 0)) sa_nil)))))) (sb_one (ss_ret (se_add (se_var 1) (se_lst (sa_cons (se_isX (cx.isa .TooMany) (T.isa .TooMany) T.b_isinstance (T.mgc .TooMany) (se_var 0)) (sa_cons (se_isX (cx.isa .NoSteps) (T.isa .NoSteps) T.b_isinstance (T.mgc .NoSteps) (se_var 0)) sa_nil))))))))
theorem S__law_is : FnScope ["e", "at", "k"] (ps ._law_is) (defScope s__law_is) := ⟨rfl, rfl, rfl, by decide +kernel, rfl, by decide +kernel, by decide +kernel⟩
theorem d__law_is (T : Tok P w K mg base cx fa fd fi fdi) {g : Fn → List A → M A} {k : Nat} (hk : 2 ≤ k) (G : ∀ i, FnM P w K mg base k (fa i) (fd i) (ps i) (g i)) : FnM P w K mg base (k + 1) (fa ._law_is) (fd ._law_is) (ps ._law_is) (runBody 3 (m__law_is cx fa g)) := by
  have S := S__law_is
  refine fnM_of (T.fn ._law_is) S fun cdv A outer s H E hr tk => ?_
  exact (sb_cons (ss_if (st_w (sw_or (st_not (st_val (se_isX (cx.isa .ForgeError) (T.isa .ForgeError) T.b_isinstance (T.mgc .ForgeError) (se_var 0)))) (sw_or1 (st_not (st_val (se_isXB "ValueError" cx.isv T.isv T.b_isinstance T.b_ValueError PyProof.Rows.Boot.«ValueError» (se_var 0))))))) (sb_one (ss_ret se_bl)) sb_nil) (sb_one (ss_ret (se_eq hr (se_call (ps := ps ._law_classes) (mf := g ._law_classes) (G ._law_classes) hr tk (T.mg_ ._law_classes) (T.kp ._law_classes) (T.bd ._law_classes) (sa_cons (se_var 0) sa_nil)) (se_ofL (se_lc (own := [(("k" : Str), 2)]) rfl S.nd (si_range1 T.b_range (sa_cons se_int sa_nil)) (blkOk_by rfl) (fun _ _ _ _ _ => by exact (sg_name 2 S.nd)) (by decide) sts_nil (fun _ _ _ _ _ => by exact (se_eq hr (se_var 2) (se_var 1)))))))))
theorem S_law : FnScope ["script", "feed", "name", "index", "found", "stuck", "use", "total", "kept"] (ps .law) (defScope s_law) := ⟨rfl, rfl, rfl, by decide +kernel, rfl, by decide +kernel, by decide +kernel⟩
theorem d_law (T : Tok P w K mg base cx fa fd fi fdi) {g : Fn → List A → M A} {k : Nat} (hk : 2 ≤ k) (G : ∀ i, FnM P w K mg base k (fa i) (fd i) (ps i) (g i)) : FnM P w K mg base (k + 1) (fa .law) (fd .law) (ps .law) (runBody 9 (m_law cx fa g)) := by
  have S := S_law
  refine fnM_of (T.fn .law) S fun cdv A outer s H E hr tk => ?_
  exact (sb_cons (ss_set 1 S.nd (se_call (ps := ps ._law_feed) (mf := g ._law_feed) (G ._law_feed) hr tk (T.mg_ ._law_feed) (T.kp ._law_feed) (T.bd ._law_feed) (sa_cons (se_var 0) sa_nil))) (sb_cons (ss_set 2 S.nd (se_call (ps := ps ._law_word) (mf := g ._law_word) (G ._law_word) hr tk (T.mg_ ._law_word) (T.kp ._law_word) (T.bd ._law_word) (sa_cons (se_var 1) (sa_cons se_str (sa_cons (se_add se_int (se_call (ps := ps ._law_take) (mf := g ._law_take) (G ._law_take) hr tk (T.mg_ ._law_take) (T.kp ._law_take) (T.bd ._law_take) (sa_cons (se_var 1) (sa_cons se_int sa_nil)))) sa_nil))))) (sb_cons (ss_set 3 S.nd (se_add (se_mul (se_call (ps := ps ._law_take) (mf := g ._law_take) (G ._law_take) hr tk (T.mg_ ._law_take) (T.kp ._law_take) (T.bd ._law_take) (sa_cons (se_var 1) (sa_cons se_int sa_nil))) (se_ix hr (se_lst (sa_cons se_int (sa_cons (se_pow se_int se_int) (sa_cons (se_pow se_int se_int) (sa_cons (se_pow se_int se_int) sa_nil))))) (se_call (ps := ps ._law_take) (mf := g ._law_take) (G ._law_take) hr tk (T.mg_ ._law_take) (T.kp ._law_take) (T.bd ._law_take) (sa_cons (se_var 1) (sa_cons se_int sa_nil))))) (se_call (ps := ps ._law_take) (mf := g ._law_take) (G ._law_take) hr tk (T.mg_ ._law_take) (T.kp ._law_take) (T.bd ._law_take) (sa_cons (se_var 1) (sa_cons se_int sa_nil))))) (sb_cons (ss_set 4 S.nd (se_tup (sa_cons se_str (sa_cons (se_tup (sa_cons (se_tup (sa_cons (se_var 2) (sa_cons (se_var 3) (sa_cons (se_var 2) sa_nil)))) (sa_cons (se_tup (sa_cons (se_var 2) (sa_cons se_int (sa_cons (se_var 2) sa_nil)))) sa_nil))) sa_nil)))) (sb_cons (ss_if (st_eq hr (se_call (ps := ps ._law_take) (mf := g ._law_take) (G ._law_take) hr tk (T.mg_ ._law_take) (T.kp ._law_take) (T.bd ._law_take) (sa_cons (se_var 1) (sa_cons se_int sa_nil))) se_int) (sb_one (ss_set 4 S.nd (se_tup (sa_cons se_str (sa_cons (se_var 2) (sa_cons (se_tup (sa_cons (se_tup (sa_cons se_str sa_nil)) (sa_cons (se_tup (sa_cons se_str (sa_cons (se_var 3) sa_nil))) sa_nil))) sa_nil)))))) sb_nil) (sb_cons (ss_asg (se_tup (sa_cons (se_mkV (T.oex .Stuck rfl) (T.ini .Stuck rfl) (T.tyi .Stuck rfl) (T.nof .Stuck rfl) (T.fin .Stuck rfl) (hr.mono hk) (T.bin .Stuck rfl) (T.mgc .Stuck) (se_var 2)) (sa_cons (se_mkV (T.oex .InvalidUse rfl) (T.ini .InvalidUse rfl) (T.tyi .InvalidUse rfl) (T.nof .InvalidUse rfl) (T.fin .InvalidUse rfl) (hr.mono hk) (T.bin .InvalidUse rfl) (T.mgc .InvalidUse) (se_var 3)) (sa_cons (se_mkV (T.oex .NotTotal rfl) (T.ini .NotTotal rfl) (T.tyi .NotTotal rfl) (T.nof .NotTotal rfl) (T.fin .NotTotal rfl) (hr.mono hk) (T.bin .NotTotal rfl) (T.mgc .NotTotal) (se_var 4)) (sa_cons (se_mkV (T.oex .NotProved rfl) (T.ini .NotProved rfl) (T.tyi .NotProved rfl) (T.nof .NotProved rfl) (T.fin .NotProved rfl) (hr.mono hk) (T.bin .NotProved rfl) (T.mgc .NotProved) (se_tup (sa_cons se_str (sa_cons (se_var 4) sa_nil)))) sa_nil))))) (sg_tup rfl (sgs_cons (sg_name 5 S.nd) (sgs_cons (sg_name 6 S.nd) (sgs_cons (sg_name 7 S.nd) (sgs_cons (sg_name 8 S.nd) sgs_nil)))))) (sb_cons (ss_if (st_w (sw_or (st_not (st_val (se_isi "str" T.b_isinstance T.b_str (by rfl) (se_xf (cx.fok ("name" : Str)) (T.fok _) (se_var 5))))) (sw_or (st_ne hr (se_xf (cx.fok ("name" : Str)) (T.fok _) (se_var 5)) (se_var 2)) (sw_or1 (st_not (st_val (se_call (ps := ps ._law_is) (mf := g ._law_is) (G ._law_is) hr tk (T.mg_ ._law_is) (T.kp ._law_is) (T.bd ._law_is) (sa_cons (se_var 5) (sa_cons se_int sa_nil))))))))) (sb_one (ss_ret se_bl)) sb_nil) (sb_cons (ss_if (st_w (sw_or (st_not (st_val (se_isi "int" T.b_isinstance T.b_int (by rfl) (se_xf (cx.fok ("index" : Str)) (T.fok _) (se_var 6))))) (sw_or (st_val (se_isi "bool" T.b_isinstance T.b_bool (by rfl) (se_xf (cx.fok ("index" : Str)) (T.fok _) (se_var 6)))) (sw_or (st_ne hr (se_xf (cx.fok ("index" : Str)) (T.fok _) (se_var 6)) (se_var 3)) (sw_or1 (st_not (st_val (se_call (ps := ps ._law_is) (mf := g ._law_is) (G ._law_is) hr tk (T.mg_ ._law_is) (T.kp ._law_is) (T.bd ._law_is) (sa_cons (se_var 6) (sa_cons se_int sa_nil)))))))))) (sb_one (ss_ret se_bl)) sb_nil) (sb_cons (ss_if (st_w (sw_or (st_not (st_val (se_isi "tuple" T.b_isinstance T.b_tuple (by rfl) (se_xf (cx.fok ("found" : Str)) (T.fok _) (se_var 7))))) (sw_or (st_ne hr (se_xf (cx.fok ("found" : Str)) (T.fok _) (se_var 7)) (se_var 4)) (sw_or1 (st_not (st_val (se_call (ps := ps ._law_is) (mf := g ._law_is) (G ._law_is) hr tk (T.mg_ ._law_is) (T.kp ._law_is) (T.bd ._law_is) (sa_cons (se_var 7) (sa_cons se_int sa_nil))))))))) (sb_one (ss_ret se_bl)) sb_nil) (sb_cons (ss_if (st_w (sw_or (st_not (st_val (se_isi "tuple" T.b_isinstance T.b_tuple (by rfl) (se_xf (cx.fok ("found" : Str)) (T.fok _) (se_var 8))))) (sw_or (st_ne hr (se_xf (cx.fok ("found" : Str)) (T.fok _) (se_var 8)) (se_tup (sa_cons se_str (sa_cons (se_var 4) sa_nil)))) (sw_or1 (st_not (st_val (se_call (ps := ps ._law_is) (mf := g ._law_is) (G ._law_is) hr tk (T.mg_ ._law_is) (T.kp ._law_is) (T.bd ._law_is) (sa_cons (se_var 8) (sa_cons se_int sa_nil))))))))) (sb_one (ss_ret se_bl)) sb_nil) (sb_cons (ss_if (st_w (sw_or (st_not (st_val (se_call (ps := ps ._law_is) (mf := g ._law_is) (G ._law_is) hr tk (T.mg_ ._law_is) (T.kp ._law_is) (T.bd ._law_is) (sa_cons (se_mk0 (T.exn .InvalidEquation rfl) (T.mgc .InvalidEquation) (T.kpc .InvalidEquation) (se_var 2)) (sa_cons se_int sa_nil))))) (sw_or1 (st_not (st_val (se_call (ps := ps ._law_is) (mf := g ._law_is) (G ._law_is) hr tk (T.mg_ ._law_is) (T.kp ._law_is) (T.bd ._law_is) (sa_cons (se_mk0 (T.exn .InvalidCommand rfl) (T.mgc .InvalidCommand) (T.kpc .InvalidCommand) (se_var 2)) (sa_cons se_int sa_nil)))))))) (sb_one (ss_ret se_bl)) sb_nil) (sb_one (ss_ret (se_and (se_call (ps := ps ._law_is) (mf := g ._law_is) (G ._law_is) hr tk (T.mg_ ._law_is) (T.kp ._law_is) (T.bd ._law_is) (sa_cons (se_mk0 (T.exn .NothingKept rfl) (T.mgc .NothingKept) (T.kpc .NothingKept) (se_var 2)) (sa_cons se_int sa_nil))) (se_and (se_call (ps := ps ._law_is) (mf := g ._law_is) (G ._law_is) hr tk (T.mg_ ._law_is) (T.kp ._law_is) (T.bd ._law_is) (sa_cons (se_mkV (T.oex .TooMany rfl) (T.ini .TooMany rfl) (T.tyi .TooMany rfl) (T.nof .TooMany rfl) (T.fin .TooMany rfl) (hr.mono hk) (T.bin .TooMany rfl) (T.mgc .TooMany) (se_var 3)) (sa_cons se_int sa_nil))) (se_one (se_call (ps := ps ._law_is) (mf := g ._law_is) (G ._law_is) hr tk (T.mg_ ._law_is) (T.kp ._law_is) (T.bd ._law_is) (sa_cons (se_mk0 (T.exn .NoSteps rfl) (T.mgc .NoSteps) (T.kpc .NoSteps) (se_var 2)) (sa_cons se_int sa_nil)))))))))))))))))))
theorem all (T : Tok P w K mg base cx fa fd fi fdi) : ∀ (d : Nat) (i : Fn), FnM P w K mg base (d + 2) (fa i) (fd i) (ps i) (fns cx fa d i)
  | 0, i => fnM_bad
  | d + 1, ._law_feed => d__law_feed T (Nat.le_add_left 2 d) (all T d)
  | d + 1, ._law_take => d__law_take T (Nat.le_add_left 2 d) (all T d)
  | d + 1, ._law_word => d__law_word T (Nat.le_add_left 2 d) (all T d)
  | d + 1, ._law_classes => d__law_classes T (Nat.le_add_left 2 d) (all T d)
  | d + 1, ._law_is => d__law_is T (Nat.le_add_left 2 d) (all T d)
  | d + 1, .law => d_law T (Nat.le_add_left 2 d) (all T d)
end
end Tx

namespace Tx
open PySem PySem.Spec PyProof.Rows L2 Lt TL
/-! ### the draws -/
/-- the feed stands at h -/
def FeedOk (h : Nat) (b : Int) (μ : Sto) : Prop := ∃ (s : Int) (rest : List Int), μ[h]? = some (.lst (.int s :: rest.map Lt.A.int)) ∧ 0 ≤ s ∧ s ≤ b
/-- all but hs stays -/
def Ext (hs : List Nat) (μ μ' : Sto) : Prop := μ.length ≤ μ'.length ∧ ∀ i, i < μ.length → i ∉ hs → μ'[i]? = μ[i]?
theorem Ext.refl {hs : List Nat} {μ : Sto} : Ext hs μ μ := ⟨Nat.le_refl _, fun _ _ _ => rfl⟩
theorem Ext.trans {hs : List Nat} {μ μ1 μ2 : Sto} (a : Ext hs μ μ1) (b : Ext hs μ1 μ2) : Ext hs μ μ2 := ⟨Nat.le_trans a.1 b.1, fun i h n => (b.2 i (Nat.lt_of_lt_of_le h a.1) n).trans (a.2 i h n)⟩
theorem Ext.set {hs : List Nat} {h : Nat} {μ : Sto} {m : Mu} (hh : h ∈ hs) : Ext hs μ (μ.set h m) := ⟨by rw [List.length_set]; exact Nat.le_refl _, fun i _ n => List.getElem?_set_ne fun e => n (by rw [← e]; exact hh)⟩
theorem Ext.app {hs : List Nat} {μ more : Sto} : Ext hs μ (μ ++ more) := ⟨by rw [List.length_append]; exact Nat.le_add_right _ _, fun i h _ => List.getElem?_append_left h⟩
theorem Ext.get {hs : List Nat} {μ μ' : Sto} {i : Nat} {m : Mu} (e : Ext hs μ μ') (h : μ[i]? = some m) (n : i ∉ hs) : μ'[i]? = some m := (e.2 i (List.getElem?_eq_some_iff.mp h).1 n).trans h
theorem FeedOk.lt {h : Nat} {b : Int} {μ : Sto} (f : FeedOk h b μ) : h < μ.length := by
  obtain ⟨s, rest, e, _⟩ := f
  exact (List.getElem?_eq_some_iff.mp e).1
theorem FeedOk.mono {h : Nat} {b c : Int} {μ : Sto} (f : FeedOk h b μ) (l : b ≤ c) : FeedOk h c μ := by
  obtain ⟨s, rest, e, h0, h1⟩ := f
  exact ⟨s, rest, e, h0, Int.le_trans h1 l⟩
theorem FeedOk.app {h : Nat} {b : Int} {μ more : Sto} (f : FeedOk h b μ) : FeedOk h b (μ ++ more) := by
  obtain ⟨s, rest, e, h0, h1⟩ := f
  exact ⟨s, rest, (List.getElem?_append_left (List.getElem?_eq_some_iff.mp e).1).trans e, h0, h1⟩
theorem FeedOk.of {h : Nat} {b : Int} {μ μ' : Sto} {hs : List Nat} (f : FeedOk h b μ) (e : Ext hs μ μ') (n : h ∉ hs) : FeedOk h b μ' := by
  obtain ⟨s, rest, e', h0, h1⟩ := f
  exact ⟨s, rest, e.get e' n, h0, h1⟩
section
variable {cx : Cxp} {fa : Fn → Addr} {g : Fn → List Lt.A → M Lt.A}
theorem take_ok {h : Nat} {b m : Int} {μ : Sto} (hf : FeedOk h b μ) (hb : b < 2 ^ 62) (hm : 0 < m) :
    gives (runBody 3 (m__law_take cx fa g) [.hd h, .int m] μ) fun r μ' => ∃ k : Int, r = .int k ∧ 0 ≤ k ∧ k < m ∧ FeedOk h (b + 1) μ' ∧ Ext [h] μ μ' := by
  obtain ⟨s, rest, e, h0, h1⟩ := hf
  have e0 : startE 3 [Lt.A.hd h, .int m] = [some (.hd h), some (.int m), none] := rfl
  rw [w_run, e0]
  unfold m__law_take
  by_cases hr : rest = []
  · subst hr
    have e1 : (μ.set h (.lst [.int (s + 1)]))[h]? = some (.lst [.int (s + 1)]) := List.getElem?_set_self (List.getElem?_eq_some_iff.mp e).1
    have m1 : ∀ i : Int, 0 ≤ i → i < 2 ^ 63 → ∀ j : Int, CMul i j := fun i a c j => .inl ⟨by omega, by omega⟩
    have hx := e1
    simp only [List.map_nil] at e
    simp [w_lenH e, w_ixH e, w_setL e, w_ixH e1]
    have b1 : 0 ≤ ((s + 1) * (s + 1) * (s + 1) + (s + 1) * 69621) % 2147483647 := Int.emod_nonneg _ (by decide)
    have b2 : ((s + 1) * (s + 1) * (s + 1) + (s + 1) * 69621) % 2147483647 < 2147483647 := Int.emod_lt_of_pos _ (by decide)
    refine ⟨m1 _ (by omega) (by omega) _, .inr ⟨by omega, by omega⟩, m1 _ (by omega) (by omega) _, m1 _ b1 (by omega) _, ⟨by decide, by decide⟩, ⟨by decide, by decide⟩, hm, Int.emod_nonneg _ (by omega), Int.emod_lt_of_pos _ hm, ⟨s + 1, [], e1, by omega, by omega⟩, Ext.set (List.mem_singleton_self h)⟩
  · obtain ⟨ys, y, rfl⟩ : ∃ ys y, rest = ys ++ [y] := ⟨_, _, (List.dropLast_concat_getLast hr).symm⟩
    have e' : μ[h]? = some (.lst ((.int s :: ys.map Lt.A.int) ++ [.int y])) := by rw [e]; simp
    have hl : (1 : Int) < ys.length + 1 + 1 := by omega
    simp [w_lenH e, w_itemsL e, w_pop e', hl]
    exact ⟨hm, Int.emod_nonneg _ (by omega), Int.emod_lt_of_pos _ hm, ⟨s, ys, List.getElem?_set_self (List.getElem?_eq_some_iff.mp e).1, h0, by omega⟩, Ext.set (List.mem_singleton_self h)⟩
theorem take_fns {fa : Fn → Addr} {d h : Nat} {b m : Int} {μ : Sto} (hf : FeedOk h b μ) (hb : b < 2 ^ 62) (hm : 0 < m) :
    gives (fns cx fa (d + 1) ._law_take [.hd h, .int m] μ) fun r μ' => ∃ k : Int, r = .int k ∧ 0 ≤ k ∧ k < m ∧ FeedOk h (b + 1) μ' ∧ Ext [h] μ μ' := take_ok hf hb hm
/-- letters, so many -/
def chr (c : Nat) : Lt.A := .str ⟨#[c]⟩
theorem strs_chr : ∀ cs : List Nat, strsOf (cs.map chr) = some (cs.map fun c => ⟨#[c]⟩)
  | [] => rfl
  | c :: cs => by
    show (strsOf (cs.map chr)).map (_ :: ·) = _
    rw [strs_chr cs]
    rfl
theorem join_chr (cs : List Nat) : Txt.join ("" : Str) (cs.map fun c => (⟨#[c]⟩ : Str)) = ⟨cs.toArray⟩ := by
  have key : ∀ cs : List Nat, joinL [] (cs.map fun c => [c]) = cs := by
    intro cs
    induction cs with
    | nil => rfl
    | cons c cs ih =>
      cases cs with
      | nil => rfl
      | cons d ds =>
        show c :: joinL [] ((d :: ds).map fun c => [c]) = _
        rw [ih]
  have h := tl_join ("" : Str) (cs.map fun c => (⟨#[c]⟩ : Str))
  rw [join_eq]
  have e : (cs.map fun c => (⟨#[c]⟩ : Str)).map tl = cs.map fun c => [c] := by
    rw [List.map_map]
    rfl
  have e0 : tl ("" : Str) = [] := rfl
  rw [e, e0, key] at h
  have h2 : (Str.join ("" : Str) (cs.map fun c => (⟨#[c]⟩ : Str))).cps.toList = cs := h
  cases hj : Str.join ("" : Str) (cs.map fun c => (⟨#[c]⟩ : Str)) with
  | mk a =>
    rw [hj] at h2
    congr 1
    rw [← h2]
theorem word_ok {fa : Fn → Addr} {d h : Nat} {b n : Int} {L : Str} {μ : Sto} (hf : FeedOk h b μ) (hb : b < 2 ^ 61) (h0 : 0 ≤ n) (hn : n < 1000) (hL : 0 < L.length) (hL2 : L.length < 1000) :
    gives (fns cx fa (d + 2) ._law_word [.hd h, .str L, .int n] μ) fun r μ' => ∃ s : Str, r = .str s ∧ (s.length : Int) = n ∧ (∀ c ∈ s.cps.toList, c ∈ L.cps.toList) ∧ FeedOk h (b + 1000) μ' ∧ Ext [h] μ μ' := by
  have e0 : startE 4 [Lt.A.hd h, .str L, .int n] = [some (.hd h), some (.str L), some (.int n), none] := rfl
  show gives (runBody 4 (m__law_word cx fa (fns cx fa (d + 1))) _ μ) _
  rw [w_run, e0]
  unfold m__law_word
  have hz : L.length ≤ sizeLine := by rw [sizeLine_eq]; omega
  simp [w_strM]
  refine ⟨by omega, by rw [sizeLine_eq]; omega, ?_⟩
  refine gm (w_lc (I := fun as ys μ' => ∃ cs : List Nat, ys = cs.map chr ∧ cs.length + as.length = n.toNat ∧ (∀ c ∈ cs, c ∈ L.cps.toList) ∧ FeedOk h (b + cs.length) μ' ∧ Ext [h] μ μ') (KL := fun ys μ' => ∃ cs : List Nat, ys = cs.map chr ∧ cs.length = n.toNat ∧ (∀ c ∈ cs, c ∈ L.cps.toList) ∧ FeedOk h (b + cs.length) μ' ∧ Ext [h] μ μ') ?_ ?_ _ [] μ ⟨[], rfl, by simp, by simp, by simpa using hf, Ext.refl⟩) ?_
  · rintro a as ys μ1 ⟨cs, rfl, hc, hm, f1, x1⟩
    refine ⟨still_nil, ?_⟩
    simp
    refine ⟨hz, ?_⟩
    rw [List.length_cons] at hc
    refine gm (take_fns f1 (by omega) (by omega)) ?_
    rintro r μ2 ⟨k, rfl, k0, k1, f2, x2⟩
    simp
    refine ⟨hz, ?_⟩
    obtain ⟨c, hc1, hc2⟩ := atI_in (xs := L.cps.toList) k0 (by simpa [Str.length] using k1)
    refine ⟨c, hc1, cs ++ [c], by simp [chr], by simp; omega, ?_, ?_, x1.trans x2⟩
    · intro x hx
      rcases List.mem_append.mp hx with q | q
      · simpa using hm x q
      · rw [List.mem_singleton.mp q]; simpa using hc2
    · refine f2.mono ?_
      simp
      omega
  · rintro ys μ1 ⟨cs, rfl, hc, hm, f1, x1⟩
    exact ⟨still_nil, cs, rfl, by simpa using hc, hm, f1, x1⟩
  · rintro ys μ1 ⟨cs, e, hc, hm, f1, x1⟩
    rw [List.nil_append] at e
    subst e
    have hs : ((cs.map fun c => (⟨#[c]⟩ : Str)).map (·.length)).sum + (cs.map fun c => (⟨#[c]⟩ : Str)).length * ("" : Str).length ≤ 16777216 := by
      have e1 : ((cs.map fun c => (⟨#[c]⟩ : Str)).map (·.length)).sum = cs.length := by
        rw [List.map_map]
        clear hc hm f1 x1
        induction cs with
        | nil => rfl
        | cons c cs ih => simp at ih ⊢; rw [ih]; show 1 + _ = _; omega
      have e2 : ("" : Str).length = 0 := rfl
      rw [e1, e2]
      omega
    unfold joinF
    rw [w_bnd, strs_chr, w_optS, if_pos hs, join_chr, w_ret]
    exact ⟨⟨cs.toArray⟩, rfl, by simp [Str.length]; omega, by simpa using hm, f1.mono (by omega), x1⟩
/-- the numbers of a script, as pairs with their places -/
theorem pairs_mem : ∀ (ns : List Int) (k : Nat) (x : Lt.A), x ∈ pairsFrom k (ns.map Lt.A.int) → ∃ (i : Nat) (z : Int), x = .tup [.int (i : Nat), .int z] ∧ i < k + ns.length
  | [], _, x, h => by cases h
  | n :: ns, k, x, h => by
    rcases List.mem_cons.mp h with h | h
    · exact ⟨k, n, h, by simp⟩
    · obtain ⟨i, z, e, l⟩ := pairs_mem ns (k + 1) x h
      exact ⟨i, z, e, by simp; omega⟩
theorem cut63 (ns : List Int) (h : ns.length ≤ 63) : cutA (ns.map Lt.A.int) none (some 63) = ns.map Lt.A.int := by
  unfold cutA
  have e0 : HT.sIx (ns.map Lt.A.int).length 0 none = 0 := rfl
  have e1 : ns.length ≤ HT.sIx (ns.map Lt.A.int).length (ns.map Lt.A.int).length (some 63) := by
    rw [List.length_map]
    unfold HT.sIx
    simp
    omega
  rw [e0, List.drop_zero, Nat.sub_zero, List.take_of_length_le (Nat.le_trans (Nat.le_of_eq (List.length_map _)) e1)]
theorem feed_ok {fa : Fn → Addr} {d : Nat} {a : Lt.A} {ns : List Int} {μ : Sto} (hs : Scr a μ ns) (hn : ns.length ≤ 63) :
    gives (fns cx fa (d + 1) ._law_feed [a] μ) fun r μ' => ∃ h : Nat, r = .hd h ∧ FeedOk h (2 ^ 31) μ' := by
  have e0 : startE 7 [a] = [some a, none, none, none, none, none, none] := rfl
  show gives (runBody 7 (m__law_feed cx fa (fns cx fa d)) _ μ) _
  rw [w_run, e0]
  unfold m__law_feed
  simp
  have hsl : ∀ (μ1 : Sto) (K : Lt.A → Sto → Prop), (∃ more, μ1 = μ ++ more) → K (.hd μ1.length) (μ1 ++ [.lst (ns.map Lt.A.int)]) → gives (sliceA a none (some 63) μ1) K := by
    rintro μ1 K ⟨more, rfl⟩ k
    rcases hs with ⟨rfl, rfl⟩ | ⟨rfl, rfl⟩
    · show gives (alloc (.lst (cutA _ _ _)) _) _
      rw [cut63 ns hn]
      exact k
    · show gives (alloc (.lst (cutA _ _ _)) _) _
      rw [cut63 ns hn]
      exact k
  refine hsl _ _ ⟨_, rfl⟩ ?_
  have hf : (μ ++ [Mu.lst []] ++ [.lst (ns.map Lt.A.int)])[μ.length]? = some (.lst []) := by simp
  have hn1 : (μ ++ [Mu.lst []] ++ [.lst (ns.map Lt.A.int)])[(μ ++ [Mu.lst []]).length]? = some (.lst (ns.map Lt.A.int)) := by simp
  have en : (μ ++ [Mu.lst []]).length = μ.length + 1 := by simp
  rw [en] at hn1 ⊢
  generalize μ ++ [Mu.lst []] ++ [.lst (ns.map Lt.A.int)] = μ1 at hf hn1 ⊢
  generalize μ.length = f at hf hn1 ⊢
  rw [w_enumH hn1]
  refine f_for (I := fun as δ μ' => ∃ (st : Int) (o3 o4 o5 o6 : Option Lt.A) (xs : List Int) (k : Nat), δ = [some a, some (.int st), some (.hd f), o3, o4, o5, o6] ∧ 0 ≤ st ∧ st < 2 ^ 31 ∧ μ'[f]? = some (.lst (xs.map Lt.A.int)) ∧
    μ'[f + 1]? = some (.lst (ns.map Lt.A.int)) ∧ xs.length ≤ 60 * k ∧ k + as.length = ns.length ∧ ∀ x ∈ as, x ∈ pairsFrom 0 (ns.map Lt.A.int)) ?_ ?_ _ _ _ ⟨7, none, none, none, none, [], 0, rfl, by decide, by decide, hf, hn1, by simp, ?_, fun _ h => h⟩
  · rintro x as δ μ2 ⟨st, o3, o4, o5, o6, xs, k, rfl, s0, s1, e1, e2, hk, hl, hm⟩
    refine ⟨still_one e2, ?_⟩
    obtain ⟨i, z, rfl, hi⟩ := pairs_mem ns 0 x (hm x (List.mem_cons_self ..))
    have c1 : (0 : Int) ≤ (st * 69621 + z % 1000003 * 48271 + i * 40009) % 2147483645 := Int.emod_nonneg _ (by decide)
    have c2 : (st * 69621 + z % 1000003 * 48271 + i * 40009) % 2147483645 < 2147483645 := Int.emod_lt_of_pos _ (by decide)
    have c3 : (0 : Int) ≤ z % 1000003 := Int.emod_nonneg _ (by decide)
    have c4 : z % 1000003 < 1000003 := Int.emod_lt_of_pos _ (by decide)
    simp
    refine ⟨cmulL (by omega) (by omega), cmulL (by omega) (by omega), cmulL (by omega) (by omega), ⟨by decide, by decide, by decide⟩, ?_⟩
    refine gm (K := fun a μ' => ∃ left : Int, a = .int left ∧ μ' = μ2) ?_ ?_
    · by_cases hz : 1000000000000000000 ≤ z <;> simp [hz]
    rintro _ _ ⟨left, rfl, rfl⟩
    refine f_for (I := fun as δ μ' => ∃ (left : Int) (o6 : Option Lt.A) (xs : List Int), δ = [some a, some (.int (1 + (st * 69621 + z % 1000003 * 48271 + i * 40009) % 2147483645)), some (.hd f), some (.int i), some (.int z), some (.int left), o6] ∧
      μ'[f]? = some (.lst (xs.map Lt.A.int)) ∧ μ'[f + 1]? = some (.lst (ns.map Lt.A.int)) ∧ xs.length + as.length ≤ 60 * (k + 1)) ?_ ?_ _ _ _ ⟨left, o6, xs, rfl, e1, e2, by simp; omega⟩
    · rintro x as' δ μ3 ⟨left, o6, xs, rfl, e1, e2, hk⟩
      refine ⟨still_nil, ?_⟩
      have hx : xs.length < sizeLine := by rw [sizeLine_eq]; rw [List.length_cons] at hl hk; omega
      by_cases h0 : 0 < left
      · have ef : (μ3.set f (.lst (xs.map Lt.A.int ++ [.int (left % 997)])))[f]? = some (.lst (xs.map Lt.A.int ++ [.int (left % 997)])) := List.getElem?_set_self (List.getElem?_eq_some_iff.mp e1).1
        simp [w_itemsL e1, w_append e1, hx, h0]
        refine ⟨⟨by decide, by decide⟩, xs ++ [left % 997], by rw [ef]; simp, ?_, ?_⟩
        · exact e2
        · rw [List.length_cons] at hk; simp; omega
      · simp [h0]
        refine ⟨xs, e1, e2, ?_⟩
        rw [List.length_cons] at hk; omega
    · rintro δ μ3 ⟨left, o6, xs, rfl, e1, e2, hk⟩
      refine ⟨still_nil, ?_⟩
      rw [List.length_cons] at hl
      exact ⟨_, ⟨_, _, _, _, rfl⟩, by omega, by omega, xs, e1, e2, k + 1, by simpa using hk, by omega, fun y hy => hm y (List.mem_cons_of_mem _ hy)⟩
  · rintro δ μ2 ⟨st, o3, o4, o5, o6, xs, k, rfl, s0, s1, e1, e2, hk, hl, _⟩
    refine ⟨still_one e2, ?_⟩
    have hx : 1 + xs.length ≤ sizeLine := by rw [sizeLine_eq]; rw [List.length_nil] at hl; omega
    have f1 : (μ2 ++ [Mu.lst [.int st]])[f]? = some (.lst (xs.map Lt.A.int)) := by rw [List.getElem?_append_left (List.getElem?_eq_some_iff.mp e1).1]; exact e1
    have f2 : (μ2 ++ [Mu.lst [.int st]] ++ [.lst (xs.map Lt.A.int).reverse])[μ2.length]? = some (.lst [.int st]) := by simp
    have f3 : (μ2 ++ [Mu.lst [.int st]] ++ [.lst (xs.map Lt.A.int).reverse])[(μ2 ++ [Mu.lst [Lt.A.int st]]).length]? = some (.lst (xs.map Lt.A.int).reverse) := by simp
    simp [-List.append_assoc, -List.length_append]
    refine ⟨by rw [sizeLine_eq]; decide, ?_⟩
    rw [w_rev f1, w_addH f2 f3]
    refine ⟨by simpa using hx, _, rfl, st, xs.reverse, ?_, s0, by omega⟩
    simp
  · simp [pairsFrom_len]
end
end Tx

namespace Tx
open PySem PySem.Spec PyProof.Rows L2 Lt TL
/-! ### the classes -/
def cix : Cl → Nat
  | .ForgeError => 0 | .NoSteps => 1 | .TooMany => 2 | .InvalidEquation => 3 | .InvalidCommand => 4 | .NothingKept => 5 | .Stuck => 6 | .InvalidUse => 7 | .NotTotal => 8 | .NotProved => 9
/-- the classes' answers -/
structure specOk (cx : Cxp) : Prop where
  isa : ∀ c d, cx.isa c (cx.ca d) = some (cix c == cix d || cix c == 0)
  isv : ∀ d, cx.isv (cx.ca d) = some true
  f1 : cx.fok "name" (cx.ca .Stuck) = true
  f2 : cx.fok "index" (cx.ca .InvalidUse) = true
  f3 : cx.fok "found" (cx.ca .NotTotal) = true
  f4 : cx.fok "found" (cx.ca .NotProved) = true
section
variable {cx : Cxp} {fa : Fn → Addr}
theorem lc_at {e : Lt.A} {its : List Lt.A} {p : Int} {μ : Sto} : ∀ (ks : List Nat) (K : List Lt.A → Sto → Prop), gives (lcM (setG 2) (fun δ => Lt.ret true) (fun δ => bnd (getv δ 2) fun x => bnd (getv δ 1) fun y => eqA x y) ⟨its, []⟩ [some e, some (.int p), none] (ks.map fun i : Nat => Lt.A.int (i : Int)) μ) K ↔ K (ks.map fun i : Nat => Lt.A.bl (decide ((i : Int) = p))) μ
  | [], K => by simp
  | k :: ks, K => by
    have ih := lc_at (e := e) (its := its) (p := p) (μ := μ) ks
    simp [ih]
theorem classes_ok (hc : specOk cx) {d : Nat} {c : Cl} {ns : List Str} {xs : List Lt.A} {μ : Sto} :
    gives (fns cx fa (d + 1) ._law_classes [.exc (cx.ca c) ns xs] μ) fun r μ' => ∃ h, r = .hd h ∧ μ'[h]? = some (.lst ([Cl.Stuck, .InvalidUse, .NotTotal, .NotProved, .InvalidEquation, .InvalidCommand, .NothingKept, .TooMany, .NoSteps].map fun k => Lt.A.bl (cix k == cix c))) ∧ Ext [] μ μ' := by
  have e1 : startE 2 [Lt.A.exc (cx.ca c) ns xs] = [some (.exc (cx.ca c) ns xs), none] := rfl
  show gives (runBody 2 (m__law_classes cx fa (fns cx fa d)) _ μ) _
  rw [w_run, e1]
  unfold m__law_classes
  have hz : ∀ n : Nat, n ≤ 1000 → n ≤ sizeLine := fun n h => by rw [sizeLine_eq]; omega
  simp [hc.isa, -List.append_assoc, -List.length_append]
  refine ⟨hz _ (by decide), hz _ (by decide), ?_⟩
  rw [w_addH get_1 get_2]
  refine ⟨hz _ (by simp), hz _ (by decide), ?_⟩
  rw [w_addH get_1 get_2]
  refine ⟨hz _ (by simp), _, rfl, ?_, ?_⟩
  · rw [get_0]
    cases c <;> rfl
  · rw [List.append_assoc, List.append_assoc, List.append_assoc, List.append_assoc]
    exact Ext.app
theorem is_ok (hc : specOk cx) {d : Nat} {c : Cl} {p : Int} {ns : List Str} {xs : List Lt.A} {μ : Sto} (hp : (c, p) ∈ [(Cl.Stuck, 0), (.InvalidUse, 1), (.NotTotal, 2), (.NotProved, 3), (.InvalidEquation, 4), (.InvalidCommand, 5), (.NothingKept, 6), (.TooMany, 7), (.NoSteps, 8)]) :
    gives (fns cx fa (d + 2) ._law_is [.exc (cx.ca c) ns xs, .int p] μ) fun r μ' => r = .bl true ∧ Ext [] μ μ' := by
  have e0 : startE 3 [Lt.A.exc (cx.ca c) ns xs, .int p] = [some (.exc (cx.ca c) ns xs), some (.int p), none] := rfl
  show gives (runBody 3 (m__law_is cx fa (fns cx fa (d + 1))) _ μ) _
  rw [w_run, e0]
  unfold m__law_is
  have h0 : cix .ForgeError = 0 := rfl
  simp [hc.isa, hc.isv, h0]
  refine gm (classes_ok hc) ?_
  rintro _ μ1 ⟨h, rfl, e1, x1⟩
  have hr : List.range 9 = [0, 1, 2, 3, 4, 5, 6, 7, 8] := rfl
  refine ⟨by rw [sizeLine_eq]; decide, ?_⟩
  rw [lc_at]
  have e2 := get_app (more := [Mu.lst ((List.range 9).map fun i : Nat => Lt.A.bl (decide ((i : Int) = p)))]) e1
  have e3 : (μ1 ++ [Mu.lst ((List.range 9).map fun i : Nat => Lt.A.bl (decide ((i : Int) = p)))])[μ1.length]? = some (.lst ((List.range 9).map fun i : Nat => Lt.A.bl (decide ((i : Int) = p)))) := get_0
  have key : ∀ (bs : List Bool) (xs ys : List Lt.A) (μ : Sto) (n m : Nat), xs = bs.map Lt.A.bl → ys = bs.map Lt.A.bl → bs.length = 9 → μ[n]? = some (.lst xs) → μ[m]? = some (.lst ys) → ∀ K : Lt.A → Sto → Prop, K (.bl true) μ → gives (eqA (.hd n) (.hd m) μ) K := by
    rintro bs _ _ μ n m rfl rfl hl h1 h2 K k
    have hd : ∀ bs : List Bool, dats (bs.map Lt.A.bl) = some (bs.map PyData.bool) := fun bs => by
      induction bs with
      | nil => rfl
      | cons b bs ih => simp [dats, dat, ih]
    have d1 : datS μ (.hd n) = some (.list (bs.map PyData.bool)) := by simp [datS, h1, hd]
    have d2 : datS μ (.hd m) = some (.list (bs.map PyData.bool)) := by simp [datS, h2, hd]
    have hs : SeqAt.shaped (.list (bs.map PyData.bool)) = true := by
      match bs, hl with
      | [a0, a1, a2, a3, a4, a5, a6, a7, a8], _ => rfl
    rw [w_eqD rfl d1 d2 hs hs, SeqAt.eqv_refl _ (SeqAt.canLay_of_shaped hs)]
    exact k
  refine key ((List.range 9).map fun i : Nat => decide ((i : Int) = p)) _ _ _ _ _ ?_ ?_ (by simp) e2 e3 _ ⟨rfl, x1.trans Ext.app⟩
  · simp at hp
    rcases hp with h | h | h | h | h | h | h | h | h <;> (obtain ⟨rfl, rfl⟩ := h; rfl)
  · rw [List.map_map]
    rfl
end
end Tx

namespace Tx
open PySem PySem.Spec PyProof.Rows L2 Lt TL
section
variable {cx : Cxp} {fa : Fn → Addr}
theorem law_spec (hc : specOk cx) (ns : List Int) (a : Lt.A) (μ : Sto) (hn : ns.length ≤ 63) (hs : Scr a μ ns) : gives (fns cx fa 8 .law [a] μ) fun r _ => r = .bl true := by
  have e0 : startE 9 [a] = [some a, none, none, none, none, none, none, none, none] := rfl
  show gives (runBody 9 (m_law cx fa (fns cx fa 7)) _ μ) _
  rw [w_run, e0]
  unfold m_law
  have hL : ("abcdefghijklmnopqrstuvwxyz" : Str).length = 26 := by decide +kernel
  have hz : ∀ n : Nat, n ≤ 1000 → n ≤ sizeLine := fun n h => by rw [sizeLine_eq]; omega
  rw [f_seq]
  simp
  refine gm (feed_ok hs hn) ?_
  rintro _ μ1 ⟨h, rfl, f1⟩
  refine gm (take_fns f1 (by decide) (by decide)) ?_
  rintro _ μ2 ⟨k, rfl, k0, k1, f2, x2⟩
  simp
  refine gm (word_ok f2 (by decide) (by omega) (by omega) (by rw [hL]; decide) (by rw [hL]; decide)) ?_
  rintro _ μ3 ⟨name, rfl, hl, hm, f3, x3⟩
  try simp
  refine gm (take_fns f3 (by decide) (by decide)) ?_
  rintro _ μ4 ⟨i1, rfl, i10, i11, f4, x4⟩
  have p1 : CPow 10 9 := ⟨by decide, by decide, by decide⟩
  have p2 : CPow 10 18 := ⟨by decide, by decide, by decide⟩
  have p3 : CPow 10 27 := ⟨by decide, by decide, by decide⟩
  simp [p1, p2, p3, -List.append_assoc, -List.length_append]
  refine ⟨hz _ (by decide), ?_⟩
  refine gm (take_fns f4.app (by decide) (by decide)) ?_
  rintro _ μ5 ⟨i2, rfl, i20, i21, f5, x5⟩
  have l5 := x5.get get_0 (fun e => by have := f4.lt; rw [List.mem_singleton] at e; omega)
  rw [w_ixH l5]
  obtain ⟨v, hv, hv2⟩ := atI_in (xs := [Lt.A.int 1, .int 1000000000, .int 1000000000000000000, .int 1000000000000000000000000000]) i20 (by simpa using i21)
  refine ⟨v, hv, ?_⟩
  obtain ⟨m, rfl⟩ : ∃ m : Int, v = .int m := by
    simp at hv2
    rcases hv2 with h | h | h | h <;> exact ⟨_, h⟩
  simp
  refine ⟨cmulL (by omega) (by omega), ?_⟩
  refine gm (take_fns f5 (by decide) (by decide)) ?_
  rintro _ μ6 ⟨i3, rfl, i30, i31, f6, x6⟩
  simp
  generalize i1 * m + i3 = index
  refine ⟨hz _ (by decide), hz _ (by decide), ?_⟩
  refine gm (take_fns f6 (by decide) (by decide)) ?_
  rintro _ μ7 ⟨i4, rfl, i40, i41, f7, x7⟩
  have hok : PyData.strOk name = true := by
    unfold PyData.strOk
    rw [Array.all_eq_true']
    intro c hc
    have h1 := hm c (by simpa using hc)
    have h2 : ∀ c ∈ ("abcdefghijklmnopqrstuvwxyz" : Str).cps.toList, c < 1114112 := by decide +kernel
    exact decide_eq_true (h2 c h1)
  have t1 : PyData.strOk ("missing" : Str) = true := by decide +kernel
  have t2 : PyData.strOk ("any" : Str) = true := by decide +kernel
  have t3 : PyData.strOk ("num" : Str) = true := by decide +kernel
  have t4 : PyData.strOk ("ring" : Str) = true := by decide +kernel
  have t5 : PyData.strOk ("false" : Str) = true := by decide +kernel
  refine f_mono (Kn := fun δ' μ' => ∃ fs d, δ' = [some a, some (.hd h), some (.str name), some (.int index), some (.tup fs), none, none, none, none] ∧ dat (.tup fs) = some d ∧ SeqAt.shaped d = true ∧ SeqAt.shaped (.tuple [.str "false", d]) = true) ?_ ?_
  · by_cases h4 : i4 = 0
    · simp [h4, hz]
      refine ⟨_, rfl, ?_, ?_⟩ <;> simp [SeqAt.shaped, PyData.canLay0, PyData.canLayAll0, PyData.depth, PyData.depthAll, hok, t1, t2, t3, t5]
    · simp [h4]
      refine ⟨_, rfl, ?_, ?_⟩ <;> simp [SeqAt.shaped, PyData.canLay0, PyData.canLayAll0, PyData.depth, PyData.depthAll, hok, t4, t5]
  rintro _ μ8 ⟨fs, d, rfl, hd, hs1, hs2⟩
  simp [w_xf1 hc.f1, w_xf1 hc.f2, w_xf1 hc.f3, w_xf1 hc.f4]
  refine ⟨hz _ (by decide), hz _ (by decide), ?_⟩
  have z2 : 2 ≤ sizeLine := hz 2 (by decide)
  have hdS : ∀ μ : Sto, datS μ (.tup fs) = some d := fun μ => hd
  have hdK : ∀ μ : Sto, datS μ (.tup [.str "false", .tup fs]) = some (.tuple [.str "false", d]) := fun μ => by
    show dat _ = _
    simp [dat, dats] at hd ⊢
    simp [hd]
  refine gm (is_ok (d := 5) (c := .Stuck) (p := 0) hc (by simp)) ?_
  rintro _ μ9 ⟨rfl, -⟩
  try simp [w_xf1 hc.f1, w_xf1 hc.f2, w_xf1 hc.f3, w_xf1 hc.f4, w_ne_self (hdS _) hs1, w_ne_self (hdK _) hs2, z2]
  refine gm (is_ok (d := 5) (c := .InvalidUse) (p := 1) hc (by simp)) ?_
  rintro _ μ10 ⟨rfl, -⟩
  try simp [w_xf1 hc.f1, w_xf1 hc.f2, w_xf1 hc.f3, w_xf1 hc.f4, w_ne_self (hdS _) hs1, w_ne_self (hdK _) hs2, z2]
  refine gm (is_ok (d := 5) (c := .NotTotal) (p := 2) hc (by simp)) ?_
  rintro _ μ11 ⟨rfl, -⟩
  try simp [w_xf1 hc.f1, w_xf1 hc.f2, w_xf1 hc.f3, w_xf1 hc.f4, w_ne_self (hdS _) hs1, w_ne_self (hdK _) hs2, z2]
  refine gm (is_ok (d := 5) (c := .NotProved) (p := 3) hc (by simp)) ?_
  rintro _ μ12 ⟨rfl, -⟩
  try simp [w_xf1 hc.f1, w_xf1 hc.f2, w_xf1 hc.f3, w_xf1 hc.f4, w_ne_self (hdS _) hs1, w_ne_self (hdK _) hs2, z2]
  refine gm (is_ok (d := 5) (c := .InvalidEquation) (p := 4) hc (by simp)) ?_
  rintro _ μ13 ⟨rfl, -⟩
  try simp [w_xf1 hc.f1, w_xf1 hc.f2, w_xf1 hc.f3, w_xf1 hc.f4, w_ne_self (hdS _) hs1, w_ne_self (hdK _) hs2, z2]
  refine gm (is_ok (d := 5) (c := .InvalidCommand) (p := 5) hc (by simp)) ?_
  rintro _ μ14 ⟨rfl, -⟩
  try simp [w_xf1 hc.f1, w_xf1 hc.f2, w_xf1 hc.f3, w_xf1 hc.f4, w_ne_self (hdS _) hs1, w_ne_self (hdK _) hs2, z2]
  refine gm (is_ok (d := 5) (c := .NothingKept) (p := 6) hc (by simp)) ?_
  rintro _ μ15 ⟨rfl, -⟩
  try simp [w_xf1 hc.f1, w_xf1 hc.f2, w_xf1 hc.f3, w_xf1 hc.f4, w_ne_self (hdS _) hs1, w_ne_self (hdK _) hs2, z2]
  refine gm (is_ok (d := 5) (c := .TooMany) (p := 7) hc (by simp)) ?_
  rintro _ μ16 ⟨rfl, -⟩
  try simp [w_xf1 hc.f1, w_xf1 hc.f2, w_xf1 hc.f3, w_xf1 hc.f4, w_ne_self (hdS _) hs1, w_ne_self (hdK _) hs2, z2]
  refine gm (is_ok (d := 5) (c := .NoSteps) (p := 8) hc (by simp)) ?_
  rintro _ μ17 ⟨rfl, -⟩
  try simp [w_xf1 hc.f1, w_xf1 hc.f2, w_xf1 hc.f3, w_xf1 hc.f4, w_ne_self (hdS _) hs1, w_ne_self (hdK _) hs2, z2]
end
end Tx

namespace Tx
open PySem PySem.Spec PyProof.Rows L2 Lt
section
variable {P : Program} {w : World} {K : PySem.W.Frag} {mg : Str → Option Value} {base : Heap}
structure BaseC (K : PySem.W.Frag) (mg : Str → Option Value) (B : Addr) : Prop where
  mgB : mg "ForgeError" = some (.ref B)
  sp : PySem.W.specialIn K (.ref B) "__getattribute__" = some (some (.builtin "type.__getattribute__"))
  rd : PySem.W.readsIn K B (.type "type") = true
  fi : PySem.W.findCls K (.ref B) (.type "type") "__init__" = some (.val (.builtin "ValueError.__init__"))
theorem SI_TooMany : FnScope ["self", "limit"] ["self", "limit"] (defScope i_TooMany) := ⟨rfl, rfl, rfl, by decide +kernel, rfl, by decide +kernel, by decide +kernel⟩
theorem ini_TooMany {B f : Addr} {fd : FuncData} (C : BaseC K mg B) (F : Fun K "__init__" "TooMany.__init__" i_TooMany f fd) : FnOk P w K mg base (L2.CX P w) 1 f fd (cp .TooMany) (spInit K (cf .TooMany)) := by
  have S := SI_TooMany
  refine F.okX S (fun vs H Q E h => ?_) fun cdv A outer s H vs Q E hr h => ?_
  · obtain ⟨a, C, y, rfl, _⟩ := h
    rfl
  · refine ⟨_, pss_cons (ps_expr (pe_oinit rfl C.mgB C.sp C.rd C.fi (pa_cons (pe_var (i := 0) rfl (Or.inl rfl)) (pa_cons pe_str pa_nil)))) (pss_one (ps_ost (pe_var (i := 0) rfl (Or.inl rfl)) (pe_var (i := 1) rfl (Or.inl rfl)))), ?_⟩
    obtain ⟨a, C, y, rfl, T, hno, ha, q⟩ := h
    exact ⟨_, rfl, a, C, _, rfl, (by show 1 ≤ 1000; decide), T, ha, _, rfl, _, rfl, a, C, rfl, T, hno, .inl ⟨ha, fun dx hd ne => q dx hd ne⟩⟩
theorem SI_Stuck : FnScope ["self", "name"] ["self", "name"] (defScope i_Stuck) := ⟨rfl, rfl, rfl, by decide +kernel, rfl, by decide +kernel, by decide +kernel⟩
theorem ini_Stuck {B f : Addr} {fd : FuncData} (C : BaseC K mg B) (F : Fun K "__init__" "Stuck.__init__" i_Stuck f fd) : FnOk P w K mg base (L2.CX P w) 1 f fd (cp .Stuck) (spInit K (cf .Stuck)) := by
  have S := SI_Stuck
  refine F.okX S (fun vs H Q E h => ?_) fun cdv A outer s H vs Q E hr h => ?_
  · obtain ⟨a, C, y, rfl, _⟩ := h
    rfl
  · refine ⟨_, pss_cons (ps_expr (pe_oinit rfl C.mgB C.sp C.rd C.fi (pa_cons (pe_var (i := 0) rfl (Or.inl rfl)) (pa_cons pe_str pa_nil)))) (pss_one (ps_ost (pe_var (i := 0) rfl (Or.inl rfl)) (pe_var (i := 1) rfl (Or.inl rfl)))), ?_⟩
    obtain ⟨a, C, y, rfl, T, hno, ha, q⟩ := h
    exact ⟨_, rfl, a, C, _, rfl, (by show 1 ≤ 1000; decide), T, ha, _, rfl, _, rfl, a, C, rfl, T, hno, .inl ⟨ha, fun dx hd ne => q dx hd ne⟩⟩
theorem SI_InvalidUse : FnScope ["self", "index"] ["self", "index"] (defScope i_InvalidUse) := ⟨rfl, rfl, rfl, by decide +kernel, rfl, by decide +kernel, by decide +kernel⟩
theorem ini_InvalidUse {B f : Addr} {fd : FuncData} (C : BaseC K mg B) (F : Fun K "__init__" "InvalidUse.__init__" i_InvalidUse f fd) : FnOk P w K mg base (L2.CX P w) 1 f fd (cp .InvalidUse) (spInit K (cf .InvalidUse)) := by
  have S := SI_InvalidUse
  refine F.okX S (fun vs H Q E h => ?_) fun cdv A outer s H vs Q E hr h => ?_
  · obtain ⟨a, C, y, rfl, _⟩ := h
    rfl
  · refine ⟨_, pss_cons (ps_expr (pe_oinit rfl C.mgB C.sp C.rd C.fi (pa_cons (pe_var (i := 0) rfl (Or.inl rfl)) (pa_cons pe_str pa_nil)))) (pss_one (ps_ost (pe_var (i := 0) rfl (Or.inl rfl)) (pe_var (i := 1) rfl (Or.inl rfl)))), ?_⟩
    obtain ⟨a, C, y, rfl, T, hno, ha, q⟩ := h
    exact ⟨_, rfl, a, C, _, rfl, (by show 1 ≤ 1000; decide), T, ha, _, rfl, _, rfl, a, C, rfl, T, hno, .inl ⟨ha, fun dx hd ne => q dx hd ne⟩⟩
theorem SI_NotTotal : FnScope ["self", "found"] ["self", "found"] (defScope i_NotTotal) := ⟨rfl, rfl, rfl, by decide +kernel, rfl, by decide +kernel, by decide +kernel⟩
theorem ini_NotTotal {B f : Addr} {fd : FuncData} (C : BaseC K mg B) (F : Fun K "__init__" "NotTotal.__init__" i_NotTotal f fd) : FnOk P w K mg base (L2.CX P w) 1 f fd (cp .NotTotal) (spInit K (cf .NotTotal)) := by
  have S := SI_NotTotal
  refine F.okX S (fun vs H Q E h => ?_) fun cdv A outer s H vs Q E hr h => ?_
  · obtain ⟨a, C, y, rfl, _⟩ := h
    rfl
  · refine ⟨_, pss_cons (ps_expr (pe_oinit rfl C.mgB C.sp C.rd C.fi (pa_cons (pe_var (i := 0) rfl (Or.inl rfl)) (pa_cons pe_str pa_nil)))) (pss_one (ps_ost (pe_var (i := 0) rfl (Or.inl rfl)) (pe_var (i := 1) rfl (Or.inl rfl)))), ?_⟩
    obtain ⟨a, C, y, rfl, T, hno, ha, q⟩ := h
    exact ⟨_, rfl, a, C, _, rfl, (by show 1 ≤ 1000; decide), T, ha, _, rfl, _, rfl, a, C, rfl, T, hno, .inl ⟨ha, fun dx hd ne => q dx hd ne⟩⟩
theorem SI_NotProved : FnScope ["self", "found"] ["self", "found"] (defScope i_NotProved) := ⟨rfl, rfl, rfl, by decide +kernel, rfl, by decide +kernel, by decide +kernel⟩
theorem ini_NotProved {B f : Addr} {fd : FuncData} (C : BaseC K mg B) (F : Fun K "__init__" "NotProved.__init__" i_NotProved f fd) : FnOk P w K mg base (L2.CX P w) 1 f fd (cp .NotProved) (spInit K (cf .NotProved)) := by
  have S := SI_NotProved
  refine F.okX S (fun vs H Q E h => ?_) fun cdv A outer s H vs Q E hr h => ?_
  · obtain ⟨a, C, y, rfl, _⟩ := h
    rfl
  · refine ⟨_, pss_cons (ps_expr (pe_oinit rfl C.mgB C.sp C.rd C.fi (pa_cons (pe_var (i := 0) rfl (Or.inl rfl)) (pa_cons pe_str pa_nil)))) (pss_one (ps_ost (pe_var (i := 0) rfl (Or.inl rfl)) (pe_var (i := 1) rfl (Or.inl rfl)))), ?_⟩
    obtain ⟨a, C, y, rfl, T, hno, ha, q⟩ := h
    exact ⟨_, rfl, a, C, _, rfl, (by show 1 ≤ 1000; decide), T, ha, _, rfl, _, rfl, a, C, rfl, T, hno, .inl ⟨ha, fun dx hd ne => q dx hd ne⟩⟩
end
def caOf (C0 C1 C2 C3 C4 C5 C6 C7 C8 C9 : Addr) : Cl → Addr
  | .ForgeError => C0
  | .NoSteps => C1
  | .TooMany => C2
  | .InvalidEquation => C3
  | .InvalidCommand => C4
  | .NothingKept => C5
  | .Stuck => C6
  | .InvalidUse => C7
  | .NotTotal => C8
  | .NotProved => C9
/-- the parameters of the mirrors, from the written part -/
def cxOfK (K : PySem.W.Frag) (ca : Cl → Addr) : Cxp := ⟨ca, fun c D => subK K (.ref (ca c)) D, fun D => subK K (.type "ValueError") D, fokK K⟩
def clsB (K : PySem.W.Frag) (cs : List Addr) : Bool := ((List.range 10).all fun i => (List.range 10).all fun j => decide (subK K (.ref (cs.getD i 0)) (cs.getD j 0) = some (i == j || i == 0))) && (((List.range 10).all fun j => decide (subK K (.type "ValueError") (cs.getD j 0) = some true)) &&
  (fokK K "name" (cs.getD 6 0) && (fokK K "index" (cs.getD 7 0) && (fokK K "found" (cs.getD 8 0) && fokK K "found" (cs.getD 9 0)))))
theorem cls_facts {K : PySem.W.Frag} {C0 C1 C2 C3 C4 C5 C6 C7 C8 C9 : Addr} (h : clsB K [C0, C1, C2, C3, C4, C5, C6, C7, C8, C9] = true) : specOk (cxOfK K (caOf C0 C1 C2 C3 C4 C5 C6 C7 C8 C9)) := by
  obtain ⟨h1, h⟩ := Bool.and_eq_true_iff.mp h
  obtain ⟨h2, h⟩ := Bool.and_eq_true_iff.mp h
  obtain ⟨h3, h⟩ := Bool.and_eq_true_iff.mp h
  obtain ⟨h4, h⟩ := Bool.and_eq_true_iff.mp h
  obtain ⟨h5, h6⟩ := Bool.and_eq_true_iff.mp h
  have e : ∀ c : Cl, caOf C0 C1 C2 C3 C4 C5 C6 C7 C8 C9 c = [C0, C1, C2, C3, C4, C5, C6, C7, C8, C9].getD (cix c) 0 := fun c => by cases c <;> rfl
  have l : ∀ c : Cl, cix c ∈ List.range 10 := fun c => by cases c <;> decide
  refine ⟨fun c d => ?_, fun d => ?_, h3, h4, h5, h6⟩
  · have q := of_decide_eq_true (List.all_eq_true.mp (List.all_eq_true.mp h1 _ (l c)) _ (l d))
    rw [← e c, ← e d] at q
    exact q
  · have q := of_decide_eq_true (List.all_eq_true.mp h2 _ (l d))
    rw [← e d] at q
    exact q

theorem all_mk {l : PySem.W.OpenLaw} {w : World} {K : PySem.W.Frag} {h : Heap} {mg : Str → Option Value} {fa0 : Addr} (X : K.In h) (G : h.Ns mainGlobals mg) (hfa : mg "law" = some (.ref fa0))
    {f0 f1 f2 f3 f4 f5 : Addr} {od0 an0 od1 an1 od2 an2 od3 an3 od4 an4 od5 an5 : Option Addr} {sl0 sl1 sl2 sl3 sl4 sl5 : Array (Option Value)} {oc0 kV0 dc0 pm0 cd0 ct0 oc1 kV1 dc1 pm1 cd1 ct1 oc2 kV2 dc2 pm2 cd2 ct2 oc3 kV3 dc3 pm3 cd3 ct3 oc4 kV4 dc4 pm4 cd4 ct4 oc5 kV5 dc5 pm5 cd5 ct5 : Value} {C0 C1 C2 C3 C4 C5 C6 C7 C8 C9 : Addr} {I2 : Addr} {I6 : Addr} {I7 : Addr} {I8 : Addr} {I9 : Addr} {ooc2 okV2 odc2 opm2 ocd2 oct2 : Value} {ood2 oan2 : Option Addr} {osl2 : Array (Option Value)} {ooc6 okV6 odc6 opm6 ocd6 oct6 : Value} {ood6 oan6 : Option Addr} {osl6 : Array (Option Value)} {ooc7 okV7 odc7 opm7 ocd7 oct7 : Value} {ood7 oan7 : Option Addr} {osl7 : Array (Option Value)} {ooc8 okV8 odc8 opm8 ocd8 oct8 : Value} {ood8 oan8 : Option Addr} {osl8 : Array (Option Value)} {ooc9 okV9 odc9 opm9 ocd9 oct9 : Value} {ood9 oan9 : Option Addr} {osl9 : Array (Option Value)}
    (a0 : PySem.W.nsIn K mainGlobals "_law_feed" = some (some (.ref f0)))
    (l0 : K.lookup f0 = some ⟨oc0, od0, .func (PySem.W.fnOf "_law_feed" "_law_feed" (defArgs s__law_feed) (defBody s__law_feed) (defScope s__law_feed) .none kV0 dc0 pm0 an0 cd0 ct0), sl0⟩)
    (c0 : PySem.W.codeIn K cd0 "_law_feed" = true)
    (k0 : PySem.W.keepIn K (.ref f0) = true)
    (a1 : PySem.W.nsIn K mainGlobals "_law_take" = some (some (.ref f1)))
    (l1 : K.lookup f1 = some ⟨oc1, od1, .func (PySem.W.fnOf "_law_take" "_law_take" (defArgs s__law_take) (defBody s__law_take) (defScope s__law_take) .none kV1 dc1 pm1 an1 cd1 ct1), sl1⟩)
    (c1 : PySem.W.codeIn K cd1 "_law_take" = true)
    (k1 : PySem.W.keepIn K (.ref f1) = true)
    (a2 : PySem.W.nsIn K mainGlobals "_law_word" = some (some (.ref f2)))
    (l2 : K.lookup f2 = some ⟨oc2, od2, .func (PySem.W.fnOf "_law_word" "_law_word" (defArgs s__law_word) (defBody s__law_word) (defScope s__law_word) .none kV2 dc2 pm2 an2 cd2 ct2), sl2⟩)
    (c2 : PySem.W.codeIn K cd2 "_law_word" = true)
    (k2 : PySem.W.keepIn K (.ref f2) = true)
    (a3 : PySem.W.nsIn K mainGlobals "_law_classes" = some (some (.ref f3)))
    (l3 : K.lookup f3 = some ⟨oc3, od3, .func (PySem.W.fnOf "_law_classes" "_law_classes" (defArgs s__law_classes) (defBody s__law_classes) (defScope s__law_classes) .none kV3 dc3 pm3 an3 cd3 ct3), sl3⟩)
    (c3 : PySem.W.codeIn K cd3 "_law_classes" = true)
    (k3 : PySem.W.keepIn K (.ref f3) = true)
    (a4 : PySem.W.nsIn K mainGlobals "_law_is" = some (some (.ref f4)))
    (l4 : K.lookup f4 = some ⟨oc4, od4, .func (PySem.W.fnOf "_law_is" "_law_is" (defArgs s__law_is) (defBody s__law_is) (defScope s__law_is) .none kV4 dc4 pm4 an4 cd4 ct4), sl4⟩)
    (c4 : PySem.W.codeIn K cd4 "_law_is" = true)
    (k4 : PySem.W.keepIn K (.ref f4) = true)
    (a5 : PySem.W.nsIn K mainGlobals "law" = some (some (.ref f5)))
    (l5 : K.lookup f5 = some ⟨oc5, od5, .func (PySem.W.fnOf "law" "law" (defArgs s_law) (defBody s_law) (defScope s_law) .none kV5 dc5 pm5 an5 cd5 ct5), sl5⟩)
    (c5 : PySem.W.codeIn K cd5 "law" = true)
    (k5 : PySem.W.keepIn K (.ref f5) = true)
    (ac0 : PySem.W.nsIn K mainGlobals "ForgeError" = some (some (.ref C0)))
    (kc0 : PySem.W.keepIn K (.ref C0) = true)
    (ac1 : PySem.W.nsIn K mainGlobals "NoSteps" = some (some (.ref C1)))
    (kc1 : PySem.W.keepIn K (.ref C1) = true)
    (ac2 : PySem.W.nsIn K mainGlobals "TooMany" = some (some (.ref C2)))
    (kc2 : PySem.W.keepIn K (.ref C2) = true)
    (ac3 : PySem.W.nsIn K mainGlobals "InvalidEquation" = some (some (.ref C3)))
    (kc3 : PySem.W.keepIn K (.ref C3) = true)
    (ac4 : PySem.W.nsIn K mainGlobals "InvalidCommand" = some (some (.ref C4)))
    (kc4 : PySem.W.keepIn K (.ref C4) = true)
    (ac5 : PySem.W.nsIn K mainGlobals "NothingKept" = some (some (.ref C5)))
    (kc5 : PySem.W.keepIn K (.ref C5) = true)
    (ac6 : PySem.W.nsIn K mainGlobals "Stuck" = some (some (.ref C6)))
    (kc6 : PySem.W.keepIn K (.ref C6) = true)
    (ac7 : PySem.W.nsIn K mainGlobals "InvalidUse" = some (some (.ref C7)))
    (kc7 : PySem.W.keepIn K (.ref C7) = true)
    (ac8 : PySem.W.nsIn K mainGlobals "NotTotal" = some (some (.ref C8)))
    (kc8 : PySem.W.keepIn K (.ref C8) = true)
    (ac9 : PySem.W.nsIn K mainGlobals "NotProved" = some (some (.ref C9)))
    (kc9 : PySem.W.keepIn K (.ref C9) = true)
    (xn0 : PySem.W.excIn K C0 [.type "ValueError", .type "Exception", .type "BaseException", .type "object"] "ValueError.__new__" = true)
    (xn1 : PySem.W.excIn K C1 [.type "ValueError", .type "Exception", .type "BaseException", .type "object"] "ValueError.__new__" = true)
    (ii2 : PySem.W.findIn K (.ref C2) "__init__" = some (some (.ref I2)))
    (ti2 : PySem.W.typeIn K (.ref I2) = some (.type "function"))
    (li2 : K.lookup I2 = some ⟨ooc2, ood2, .func (PySem.W.fnOf "__init__" "TooMany.__init__" (defArgs i_TooMany) (defBody i_TooMany) (defScope i_TooMany) .none okV2 odc2 opm2 oan2 ocd2 oct2), osl2⟩)
    (ci2 : PySem.W.codeIn K ocd2 "TooMany.__init__" = true)
    (ki2 : PySem.W.keepIn K (.ref I2) = true)
    (nf2 : PySem.W.findIn K (.ref C2) "limit" = some none)
    (ob2 : oexB K C2 = true)
    (xn3 : PySem.W.excIn K C3 [.type "ValueError", .type "Exception", .type "BaseException", .type "object"] "ValueError.__new__" = true)
    (xn4 : PySem.W.excIn K C4 [.type "ValueError", .type "Exception", .type "BaseException", .type "object"] "ValueError.__new__" = true)
    (xn5 : PySem.W.excIn K C5 [.type "ValueError", .type "Exception", .type "BaseException", .type "object"] "ValueError.__new__" = true)
    (ii6 : PySem.W.findIn K (.ref C6) "__init__" = some (some (.ref I6)))
    (ti6 : PySem.W.typeIn K (.ref I6) = some (.type "function"))
    (li6 : K.lookup I6 = some ⟨ooc6, ood6, .func (PySem.W.fnOf "__init__" "Stuck.__init__" (defArgs i_Stuck) (defBody i_Stuck) (defScope i_Stuck) .none okV6 odc6 opm6 oan6 ocd6 oct6), osl6⟩)
    (ci6 : PySem.W.codeIn K ocd6 "Stuck.__init__" = true)
    (ki6 : PySem.W.keepIn K (.ref I6) = true)
    (nf6 : PySem.W.findIn K (.ref C6) "name" = some none)
    (ob6 : oexB K C6 = true)
    (ii7 : PySem.W.findIn K (.ref C7) "__init__" = some (some (.ref I7)))
    (ti7 : PySem.W.typeIn K (.ref I7) = some (.type "function"))
    (li7 : K.lookup I7 = some ⟨ooc7, ood7, .func (PySem.W.fnOf "__init__" "InvalidUse.__init__" (defArgs i_InvalidUse) (defBody i_InvalidUse) (defScope i_InvalidUse) .none okV7 odc7 opm7 oan7 ocd7 oct7), osl7⟩)
    (ci7 : PySem.W.codeIn K ocd7 "InvalidUse.__init__" = true)
    (ki7 : PySem.W.keepIn K (.ref I7) = true)
    (nf7 : PySem.W.findIn K (.ref C7) "index" = some none)
    (ob7 : oexB K C7 = true)
    (ii8 : PySem.W.findIn K (.ref C8) "__init__" = some (some (.ref I8)))
    (ti8 : PySem.W.typeIn K (.ref I8) = some (.type "function"))
    (li8 : K.lookup I8 = some ⟨ooc8, ood8, .func (PySem.W.fnOf "__init__" "NotTotal.__init__" (defArgs i_NotTotal) (defBody i_NotTotal) (defScope i_NotTotal) .none okV8 odc8 opm8 oan8 ocd8 oct8), osl8⟩)
    (ci8 : PySem.W.codeIn K ocd8 "NotTotal.__init__" = true)
    (ki8 : PySem.W.keepIn K (.ref I8) = true)
    (nf8 : PySem.W.findIn K (.ref C8) "found" = some none)
    (ob8 : oexB K C8 = true)
    (ii9 : PySem.W.findIn K (.ref C9) "__init__" = some (some (.ref I9)))
    (ti9 : PySem.W.typeIn K (.ref I9) = some (.type "function"))
    (li9 : K.lookup I9 = some ⟨ooc9, ood9, .func (PySem.W.fnOf "__init__" "NotProved.__init__" (defArgs i_NotProved) (defBody i_NotProved) (defScope i_NotProved) .none okV9 odc9 opm9 oan9 ocd9 oct9), osl9⟩)
    (ci9 : PySem.W.codeIn K ocd9 "NotProved.__init__" = true)
    (ki9 : PySem.W.keepIn K (.ref I9) = true)
    (nf9 : PySem.W.findIn K (.ref C9) "found" = some none)
    (ob9 : oexB K C9 = true)
    (sb : PySem.W.specialIn K (.ref C0) "__getattribute__" = some (some (.builtin "type.__getattribute__")))
    (rb : PySem.W.readsIn K C0 (.type "type") = true)
    (fb : PySem.W.findCls K (.ref C0) (.type "type") "__init__" = some (.val (.builtin "ValueError.__init__")))
    (sk : clsB K [C0, C1, C2, C3, C4, C5, C6, C7, C8, C9] = true)
    (z_ValueError : PySem.W.nsIn K mainGlobals "ValueError" = some none)
    (z_bool : PySem.W.nsIn K mainGlobals "bool" = some none)
    (z_enumerate : PySem.W.nsIn K mainGlobals "enumerate" = some none)
    (z_int : PySem.W.nsIn K mainGlobals "int" = some none)
    (z_isinstance : PySem.W.nsIn K mainGlobals "isinstance" = some none)
    (z_len : PySem.W.nsIn K mainGlobals "len" = some none)
    (z_range : PySem.W.nsIn K mainGlobals "range" = some none)
    (z_str : PySem.W.nsIn K mainGlobals "str" = some none)
    (z_tuple : PySem.W.nsIn K mainGlobals "tuple" = some none) :
    ∃ fd : FuncData, (∀ (s : Shared) (v : Value), BindsTo s fd ⟨[v], []⟩ [("script", v)]) ∧ ∀ base : Heap, K.In base → base.Ns mainGlobals mg → FnOk l.prog w K mg base (L2.CX l.prog w) 10 fa0 fd ["script"] (spLaw K) := by
  have e := hfa.symm.trans (PySem.W.mg_of X G a5)
  cases e
  let fa : Fn → Addr := fun i => match i with
    | ._law_feed => f0
    | ._law_take => f1
    | ._law_word => f2
    | ._law_classes => f3
    | ._law_is => f4
    | .law => fa0
  let fd : Fn → FuncData := fun i => match i with
    | ._law_feed => PySem.W.fnOf "_law_feed" "_law_feed" (defArgs s__law_feed) (defBody s__law_feed) (defScope s__law_feed) .none kV0 dc0 pm0 an0 cd0 ct0
    | ._law_take => PySem.W.fnOf "_law_take" "_law_take" (defArgs s__law_take) (defBody s__law_take) (defScope s__law_take) .none kV1 dc1 pm1 an1 cd1 ct1
    | ._law_word => PySem.W.fnOf "_law_word" "_law_word" (defArgs s__law_word) (defBody s__law_word) (defScope s__law_word) .none kV2 dc2 pm2 an2 cd2 ct2
    | ._law_classes => PySem.W.fnOf "_law_classes" "_law_classes" (defArgs s__law_classes) (defBody s__law_classes) (defScope s__law_classes) .none kV3 dc3 pm3 an3 cd3 ct3
    | ._law_is => PySem.W.fnOf "_law_is" "_law_is" (defArgs s__law_is) (defBody s__law_is) (defScope s__law_is) .none kV4 dc4 pm4 an4 cd4 ct4
    | .law => PySem.W.fnOf "law" "law" (defArgs s_law) (defBody s_law) (defScope s_law) .none kV5 dc5 pm5 an5 cd5 ct5
  have FN : ∀ i, Fun K (nm i) (nm i) (sf i) (fa i) (fd i) := fun i => match i with
    | ._law_feed => fun_mk (st := s__law_feed) l0 c0 k0
    | ._law_take => fun_mk (st := s__law_take) l1 c1 k1
    | ._law_word => fun_mk (st := s__law_word) l2 c2 k2
    | ._law_classes => fun_mk (st := s__law_classes) l3 c3 k3
    | ._law_is => fun_mk (st := s__law_is) l4 c4 k4
    | .law => fun_mk (st := s_law) l5 c5 k5
  have BD : ∀ i, L2.Binds K (fd i) (ps i) [] := fun i => match i with
    | ._law_feed => (FN ._law_feed).binds (ps := ps ._law_feed) fun _ _ _ _ _ _ us hl => match us, hl with | [_], _ => rfl
    | ._law_take => (FN ._law_take).binds (ps := ps ._law_take) fun _ _ _ _ _ _ us hl => match us, hl with | [_, _], _ => rfl
    | ._law_word => (FN ._law_word).binds (ps := ps ._law_word) fun _ _ _ _ _ _ us hl => match us, hl with | [_, _, _], _ => rfl
    | ._law_classes => (FN ._law_classes).binds (ps := ps ._law_classes) fun _ _ _ _ _ _ us hl => match us, hl with | [_], _ => rfl
    | ._law_is => (FN ._law_is).binds (ps := ps ._law_is) fun _ _ _ _ _ _ us hl => match us, hl with | [_, _], _ => rfl
    | .law => (FN .law).binds (ps := ps .law) fun _ _ _ _ _ _ us hl => match us, hl with | [_], _ => rfl
  let fi : Cl → Addr := fun c => match c with
    | .ForgeError => C0
    | .NoSteps => C1
    | .TooMany => I2
    | .InvalidEquation => C3
    | .InvalidCommand => C4
    | .NothingKept => C5
    | .Stuck => I6
    | .InvalidUse => I7
    | .NotTotal => I8
    | .NotProved => I9
  let fdi : Cl → FuncData := fun c => match c with
    | .ForgeError => fd .law
    | .NoSteps => fd .law
    | .TooMany => PySem.W.fnOf "__init__" "TooMany.__init__" (defArgs i_TooMany) (defBody i_TooMany) (defScope i_TooMany) .none okV2 odc2 opm2 oan2 ocd2 oct2
    | .InvalidEquation => fd .law
    | .InvalidCommand => fd .law
    | .NothingKept => fd .law
    | .Stuck => PySem.W.fnOf "__init__" "Stuck.__init__" (defArgs i_Stuck) (defBody i_Stuck) (defScope i_Stuck) .none okV6 odc6 opm6 oan6 ocd6 oct6
    | .InvalidUse => PySem.W.fnOf "__init__" "InvalidUse.__init__" (defArgs i_InvalidUse) (defBody i_InvalidUse) (defScope i_InvalidUse) .none okV7 odc7 opm7 oan7 ocd7 oct7
    | .NotTotal => PySem.W.fnOf "__init__" "NotTotal.__init__" (defArgs i_NotTotal) (defBody i_NotTotal) (defScope i_NotTotal) .none okV8 odc8 opm8 oan8 ocd8 oct8
    | .NotProved => PySem.W.fnOf "__init__" "NotProved.__init__" (defArgs i_NotProved) (defBody i_NotProved) (defScope i_NotProved) .none okV9 odc9 opm9 oan9 ocd9 oct9
  have FI2 := fun_mk (st := i_TooMany) li2 ci2 ki2
  have FI6 := fun_mk (st := i_Stuck) li6 ci6 ki6
  have FI7 := fun_mk (st := i_InvalidUse) li7 ci7 ki7
  have FI8 := fun_mk (st := i_NotTotal) li8 ci8 ki8
  have FI9 := fun_mk (st := i_NotProved) li9 ci9 ki9
  have BC : BaseC K mg C0 := ⟨PySem.W.mg_of X G ac0, sb, rb, fb⟩
  have hOf : specOk (cxOfK K (caOf C0 C1 C2 C3 C4 C5 C6 C7 C8 C9)) := cls_facts sk
  refine ⟨fd .law, fun s v => .of_eq rfl, fun base _ _ => ?_⟩
  have T : Tok l.prog w K mg base (cxOfK K (caOf C0 C1 C2 C3 C4 C5 C6 C7 C8 C9)) fa fd fi fdi := {
    mg_ := fun i => match i with
      | ._law_feed => PySem.W.mg_of X G a0
      | ._law_take => PySem.W.mg_of X G a1
      | ._law_word => PySem.W.mg_of X G a2
      | ._law_classes => PySem.W.mg_of X G a3
      | ._law_is => PySem.W.mg_of X G a4
      | .law => PySem.W.mg_of X G a5
    kp := fun i => match i with
      | ._law_feed => k0
      | ._law_take => k1
      | ._law_word => k2
      | ._law_classes => k3
      | ._law_is => k4
      | .law => k5
    bd := BD
    fn := FN
    b_ValueError := PySem.W.mg_none_of X G z_ValueError
    b_bool := PySem.W.mg_none_of X G z_bool
    b_enumerate := PySem.W.mg_none_of X G z_enumerate
    b_int := PySem.W.mg_none_of X G z_int
    b_isinstance := PySem.W.mg_none_of X G z_isinstance
    b_len := PySem.W.mg_none_of X G z_len
    b_range := PySem.W.mg_none_of X G z_range
    b_str := PySem.W.mg_none_of X G z_str
    b_tuple := PySem.W.mg_none_of X G z_tuple
    mgc := fun c => match c with
      | .ForgeError => PySem.W.mg_of X G ac0
      | .NoSteps => PySem.W.mg_of X G ac1
      | .TooMany => PySem.W.mg_of X G ac2
      | .InvalidEquation => PySem.W.mg_of X G ac3
      | .InvalidCommand => PySem.W.mg_of X G ac4
      | .NothingKept => PySem.W.mg_of X G ac5
      | .Stuck => PySem.W.mg_of X G ac6
      | .InvalidUse => PySem.W.mg_of X G ac7
      | .NotTotal => PySem.W.mg_of X G ac8
      | .NotProved => PySem.W.mg_of X G ac9
    kpc := fun c => match c with
      | .ForgeError => kc0
      | .NoSteps => kc1
      | .TooMany => kc2
      | .InvalidEquation => kc3
      | .InvalidCommand => kc4
      | .NothingKept => kc5
      | .Stuck => kc6
      | .InvalidUse => kc7
      | .NotTotal => kc8
      | .NotProved => kc9
    oex := fun c => match c with
      | .ForgeError => fun z => nomatch z
      | .NoSteps => fun z => nomatch z
      | .TooMany => fun _ => oexB_ok ob2 kc2
      | .InvalidEquation => fun z => nomatch z
      | .InvalidCommand => fun z => nomatch z
      | .NothingKept => fun z => nomatch z
      | .Stuck => fun _ => oexB_ok ob6 kc6
      | .InvalidUse => fun _ => oexB_ok ob7 kc7
      | .NotTotal => fun _ => oexB_ok ob8 kc8
      | .NotProved => fun _ => oexB_ok ob9 kc9
    exn := fun c => match c with
      | .ForgeError => fun _ => xn0
      | .NoSteps => fun _ => xn1
      | .TooMany => fun z => nomatch z
      | .InvalidEquation => fun _ => xn3
      | .InvalidCommand => fun _ => xn4
      | .NothingKept => fun _ => xn5
      | .Stuck => fun z => nomatch z
      | .InvalidUse => fun z => nomatch z
      | .NotTotal => fun z => nomatch z
      | .NotProved => fun z => nomatch z
    isa := fun c D b q => subK_ok q
    isv := fun D b q => subK_ok q
    fok := fun n D q => fokK_ok q
    ini := fun c => match c with
      | .ForgeError => fun z => nomatch z
      | .NoSteps => fun z => nomatch z
      | .TooMany => fun _ => ii2
      | .InvalidEquation => fun z => nomatch z
      | .InvalidCommand => fun z => nomatch z
      | .NothingKept => fun z => nomatch z
      | .Stuck => fun _ => ii6
      | .InvalidUse => fun _ => ii7
      | .NotTotal => fun _ => ii8
      | .NotProved => fun _ => ii9
    tyi := fun c => match c with
      | .ForgeError => fun z => nomatch z
      | .NoSteps => fun z => nomatch z
      | .TooMany => fun _ => ti2
      | .InvalidEquation => fun z => nomatch z
      | .InvalidCommand => fun z => nomatch z
      | .NothingKept => fun z => nomatch z
      | .Stuck => fun _ => ti6
      | .InvalidUse => fun _ => ti7
      | .NotTotal => fun _ => ti8
      | .NotProved => fun _ => ti9
    nof := fun c => match c with
      | .ForgeError => fun z => nomatch z
      | .NoSteps => fun z => nomatch z
      | .TooMany => fun _ => nf2
      | .InvalidEquation => fun z => nomatch z
      | .InvalidCommand => fun z => nomatch z
      | .NothingKept => fun z => nomatch z
      | .Stuck => fun _ => nf6
      | .InvalidUse => fun _ => nf7
      | .NotTotal => fun _ => nf8
      | .NotProved => fun _ => nf9
    fin := fun c => match c with
      | .ForgeError => fun z => nomatch z
      | .NoSteps => fun z => nomatch z
      | .TooMany => fun _ => ini_TooMany BC FI2
      | .InvalidEquation => fun z => nomatch z
      | .InvalidCommand => fun z => nomatch z
      | .NothingKept => fun z => nomatch z
      | .Stuck => fun _ => ini_Stuck BC FI6
      | .InvalidUse => fun _ => ini_InvalidUse BC FI7
      | .NotTotal => fun _ => ini_NotTotal BC FI8
      | .NotProved => fun _ => ini_NotProved BC FI9
    bin := fun c => match c with
      | .ForgeError => fun z => nomatch z
      | .NoSteps => fun z => nomatch z
      | .TooMany => fun _ => FI2.binds (ps := cp .TooMany) fun _ _ _ _ _ _ us hl => match us, hl with | [_, _], _ => rfl
      | .InvalidEquation => fun z => nomatch z
      | .InvalidCommand => fun z => nomatch z
      | .NothingKept => fun z => nomatch z
      | .Stuck => fun _ => FI6.binds (ps := cp .Stuck) fun _ _ _ _ _ _ us hl => match us, hl with | [_, _], _ => rfl
      | .InvalidUse => fun _ => FI7.binds (ps := cp .InvalidUse) fun _ _ _ _ _ _ us hl => match us, hl with | [_, _], _ => rfl
      | .NotTotal => fun _ => FI8.binds (ps := cp .NotTotal) fun _ _ _ _ _ _ us hl => match us, hl with | [_, _], _ => rfl
      | .NotProved => fun _ => FI9.binds (ps := cp .NotProved) fun _ _ _ _ _ _ us hl => match us, hl with | [_, _], _ => rfl
  }
  exact law_of (all T 8 .law) fun ns a μ hl hs => law_spec hOf ns a μ hl hs
theorem walk {l : PySem.W.OpenLaw} {q : Program} {loose : List Str} {XP : (Str → Option Value) → Heap → Prop} {YP : World → Heap → Prop} {d : DefRec} {K : Params → PySem.W.Frag} (hn : l.most = some 63) (hdf : d.params.defaults = [])
    (hY : ∀ (w : World) (h : Heap), YP w h → (K w.params).In h)
    (F : ∀ (w : World) (mg : Str → Option Value) (fa : Addr) (h : Heap), (K w.params).In h → h.Ns mainGlobals mg → mg d.name = some (.ref fa) →
      ∃ fd : FuncData, (∀ (s : Shared) (u : Value), BindsTo s fd ⟨[u], []⟩ [("script", u)]) ∧ ∀ base : Heap, (K w.params).In base → base.Ns mainGlobals mg → FnOk l.prog w (K w.params) mg base (L2.CX l.prog w) 10 fa fd ["script"] (spLaw (K w.params))) :
    PySem.W.WalkO q loose XP YP l.row.toRowW d [] (fun f vs => PySem.call f vs) :=
  L2.walk_of (n := 63) (k := 10) (x := "script") (CX := fun w => L2.CX l.prog w) (sp := fun w => spLaw (K w.params)) hn (by decide) hdf ⟨by decide, by decide, by decide⟩ hY F (fun _ _ a ns hl _ hS => ⟨a, ns, rfl, hS, hl, fun _ => rfl⟩) fun w H s e s' z => cx_none z
end Tx

open PySem PySem.W PyProof.Rows
set_option maxRecDepth 100000 in
set_option maxHeartbeats 0 in
theorem PySem.Challenge.cw_forgeproved_k00_errors_and_their_fields_holds : PySem.Challenge.rw_forgeproved_k00_errors_and_their_fields.Holds := by
  w_on; o_law; k_head; (case hw => w_witness2)
  k_fill
  refine Tx.walk (l := PySem.Challenge.rw_forgeproved_k00_errors_and_their_fields) rfl rfl (fun w h Y => PySem.W.kIn_of Y) ?F
  case F =>
    intro w mg fa h KX G hmg
    refine' Tx.all_mk KX G hmg ?a0 ?l0 ?c0 ?k0 ?a1 ?l1 ?c1 ?k1 ?a2 ?l2 ?c2 ?k2 ?a3 ?l3 ?c3 ?k3 ?a4 ?l4 ?c4 ?k4 ?a5 ?l5 ?c5 ?k5 ?ac0 ?kc0 ?ac1 ?kc1 ?ac2 ?kc2 ?ac3 ?kc3 ?ac4 ?kc4 ?ac5 ?kc5 ?ac6 ?kc6 ?ac7 ?kc7 ?ac8 ?kc8 ?ac9 ?kc9 ?xn0 ?xn1 ?ii2 ?ti2 ?li2 ?ci2 ?ki2 ?nf2 ?ob2 ?xn3 ?xn4 ?xn5 ?ii6 ?ti6 ?li6 ?ci6 ?ki6 ?nf6 ?ob6 ?ii7 ?ti7 ?li7 ?ci7 ?ki7 ?nf7 ?ob7 ?ii8 ?ti8 ?li8 ?ci8 ?ki8 ?nf8 ?ob8 ?ii9 ?ti9 ?li9 ?ci9 ?ki9 ?nf9 ?ob9 ?sb ?rb ?fb ?sk ?z_ValueError ?z_bool ?z_enumerate ?z_int ?z_isinstance ?z_len ?z_range ?z_str ?z_tuple
    (case a0 => k_is)
    (case l0 => k_is)
    (case c0 => k_is)
    (case k0 => k_is)
    (case a1 => k_is)
    (case l1 => k_is)
    (case c1 => k_is)
    (case k1 => k_is)
    (case a2 => k_is)
    (case l2 => k_is)
    (case c2 => k_is)
    (case k2 => k_is)
    (case a3 => k_is)
    (case l3 => k_is)
    (case c3 => k_is)
    (case k3 => k_is)
    (case a4 => k_is)
    (case l4 => k_is)
    (case c4 => k_is)
    (case k4 => k_is)
    (case a5 => k_is)
    (case l5 => k_is)
    (case c5 => k_is)
    (case k5 => k_is)
    (case ac0 => k_is)
    (case kc0 => k_is)
    (case ac1 => k_is)
    (case kc1 => k_is)
    (case ac2 => k_is)
    (case kc2 => k_is)
    (case ac3 => k_is)
    (case kc3 => k_is)
    (case ac4 => k_is)
    (case kc4 => k_is)
    (case ac5 => k_is)
    (case kc5 => k_is)
    (case ac6 => k_is)
    (case kc6 => k_is)
    (case ac7 => k_is)
    (case kc7 => k_is)
    (case ac8 => k_is)
    (case kc8 => k_is)
    (case ac9 => k_is)
    (case kc9 => k_is)
    (case xn0 => kernel_rfl)
    (case xn1 => kernel_rfl)
    (case ii2 => k_is)
    (case ti2 => k_is)
    (case li2 => k_is)
    (case ci2 => k_is)
    (case ki2 => k_is)
    (case nf2 => k_is)
    (case ob2 => kernel_rfl)
    (case xn3 => kernel_rfl)
    (case xn4 => kernel_rfl)
    (case xn5 => kernel_rfl)
    (case ii6 => k_is)
    (case ti6 => k_is)
    (case li6 => k_is)
    (case ci6 => k_is)
    (case ki6 => k_is)
    (case nf6 => k_is)
    (case ob6 => kernel_rfl)
    (case ii7 => k_is)
    (case ti7 => k_is)
    (case li7 => k_is)
    (case ci7 => k_is)
    (case ki7 => k_is)
    (case nf7 => k_is)
    (case ob7 => kernel_rfl)
    (case ii8 => k_is)
    (case ti8 => k_is)
    (case li8 => k_is)
    (case ci8 => k_is)
    (case ki8 => k_is)
    (case nf8 => k_is)
    (case ob8 => kernel_rfl)
    (case ii9 => k_is)
    (case ti9 => k_is)
    (case li9 => k_is)
    (case ci9 => k_is)
    (case ki9 => k_is)
    (case nf9 => k_is)
    (case ob9 => kernel_rfl)
    (case sb => k_is)
    (case rb => k_is)
    (case fb => k_is)
    (case sk => kernel_rfl)
    (case z_ValueError => k_is)
    (case z_bool => k_is)
    (case z_enumerate => k_is)
    (case z_int => k_is)
    (case z_isinstance => k_is)
    (case z_len => k_is)
    (case z_range => k_is)
    (case z_str => k_is)
    (case z_tuple => k_is)

