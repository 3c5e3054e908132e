import PyProof.Rows.All
import Wide.All
import OpenK.AllK
import Wide.FinOn
import HandS.ForMost
import HandS.ForExc
import HandS.CallLocal
import HandS.TryOnly
import HandS.IsInst
import HandS.TupAny
import HandS.TupMul
import HandS.Style
import HandS.ExcInit
import HandS.ExcValue
import HandS.ExcIs
import HandS.Walk
import HandS.Zip
import HandS.Rev
import HandS.Strs
import HandS.Text
import HandS.Dict
import HandS.SetKeys
import HandS.ExcField
import HandS.Lambda
import HandS.Star
import KE.KUnpackStar
import HandS.Iter
import PySem.Challenge.RW_forgeproved_k01_which_are_surface_progra
set_option Elab.async false
set_option linter.all false
set_option maxRecDepth 100000
set_option maxHeartbeats 4000000
/-! Lt1: values without addresses, a store by numbers, results; what relates them to the abstract heap; the judgements. -/
namespace Lt
abbrev St := L2.St
open PySem PySem.Spec PyProof.Rows L2

/-! ### values, the store, results -/
/-- a value: tuples by their items, objects that change by their number in the store, read-only lists by their items -/
inductive A where
  | non | bl (b : Bool) | int (i : Int) | str (s : Str) | tup (xs : List A) | rol (xs : List A) | hd (n : Nat) | fn (f : Addr) | exc (C : Addr) (ns : List Str) (xs : List A)
instance : Inhabited A := ⟨.non⟩
/-- what stands in the store -/
inductive Mu where
  | lst (xs : List A)
  | dic (kvs : List (Key × A))
  | ins (C : Addr) (fs : List (Str × A))
abbrev Sto := List Mu
abbrev Env := List (Option A)
structure Exc where
  cls : Addr
  fs : List (Str × A)
inductive Res (α : Type) where
  | ok (a : α) (μ : Sto)
  | ex (x : Exc) (μ : Sto)
  | bad
abbrev M (α : Type) := Sto → Res α
def ret {α : Type} (a : α) : M α := fun μ => .ok a μ
def bad {α : Type} : M α := fun _ => .bad
def bnd {α β : Type} (m : M α) (k : α → M β) : M β := fun μ => match m μ with
  | .ok a μ' => k a μ'
  | .ex x μ' => .ex x μ'
  | .bad => .bad
def Res.post {α : Type} (r : Res α) (K : α → Sto → Prop) (Kx : Exc → Sto → Prop) : Prop := match r with
  | .ok a μ => K a μ
  | .ex x μ => Kx x μ
  | .bad => False
theorem post_bnd {α β : Type} {m : M α} {k : α → M β} {μ : Sto} {K : β → Sto → Prop} {Kx : Exc → Sto → Prop} :
    (bnd m k μ).post K Kx ↔ (m μ).post (fun a μ' => (k a μ').post K Kx) Kx := by
  unfold bnd
  cases m μ <;> exact Iff.rfl
theorem post_mono {α : Type} {r : Res α} {K K' : α → Sto → Prop} {Kx Kx' : Exc → Sto → Prop} (h : r.post K Kx) (hk : ∀ a μ, K a μ → K' a μ) (hx : ∀ x μ, Kx x μ → Kx' x μ) : r.post K' Kx' := by
  cases r with
  | ok a μ => exact hk a μ h
  | ex x μ => exact hx x μ h
  | bad => exact h
theorem post_ok {α : Type} {r : Res α} {a : α} {μ : Sto} {K : α → Sto → Prop} {Kx : Exc → Sto → Prop} (e : r = .ok a μ) (h : K a μ) : r.post K Kx := by
  subst e
  exact h

/-! ### the relations -/
variable {K : PySem.W.Frag}
mutual
inductive RA (K : PySem.W.Frag) (H : Hp) (loc : List Addr) : V → A → Prop
  | non : RA K H loc .non .non
  | bl (b : Bool) : RA K H loc (.bl b) (.bl b)
  | int (i : Int) : RA K H loc (.int i) (.int i)
  | str (s : Str) : RA K H loc (.str s) (.str s)
  | tup {a : Addr} {vs : List V} {xs : List A} : SqT K H a vs → vs.length ≤ sizeLine → RAs K H loc vs xs → RA K H loc (.ref a) (.tup xs)
  | rol {a : Addr} {vs : List V} {xs : List A} : ((∃ o, H a = some (.frz o (.lst vs))) ∨ ∃ (o : Obj) (its : Array Value) (n : Nat), K.lookup a = some o ∧ o.cls = .type "list" ∧ o.dict = none ∧ o.data = .seq its n ∧ its.size ≤ sizeLine ∧ Vals vs its.toList) →
      vs.length ≤ sizeLine → RAs K H loc vs xs → RA K H loc (.ref a) (.rol xs)
  | hd {a : Addr} {n : Nat} : loc[n]? = some a → RA K H loc (.ref a) (.hd n)
  | fn {f : Addr} : RA K H loc (.ref f) (.fn f)
  | exc {a d C : Addr} {ns : List Str} {vs : List V} {xs : List A} : H a = some (L2.exo a C (some d)) → a ∉ loc → H d = some (L2.exd d (ns.zip vs)) → d ∉ loc → vs.length = ns.length → RAs K H loc vs xs → RA K H loc (.ref a) (.exc C ns xs)
  | ex0 {a C : Addr} : H a = some (L2.ExO (.ref C) a) → a ∉ loc → RA K H loc (.ref a) (.exc C [] [])
inductive RAs (K : PySem.W.Frag) (H : Hp) (loc : List Addr) : List V → List A → Prop
  | nil : RAs K H loc [] []
  | cons {v : V} {vs : List V} {x : A} {xs : List A} : RA K H loc v x → RAs K H loc vs xs → RAs K H loc (v :: vs) (x :: xs)
end
/-- what stays -/
structure Gr (K : PySem.W.Frag) (H : Hp) (loc : List Addr) (H' : Hp) (loc' : List Addr) : Prop where
  pre : ∃ more, loc' = loc ++ more
  tup : ∀ a xs, H a = some (.tup xs) → H' a = some (.tup xs)
  frz : ∀ a o u, H a = some (.frz o u) → H' a = some (.frz o u)
  frm : ∀ a o, H a = some o → a ∉ loc → H' a = some o ∧ a ∉ loc'
section
variable {H H1 H2 : Hp} {loc loc1 loc2 : List Addr}
theorem Gr.refl : Gr K H loc H loc := ⟨⟨[], (List.append_nil _).symm⟩, fun _ _ h => h, fun _ _ _ h => h, fun _ _ h n => ⟨h, n⟩⟩
theorem Gr.trans (a : Gr K H loc H1 loc1) (b : Gr K H1 loc1 H2 loc2) : Gr K H loc H2 loc2 := by
  obtain ⟨m1, rfl⟩ := a.pre
  obtain ⟨m2, rfl⟩ := b.pre
  exact ⟨⟨m1 ++ m2, List.append_assoc _ _ _⟩, fun c xs h => b.tup c xs (a.tup c xs h), fun c o u h => b.frz c o u (a.frz c o u h), fun c o h n => b.frm c o (a.frm c o h n).1 (a.frm c o h n).2⟩
theorem Gr.get (g : Gr K H loc H1 loc1) {n : Nat} {a : Addr} (h : loc[n]? = some a) : loc1[n]? = some a := by
  obtain ⟨m, rfl⟩ := g.pre
  rw [List.getElem?_append_left (List.getElem?_eq_some_iff.mp h).1]
  exact h
theorem Gr.sqT (g : Gr K H loc H1 loc1) {a : Addr} {xs : List V} (h : SqT K H a xs) : SqT K H1 a xs := by
  rcases h with (h | ⟨o, h⟩) | h
  · exact .inl (.inl (g.tup a xs h))
  · exact .inl (.inr ⟨o, g.frz a o _ h⟩)
  · exact .inr h
mutual
theorem RA.mono (g : Gr K H loc H1 loc1) : ∀ {v : V} {x : A}, RA K H loc v x → RA K H1 loc1 v x
  | _, _, .non => .non
  | _, _, .bl b => .bl b
  | _, _, .int i => .int i
  | _, _, .str s => .str s
  | _, _, .tup h l r => .tup (g.sqT h) l (RAs.mono g r)
  | _, _, .rol h l r => .rol (h.imp (fun ⟨o, q⟩ => ⟨o, g.frz _ o _ q⟩) id) l (RAs.mono g r)
  | _, _, .hd h => .hd (g.get h)
  | _, _, .fn => .fn
  | _, _, .exc h1 h2 h3 h4 l r => .exc (g.frm _ _ h1 h2).1 (g.frm _ _ h1 h2).2 (g.frm _ _ h3 h4).1 (g.frm _ _ h3 h4).2 l (RAs.mono g r)
  | _, _, .ex0 h1 h2 => .ex0 (g.frm _ _ h1 h2).1 (g.frm _ _ h1 h2).2
theorem RAs.mono (g : Gr K H loc H1 loc1) : ∀ {vs : List V} {xs : List A}, RAs K H loc vs xs → RAs K H1 loc1 vs xs
  | _, _, .nil => .nil
  | _, _, .cons r t => .cons (RA.mono g r) (RAs.mono g t)
end
mutual
theorem RA.locs (g : ∀ {n : Nat} {a : Addr}, loc[n]? = some a → loc1[n]? = some a) (hx : ∀ (a : Addr) (φ : Heap → Prop), H a = some (.ext φ) → a ∉ loc → a ∉ loc1) : ∀ {v : V} {x : A}, RA K H loc v x → RA K H loc1 v x
  | _, _, .non => .non
  | _, _, .bl b => .bl b
  | _, _, .int i => .int i
  | _, _, .str s => .str s
  | _, _, .tup h l r => .tup h l (RAs.locs g hx r)
  | _, _, .rol h l r => .rol h l (RAs.locs g hx r)
  | _, _, .hd h => .hd (g h)
  | _, _, .fn => .fn
  | _, _, .exc h1 h2 h3 h4 l r => .exc h1 (hx _ _ h1 h2) h3 (hx _ _ h3 h4) l (RAs.locs g hx r)
  | _, _, .ex0 h1 h2 => .ex0 h1 (hx _ _ h1 h2)
theorem RAs.locs (g : ∀ {n : Nat} {a : Addr}, loc[n]? = some a → loc1[n]? = some a) (hx : ∀ (a : Addr) (φ : Heap → Prop), H a = some (.ext φ) → a ∉ loc → a ∉ loc1) : ∀ {vs : List V} {xs : List A}, RAs K H loc vs xs → RAs K H loc1 vs xs
  | _, _, .nil => .nil
  | _, _, .cons r t => .cons (RA.locs g hx r) (RAs.locs g hx t)
end
theorem RAs.length : ∀ {vs : List V} {xs : List A}, RAs K H loc vs xs → vs.length = xs.length
  | _, _, .nil => rfl
  | _, _, .cons _ t => congrArg (· + 1) (RAs.length t)
theorem RAs.get : ∀ {vs : List V} {xs : List A} {i : Nat} {x : A}, RAs K H loc vs xs → xs[i]? = some x → ∃ v, vs[i]? = some v ∧ RA K H loc v x
  | _, _, _, _, .nil, e => by simp at e
  | _, _, 0, _, .cons r _, e => by simp at e; subst e; exact ⟨_, rfl, r⟩
  | _, _, i + 1, x, .cons _ t, e => by
    obtain ⟨u, h1, h2⟩ := RAs.get (i := i) (x := x) t (by simpa using e)
    exact ⟨u, by simpa using h1, h2⟩
theorem RAs.getV : ∀ {vs : List V} {xs : List A} {i : Nat} {v : V}, RAs K H loc vs xs → vs[i]? = some v → ∃ x, xs[i]? = some x ∧ RA K H loc v x
  | _, _, _, _, .nil, e => by simp at e
  | _, _, 0, _, .cons r _, e => by simp at e; subst e; exact ⟨_, rfl, r⟩
  | _, _, i + 1, x, .cons _ t, e => by
    obtain ⟨u, h1, h2⟩ := RAs.getV (i := i) (v := x) t (by simpa using e)
    exact ⟨u, by simpa using h1, h2⟩
theorem RAs.append : ∀ {vs ws : List V} {xs ys : List A}, RAs K H loc vs xs → RAs K H loc ws ys → RAs K H loc (vs ++ ws) (xs ++ ys)
  | _, _, _, _, .nil, s => s
  | _, _, _, _, .cons r t, s => .cons r (RAs.append t s)
theorem RAs.take : ∀ {vs : List V} {xs : List A} (n : Nat), RAs K H loc vs xs → RAs K H loc (vs.take n) (xs.take n)
  | _, _, 0, _ => .nil
  | _, _, _ + 1, .nil => .nil
  | _, _, n + 1, .cons r t => .cons r (RAs.take n t)
theorem RAs.drop : ∀ {vs : List V} {xs : List A} (n : Nat), RAs K H loc vs xs → RAs K H loc (vs.drop n) (xs.drop n)
  | _, _, 0, r => r
  | _, _, _ + 1, .nil => .nil
  | _, _, n + 1, .cons _ t => RAs.drop n t
theorem RAs.set : ∀ {vs : List V} {xs : List A} (n : Nat) {v : V} {x : A}, RAs K H loc vs xs → RA K H loc v x → RAs K H loc (vs.set n v) (xs.set n x)
  | _, _, _, _, _, .nil, _ => .nil
  | _, _, 0, _, _, .cons _ t, q => .cons q t
  | _, _, n + 1, _, _, .cons r t, q => .cons r (RAs.set n t q)
theorem RAs.dropLast {vs : List V} {xs : List A} (h : RAs K H loc vs xs) : RAs K H loc vs.dropLast xs.dropLast := by
  rw [List.dropLast_eq_take, List.dropLast_eq_take, h.length]
  exact h.take _
theorem RAs.reverse : ∀ {vs : List V} {xs : List A}, RAs K H loc vs xs → RAs K H loc vs.reverse xs.reverse
  | _, _, .nil => .nil
  | _, _, .cons r t => by
    rw [List.reverse_cons, List.reverse_cons]
    exact (RAs.reverse t).append (.cons r .nil)
theorem RAs.erase : ∀ {vs : List V} {xs : List A} (n : Nat), RAs K H loc vs xs → RAs K H loc (vs.eraseIdx n) (xs.eraseIdx n)
  | _, _, _, .nil => .nil
  | _, _, 0, .cons _ t => t
  | _, _, n + 1, .cons r t => .cons r (RAs.erase n t)
end
/-- an object of the store -/
def RF (K : PySem.W.Frag) (H : Hp) (loc : List Addr) : List (Str × V) → List (Str × A) → Prop := Paired fun p q => p.1 = q.1 ∧ RA K H loc p.2 q.2
def RKV (K : PySem.W.Frag) (H : Hp) (loc : List Addr) : List (Key × V) → List (Key × A) → Prop := Paired fun p q => p.1 = q.1 ∧ RA K H loc p.2 q.2
def RM (K : PySem.W.Frag) (H : Hp) (loc : List Addr) (m : Mu) (o : HO) : Prop := match m with
  | .lst xs => ∃ vs, o = .lst vs ∧ vs.length ≤ sizeLine ∧ RAs K H loc vs xs
  | .dic kvs => ∃ vs, o = .dK vs ∧ vs.length ≤ sizeLine ∧ RKV K H loc vs kvs
  | .ins C fs => ∃ dx vs, o = .ins C dx vs ∧ RF K H loc vs fs
theorem RM.mono {H H1 : Hp} {loc loc1 : List Addr} {m : Mu} {o : HO} (g : Gr K H loc H1 loc1) (h : RM K H loc m o) : RM K H1 loc1 m o := by
  cases m with
  | lst xs =>
    obtain ⟨vs, e, l, r⟩ := h
    exact ⟨vs, e, l, r.mono g⟩
  | dic kvs =>
    obtain ⟨vs, e, l, r⟩ := h
    exact ⟨vs, e, l, Paired.mapP r fun p q z => ⟨z.1, z.2.mono g⟩⟩
  | ins C fs =>
    obtain ⟨dx, vs, e, r⟩ := h
    exact ⟨dx, vs, e, Paired.mapP r fun p q z => ⟨z.1, z.2.mono g⟩⟩
structure RS (K : PySem.W.Frag) (H : Hp) (loc : List Addr) (μ : Sto) : Prop where
  len : loc.length = μ.length
  nd : loc.Nodup
  at_ : ∀ (n : Nat) (m : Mu), μ[n]? = some m → ∃ a o, loc[n]? = some a ∧ H a = some o ∧ RM K H loc m o
theorem RS.nil {H : Hp} : RS K H [] [] := ⟨rfl, List.nodup_nil, fun n m e => by simp at e⟩
theorem RM.nottup {H : Hp} {loc : List Addr} {m : Mu} {o : HO} (h : RM K H loc m o) : (∀ xs, o ≠ .tup xs) ∧ ∀ ob u, o ≠ .frz ob u := by
  cases m with
  | lst xs => obtain ⟨_, e, _⟩ := h; subst e; exact ⟨fun _ z => (nomatch z), fun _ _ z => (nomatch z)⟩
  | dic kvs => obtain ⟨_, e, _⟩ := h; subst e; exact ⟨fun _ z => (nomatch z), fun _ _ z => (nomatch z)⟩
  | ins C fs => obtain ⟨_, _, e, _⟩ := h; subst e; exact ⟨fun _ z => (nomatch z), fun _ _ z => (nomatch z)⟩
section
variable {H : Hp} {loc : List Addr} {μ : Sto}
/-- a new object that is tracked and not in the store -/
theorem Gr.new {p : Addr} {o : HO} (h : H p = none) : Gr K H loc (upd H p o) loc :=
  ⟨⟨[], (List.append_nil _).symm⟩, fun a xs e => by rw [upd_ne (ne_of_none e h)]; exact e, fun a ob u e => by rw [upd_ne (ne_of_none e h)]; exact e, fun a u e n => ⟨by rw [upd_ne (ne_of_none e h)]; exact e, n⟩⟩
theorem RS.new {p : Addr} {o : HO} (r : RS K H loc μ) (h : H p = none) : RS K (upd H p o) loc μ :=
  ⟨r.len, r.nd, fun n m e => by
    obtain ⟨a, u, h1, h2, h3⟩ := r.at_ n m e
    exact ⟨a, u, h1, by rw [upd_ne (ne_of_none h2 h)]; exact h2, h3.mono (Gr.new h)⟩⟩
theorem RS.notin (r : RS K H loc μ) {p : Addr} (h : H p = none) : p ∉ loc := fun hm => by
  obtain ⟨n, hn, e⟩ := List.mem_iff_getElem.mp hm
  have hl : n < μ.length := by rw [← r.len]; exact hn
  obtain ⟨a, u, h1, h2, _⟩ := r.at_ n μ[n] (List.getElem?_eq_getElem hl)
  rw [List.getElem?_eq_getElem hn, e] at h1
  cases h1
  rw [h] at h2
  cases h2
/-- a new object of the store -/
theorem Gr.alloc {p : Addr} {o : HO} (h : H p = none) : Gr K H loc (upd H p o) (loc ++ [p]) :=
  ⟨⟨[p], rfl⟩, fun a xs e => by rw [upd_ne (ne_of_none e h)]; exact e, fun a ob u e => by rw [upd_ne (ne_of_none e h)]; exact e, fun a u e n => ⟨by rw [upd_ne (ne_of_none e h)]; exact e, fun hm => (List.mem_append.mp hm).elim n fun z => ne_of_none e h (by simpa using z)⟩⟩
/-- an object that is tracked and not of the store comes into it -/
theorem Gr.adopt {H' : Hp} {loc' : List Addr} {p : Addr} (g : Gr K H loc H' loc') (h : H p = none) : Gr K H loc H' (loc' ++ [p]) := by
  obtain ⟨m, hm⟩ := g.pre
  refine ⟨⟨m ++ [p], by rw [hm, List.append_assoc]⟩, g.tup, g.frz, fun a o e n => ⟨(g.frm a o e n).1, fun hm => (List.mem_append.mp hm).elim (g.frm a o e n).2 fun z => ne_of_none e h (by simpa using z)⟩⟩
theorem RS.alloc {p : Addr} {o : HO} {m : Mu} (r : RS K H loc μ) (h : H p = none) (hm : RM K (upd H p o) (loc ++ [p]) m o) : RS K (upd H p o) (loc ++ [p]) (μ ++ [m]) := by
  refine ⟨by rw [List.length_append, List.length_append, r.len]; rfl, ?_, fun n m' e => ?_⟩
  · rw [List.nodup_append]
    refine ⟨r.nd, by simp, fun a ha b hb z => ?_⟩
    have : b = p := by simpa using hb
    subst this
    subst z
    exact r.notin h ha
  · by_cases hn : n < μ.length
    · rw [List.getElem?_append_left hn] at e
      obtain ⟨a, u, h1, h2, h3⟩ := r.at_ n m' e
      exact ⟨a, u, (Gr.alloc (K := K) (o := o) h).get h1, by rw [upd_ne (ne_of_none h2 h)]; exact h2, h3.mono (Gr.alloc h)⟩
    · have hn' : n = μ.length := by
        have := (List.getElem?_eq_some_iff.mp e).1
        rw [List.length_append] at this
        have e1 : [m].length = 1 := rfl
        omega
      subst hn'
      rw [List.getElem?_append_right (Nat.le_refl _), Nat.sub_self] at e
      have e' : m = m' := Option.some.inj e
      subst e'
      refine ⟨p, o, ?_, upd_same, hm⟩
      rw [← r.len, List.getElem?_append_right (Nat.le_refl _), Nat.sub_self]
      rfl
theorem upd_gr {n : Nat} {a : Addr} {m : Mu} {o : HO} (r : RS K H loc μ) (hn : μ[n]? = some m) (ha : loc[n]? = some a) : Gr K H loc (upd H a o) loc := by
  obtain ⟨a', u, h1, h2, h3⟩ := r.at_ n m hn
  rw [ha] at h1
  cases h1
  obtain ⟨n1, n2⟩ := h3.nottup
  refine ⟨⟨[], (List.append_nil _).symm⟩, fun b xs e => ?_, fun b ob w e => ?_, fun b u e n => ⟨?_, n⟩⟩
  · rw [upd_ne (fun z => by subst z; rw [h2] at e; exact n1 xs (Option.some.inj e))]
    exact e
  · rw [upd_ne (fun z => by subst z; rw [h2] at e; exact n2 ob w (Option.some.inj e))]
    exact e
  · rw [upd_ne (fun z => by subst z; exact n (List.mem_of_getElem? ha))]
    exact e
/-- an object of the store changes -/
theorem RS.set {n : Nat} {a : Addr} {m m' : Mu} {o : HO} (r : RS K H loc μ) (hn : μ[n]? = some m) (ha : loc[n]? = some a) (hm : RM K (upd H a o) loc m' o) : RS K (upd H a o) loc (μ.set n m') := by
  have hl := (List.getElem?_eq_some_iff.mp hn).1
  refine ⟨by rw [List.length_set]; exact r.len, r.nd, fun k mk e => ?_⟩
  by_cases hk : n = k
  · subst hk
    rw [List.getElem?_set_self hl] at e
    cases e
    exact ⟨a, o, ha, upd_same, hm⟩
  · rw [List.getElem?_set_ne hk] at e
    obtain ⟨b, u, h1, h2, h3⟩ := r.at_ k mk e
    refine ⟨b, u, h1, ?_, h3.mono (upd_gr r hn ha)⟩
    rw [upd_ne (fun z => ?_)]
    · exact h2
    · subst z
      exact hk (nodup_ixA r.nd ha h1)
where
  nodup_ixA {l : List Addr} (hN : l.Nodup) {i j : Nat} {x : Addr} (a : l[i]? = some x) (b : l[j]? = some x) : i = j := by
    obtain ⟨h1, e1⟩ := List.getElem?_eq_some_iff.mp a
    obtain ⟨h2, e2⟩ := List.getElem?_eq_some_iff.mp b
    exact (List.getElem_inj hN).mp (e1.trans e2.symm)
theorem RS.adopt {p : Addr} {o : HO} {m : Mu} (r : RS K H loc μ) (h : H p = some o) (hp : p ∉ loc) (hm : RM K H loc m o) : RS K H (loc ++ [p]) (μ ++ [m]) := by
  have g : ∀ {n : Nat} {a : Addr}, loc[n]? = some a → (loc ++ [p])[n]? = some a := fun {n a} e => by
    rw [List.getElem?_append_left (List.getElem?_eq_some_iff.mp e).1]
    exact e
  have hx : ∀ (a : Addr) (φ : Heap → Prop), H a = some (.ext φ) → a ∉ loc → a ∉ loc ++ [p] := fun a φ e n hm' => by
    rcases List.mem_append.mp hm' with z | z
    · exact n z
    · have z' : a = p := by simpa using z
      subst z'
      rw [h] at e
      cases e
      cases m with
      | lst xs => obtain ⟨_, e, _⟩ := hm; cases e
      | dic kvs => obtain ⟨_, e, _⟩ := hm; cases e
      | ins C fs => obtain ⟨_, _, e, _⟩ := hm; cases e
  have mono : ∀ {m : Mu} {o : HO}, RM K H loc m o → RM K H (loc ++ [p]) m o := fun {m o} q => by
    cases m with
    | lst xs =>
      obtain ⟨vs, e, l, r⟩ := q
      exact ⟨vs, e, l, RAs.locs g hx r⟩
    | dic kvs =>
      obtain ⟨vs, e, l, r⟩ := q
      exact ⟨vs, e, l, Paired.mapP r fun p q z => ⟨z.1, RA.locs g hx z.2⟩⟩
    | ins C fs =>
      obtain ⟨dx, vs, e, r⟩ := q
      exact ⟨dx, vs, e, Paired.mapP r fun p q z => ⟨z.1, RA.locs g hx z.2⟩⟩
  refine ⟨by rw [List.length_append, List.length_append, r.len]; rfl, ?_, fun n m' e => ?_⟩
  · rw [List.nodup_append]
    refine ⟨r.nd, by simp, fun a ha b hb z => ?_⟩
    have : b = p := by simpa using hb
    subst this
    subst z
    exact hp ha
  · by_cases hn : n < μ.length
    · rw [List.getElem?_append_left hn] at e
      obtain ⟨a, u, h1, h2, h3⟩ := r.at_ n m' e
      exact ⟨a, u, g h1, h2, mono h3⟩
    · have hn' : n = μ.length := by
        have := (List.getElem?_eq_some_iff.mp e).1
        rw [List.length_append] at this
        have e1 : [m].length = 1 := rfl
        omega
      subst hn'
      rw [List.getElem?_append_right (Nat.le_refl _), Nat.sub_self] at e
      have e' : m = m' := Option.some.inj e
      subst e'
      refine ⟨p, o, ?_, h, mono hm⟩
      rw [← r.len, List.getElem?_append_right (Nat.le_refl _), Nat.sub_self]
      rfl
/-- behind a change that is seen from within the store alone -/
theorem RS.lst (r : RS K H loc μ) {n : Nat} {xs : List A} (h : μ[n]? = some (.lst xs)) {a : Addr} (ha : loc[n]? = some a) : ∃ vs, H a = some (.lst vs) ∧ vs.length ≤ sizeLine ∧ RAs K H loc vs xs := by
  obtain ⟨b, o, h1, h2, vs, e, l, q⟩ := r.at_ n _ h
  rw [ha] at h1
  cases h1
  subst e
  exact ⟨vs, h2, l, q⟩
end

/-! ### the frame's values -/
structure RE (K : PySem.W.Frag) (H : Hp) (loc : List Addr) (σ : St) (δ : Env) : Prop where
  len : σ.length = δ.length
  at_ : ∀ (i : Nat) (x : A), δ[i]? = some (some x) → ∃ v, σ[i]? = some (some v) ∧ RA K H loc v x
section
variable {H H1 : Hp} {loc loc1 : List Addr} {σ : St} {δ : Env}
theorem RE.mono (g : Gr K H loc H1 loc1) (r : RE K H loc σ δ) : RE K H1 loc1 σ δ := ⟨r.len, fun i x e => let ⟨v, h, q⟩ := r.at_ i x e; ⟨v, h, q.mono g⟩⟩
theorem RE.set (r : RE K H loc σ δ) {i : Nat} {v : V} {x : A} (q : RA K H loc v x) : RE K H loc (σ.set i (some v)) (δ.set i (some x)) := by
  refine ⟨by rw [List.length_set, List.length_set]; exact r.len, fun j y e => ?_⟩
  by_cases hij : i = j
  · subst hij
    have hl : i < δ.length := by
      have := (List.getElem?_eq_some_iff.mp e).1
      rw [List.length_set] at this
      exact this
    rw [List.getElem?_set_self hl] at e
    have e' : x = y := Option.some.inj (Option.some.inj e)
    subst e'
    exact ⟨v, List.getElem?_set_self (by rw [r.len]; exact hl), q⟩
  · rw [List.getElem?_set_ne hij] at e
    obtain ⟨w, h1, h2⟩ := r.at_ j y e
    exact ⟨w, by rw [List.getElem?_set_ne hij]; exact h1, h2⟩
theorem RE.begins {vs : List V} {xs : List A} {N : List Str} (h : RAs K H loc vs xs) : RE K H loc (L2.start N vs) (xs.map some ++ List.replicate (N.length - xs.length) none) := by
  unfold L2.start
  have hl := h.length
  refine ⟨by rw [List.length_append, List.length_append, List.length_map, List.length_map, List.length_replicate, List.length_replicate, hl], fun i x e => ?_⟩
  by_cases hi : i < xs.length
  · rw [List.getElem?_append_left (by rw [List.length_map]; exact hi), List.getElem?_map] at e
    cases q : xs[i]? with
    | none => rw [q] at e; cases e
    | some y =>
      rw [q] at e
      have e' : y = x := Option.some.inj (Option.some.inj e)
      subst e'
      obtain ⟨v, h1, h2⟩ := h.get q
      refine ⟨v, ?_, h2⟩
      rw [List.getElem?_append_left (by rw [List.length_map, hl]; exact hi), List.getElem?_map, h1]
      rfl
  · rw [List.getElem?_append_right (by rw [List.length_map]; omega), List.getElem?_replicate] at e
    split at e
    · cases e
    · cases e
end
/-- an exception -/
def RX (K : PySem.W.Frag) (H : Hp) (loc : List Addr) (x : Exc) (cls : Value) (d : Option Addr) : Prop :=
  cls = .ref x.cls ∧ (x.fs ≠ [] → ∃ dd vs, d = some dd ∧ H dd = some (.xd vs) ∧ RF K H loc vs x.fs)

/-! ### the weakest readings -/
section
variable (X : Cx)
def wE (e : Expr) : TE := fun σ H Q => ∀ (pins : List (Addr × Obj)) (s : Shared), Inv X pins σ H s → wpAny (model X.prog X.w) X.A (eval e X.env) (EP X pins σ Q) X.xe s
def wT (e : Expr) : TT := fun σ H Q => ∀ (pins : List (Addr × Obj)) (s : Shared), Inv X pins σ H s → wpAny (model X.prog X.w) X.A (isTrue e X.env (eval e X.env)) (TP X pins σ Q) X.xe s
def wW (e : Expr) : TT := fun σ H Q => ∀ (whole : Sem Value) (pins : List (Addr × Obj)) (s : Shared), Inv X pins σ H s → wpAny (model X.prog X.w) X.A (isTrue e X.env whole) (TP X pins σ Q) X.xe s
def wA (es : List Expr) : TA := fun σ H Q => ∀ (pos : Pos) (pins : List (Addr × Obj)) (s : Shared), Inv X pins σ H s → wpAny (model X.prog X.w) X.A (spliced (backTo pos (starEach es X.env))) (AP X pins σ Q) X.xe s
def wS (st : Stmt) : TS := fun D σ H => ∀ (pins : List (Addr × Obj)) (s : Shared), Inv X pins σ H s → wpAny (model X.prog X.w) X.A (exec st X.env) (SP X pins D) X.xe s
def wB (sts : List Stmt) : TS := fun D σ H => ∀ (pins : List (Addr × Obj)) (s : Shared), Inv X pins σ H s → wpAny (model X.prog X.w) X.A (execs sts X.env) (SP X pins D) X.xe s
def wG (tg : Expr) : TG := fun v σ H Q => ∀ (pins : List (Addr × Obj)) (s : Shared) (u : Value), Inv X pins σ H s → RelV v u → wpAny (model X.prog X.w) X.A (assign tg X.env u) (fun _ s' => ∃ σ' H', Inv X pins σ' H' s' ∧ Q σ' H') X.xe s
def wI (tg iter : Expr) : TI := fun σ H R => ∀ (pins : List (Addr × Obj)) (s : Shared), Inv X pins σ H s →
  wpAny (model X.prog X.w) X.A (eval iter X.env) (fun v s1 => wpAny (model X.prog X.w) X.A (pyIter v) (PIE X pins σ tg R) X.xe s1) X.xe s
end
section
variable {X : Cx}
theorem pwE {e : Expr} : PE X e (wE X e) := ⟨fun pins s σ H Q I h => h pins s I⟩
theorem pwT {e : Expr} : PT X e (wT X e) := ⟨fun pins s σ H Q I h => h pins s I⟩
theorem pwW {e : Expr} : PW X e (wW X e) := ⟨fun wh pins s σ H Q I h => h wh pins s I⟩
theorem pwA {es : List Expr} : PA X es (wA X es) := ⟨fun pos pins s σ H Q I h => h pos pins s I⟩
theorem pwS {st : Stmt} : PS X st (wS X st) := ⟨fun pins s σ H D I h => h pins s I⟩
theorem pwB {sts : List Stmt} : PSs X sts (wB X sts) := ⟨fun pins s σ H D I h => h pins s I⟩
theorem pwG {tg : Expr} : PG X tg (wG X tg) := ⟨fun pins s σ H v u Q I r h => h pins s u I r⟩
theorem pwI {tg iter : Expr} : PI X tg iter (wI X tg iter) := ⟨fun pins s σ H R I h => h pins s I⟩
theorem wE_of {e : Expr} {t : TE} {σ : St} {H : Hp} {Q : VK} (h : PE X e t) (q : t σ H Q) : wE X e σ H Q := fun pins s I => h.run pins s σ H Q I q
theorem wT_of {e : Expr} {t : TT} {σ : St} {H : Hp} {Q : Bool → Hp → Prop} (h : PT X e t) (q : t σ H Q) : wT X e σ H Q := fun pins s I => h.run pins s σ H Q I q
theorem wW_of {e : Expr} {t : TT} {σ : St} {H : Hp} {Q : Bool → Hp → Prop} (h : PW X e t) (q : t σ H Q) : wW X e σ H Q := fun wh pins s I => h.run wh pins s σ H Q I q
theorem wA_of {es : List Expr} {t : TA} {σ : St} {H : Hp} {Q : List V → Hp → Prop} (h : PA X es t) (q : t σ H Q) : wA X es σ H Q := fun pos pins s I => h.run pos pins s σ H Q I q
theorem wS_of {st : Stmt} {t : TS} {σ : St} {H : Hp} {D : Ends} (h : PS X st t) (q : t D σ H) : wS X st D σ H := fun pins s I => h.run pins s σ H D I q
theorem wB_of {st : List Stmt} {t : TS} {σ : St} {H : Hp} {D : Ends} (h : PSs X st t) (q : t D σ H) : wB X st D σ H := fun pins s I => h.run pins s σ H D I q
theorem wG_of {tg : Expr} {t : TG} {v : V} {σ : St} {H : Hp} {Q : St → Hp → Prop} (h : PG X tg t) (q : t v σ H Q) : wG X tg v σ H Q := fun pins s u I r => h.run pins s σ H v u Q I r q
theorem wI_of {tg iter : Expr} {t : TI} {σ : St} {H : Hp} {R : It → Hp → Prop} (h : PI X tg iter t) (q : t σ H R) : wI X tg iter σ H R := fun pins s I => h.run pins s σ H R I q
end

/-! ### the judgements -/
/-- a statement's run never ends in an exception of its own: it is told as .rs -/
def NX : Exc → Sto → Prop := fun _ _ => False
/-- what is wanted of an exception that a piece of code lets out, from here -/
def KX (X : Cx) (W : WX) (σ : St) (H : Hp) (loc : List Addr) : Exc → Sto → Prop := fun x μ' => ∀ (H' : Hp) (loc' : List Addr) (cls : Value) (d : Option Addr), Gr X.K H loc H' loc' → RS X.K H' loc' μ' → RX X.K H' loc' x cls d → W cls d σ H'
/-- a value, from here -/
def KV_ (X : Cx) (H : Hp) (loc : List Addr) (Q : VK) : A → Sto → Prop := fun a μ' => ∀ (v : V) (H' : Hp) (loc' : List Addr), Gr X.K H loc H' loc' → RS X.K H' loc' μ' → RA X.K H' loc' v a → Q v H'
def KVs (X : Cx) (H : Hp) (loc : List Addr) (Q : List V → Hp → Prop) : List A → Sto → Prop := fun as μ' => ∀ (vs : List V) (H' : Hp) (loc' : List Addr), Gr X.K H loc H' loc' → RS X.K H' loc' μ' → RAs X.K H' loc' vs as → Q vs H'
def KB (X : Cx) (H : Hp) (loc : List Addr) (Q : Bool → Hp → Prop) : Bool → Sto → Prop := fun b μ' => ∀ (H' : Hp) (loc' : List Addr), Gr X.K H loc H' loc' → RS X.K H' loc' μ' → Q b H'
section
variable {X : Cx} {W : WX} {σ : St} {H H1 : Hp} {loc loc1 : List Addr}
theorem KX.mono {x : Exc} {μ : Sto} (g : Gr X.K H loc H1 loc1) (h : KX X W σ H loc x μ) : KX X W σ H1 loc1 x μ := fun H' loc' cls d g' => h H' loc' cls d (g.trans g')
theorem KV_.mono {Q : VK} {a : A} {μ : Sto} (g : Gr X.K H loc H1 loc1) (h : KV_ X H loc Q a μ) : KV_ X H1 loc1 Q a μ := fun v H' loc' g' => h v H' loc' (g.trans g')
theorem KVs.mono {Q : List V → Hp → Prop} {a : List A} {μ : Sto} (g : Gr X.K H loc H1 loc1) (h : KVs X H loc Q a μ) : KVs X H1 loc1 Q a μ := fun v H' loc' g' => h v H' loc' (g.trans g')
theorem KB.mono {Q : Bool → Hp → Prop} {a : Bool} {μ : Sto} (g : Gr X.K H loc H1 loc1) (h : KB X H loc Q a μ) : KB X H1 loc1 Q a μ := fun H' loc' g' => h H' loc' (g.trans g')
end
def SE (X : Cx) (W : WX) (e : Expr) (m : Env → M A) : Prop := ∀ (σ : St) (H : Hp) (loc : List Addr) (δ : Env) (μ : Sto) (Q : VK), RE X.K H loc σ δ → RS X.K H loc μ → (m δ μ).post (KV_ X H loc Q) (KX X W σ H loc) → wE X e σ H Q
def SA (X : Cx) (W : WX) (es : List Expr) (m : Env → M (List A)) : Prop := ∀ (σ : St) (H : Hp) (loc : List Addr) (δ : Env) (μ : Sto) (Q : List V → Hp → Prop), RE X.K H loc σ δ → RS X.K H loc μ → (m δ μ).post (KVs X H loc Q) (KX X W σ H loc) → wA X es σ H Q
def ST (X : Cx) (W : WX) (e : Expr) (m : Env → M Bool) : Prop := ∀ (σ : St) (H : Hp) (loc : List Addr) (δ : Env) (μ : Sto) (Q : Bool → Hp → Prop), RE X.K H loc σ δ → RS X.K H loc μ → (m δ μ).post (KB X H loc Q) (KX X W σ H loc) → wT X e σ H Q
def SW (X : Cx) (W : WX) (e : Expr) (m : Env → M Bool) : Prop := ∀ (σ : St) (H : Hp) (loc : List Addr) (δ : Env) (μ : Sto) (Q : Bool → Hp → Prop), RE X.K H loc σ δ → RS X.K H loc μ → (m δ μ).post (KB X H loc Q) (KX X W σ H loc) → wW X e σ H Q
/-- what comes of a statement -/
inductive Fl where
  | nx (δ : Env) | bk (δ : Env) | ct (δ : Env) | rt (a : A) | rs (x : Exc) (δ : Env)
def KF (X : Cx) (W : WX) (D : Ends) (H : Hp) (loc : List Addr) : Fl → Sto → Prop := fun fl μ' => match fl with
  | .nx δ => ∀ (σ' : St) (H' : Hp) (loc' : List Addr), Gr X.K H loc H' loc' → RS X.K H' loc' μ' → RE X.K H' loc' σ' δ → D.nx σ' H'
  | .bk δ => ∀ (σ' : St) (H' : Hp) (loc' : List Addr), Gr X.K H loc H' loc' → RS X.K H' loc' μ' → RE X.K H' loc' σ' δ → D.bk σ' H'
  | .ct δ => ∀ (σ' : St) (H' : Hp) (loc' : List Addr), Gr X.K H loc H' loc' → RS X.K H' loc' μ' → RE X.K H' loc' σ' δ → D.ct σ' H'
  | .rt a => ∀ (v : V) (H' : Hp) (loc' : List Addr), Gr X.K H loc H' loc' → RS X.K H' loc' μ' → RA X.K H' loc' v a → D.rt v H'
  | .rs x δ => ∀ (σ' : St) (H' : Hp) (loc' : List Addr) (cls : Value) (d : Option Addr), Gr X.K H loc H' loc' → RS X.K H' loc' μ' → RE X.K H' loc' σ' δ → RX X.K H' loc' x cls d → W cls d σ' H'
theorem KF.mono {X : Cx} {W : WX} {D : Ends} {H H1 : Hp} {loc loc1 : List Addr} {fl : Fl} {μ : Sto} (g : Gr X.K H loc H1 loc1) (h : KF X W D H loc fl μ) : KF X W D H1 loc1 fl μ := by
  cases fl with
  | nx δ => exact fun σ' H' loc' g' => h σ' H' loc' (g.trans g')
  | bk δ => exact fun σ' H' loc' g' => h σ' H' loc' (g.trans g')
  | ct δ => exact fun σ' H' loc' g' => h σ' H' loc' (g.trans g')
  | rt a => exact fun v H' loc' g' => h v H' loc' (g.trans g')
  | rs x δ => exact fun σ' H' loc' cls d g' => h σ' H' loc' cls d (g.trans g')
def SS (X : Cx) (W : WX) (st : Stmt) (m : Env → M Fl) : Prop := ∀ (σ : St) (H : Hp) (loc : List Addr) (δ : Env) (μ : Sto) (D : Ends), RE X.K H loc σ δ → RS X.K H loc μ → (m δ μ).post (KF X W D H loc) NX → wS X st D σ H
def SB (X : Cx) (W : WX) (sts : List Stmt) (m : Env → M Fl) : Prop := ∀ (σ : St) (H : Hp) (loc : List Addr) (δ : Env) (μ : Sto) (D : Ends), RE X.K H loc σ δ → RS X.K H loc μ → (m δ μ).post (KF X W D H loc) NX → wB X sts D σ H
/-- as before but for some slots -/
def Agree (T : List Nat) (σ σ' : St) : Prop := σ'.length = σ.length ∧ ∀ i, i ∉ T → σ'[i]? = σ[i]?
theorem Agree.refl {T : List Nat} {σ : St} : Agree T σ σ := ⟨rfl, fun _ _ => rfl⟩
theorem Agree.trans {T U : List Nat} {σ σ1 σ2 : St} (a : Agree T σ σ1) (b : Agree U σ1 σ2) : Agree (T ++ U) σ σ2 := ⟨b.1.trans a.1, fun i h => (b.2 i fun z => h (List.mem_append_right _ z)).trans (a.2 i fun z => h (List.mem_append_left _ z))⟩
theorem Agree.wipe {T vs : List Nat} {σ σ' : St} (a : Agree T σ σ') (h : ∀ i ∈ T, i ∈ vs) : L2.wipe σ' vs = L2.wipe σ vs := by
  refine List.ext_getElem? fun i => ?_
  have out : ∀ {τ : St} {j : Nat} {l : List Nat}, j ∉ l → (L2.wipe τ l)[j]? = τ[j]? := fun {τ j l} hj => by
    induction l with
    | nil => rfl
    | cons v l ih =>
      show ((L2.wipe τ l).set v none)[j]? = _
      rw [List.getElem?_set_ne (fun z => hj (by rw [z]; exact List.mem_cons_self ..))]
      exact ih fun z => hj (List.mem_cons_of_mem _ z)
  have inn : ∀ {τ : St} {j : Nat} {l : List Nat}, j ∈ l → (L2.wipe τ l)[j]? = if j < τ.length then some none else none := fun {τ j l} hj => by
    induction l with
    | nil => cases hj
    | cons v l ih =>
      show ((L2.wipe τ l).set v none)[j]? = _
      by_cases hv : v = j
      · subst hv
        by_cases hl : v < (L2.wipe τ l).length
        · rw [List.getElem?_set_self hl, if_pos (by rw [L2.wipe_length] at hl; exact hl)]
        · rw [List.getElem?_eq_none (by rw [List.length_set]; exact Nat.le_of_not_lt hl), if_neg (by rw [L2.wipe_length] at hl; exact hl)]
      · rw [List.getElem?_set_ne hv]
        exact ih ((List.mem_cons.mp hj).resolve_left fun z => hv z.symm)
  by_cases hi : i ∈ vs
  · rw [inn hi, inn hi, a.1]
  · rw [out hi, out hi]
    exact a.2 i fun z => hi (h i z)
/-- a target; T: the slots it sets -/
def SG (X : Cx) (W : WX) (T : List Nat) (tg : Expr) (g : A → Env → M Env) : Prop := ∀ (σ : St) (H : Hp) (loc : List Addr) (δ : Env) (μ : Sto) (v : V) (a : A) (Q : St → Hp → Prop), RE X.K H loc σ δ → RS X.K H loc μ → RA X.K H loc v a →
  (g a δ μ).post (fun δ' μ' => ∀ (σ' : St) (H' : Hp) (loc' : List Addr), Gr X.K H loc H' loc' → RS X.K H' loc' μ' → RE X.K H' loc' σ' δ' → Agree T σ σ' → Q σ' H') NX → wG X tg v σ H Q
/-- lift: an expression's run within a statement -/
def inS {α : Type} (m : M α) (δ : Env) (k : α → M Fl) : M Fl := fun μ => match m μ with
  | .ok a μ' => k a μ'
  | .ex x μ' => .ok (.rs x δ) μ'
  | .bad => .bad
theorem post_inS {α : Type} {m : M α} {δ : Env} {k : α → M Fl} {μ : Sto} {Kf : Fl → Sto → Prop} (h : (inS m δ k μ).post Kf NX) : (m μ).post (fun a μ' => (k a μ').post Kf NX) (fun x μ' => Kf (.rs x δ) μ') := by
  unfold inS at h
  cases e : m μ with
  | ok a μ' => rw [e] at h; exact h
  | ex x μ' => rw [e] at h; exact h
  | bad => rw [e] at h; exact h
theorem KF.kx {X : Cx} {W : WX} {D : Ends} {σ : St} {H : Hp} {loc : List Addr} {δ : Env} {x : Exc} {μ : Sto} (re : RE X.K H loc σ δ) (h : KF X W D H loc (.rs x δ) μ) : KX X W σ H loc x μ := fun H' loc' cls d g rs rx => h σ H' loc' cls d g rs (re.mono g) rx
end Lt

/-! Lt2: the rules for expressions: names, constants, operators, comparisons, displays, subscripts. -/
namespace Lt
open PySem PySem.Spec PyProof.Rows L2

section
variable {X : Cx} {W : WX} {σ : St} {H : Hp} {loc : List Addr} {δ : Env} {μ : Sto}
theorem SE.go {β : Type} {e : Expr} {m : Env → M A} {k : A → M β} {Kb : β → Sto → Prop} {Q : VK} (ha : SE X W e m) (re : RE X.K H loc σ δ) (rs : RS X.K H loc μ) (h : (bnd (m δ) k μ).post Kb (KX X W σ H loc))
    (nx : ∀ v x H1 loc1 μ1, Gr X.K H loc H1 loc1 → RS X.K H1 loc1 μ1 → RA X.K H1 loc1 v x → RE X.K H1 loc1 σ δ → (k x μ1).post Kb (KX X W σ H1 loc1) → Q v H1) : wE X e σ H Q :=
  ha σ H loc δ μ Q re rs (post_mono (post_bnd.mp h) (fun x μ1 h1 v H1 loc1 g1 rs1 rv => nx v x H1 loc1 μ1 g1 rs1 rv (re.mono g1) (post_mono h1 (fun _ _ z => z) fun _ _ z => KX.mono g1 z)) fun _ _ z => z)
theorem SA.go {β : Type} {e : List Expr} {m : Env → M (List A)} {k : List A → M β} {Kb : β → Sto → Prop} {Q : List V → Hp → Prop} (ha : SA X W e m) (re : RE X.K H loc σ δ) (rs : RS X.K H loc μ) (h : (bnd (m δ) k μ).post Kb (KX X W σ H loc))
    (nx : ∀ v x H1 loc1 μ1, Gr X.K H loc H1 loc1 → RS X.K H1 loc1 μ1 → RAs X.K H1 loc1 v x → RE X.K H1 loc1 σ δ → (k x μ1).post Kb (KX X W σ H1 loc1) → Q v H1) : wA X e σ H Q :=
  ha σ H loc δ μ Q re rs (post_mono (post_bnd.mp h) (fun x μ1 h1 v H1 loc1 g1 rs1 rv => nx v x H1 loc1 μ1 g1 rs1 rv (re.mono g1) (post_mono h1 (fun _ _ z => z) fun _ _ z => KX.mono g1 z)) fun _ _ z => z)
theorem ST.go {β : Type} {e : Expr} {m : Env → M Bool} {k : Bool → M β} {Kb : β → Sto → Prop} {Q : Bool → Hp → Prop} (ha : ST X W e m) (re : RE X.K H loc σ δ) (rs : RS X.K H loc μ) (h : (bnd (m δ) k μ).post Kb (KX X W σ H loc))
    (nx : ∀ b H1 loc1 μ1, Gr X.K H loc H1 loc1 → RS X.K H1 loc1 μ1 → RE X.K H1 loc1 σ δ → (k b μ1).post Kb (KX X W σ H1 loc1) → Q b H1) : wT X e σ H Q :=
  ha σ H loc δ μ Q re rs (post_mono (post_bnd.mp h) (fun x μ1 h1 H1 loc1 g1 rs1 => nx x H1 loc1 μ1 g1 rs1 (re.mono g1) (post_mono h1 (fun _ _ z => z) fun _ _ z => KX.mono g1 z)) fun _ _ z => z)
end

/-! ### names and constants -/
def getv (δ : Env) (i : Nat) : M A := fun μ => match δ[i]? with
  | some (some a) => .ok a μ
  | _ => .bad
section
variable {X : Cx} {W : WX}
theorem SE.pure {e : Expr} {v : V} {a : A} (h : PE X e (tC v)) (r : ∀ H loc, RA X.K H loc v a) : SE X W e (fun _ => ret a) := fun σ H loc δ μ Q re rs q => wE_of h (q v H loc Gr.refl rs (r H loc))
theorem se_var (i : Nat) {x : Str} {pos : Pos} (hN : X.N[i]? = some x := by rfl) (hv : Vis X.env.scope x := by first | exact Or.inl rfl | exact Or.inr (Or.inl rfl) | exact Or.inr (Or.inr rfl)) (hd : (x == ("__debug__" : Str)) = false := by decide +kernel)
    (hcd : (x == ("__classdict__" : Str)) = false := by decide +kernel) : SE X W (.Name x pos) (fun δ => getv δ i) := fun σ H loc δ μ Q re rs q => by
  refine wE_of (pe_var hN hv hd hcd) ?_
  simp only [getv] at q
  split at q
  · rename_i a e
    obtain ⟨v, h1, h2⟩ := re.at_ i a e
    exact ⟨v, h1, q v H loc Gr.refl rs h2⟩
  · exact q.elim
theorem se_int {i : Int} {j : Nat} {pos : Pos} : SE X W (.Constant (.int i) j pos) (fun _ => ret (.int i)) := .pure pe_int fun _ _ => .int i
theorem se_bl {b : Bool} {j : Nat} {pos : Pos} : SE X W (.Constant (.bool b) j pos) (fun _ => ret (.bl b)) := .pure pe_bl fun _ _ => .bl b
theorem se_non {j : Nat} {pos : Pos} : SE X W (.Constant .none j pos) (fun _ => ret .non) := .pure pe_non fun _ _ => .non
theorem se_str {x : Str} {j : Nat} {pos : Pos} : SE X W (.Constant (.str x) j pos) (fun _ => ret (.str x)) := .pure pe_str fun _ _ => .str x
/-- a name of the module: a constant, a def as a value -/
theorem se_glob {x : Str} {v : V} {u : Value} {a : A} {pos : Pos} (hg : Gl X x) (hm : X.mg x = some u) (r : RelV v u) (ra : ∀ H loc, RA X.K H loc v a) (hd : (x == ("__debug__" : Str)) = false := by decide +kernel) : SE X W (.Name x pos) (fun _ => ret a) :=
  .pure (pe_glob hg hm r hd) ra

/-! ### argument lists, displays -/
theorem sa_nil : SA X W [] (fun _ => ret []) := fun σ H loc δ μ Q re rs q => wA_of pa_nil (q [] H loc Gr.refl rs .nil)
theorem sa_cons {e : Expr} {es : List Expr} {m : Env → M A} {ms : Env → M (List A)} (h : SE X W e m) (hs : SA X W es ms) (hst : starEach (e :: es) X.env = (false, eval e X.env) :: starEach es X.env := by rfl) :
    SA X W (e :: es) (fun δ => bnd (m δ) fun a => bnd (ms δ) fun as => ret (a :: as)) := fun σ H loc δ μ Q re rs q => by
  refine wA_of (pa_cons pwE pwA hst) ?_
  refine h.go re rs q fun v x H1 loc1 μ1 g1 rs1 rv re1 q1 => ?_
  refine hs.go re1 rs1 q1 fun vs xs H2 loc2 μ2 g2 rs2 rvs re2 q2 => ?_
  exact q2 (v :: vs) H2 loc2 (g1.trans g2) rs2 (.cons (rv.mono g2) rvs)
end
def alloc (m : Mu) : M A := fun μ => .ok (.hd μ.length) (μ ++ [m])
def mkTup (as : List A) : M A := if as.length ≤ sizeLine then ret (.tup as) else bad
def mkLst (as : List A) : M A := if as.length ≤ sizeLine then alloc (.lst as) else bad
section
variable {X : Cx} {W : WX} {σ : St} {H : Hp} {loc : List Addr} {μ : Sto}
/-- a new tuple, a new list of the store -/
theorem new_tup {vs : List V} {as : List A} {Q : VK} (rs : RS X.K H loc μ) (r : RAs X.K H loc vs as) (q : (mkTup as μ).post (KV_ X H loc Q) (KX X W σ H loc)) : vs.length ≤ sizeLine ∧ ∀ p, H p = none → Q (.ref p) (upd H p (.tup vs)) := by
  unfold mkTup at q
  split at q
  · rename_i hl
    have hl' : vs.length ≤ sizeLine := by rw [r.length]; exact hl
    exact ⟨hl', fun p hp => q (.ref p) _ loc (Gr.new hp) (rs.new hp) (.tup (.inl (.inl upd_same)) hl' (r.mono (Gr.new hp)))⟩
  · exact q.elim
theorem new_lst {vs : List V} {as : List A} {Q : VK} (rs : RS X.K H loc μ) (r : RAs X.K H loc vs as) (q : (mkLst as μ).post (KV_ X H loc Q) (KX X W σ H loc)) : vs.length ≤ sizeLine ∧ ∀ p, H p = none → Q (.ref p) (upd H p (.lst vs)) := by
  unfold mkLst at q
  split at q
  · rename_i hl
    have hl' : vs.length ≤ sizeLine := by rw [r.length]; exact hl
    refine ⟨hl', fun p hp => q (.ref p) _ (loc ++ [p]) (Gr.alloc hp) (rs.alloc hp ⟨vs, rfl, hl', r.mono (Gr.alloc hp)⟩) (.hd ?_)⟩
    rw [← rs.len, List.getElem?_append_right (Nat.le_refl _), Nat.sub_self]
    rfl
  · exact q.elim
theorem se_tup {es : List Expr} {k : Nat} {pos : Pos} {ms : Env → M (List A)} (hs : SA X W es ms) : SE X W (.Tuple es k pos) (fun δ => bnd (ms δ) mkTup) := fun σ H loc δ μ Q re rs q => by
  refine wE_of (pe_tup pwA) ?_
  exact hs.go re rs q fun vs xs H1 loc1 μ1 g1 rs1 rvs re1 q1 => new_tup rs1 rvs (W := W) (σ := σ) (post_mono q1 (fun _ _ z => KV_.mono g1 z) fun _ _ z => z)
theorem se_lst {es : List Expr} {pos : Pos} {ms : Env → M (List A)} (hs : SA X W es ms) : SE X W (.List es pos) (fun δ => bnd (ms δ) mkLst) := fun σ H loc δ μ Q re rs q => by
  refine wE_of (pe_lst pwA) ?_
  exact hs.go re rs q fun vs xs H1 loc1 μ1 g1 rs1 rvs re1 q1 => new_lst rs1 rvs (W := W) (σ := σ) (post_mono q1 (fun _ _ z => KV_.mono g1 z) fun _ _ z => z)
end

/-! ### reading lists and tuples -/
/-- the items of a list, of a tuple -/
def itemsL (a : A) : M (List A) := fun μ => match a with
  | .hd n => match μ[n]? with
    | some (.lst xs) => .ok xs μ
    | _ => .bad
  | .rol xs => .ok xs μ
  | _ => .bad
def items (a : A) : M (List A) := match a with
  | .tup xs => ret xs
  | a => itemsL a
section
variable {K : PySem.W.Frag} {H : Hp} {loc : List Addr} {μ : Sto}
theorem RA.sqL {v : V} {a : A} {xs : List A} {Kp : List A → Sto → Prop} {Kx : Exc → Sto → Prop} (rs : RS K H loc μ) (r : RA K H loc v a) (h : (itemsL a μ).post Kp Kx) :
    ∃ p vs xs, v = .ref p ∧ SqL K H p vs ∧ vs.length ≤ sizeLine ∧ RAs K H loc vs xs ∧ itemsL a μ = .ok xs μ ∧ Kp xs μ := by
  cases r with
  | @hd p n hl =>
    have h' := h
    unfold itemsL at h'
    simp only at h'
    split at h'
    · rename_i xs e
      obtain ⟨vs, e2, l, q⟩ := rs.lst e hl
      refine ⟨p, vs, xs, rfl, .inl (.inl e2), l, q, ?_, h'⟩
      unfold itemsL
      simp only [e]
    · exact h'.elim
  | @rol p vs xs hq l q =>
    refine ⟨p, vs, xs, rfl, ?_, l, q, rfl, h⟩
    rcases hq with ⟨o, e⟩ | hq
    · exact .inl (.inr ⟨o, e⟩)
    · exact .inr hq
  | _ => exact h.elim
theorem RA.sq {v : V} {a : A} {Kp : List A → Sto → Prop} {Kx : Exc → Sto → Prop} (rs : RS K H loc μ) (r : RA K H loc v a) (h : (items a μ).post Kp Kx) :
    ∃ p vs xs, v = .ref p ∧ (SqL K H p vs ∨ SqT K H p vs) ∧ vs.length ≤ sizeLine ∧ RAs K H loc vs xs ∧ items a μ = .ok xs μ ∧ Kp xs μ := by
  cases r with
  | @tup p vs xs hq l q => exact ⟨p, vs, xs, rfl, .inr hq, l, q, rfl, h⟩
  | hd hl =>
    obtain ⟨p, vs, xs, e, h1, h2, h3, h4, h5⟩ := RA.sqL (xs := []) rs (.hd hl) h
    exact ⟨p, vs, xs, e, .inl h1, h2, h3, h4, h5⟩
  | rol hq l q =>
    obtain ⟨p, vs, xs, e, h1, h2, h3, h4, h5⟩ := RA.sqL (xs := []) rs (.rol hq l q) h
    exact ⟨p, vs, xs, e, .inl h1, h2, h3, h4, h5⟩
  | _ => exact h.elim
end

/-! ### operators -/
def SO (X : Cx) (W : WX) (r : R2) (f : A → A → M A) : Prop := ∀ (σ : St) (H : Hp) (loc : List Addr) (μ : Sto) (v u : V) (a b : A) (Q : VK), RS X.K H loc μ → RA X.K H loc v a → RA X.K H loc u b →
  (f a b μ).post (KV_ X H loc Q) (KX X W σ H loc) → r v u H Q
section
variable {X : Cx} {W : WX} {a b : Expr} {ma mb : Env → M A} {pos : Pos}
theorem se_bin {op : Operator} {r : R2} {f : A → A → M A} (ho : OpR X (binaryOp op) r) (hf : SO X W r f) (ha : SE X W a ma) (hb : SE X W b mb) : SE X W (.BinOp a op b pos) (fun δ => bnd (ma δ) fun x => bnd (mb δ) fun y => f x y) := fun σ H loc δ μ Q re rs q => by
  refine wE_of (pe_op ho pwE pwE) ?_
  refine ha.go re rs q fun v x H1 loc1 μ1 g1 rs1 rv re1 q1 => ?_
  refine hb.go re1 rs1 q1 fun u y H2 loc2 μ2 g2 rs2 ru re2 q2 => ?_
  exact hf σ H2 loc2 μ2 v u x y Q rs2 (rv.mono g2) ru (post_mono q2 (fun _ _ z => KV_.mono (g1.trans g2) z) fun _ _ z => z)
theorem se_cmp {op : CmpOp} {r : R2} {f : A → A → M A} (ho : OpR X (compareOp op) r) (hf : SO X W r f) (ha : SE X W a ma) (hb : SE X W b mb) (hm : behindInMarks op b = false := by first | exact nobehind _ (by decide) (by decide) | rfl) :
    SE X W (.Compare a [op] [b] pos) (fun δ => bnd (ma δ) fun x => bnd (mb δ) fun y => f x y) := fun σ H loc δ μ Q re rs q => by
  refine wE_of (pe_cmpR ho pwE pwE hm) ?_
  refine ha.go re rs q fun v x H1 loc1 μ1 g1 rs1 rv re1 q1 => ?_
  refine hb.go re1 rs1 q1 fun u y H2 loc2 μ2 g2 rs2 ru re2 q2 => ?_
  exact hf σ H2 loc2 μ2 v u x y Q rs2 (rv.mono g2) ru (post_mono q2 (fun _ _ z => KV_.mono (g1.trans g2) z) fun _ _ z => z)
/-- a value that must be a truth -/
def asB (a : A) : M Bool := match a with
  | .bl b => ret b
  | _ => bad
theorem st_cmp {op : CmpOp} {r : R2} {f : A → A → M A} (ho : OpR X (compareOp op) r) (hf : SO X W r f) (ha : SE X W a ma) (hb : SE X W b mb) (hm : behindInMarks op b = false := by first | exact nobehind _ (by decide) (by decide) | rfl) :
    ST X W (.Compare a [op] [b] pos) (fun δ => bnd (ma δ) fun x => bnd (mb δ) fun y => bnd (f x y) asB) := fun σ H loc δ μ Q re rs q => by
  refine wT_of (pt_cmpR ho pwE pwE hm) ?_
  refine ha.go re rs q fun v x H1 loc1 μ1 g1 rs1 rv re1 q1 => ?_
  refine hb.go re1 rs1 q1 fun u y H2 loc2 μ2 g2 rs2 ru re2 q2 => ?_
  refine hf σ H2 loc2 μ2 v u x y _ rs2 (rv.mono g2) ru (post_mono (post_bnd.mp q2) (fun c μ3 q3 w H3 loc3 g3 rs3 rw => ?_) fun _ _ z => z)
  cases rw with
  | bl k => exact ⟨k, rfl, q3 H3 loc3 ((g1.trans g2).trans g3) rs3⟩
  | _ => exact q3.elim
end
def i2 (f : Int → Int → M A) (a b : A) : M A := match a, b with
  | .int i, .int j => f i j
  | _, _ => bad
section
variable {X : Cx} {W : WX}
theorem so_i2 {C : Int → Int → Prop} [∀ i j, Decidable (C i j)] {g : Int → Int → V} {h : Int → Int → A} (hr : ∀ i j H loc, RA X.K H loc (g i j) (h i j)) : SO X W (rI C g) (i2 fun i j => if C i j then ret (h i j) else bad) := fun σ H loc μ v u a b Q rs ra rb q => by
  cases ra <;> first | exact q.elim | skip
  rename_i i
  cases rb <;> first | exact q.elim | skip
  rename_i j
  unfold i2 at q
  simp only at q
  split at q
  · rename_i hc
    exact ⟨i, j, rfl, rfl, hc, q (g i j) H loc Gr.refl rs (hr i j H loc)⟩
  · exact q.elim
theorem so_i0 {g : Int → Int → V} {h : Int → Int → A} (hr : ∀ i j H loc, RA X.K H loc (g i j) (h i j)) : SO X W (rI0 g) (i2 fun i j => ret (h i j)) := fun σ H loc μ v u a b Q rs ra rb q => by
  cases ra <;> first | exact q.elim | skip
  rename_i i
  cases rb <;> first | exact q.elim | skip
  rename_i j
  exact ⟨i, j, rfl, rfl, q (g i j) H loc Gr.refl rs (hr i j H loc)⟩
end
instance (i j : Int) : Decidable (CDiv i j) := by unfold CDiv; infer_instance
instance (i j : Int) : Decidable (CMul i j) := by unfold CMul; infer_instance
instance (i j : Int) : Decidable (CPow i j) := by unfold CPow; infer_instance
def subA : A → A → M A := i2 fun i j => ret (.int (i - j))
def mulA : A → A → M A := i2 fun i j => if CMul i j then ret (.int (i * j)) else bad
def modA : A → A → M A := i2 fun i j => if 0 < j then ret (.int (i % j)) else bad
def fdivA : A → A → M A := i2 fun i j => if CDiv i j then ret (.int (i / j)) else bad
def powA : A → A → M A := i2 fun i j => if CPow i j then ret (.int (i ^ j.toNat)) else bad
def ltA : A → A → M A := i2 fun i j => ret (.bl (decide (i < j)))
def leA : A → A → M A := i2 fun i j => ret (.bl (decide (i ≤ j)))
def gtA : A → A → M A := i2 fun i j => ret (.bl (decide (j < i)))
def geA : A → A → M A := i2 fun i j => ret (.bl (decide (j ≤ i)))
/-- a + b: ints, texts, tuples, lists of the store -/
def addA (a b : A) : M A := match a, b with
  | .int i, .int j => ret (.int (i + j))
  | .int i, .bl k => ret (.int (i + b2i k))
  | .str s, .str t => if s.length + t.length ≤ sizeLine then ret (.str (s ++ t)) else bad
  | .tup xs, .tup ys => if xs.length + ys.length ≤ sizeLine then ret (.tup (xs ++ ys)) else bad
  | .hd n, .hd m => fun μ => match μ[n]?, μ[m]? with
    | some (.lst xs), some (.lst ys) => if xs.length + ys.length ≤ sizeLine then alloc (.lst (xs ++ ys)) μ else .bad
    | _, _ => .bad
  | _, _ => bad
section
variable {X : Cx} {W : WX} {a b : Expr} {ma mb : Env → M A} {pos : Pos}
theorem se_sub (ha : SE X W a ma) (hb : SE X W b mb) : SE X W (.BinOp a .Sub b pos) (fun δ => bnd (ma δ) fun x => bnd (mb δ) fun y => subA x y) := se_bin op_sub (so_i0 fun _ _ _ _ => .int _) ha hb
theorem se_mul (ha : SE X W a ma) (hb : SE X W b mb) : SE X W (.BinOp a .Mult b pos) (fun δ => bnd (ma δ) fun x => bnd (mb δ) fun y => mulA x y) := se_bin op_mul (so_i2 (C := CMul) fun _ _ _ _ => .int _) ha hb
theorem se_mod (ha : SE X W a ma) (hb : SE X W b mb) : SE X W (.BinOp a .Mod b pos) (fun δ => bnd (ma δ) fun x => bnd (mb δ) fun y => modA x y) := se_bin op_mod (so_i2 (C := fun _ j => 0 < j) fun _ _ _ _ => .int _) ha hb
theorem se_fdiv (ha : SE X W a ma) (hb : SE X W b mb) : SE X W (.BinOp a .FloorDiv b pos) (fun δ => bnd (ma δ) fun x => bnd (mb δ) fun y => fdivA x y) := se_bin op_fdiv (so_i2 (C := CDiv) fun _ _ _ _ => .int _) ha hb
theorem se_pow (ha : SE X W a ma) (hb : SE X W b mb) : SE X W (.BinOp a .Pow b pos) (fun δ => bnd (ma δ) fun x => bnd (mb δ) fun y => powA x y) := se_bin op_pow (so_i2 (C := CPow) fun _ _ _ _ => .int _) ha hb
theorem se_lt (ha : SE X W a ma) (hb : SE X W b mb) : SE X W (.Compare a [.Lt] [b] pos) (fun δ => bnd (ma δ) fun x => bnd (mb δ) fun y => ltA x y) := se_cmp op_lt (so_i0 fun _ _ _ _ => .bl _) ha hb
theorem se_le (ha : SE X W a ma) (hb : SE X W b mb) : SE X W (.Compare a [.LtE] [b] pos) (fun δ => bnd (ma δ) fun x => bnd (mb δ) fun y => leA x y) := se_cmp op_le (so_i0 fun _ _ _ _ => .bl _) ha hb
theorem se_gt (ha : SE X W a ma) (hb : SE X W b mb) : SE X W (.Compare a [.Gt] [b] pos) (fun δ => bnd (ma δ) fun x => bnd (mb δ) fun y => gtA x y) := se_cmp op_gt (so_i0 fun _ _ _ _ => .bl _) ha hb
theorem se_ge (ha : SE X W a ma) (hb : SE X W b mb) : SE X W (.Compare a [.GtE] [b] pos) (fun δ => bnd (ma δ) fun x => bnd (mb δ) fun y => geA x y) := se_cmp op_ge (so_i0 fun _ _ _ _ => .bl _) ha hb
theorem st_lt (ha : SE X W a ma) (hb : SE X W b mb) : ST X W (.Compare a [.Lt] [b] pos) (fun δ => bnd (ma δ) fun x => bnd (mb δ) fun y => bnd (ltA x y) asB) := st_cmp op_lt (so_i0 fun _ _ _ _ => .bl _) ha hb
theorem st_le (ha : SE X W a ma) (hb : SE X W b mb) : ST X W (.Compare a [.LtE] [b] pos) (fun δ => bnd (ma δ) fun x => bnd (mb δ) fun y => bnd (leA x y) asB) := st_cmp op_le (so_i0 fun _ _ _ _ => .bl _) ha hb
theorem st_gt (ha : SE X W a ma) (hb : SE X W b mb) : ST X W (.Compare a [.Gt] [b] pos) (fun δ => bnd (ma δ) fun x => bnd (mb δ) fun y => bnd (gtA x y) asB) := st_cmp op_gt (so_i0 fun _ _ _ _ => .bl _) ha hb
theorem st_ge (ha : SE X W a ma) (hb : SE X W b mb) : ST X W (.Compare a [.GtE] [b] pos) (fun δ => bnd (ma δ) fun x => bnd (mb δ) fun y => bnd (geA x y) asB) := st_cmp op_ge (so_i0 fun _ _ _ _ => .bl _) ha hb
def rAddAll (K : PySem.W.Frag) : R2 := fun x y H Q => ((((rI0 fun i j => .int (i + j)) x y H Q ∨ (∃ i k, x = .int i ∧ y = .bl k ∧ Q (.int (i + b2i k)) H)) ∨ (∃ i j, x = .str i ∧ y = .str j ∧ i.length + j.length ≤ sizeLine ∧ Q (.str (i ++ j)) H)) ∨ rCatA K x y H Q) ∨ rCat x y H Q
theorem op_addAll : OpR X (binaryOp .Add) (rAddAll X.K) := OpR.or (OpR.or (OpR.or (OpR.or op_add op_add_ib) op_add_str) op_catA) op_cat
theorem so_add : SO X W (rAddAll X.K) addA := fun σ H loc μ v u a b Q rs ra rb q => by
  cases ra with
  | int i =>
    cases rb with
    | int j => exact .inl (.inl (.inl (.inl ⟨i, j, rfl, rfl, q _ H loc Gr.refl rs (.int _)⟩)))
    | bl k => exact .inl (.inl (.inl (.inr ⟨i, k, rfl, rfl, q _ H loc Gr.refl rs (.int _)⟩)))
    | _ => exact q.elim
  | str i =>
    cases rb with
    | str j =>
      unfold addA at q
      simp only at q
      split at q
      · rename_i hl
        exact .inl (.inl (.inr ⟨i, j, rfl, rfl, hl, q _ H loc Gr.refl rs (.str _)⟩))
      · exact q.elim
    | _ => exact q.elim
  | @tup p vs xs h1 h2 h3 =>
    cases rb with
    | @tup p' vs' xs' h1' h2' h3' =>
      unfold addA at q
      simp only at q
      split at q
      · rename_i hl
        have hl' : vs.length + vs'.length ≤ sizeLine := by rw [h3.length, h3'.length]; exact hl
        refine .inl (.inr ⟨p, p', vs, vs', rfl, rfl, h1, h1', hl', ?_⟩)
        have e1 : vs = [] → xs = [] := fun e => by subst e; cases h3; rfl
        have e2 : vs' = [] → xs' = [] := fun e => by subst e; cases h3'; rfl
        refine ⟨fun e => ?_, fun _ e => ?_, fun e e' => fun r hr => ?_⟩
        · refine q _ H loc Gr.refl rs ?_
          rw [e1 e, List.nil_append]
          exact .tup h1' h2' h3'
        · refine q _ H loc Gr.refl rs ?_
          rw [e2 e, List.append_nil]
          exact .tup h1 h2 h3
        · exact q _ _ loc (Gr.new hr) (rs.new hr) (.tup (.inl (.inl upd_same)) (by rw [List.length_append]; exact hl') ((h3.append h3').mono (Gr.new hr)))
      · exact q.elim
    | _ => exact q.elim
  | @hd p n hn =>
    cases rb with
    | @hd p' m hm =>
      unfold addA at q
      simp only at q
      split at q
      · rename_i xs ys e1 e2
        split at q
        · rename_i hl
          obtain ⟨vs, a1, a2, a3⟩ := rs.lst e1 hn
          obtain ⟨ws, b1, b2, b3⟩ := rs.lst e2 hm
          have hl' : vs.length + ws.length ≤ sizeLine := by rw [a3.length, b3.length]; exact hl
          refine .inr ⟨p, p', vs, ws, rfl, rfl, a1, b1, hl', fun r hr => ?_⟩
          refine q (.ref r) _ (loc ++ [r]) (Gr.alloc hr) (rs.alloc hr ⟨vs ++ ws, rfl, by rw [List.length_append]; exact hl', (a3.append b3).mono (Gr.alloc hr)⟩) (.hd ?_)
          rw [← rs.len, List.getElem?_append_right (Nat.le_refl _), Nat.sub_self]
          rfl
        · exact q.elim
      · exact q.elim
    | _ => exact q.elim
  | _ => exact q.elim
theorem se_add (ha : SE X W a ma) (hb : SE X W b mb) : SE X W (.BinOp a .Add b pos) (fun δ => bnd (ma δ) fun x => bnd (mb δ) fun y => addA x y) := se_bin op_addAll so_add ha hb
end
end Lt

/-! Lt3: equality, is, truth, and, or, not; statements; loops. -/
namespace Lt
open PySem PySem.Spec PyProof.Rows L2

/-! ### equality -/
mutual
def dat : A → Option PyData
  | .non => some .none
  | .bl b => some (.bool b)
  | .int i => some (.int i)
  | .str s => some (.str s)
  | .tup xs => match dats xs with
    | some ds => some (.tuple ds)
    | none => none
  | .rol xs => match dats xs with
    | some ds => some (.list ds)
    | none => none
  | .hd _ => none
  | .fn _ => none
  | .exc _ _ _ => none
def dats : List A → Option (List PyData)
  | [] => some []
  | x :: xs => match dat x, dats xs with
    | some d, some ds => some (d :: ds)
    | _, _ => none
end
section
variable {K : PySem.W.Frag} {H : Hp} {loc : List Addr}
theorem rol_sq {a : Addr} {vs : List V} (h : (∃ o, H a = some (.frz o (.lst vs))) ∨ ∃ (o : Obj) (its : Array Value) (n : Nat), K.lookup a = some o ∧ o.cls = .type "list" ∧ o.dict = none ∧ o.data = .seq its n ∧ its.size ≤ sizeLine ∧ Vals vs its.toList) : SqL K H a vs := by
  rcases h with ⟨o, e⟩ | h
  · exact .inl (.inr ⟨o, e⟩)
  · exact .inr h
mutual
theorem dat_dp : ∀ {v : V} {a : A} {d : PyData}, RA K H loc v a → dat a = some d → Dp K H v d
  | _, _, _, .non, e => by cases e; exact .non
  | _, _, _, .bl b, e => by cases e; exact .bl b
  | _, _, _, .int i, e => by cases e; exact .int i
  | _, _, _, .str s, e => by cases e; exact .str s
  | _, .tup xs, _, .tup h _ r, e => by
    simp only [dat] at e
    split at e
    · rename_i ds hd
      cases e
      exact .tup h (dats_dp r hd)
    · cases e
  | _, .rol xs, _, .rol h _ r, e => by
    simp only [dat] at e
    split at e
    · rename_i ds hd
      cases e
      exact .lst (rol_sq h) (dats_dp r hd)
    · cases e
  | _, _, _, .hd _, e => by simp [dat] at e
  | _, _, _, .fn, e => by simp [dat] at e
  | _, _, _, .exc .., e => by simp [dat] at e
  | _, _, _, .ex0 .., e => by simp [dat] at e
theorem dats_dp : ∀ {vs : List V} {xs : List A} {ds : List PyData}, RAs K H loc vs xs → dats xs = some ds → DpAll K H vs ds
  | _, _, _, .nil, e => by simp only [dats] at e; cases e; exact .nil
  | _, _, _, .cons r t, e => by
    simp only [dats] at e
    split at e
    · rename_i d ds h1 h2
      cases e
      exact .cons (dat_dp r h1) (dats_dp t h2)
    · cases e
end
end
/-- a list of the store too -/
def datS (μ : Sto) (a : A) : Option PyData := match a with
  | .hd n => match μ[n]? with
    | some (.lst xs) => match dats xs with
      | some ds => some (.list ds)
      | none => none
    | _ => none
  | a => dat a
theorem datS_dp {K : PySem.W.Frag} {H : Hp} {loc : List Addr} {μ : Sto} {v : V} {a : A} {d : PyData} (rs : RS K H loc μ) (r : RA K H loc v a) (e : datS μ a = some d) : Dp K H v d := by
  cases r with
  | hd h =>
    simp only [datS] at e
    split at e
    · rename_i xs h1
      split at e
      · rename_i ds h2
        cases e
        obtain ⟨vs, q1, q2, q3⟩ := rs.lst h1 h
        exact .lst (.of q1) (dats_dp q3 h2)
      · cases e
    · cases e
  | non => exact dat_dp (.non : RA K H loc _ _) e
  | bl b => exact dat_dp (.bl b : RA K H loc _ _) e
  | int b => exact dat_dp (.int b : RA K H loc _ _) e
  | str b => exact dat_dp (.str b : RA K H loc _ _) e
  | tup a b c => exact dat_dp (.tup a b c) e
  | rol a b c => exact dat_dp (.rol a b c) e
  | fn => exact dat_dp (.fn : RA K H loc _ _) e
  | exc => simp [datS, dat] at e
  | ex0 => simp [datS, dat] at e
/-- of flat values; of data -/
def eqS (a b : A) : Option Bool := match a, b with
  | .int i, .int j => some (decide (i = j))
  | .str i, .str j => some (decide (i = j))
  | .bl i, .bl j => some (decide (i = j))
  | .non, .non => some true
  | .non, .int _ => some false
  | .int _, .non => some false
  | .non, .bl _ => some false
  | .bl _, .non => some false
  | .non, .str _ => some false
  | .str _, .non => some false
  | .int _, .str _ => some false
  | .str _, .int _ => some false
  | .bl _, .str _ => some false
  | .str _, .bl _ => some false
  | _, _ => none
def eqB (μ : Sto) (a b : A) : Option Bool := match eqS a b with
  | some k => some k
  | none => match datS μ a, datS μ b with
    | some d, some e => if SeqAt.shaped d = true ∧ SeqAt.shaped e = true then some (PyData.eqv d e) else none
    | _, _ => none
def eqA (a b : A) : M A := fun μ => match eqB μ a b with
  | some k => .ok (.bl k) μ
  | none => .bad
def neA (a b : A) : M A := fun μ => match eqB μ a b with
  | some k => .ok (.bl (!k)) μ
  | none => .bad
section
variable {K : PySem.W.Frag} {H : Hp} {loc : List Addr} {μ : Sto}
theorem eqS_ok {v u : V} {a b : A} {k : Bool} (ra : RA K H loc v a) (rb : RA K H loc u b) (e : eqS a b = some k) : scal v u = true ∧ decide (v = u) = k := by
  cases ra <;> cases rb <;> simp only [eqS] at e <;> first
    | (cases e; exact ⟨rfl, by simp⟩)
    | (cases e; exact ⟨rfl, by first | rfl | decide | (rw [dec_int]; rfl) | (rw [dec_str]; rfl) | (rw [dec_bl]; rfl)⟩)
    | cases e
theorem eqB_ok {v u : V} {a b : A} {k : Bool} {Q : VK} (rs : RS K H loc μ) (ra : RA K H loc v a) (rb : RA K H loc u b) (e : eqB μ a b = some k) (q : Q (.bl k) H) : rEq v u H Q ∨ rEqD K v u H Q := by
  unfold eqB at e
  split at e
  · rename_i k' e'
    cases e
    obtain ⟨h1, h2⟩ := eqS_ok ra rb e'
    refine .inl ⟨h1, ?_⟩
    rw [h2]
    exact q
  · split at e
    · rename_i d d' h1 h2
      split at e
      · rename_i hs
        cases e
        exact .inr ⟨d, d', datS_dp rs ra h1, datS_dp rs rb h2, hs.1, hs.2, q⟩
      · cases e
    · cases e
theorem neB_ok {v u : V} {a b : A} {k : Bool} {Q : VK} (rs : RS K H loc μ) (ra : RA K H loc v a) (rb : RA K H loc u b) (e : eqB μ a b = some k) (q : Q (.bl (!k)) H) : rNe v u H Q ∨ rNeD K v u H Q := by
  unfold eqB at e
  split at e
  · rename_i k' e'
    cases e
    obtain ⟨h1, h2⟩ := eqS_ok ra rb e'
    refine .inl ⟨h1, ?_⟩
    rw [h2]
    exact q
  · split at e
    · rename_i d d' h1 h2
      split at e
      · rename_i hs
        cases e
        exact .inr ⟨d, d', datS_dp rs ra h1, datS_dp rs rb h2, hs.1, hs.2, q⟩
      · cases e
    · cases e
end
section
variable {X : Cx} {W : WX} {a b : Expr} {ma mb : Env → M A} {pos : Pos} {k : Nat}
theorem so_eq : SO X W (fun x y H Q => rEq x y H Q ∨ rEqD X.K x y H Q) eqA := fun σ H loc μ v u a b Q rs ra rb q => by
  unfold eqA at q
  split at q
  · rename_i k e
    exact eqB_ok rs ra rb e (q _ H loc Gr.refl rs (.bl _))
  · exact q.elim
theorem so_ne : SO X W (fun x y H Q => rNe x y H Q ∨ rNeD X.K x y H Q) neA := fun σ H loc μ v u a b Q rs ra rb q => by
  unfold neA at q
  split at q
  · rename_i k e
    exact neB_ok rs ra rb e (q _ H loc Gr.refl rs (.bl _))
  · exact q.elim
theorem se_eq (hr : Room k X.A) (ha : SE X W a ma) (hb : SE X W b mb) : SE X W (.Compare a [.Eq] [b] pos) (fun δ => bnd (ma δ) fun x => bnd (mb δ) fun y => eqA x y) := se_cmp (OpR.or op_eq (op_eqD hr.units)) so_eq ha hb
theorem se_ne (hr : Room k X.A) (ha : SE X W a ma) (hb : SE X W b mb) : SE X W (.Compare a [.NotEq] [b] pos) (fun δ => bnd (ma δ) fun x => bnd (mb δ) fun y => neA x y) := se_cmp (OpR.or op_ne (op_neD hr.units)) so_ne ha hb
theorem st_eq (hr : Room k X.A) (ha : SE X W a ma) (hb : SE X W b mb) : ST X W (.Compare a [.Eq] [b] pos) (fun δ => bnd (ma δ) fun x => bnd (mb δ) fun y => bnd (eqA x y) asB) := st_cmp (OpR.or op_eq (op_eqD hr.units)) so_eq ha hb
theorem st_ne (hr : Room k X.A) (ha : SE X W a ma) (hb : SE X W b mb) : ST X W (.Compare a [.NotEq] [b] pos) (fun δ => bnd (ma δ) fun x => bnd (mb δ) fun y => bnd (neA x y) asB) := st_cmp (OpR.or op_ne (op_neD hr.units)) so_ne ha hb
/-! ### is -/
def isN (a : A) : Bool := match a with
  | .non => true
  | _ => false
theorem RA.isN {K : PySem.W.Frag} {H : Hp} {loc : List Addr} {v : V} {a : A} (r : RA K H loc v a) : decide (v = V.non) = Lt.isN a := by
  cases r <;> rfl
/-- is None, is True, is False (the right side written) -/
def isA (a b : A) : M A := match b with
  | .non => ret (.bl (isN a))
  | .bl k => match a with
    | .bl j => ret (.bl (decide (j = k)))
    | _ => bad
  | _ => bad
def nisA (a b : A) : M A := match b with
  | .non => ret (.bl (!isN a))
  | .bl k => match a with
    | .bl j => ret (.bl (!decide (j = k)))
    | _ => bad
  | _ => bad
theorem so_is : SO X W (fun x y H Q => (y = .non ∧ Q (.bl (decide (x = .non))) H) ∨ rIsB x y H Q) isA := fun σ H loc μ v u a b Q rs ra rb q => by
  cases rb with
  | non =>
    refine .inl ⟨rfl, ?_⟩
    rw [ra.isN]
    exact q _ H loc Gr.refl rs (.bl _)
  | bl k =>
    cases ra with
    | bl j => exact .inr ⟨j, k, rfl, rfl, q _ H loc Gr.refl rs (.bl _)⟩
    | _ => exact q.elim
  | _ => exact q.elim
theorem so_nis : SO X W (fun x y H Q => (y = .non ∧ Q (.bl (!decide (x = .non))) H) ∨ rNotB x y H Q) nisA := fun σ H loc μ v u a b Q rs ra rb q => by
  cases rb with
  | non =>
    refine .inl ⟨rfl, ?_⟩
    rw [ra.isN]
    exact q _ H loc Gr.refl rs (.bl _)
  | bl k =>
    cases ra with
    | bl j => exact .inr ⟨j, k, rfl, rfl, q _ H loc Gr.refl rs (.bl _)⟩
    | _ => exact q.elim
  | _ => exact q.elim
theorem se_is (ha : SE X W a ma) (hb : SE X W b mb) : SE X W (.Compare a [.Is] [b] pos) (fun δ => bnd (ma δ) fun x => bnd (mb δ) fun y => isA x y) := se_cmp (OpR.or op_isN op_isBl) so_is ha hb
theorem se_nis (ha : SE X W a ma) (hb : SE X W b mb) : SE X W (.Compare a [.IsNot] [b] pos) (fun δ => bnd (ma δ) fun x => bnd (mb δ) fun y => nisA x y) := se_cmp (OpR.or op_notN op_notBl) so_nis ha hb
theorem st_is (ha : SE X W a ma) (hb : SE X W b mb) : ST X W (.Compare a [.Is] [b] pos) (fun δ => bnd (ma δ) fun x => bnd (mb δ) fun y => bnd (isA x y) asB) := st_cmp (OpR.or op_isN op_isBl) so_is ha hb
theorem st_nis (ha : SE X W a ma) (hb : SE X W b mb) : ST X W (.Compare a [.IsNot] [b] pos) (fun δ => bnd (ma δ) fun x => bnd (mb δ) fun y => bnd (nisA x y) asB) := st_cmp (OpR.or op_notN op_notBl) so_nis ha hb

/-! ### truth -/
def truA (a : A) : M Bool := fun μ => match a with
  | .non => .ok false μ
  | .bl b => .ok b μ
  | .int i => .ok (i != 0) μ
  | .str s => if s.length ≤ sizeLine then .ok ((s.length : Int) != 0) μ else .bad
  | .tup xs => .ok (!xs.isEmpty) μ
  | .rol xs => .ok (!xs.isEmpty) μ
  | .hd n => match μ[n]? with
    | some (.lst xs) => .ok (!xs.isEmpty) μ
    | some (.dic xs) => .ok (!xs.isEmpty) μ
    | _ => .bad
  | .fn _ => .bad
  | .exc _ _ _ => .bad
theorem RAs.isEmpty {K : PySem.W.Frag} {H : Hp} {loc : List Addr} {vs : List V} {xs : List A} (r : RAs K H loc vs xs) : vs.isEmpty = xs.isEmpty := by
  cases r <;> rfl
theorem tru_of {H : Hp} {loc : List Addr} {μ : Sto} {v : V} {a : A} {Kp : Bool → Sto → Prop} {Kx : Exc → Sto → Prop} (rs : RS X.K H loc μ) (r : RA X.K H loc v a) (h : (truA a μ).post Kp Kx) : ∃ k, TruV X.K v H k ∧ Kp k μ := by
  cases r with
  | non => exact ⟨false, rfl, h⟩
  | bl b => exact ⟨b, rfl, h⟩
  | int i => exact ⟨_, rfl, h⟩
  | str s =>
    simp only [truA] at h
    split at h
    · rename_i hl
      exact ⟨_, ⟨hl, rfl⟩, h⟩
    · exact h.elim
  | tup q l t => exact ⟨_, .inr (.inl ⟨_, q, rfl⟩), by rw [t.isEmpty]; exact h⟩
  | rol q l t => exact ⟨_, .inl ⟨_, rol_sq q, rfl⟩, by rw [t.isEmpty]; exact h⟩
  | hd q =>
    simp only [truA] at h
    split at h
    · rename_i xs e
      obtain ⟨vs, q1, q2, q3⟩ := rs.lst e q
      exact ⟨_, .inl ⟨vs, .of q1, rfl⟩, by rw [q3.isEmpty]; exact h⟩
    · rename_i xs e
      obtain ⟨b, o, h1, h2, vs, e2, l, r⟩ := rs.at_ _ _ e
      rw [q] at h1
      cases h1
      subst e2
      refine ⟨_, .inr (.inr ⟨vs, h2, rfl⟩), ?_⟩
      have : vs.isEmpty = xs.isEmpty := by cases r <;> rfl
      rw [this]
      exact h
    · exact h.elim
  | fn => exact h.elim
  | exc => exact h.elim
  | ex0 => exact h.elim
/-- an expression's truth as a test (a name, a call, a subscript, a field ..) -/
theorem st_val (ha : SE X W a ma) (he : ∀ whole, isTrue a X.env whole = (do let v ← whole; standAt a.pos; holding [v] (truthy v)) := by intro _; rfl) : ST X W a (fun δ => bnd (ma δ) truA) := fun σ H loc δ μ Q re rs q => by
  refine wT_of (pt_truth pwE he) ?_
  refine ha.go re rs q fun v x H1 loc1 μ1 g1 rs1 rv re1 q1 => ?_
  obtain ⟨k, h1, h2⟩ := tru_of rs1 rv q1
  exact ⟨k, h1, h2 H1 loc1 g1 rs1⟩
theorem st_not {ta : Env → M Bool} (ha : ST X W a ta) : ST X W (.UnaryOp .Not a pos) (fun δ => bnd (ta δ) fun k => ret (!k)) := fun σ H loc δ μ Q re rs q => by
  refine wT_of (pt_not pwT) ?_
  exact ha.go re rs q fun k H1 loc1 μ1 g1 rs1 re1 q1 => q1 H1 loc1 g1 rs1
theorem sw_and1 {ta : Env → M Bool} (ha : ST X W a ta) : SW X W (.BoolOp .And [a] pos) ta := fun σ H loc δ μ Q re rs q => wW_of (pw_and1 pwT) (ha σ H loc δ μ Q re rs q)
theorem sw_or1 {ta : Env → M Bool} (ha : ST X W a ta) : SW X W (.BoolOp .Or [a] pos) ta := fun σ H loc δ μ Q re rs q => wW_of (pw_or1 pwT) (ha σ H loc δ μ Q re rs q)
theorem sw_and {ta tb : Env → M Bool} {rest : List Expr} (ha : ST X W a ta) (hb : SW X W (.BoolOp .And (b :: rest) pos) tb) : SW X W (.BoolOp .And (a :: b :: rest) pos) (fun δ => bnd (ta δ) fun k => match k with | true => tb δ | false => ret false) := fun σ H loc δ μ Q re rs q => by
  refine wW_of (pw_and pwT pwW) ?_
  refine ha.go re rs q fun k H1 loc1 μ1 g1 rs1 re1 q1 => ?_
  cases k with
  | true =>
    show (if true = true then _ else _)
    rw [if_pos rfl]
    exact hb σ H1 loc1 δ μ1 Q re1 rs1 (post_mono q1 (fun _ _ z => KB.mono g1 z) fun _ _ z => z)
  | false =>
    show (if false = true then _ else _)
    rw [if_neg Bool.false_ne_true]
    exact q1 H1 loc1 g1 rs1
theorem sw_or {ta tb : Env → M Bool} {rest : List Expr} (ha : ST X W a ta) (hb : SW X W (.BoolOp .Or (b :: rest) pos) tb) : SW X W (.BoolOp .Or (a :: b :: rest) pos) (fun δ => bnd (ta δ) fun k => match k with | true => ret true | false => tb δ) := fun σ H loc δ μ Q re rs q => by
  refine wW_of (pw_or pwT pwW) ?_
  refine ha.go re rs q fun k H1 loc1 μ1 g1 rs1 re1 q1 => ?_
  cases k with
  | false =>
    show (if false = true then _ else _)
    rw [if_neg Bool.false_ne_true]
    exact hb σ H1 loc1 δ μ1 Q re1 rs1 (post_mono q1 (fun _ _ z => KB.mono g1 z) fun _ _ z => z)
  | true =>
    show (if true = true then _ else _)
    rw [if_pos rfl]
    exact q1 H1 loc1 g1 rs1
theorem st_w {ta : Env → M Bool} (h : SW X W a ta) : ST X W a ta := fun σ H loc δ μ Q re rs q => wT_of (PW.pt pwW) (h σ H loc δ μ Q re rs q)
/-- and, or, not as values -/
theorem se_one {op : BoolOp} (ha : SE X W a ma) : SE X W (.BoolOp op [a] pos) ma := fun σ H loc δ μ Q re rs q => wE_of (pe_one pwE) (ha σ H loc δ μ Q re rs q)
theorem se_and {rest : List Expr} (ha : SE X W a ma) (hb : SE X W (.BoolOp .And (b :: rest) pos) mb) : SE X W (.BoolOp .And (a :: b :: rest) pos) (fun δ => bnd (ma δ) fun x => bnd (asB x) fun k => match k with | true => mb δ | false => ret (.bl false)) := fun σ H loc δ μ Q re rs q => by
  refine wE_of (pe_and pwE pwE) ?_
  refine ha.go re rs q fun v x H1 loc1 μ1 g1 rs1 rv re1 q1 => ?_
  cases rv with
  | bl k =>
    refine ⟨k, rfl, ?_⟩
    cases k with
    | true =>
      rw [if_pos rfl]
      exact hb σ H1 loc1 δ μ1 Q re1 rs1 (post_mono (show (mb δ μ1).post _ _ from q1) (fun _ _ z => KV_.mono g1 z) fun _ _ z => z)
    | false =>
      rw [if_neg Bool.false_ne_true]
      exact q1 _ H1 loc1 g1 rs1 (.bl false)
  | _ => exact q1.elim
theorem se_or {rest : List Expr} (ha : SE X W a ma) (hb : SE X W (.BoolOp .Or (b :: rest) pos) mb) : SE X W (.BoolOp .Or (a :: b :: rest) pos) (fun δ => bnd (ma δ) fun x => bnd (asB x) fun k => match k with | true => ret (.bl true) | false => mb δ) := fun σ H loc δ μ Q re rs q => by
  refine wE_of (pe_or pwE pwE) ?_
  refine ha.go re rs q fun v x H1 loc1 μ1 g1 rs1 rv re1 q1 => ?_
  cases rv with
  | bl k =>
    refine ⟨k, rfl, ?_⟩
    cases k with
    | false =>
      rw [if_neg Bool.false_ne_true]
      exact hb σ H1 loc1 δ μ1 Q re1 rs1 (post_mono (show (mb δ μ1).post _ _ from q1) (fun _ _ z => KV_.mono g1 z) fun _ _ z => z)
    | true =>
      rw [if_pos rfl]
      exact q1 _ H1 loc1 g1 rs1 (.bl true)
  | _ => exact q1.elim
theorem se_not (ha : SE X W a ma) : SE X W (.UnaryOp .Not a pos) (fun δ => bnd (ma δ) fun x => bnd (asB x) fun k => ret (.bl (!k))) := fun σ H loc δ μ Q re rs q => by
  refine wE_of (pe_not pwE) ?_
  refine ha.go re rs q fun v x H1 loc1 μ1 g1 rs1 rv re1 q1 => ?_
  cases rv with
  | bl k => exact ⟨k, rfl, q1 _ H1 loc1 g1 rs1 (.bl _)⟩
  | _ => exact q1.elim
theorem se_if {c : Expr} {tc : Env → M Bool} (hc : ST X W c tc) (ha : SE X W a ma) (hb : SE X W b mb) : SE X W (.IfExp c a b pos) (fun δ => bnd (tc δ) fun k => match k with | true => ma δ | false => mb δ) := fun σ H loc δ μ Q re rs q => by
  refine wE_of (pe_ifExp pwT pwE pwE) ?_
  refine hc.go re rs q fun k H1 loc1 μ1 g1 rs1 re1 q1 => ?_
  cases k with
  | true =>
    show (if true = true then _ else _)
    rw [if_pos rfl]
    exact ha σ H1 loc1 δ μ1 Q re1 rs1 (post_mono q1 (fun _ _ z => KV_.mono g1 z) fun _ _ z => z)
  | false =>
    show (if false = true then _ else _)
    rw [if_neg Bool.false_ne_true]
    exact hb σ H1 loc1 δ μ1 Q re1 rs1 (post_mono q1 (fun _ _ z => KV_.mono g1 z) fun _ _ z => z)
end

/-! ### statements -/
/-- one statement, then the rest -/
def seqM (m : Env → M Fl) (k : Env → M Fl) : Env → M Fl := fun δ => bnd (m δ) fun fl => match fl with
  | .nx δ' => k δ'
  | fl => ret fl
section
variable {X : Cx} {W : WX} {σ : St} {H : Hp} {loc : List Addr} {δ : Env} {μ : Sto}
theorem SE.goS {e : Expr} {m : Env → M A} {k : A → M Fl} {D : Ends} {Q : VK} (ha : SE X W e m) (re : RE X.K H loc σ δ) (rs : RS X.K H loc μ) (h : (inS (m δ) δ k μ).post (KF X W D H loc) NX)
    (nx : ∀ v x H1 loc1 μ1, Gr X.K H loc H1 loc1 → RS X.K H1 loc1 μ1 → RA X.K H1 loc1 v x → RE X.K H1 loc1 σ δ → (k x μ1).post (KF X W D H1 loc1) NX → Q v H1) : wE X e σ H Q :=
  ha σ H loc δ μ Q re rs (post_mono (post_inS h) (fun x μ1 h1 v H1 loc1 g1 rs1 rv => nx v x H1 loc1 μ1 g1 rs1 rv (re.mono g1) (post_mono h1 (fun _ _ z => KF.mono g1 z) fun _ _ z => z)) fun _ _ z => KF.kx re z)
theorem ST.goS {e : Expr} {m : Env → M Bool} {k : Bool → M Fl} {D : Ends} {Q : Bool → Hp → Prop} (ha : ST X W e m) (re : RE X.K H loc σ δ) (rs : RS X.K H loc μ) (h : (inS (m δ) δ k μ).post (KF X W D H loc) NX)
    (nx : ∀ b H1 loc1 μ1, Gr X.K H loc H1 loc1 → RS X.K H1 loc1 μ1 → RE X.K H1 loc1 σ δ → (k b μ1).post (KF X W D H1 loc1) NX → Q b H1) : wT X e σ H Q :=
  ha σ H loc δ μ Q re rs (post_mono (post_inS h) (fun x μ1 h1 H1 loc1 g1 rs1 => nx x H1 loc1 μ1 g1 rs1 (re.mono g1) (post_mono h1 (fun _ _ z => KF.mono g1 z) fun _ _ z => z)) fun _ _ z => KF.kx re z)
theorem sb_nil : SB X W [] (fun δ => ret (.nx δ)) := fun σ H loc δ μ D re rs q => wB_of pss_nil (q σ H loc Gr.refl rs re)
theorem sb_cons {st : Stmt} {rest : List Stmt} {m k : Env → M Fl} (h : SS X W st m) (hk : SB X W rest k) : SB X W (st :: rest) (seqM m k) := fun σ H loc δ μ D re rs q => by
  refine wB_of (pss_cons pwS pwB) ?_
  refine h σ H loc δ μ _ re rs (post_mono (post_bnd.mp q) (fun fl μ1 h1 => ?_) fun _ _ z => z)
  cases fl with
  | nx δ' => exact fun σ' H' loc' g rs' re' => hk σ' H' loc' δ' μ1 D re' rs' (post_mono h1 (fun _ _ z => KF.mono g z) fun _ _ z => z)
  | bk δ' => exact h1
  | ct δ' => exact h1
  | rt a => exact h1
  | rs x δ' => exact h1
theorem sb_one {st : Stmt} {m : Env → M Fl} (h : SS X W st m) : SB X W [st] m := fun σ H loc δ μ D re rs q => wB_of (pss_one pwS) (h σ H loc δ μ D re rs q)
theorem ss_pass {pos : Pos} : SS X W (.Pass pos) (fun δ => ret (.nx δ)) := fun σ H loc δ μ D re rs q => wS_of ps_pass (q σ H loc Gr.refl rs re)
theorem ss_break {pos : Pos} : SS X W (.Break pos) (fun δ => ret (.bk δ)) := fun σ H loc δ μ D re rs q => wS_of ps_break (q σ H loc Gr.refl rs re)
theorem ss_cont {pos : Pos} : SS X W (.Continue pos) (fun δ => ret (.ct δ)) := fun σ H loc δ μ D re rs q => wS_of ps_continue (q σ H loc Gr.refl rs re)
theorem ss_doc {x j pos pos'} : SS X W (.Expr (.Constant (.str x) j pos) pos') (fun δ => ret (.nx δ)) := fun σ H loc δ μ D re rs q => wS_of ps_doc (q σ H loc Gr.refl rs re)
theorem ss_expr {e : Expr} {m : Env → M A} {pos : Pos} (h : SE X W e m) (hs : swapsWith e none pos.line X.env = pure false := by rfl) : SS X W (.Expr e pos) (fun δ => inS (m δ) δ fun _ => ret (.nx δ)) := fun σ H loc δ μ D re rs q => by
  refine wS_of (ps_expr pwE hs) ?_
  exact h.goS re rs q fun v x H1 loc1 μ1 g1 rs1 rv re1 q1 => q1 σ H1 loc1 Gr.refl rs1 re1
theorem ss_ret {e : Expr} {m : Env → M A} {pos : Pos} (h : SE X W e m) : SS X W (.Return (some e) pos) (fun δ => inS (m δ) δ fun a => ret (.rt a)) := fun σ H loc δ μ D re rs q => by
  refine wS_of (ps_ret pwE) ?_
  exact h.goS re rs q fun v x H1 loc1 μ1 g1 rs1 rv re1 q1 => q1 v H1 loc1 Gr.refl rs1 rv
theorem ss_retN {pos : Pos} : SS X W (.Return none pos) (fun δ => ret (.rt .non)) := fun σ H loc δ μ D re rs q => wS_of ps_retN (q .non H loc Gr.refl rs .non)
theorem ss_if {c : Expr} {a b : List Stmt} {tc : Env → M Bool} {ma mb : Env → M Fl} {pos : Pos} (hc : ST X W c tc) (ha : SB X W a ma) (hb : SB X W b mb) : SS X W (.If c a b pos) (fun δ => inS (tc δ) δ fun k => match k with | true => ma δ | false => mb δ) := fun σ H loc δ μ D re rs q => by
  refine wS_of (ps_if pwT pwB pwB) ?_
  refine hc.goS re rs q fun k H1 loc1 μ1 g1 rs1 re1 q1 => ?_
  cases k with
  | true =>
    show (if true = true then _ else _)
    rw [if_pos rfl]
    exact ha σ H1 loc1 δ μ1 D re1 rs1 q1
  | false =>
    show (if false = true then _ else _)
    rw [if_neg Bool.false_ne_true]
    exact hb σ H1 loc1 δ μ1 D re1 rs1 q1

/-! ### targets -/
def setG (i : Nat) : A → Env → M Env := fun a δ => ret (δ.set i (some a))
theorem sg_name (i : Nat) {x : Str} {pos : Pos} (hN : X.N.Nodup) (hi : X.N[i]? = some x := by rfl) (hx : Loc X.env.scope x := by first | exact Or.inl rfl | exact Or.inr rfl) (hf : X.fn x = true ∨ X.env.scope.names.lookup x = some .local := by first | exact .inl rfl | exact .inr rfl) : SG X W [i] (.Name x pos) (setG i) :=
  fun σ H loc δ μ v a Q re rs ra q => wG_of (pg_name hN hi hx hf) (q _ H loc Gr.refl rs (re.set ra) ⟨List.length_set .., fun j hj => List.getElem?_set_ne (fun z => hj (by rw [z]; exact List.mem_cons_self ..))⟩)
/-- several targets -/
def SGs (X : Cx) (W : WX) (T : List Nat) (es : List Expr) (g : List A → Env → M Env) : Prop := ∃ t : TGs, PGs X es t ∧ ∀ (σ : St) (H : Hp) (loc : List Addr) (δ : Env) (μ : Sto) (vs : List V) (as : List A) (Q : St → Hp → Prop), RE X.K H loc σ δ → RS X.K H loc μ → RAs X.K H loc vs as →
  (g as δ μ).post (fun δ' μ' => ∀ (σ' : St) (H' : Hp) (loc' : List Addr), Gr X.K H loc H' loc' → RS X.K H' loc' μ' → RE X.K H' loc' σ' δ' → Agree T σ σ' → Q σ' H') NX → t vs σ H Q
def gsNil : List A → Env → M Env := fun as δ => match as with
  | [] => ret δ
  | _ => bad
def gsCons (g : A → Env → M Env) (gs : List A → Env → M Env) : List A → Env → M Env := fun as δ => match as with
  | a :: as => bnd (g a δ) fun δ' => gs as δ'
  | [] => bad
theorem sgs_nil : SGs X W [] [] gsNil := ⟨gNil, pgs_nil, fun σ H loc δ μ vs as Q re rs ra q => by
  cases ra with
  | nil => exact ⟨rfl, q σ H loc Gr.refl rs re Agree.refl⟩
  | cons _ _ => exact q.elim⟩
theorem sgs_cons {T U : List Nat} {e : Expr} {es : List Expr} {g : A → Env → M Env} {gs : List A → Env → M Env} (h : SG X W T e g) (hs : SGs X W U es gs)
    (ha : (assignEach (e :: es) X.env).map (·.2) = assign e X.env :: (assignEach es X.env).map (·.2) := by rfl) : SGs X W (T ++ U) (e :: es) (gsCons g gs) := by
  obtain ⟨t, h1, h2⟩ := hs
  refine ⟨gCons (wG X e) t, pgs_cons pwG h1 ha, fun σ H loc δ μ vs as Q re rs ra q => ?_⟩
  cases ra with
  | nil => exact q.elim
  | @cons v vs a as r rr =>
    refine ⟨v, vs, rfl, ?_⟩
    refine h σ H loc δ μ v a _ re rs r (post_mono (post_bnd.mp q) (fun δ' μ' q' σ' H' loc' g' rs' re' ag => ?_) fun _ _ z => z)
    exact h2 σ' H' loc' δ' μ' vs as Q re' rs' (rr.mono g') (post_mono q' (fun _ _ z σ2 H2 loc2 g2 rs2 re2 ag2 => z σ2 H2 loc2 (g'.trans g2) rs2 re2 (ag.trans ag2)) fun _ _ z => z)
/-- (a, b, ..) = a tuple -/
def tupG (n : Nat) (gs : List A → Env → M Env) : A → Env → M Env := fun a δ => match a with
  | .tup xs => if xs.length = n then gs xs δ else bad
  | _ => bad
theorem sg_tup {T : List Nat} {es : List Expr} {k n : Nat} {pos : Pos} {gs : List A → Env → M Env} (hc : X.calm = true) (h : SGs X W T es gs)
    (hn : (assignEach es X.env).length = n := by rfl) (hst : (assignEach es X.env).findIdx? (·.1) = none := by rfl) : SG X W T (.Tuple es k pos) (tupG n gs) := fun σ H loc δ μ v a Q re rs ra q => by
  obtain ⟨t, h1, h2⟩ := h
  refine wG_of (pg_tup hc h1 hn hst) ?_
  cases ra with
  | @tup p vs xs hq hl r =>
    simp only [tupG] at q
    split at q
    · rename_i hx
      exact ⟨p, vs, rfl, hq, by rw [r.length]; exact hx, h2 σ H loc δ μ vs xs Q re rs r q⟩
    · exact q.elim
  | _ => exact q.elim
/-- target = value -/
theorem ss_set (i : Nat) {x : Str} {e : Expr} {m : Env → M A} {pos pos' : Pos} (hN : X.N.Nodup) (h : SE X W e m) (hi : X.N[i]? = some x := by rfl) (hx : Loc X.env.scope x := by first | exact Or.inl rfl | exact Or.inr rfl)
    (hs : swapsWith e (some (.Name x pos')) pos.line X.env = pure false := by rfl) (hf : X.fn x = true ∨ X.env.scope.names.lookup x = some .local := by first | exact .inl rfl | exact .inr rfl) :
    SS X W (.Assign [.Name x pos'] e pos) (fun δ => inS (m δ) δ fun a => ret (.nx (δ.set i (some a)))) := fun σ H loc δ μ D re rs q => by
  refine wS_of (ps_set hN hi hx pwE hs hf) ?_
  exact h.goS re rs q fun v x H1 loc1 μ1 g1 rs1 rv re1 q1 => q1 _ H1 loc1 Gr.refl rs1 (re1.set rv)
theorem ss_asg {T : List Nat} {tg e : Expr} {g : A → Env → M Env} {m : Env → M A} {pos : Pos} (h : SE X W e m) (hg : SG X W T tg g) (hs : swapsWithSole [tg] e pos.line X.env = pure false := by rfl) (hw : swappedStores [tg] e X.env = pure none := by rfl)
    (h1 : (assignEach [tg] X.env).map (·.2) = [assign tg X.env] := by rfl) : SS X W (.Assign [tg] e pos) (fun δ => inS (m δ) δ fun a => bnd (g a δ) fun δ' => ret (.nx δ')) := fun σ H loc δ μ D re rs q => by
  refine wS_of (ps_asg pwE pwG hs hw h1) ?_
  refine h.goS re rs q fun v x H1 loc1 μ1 g1 rs1 rv re1 q1 => ?_
  exact hg σ H1 loc1 δ μ1 v x _ re1 rs1 rv (post_mono (post_bnd.mp q1) (fun δ' μ' q' σ' H' loc' g' rs' re' _ => q' σ' H' loc' g' rs' re') fun _ _ z => z)
end
end Lt

/-! Lt4: calls of defs, loops, what is walked. -/
namespace Lt
open PySem PySem.Spec PyProof.Rows L2

/-! ### a def by its mirror -/
def raiseM {α : Type} (x : Exc) : M α := fun μ => .ex x μ
def spM (K : PySem.W.Frag) (n : Nat) (mf : List A → M A) : Sp := fun vs H Q E => ∃ (loc : List Addr) (μ : Sto) (as : List A), as.length = n ∧ RS K H loc μ ∧ RAs K H loc vs as ∧
  (mf as μ).post (fun a μ' => ∀ (v : V) (H' : Hp) (loc' : List Addr), Gr K H loc H' loc' → RS K H' loc' μ' → RA K H' loc' v a → Q v H')
    (fun x μ' => ∀ (H' : Hp) (loc' : List Addr) (cls : Value) (d : Option Addr), Gr K H loc H' loc' → RS K H' loc' μ' → RX K H' loc' x cls d → E cls d H')
def FnM (P : Program) (w : World) (K : PySem.W.Frag) (mg : Str → Option Value) (base : Heap) (k : Nat) (f : Addr) (fd : FuncData) (ps : List Str) (mf : List A → M A) : Prop := FnOk P w K mg base (L2.CX P w) k f fd ps (spM K ps.length mf)
/-- a def's body, run from its arguments -/
def endM (fl : Fl) : M A := match fl with
  | .rt a => ret a
  | .nx _ => ret .non
  | .rs x _ => raiseM x
  | _ => bad
def startE (n : Nat) (as : List A) : Env := as.map some ++ List.replicate (n - as.length) none
def runBody (n : Nat) (m : Env → M Fl) (as : List A) : M A := fun μ => match m (startE n as) μ with
  | .ok fl μ' => endM fl μ'
  | _ => .bad
section
variable {P : Program} {w : World} {K : PySem.W.Frag} {mg : Str → Option Value} {base : Heap}
/-- the wish of a def's body: what leaves it -/
abbrev wOut (E : XK) : WX := fun cls d _ H => E cls d H
theorem fnM_of {x qual : Str} {st : Stmt} {f : Addr} {fd : FuncData} {N ps : List Str} {k : Nat} {m : Env → M Fl} (F : Fun K x qual st f fd) (S : FnScope N ps (defScope st))
    (hb : ∀ (cdv : Value) (A : Around) (outer : List PySem.Env) (s : Shared) (H : Hp) (E : XK), Room k (A.deeper (envOfC qual (defScope st) s.heap.objs.size f cdv)) →
      Takes (cxOf (L2.CX P w) P w K mg base N qual (defScope st) f cdv A outer s H E) (wOut E) → SB (cxOf (L2.CX P w) P w K mg base N qual (defScope st) f cdv A outer s H E) (wOut E) (defBody st) m) :
    FnM P w K mg base (k + 1) f fd ps (runBody N.length m) := by
  refine F.okX S (fun vs H Q E h => ?_) fun cdv A outer s H vs Q E hr h => ?_
  · obtain ⟨loc, μ, as, hl, _, ra, _⟩ := h
    rw [ra.length]
    exact hl
  · obtain ⟨loc, μ, as, hl, rs, ra, q⟩ := h
    refine ⟨wB _ _, pwB, ?_⟩
    refine hb cdv A outer s H E hr (takes_of rfl rfl rfl rfl) (L2.start N vs) H loc (startE N.length as) μ _ (RE.begins ra) rs ?_
    unfold runBody at q
    split at q
    · rename_i fl μ' e
      refine post_ok e ?_
      cases fl with
      | nx δ => exact fun σ' H' loc' g rs' re' => q .non H' loc' g rs' .non
      | rt a => exact fun v H' loc' g rs' rv => q v H' loc' g rs' rv
      | rs x δ => exact fun σ' H' loc' cls d g rs' re' rx => q H' loc' cls d g rs' rx
      | bk δ => exact q.elim
      | ct δ => exact q.elim
    · exact q.elim
end
/-- a call of a def -/
def callM (n : Nat) (mf : List A → M A) (as : List A) : M A := if as.length = n then mf as else bad
section
variable {X : Cx} {W : WX} {k : Nat} {f : Addr} {fd : FuncData} {ps : List Str} {mf : List A → M A} {x : Str} {p pos : Pos} {e : Expr} {es : List Expr} {ma : Env → M (List A)}
theorem spM_of {σ : St} {H : Hp} {loc : List Addr} {μ : Sto} {vs : List V} {as : List A} {Q : VK} (rs : RS X.K H loc μ) (ra : RAs X.K H loc vs as) (q : (callM ps.length mf as μ).post (KV_ X H loc Q) (KX X W σ H loc)) : spM X.K ps.length mf vs H Q (WE W σ) := by
  unfold callM at q
  split at q
  · rename_i hl
    exact ⟨loc, μ, as, hl, rs, ra, q⟩
  · exact q.elim
theorem se_call (F : FnM X.prog X.w X.K X.mg X.base k f fd ps mf) (hr : Room k X.A) (tk : Takes X W) (hm : X.mg x = some (.ref f)) (hk : PySem.W.keepIn X.K (.ref f) = true) (hb : Binds X.K fd ps []) (ha : SA X W (e :: es) ma) (hg : Gl X x := by rfl)
    (hdb : (x == ("__debug__" : Str)) = false := by decide +kernel) (he : starEach (e :: es) X.env = (false, eval e X.env) :: starEach es X.env := by rfl) (hpl : (backTo pos (starEach es X.env)).any (·.1) = false := by rfl) :
    SE X W (.Call (.Name x p) (e :: es) [] pos) (fun δ => bnd (ma δ) (callM ps.length mf)) := fun σ H loc δ μ Q re rs q => by
  refine wE_of (pe_callS F hr hg hm hk hb (fun σ => passAt tk σ) pwA hdb he hpl) ?_
  refine ha.go re rs q fun vs as H1 loc1 μ1 g1 rs1 ra re1 q1 => ?_
  exact spM_of rs1 ra (post_mono q1 (fun _ _ z => KV_.mono g1 z) fun _ _ z => z)
theorem se_call0 (F : FnM X.prog X.w X.K X.mg X.base k f fd ps mf) (hr : Room k X.A) (tk : Takes X W) (hm : X.mg x = some (.ref f)) (hk : PySem.W.keepIn X.K (.ref f) = true) (hb : Binds X.K fd ps []) (hg : Gl X x := by rfl)
    (hdb : (x == ("__debug__" : Str)) = false := by decide +kernel) : SE X W (.Call (.Name x p) [] [] pos) (fun _ => callM ps.length mf []) := fun σ H loc δ μ Q re rs q => fun pins s I => by
  refine wpAny_Call_Name_kw (ld_glob I hg hm ?_ hdb)
  exact PySem.W.callWith_K0 I.kIn hk (run_fnS (us := []) F hr hb (passAt tk σ) I .nil (spM_of rs .nil q))
end

/-! ### what is walked -/
structure MIt where
  items : List A
  src : List (Nat × List A)
def MIt.still (mi : MIt) (μ : Sto) : Prop := ∀ p ∈ mi.src, μ[p.1]? = some (.lst p.2)
def ItOk (K : PySem.W.Frag) (J : It) (mi : MIt) (H0 : Hp) (loc0 : List Addr) : Prop := ∀ (H : Hp) (loc : List Addr) (μ : Sto), Gr K H0 loc0 H loc → RS K H loc μ → mi.still μ →
  J.stop mi.items.length H ∧ ∀ (i : Nat) (x : A), mi.items[i]? = some x → J.go i H ∧ ∀ (v : V) (H' : Hp), J.yld i H v H' → Gr K H loc H' loc ∧ RS K H' loc μ ∧ RA K H' loc v x
def KI (X : Cx) (H : Hp) (loc : List Addr) (R : It → Hp → Prop) : MIt → Sto → Prop := fun mi μ' => ∀ (J : It) (H' : Hp) (loc' : List Addr), Gr X.K H loc H' loc' → RS X.K H' loc' μ' → ItOk X.K J mi H' loc' → R J H'
def SI (X : Cx) (W : WX) (tg iter : Expr) (m : Env → M MIt) : Prop := ∀ (σ : St) (H : Hp) (loc : List Addr) (δ : Env) (μ : Sto) (R : It → Hp → Prop), RE X.K H loc σ δ → RS X.K H loc μ → (m δ μ).post (KI X H loc R) (KX X W σ H loc) → wI X tg iter σ H R
theorem KI.mono {X : Cx} {H H1 : Hp} {loc loc1 : List Addr} {R : It → Hp → Prop} {mi : MIt} {μ : Sto} (g : Gr X.K H loc H1 loc1) (h : KI X H loc R mi μ) : KI X H1 loc1 R mi μ := fun J H' loc' g' => h J H' loc' (g.trans g')
/-- where a list's items come from -/
def srcOf (a : A) (xs : List A) : List (Nat × List A) := match a with
  | .hd n => [(n, xs)]
  | _ => []
/-- a list or a tuple that stands: it may be read later as it was -/
theorem sq_later {K : PySem.W.Frag} {H0 H : Hp} {loc0 loc : List Addr} {μ0 μ : Sto} {p : Addr} {a : A} {xs : List A} (rs0 : RS K H0 loc0 μ0) (ra : RA K H0 loc0 (.ref p) a) (hi : items a μ0 = .ok xs μ0)
    (g : Gr K H0 loc0 H loc) (rs : RS K H loc μ) (st : ∀ q ∈ srcOf a xs, μ[q.1]? = some (.lst q.2)) :
    ∃ vs, (SqL K H p vs ∨ SqT K H p vs) ∧ vs.length ≤ sizeLine ∧ RAs K H loc vs xs ∧ (∀ zs, a = .tup zs → SqT K H p vs) ∧ ((∀ zs, a ≠ .tup zs) → SqL K H p vs) := by
  have ra' := ra.mono g
  cases ra' with
  | @tup _ vs ys h1 h2 h3 =>
    have e : ys = xs := by simp only [items, ret] at hi; injection hi
    subst e
    exact ⟨vs, .inr h1, h2, h3, fun _ _ => h1, fun z => absurd rfl (z ys)⟩
  | @rol _ vs ys h1 h2 h3 =>
    have e : ys = xs := by simp only [items, itemsL] at hi; injection hi
    subst e
    exact ⟨vs, .inl (rol_sq h1), h2, h3, fun _ z => (nomatch z), fun _ => rol_sq h1⟩
  | @hd _ n h1 =>
    have h2 := st (n, xs) (by simp [srcOf])
    obtain ⟨vs, q1, q2, q3⟩ := rs.lst h2 h1
    exact ⟨vs, .inl (.of q1), q2, q3, fun _ z => (nomatch z), fun _ => .of q1⟩
  | fn => simp only [items, itemsL] at hi; cases hi
  | exc => simp only [items, itemsL] at hi; cases hi
  | ex0 => simp only [items, itemsL] at hi; cases hi
section
variable {X : Cx} {W : WX} {tg e : Expr} {m : Env → M A}
/-- a list, a tuple -/
def iterM (a : A) : M MIt := bnd (items a) fun xs => ret ⟨xs, srcOf a xs⟩
theorem getv_eq {vs : List V} {xs : List A} {K : PySem.W.Frag} {H : Hp} {loc : List Addr} {i : Nat} {v : V} {x : A} (r : RAs K H loc vs xs) (h1 : vs[i]? = some v) (h2 : xs[i]? = some x) : RA K H loc v x := by
  obtain ⟨w, q1, q2⟩ := r.get h2
  rw [h1] at q1
  cases q1
  exact q2
theorem si_seq (h : SE X W e m) : SI X W tg e (fun δ => bnd (m δ) iterM) := fun σ H loc δ μ R re rs q => fun pins s I => by
  refine thn (h.go (Q := fun v H1 => ∃ loc1 μ1 x, Gr X.K H loc H1 loc1 ∧ RS X.K H1 loc1 μ1 ∧ RA X.K H1 loc1 v x ∧ (iterM x μ1).post (KI X H1 loc1 R) (KX X W σ H1 loc1)) re rs q (fun v x H1 loc1 μ1 g1 rs1 rv re1 q1 => ⟨loc1, μ1, x, g1, rs1, rv, post_mono q1 (fun _ _ z => KI.mono g1 z) fun _ _ z => z⟩) pins s I) fun u s1 ⟨v, H1, I1, r1, loc1, μ1, x, g1, rs1, rv, q1⟩ => ?_
  obtain ⟨p, vs, xs, ev, hs, hl, ra, hi, q2⟩ := rv.sq rs1 (post_bnd.mp q1)
  subst ev
  cases r1
  by_cases ht : ∃ zs, x = .tup zs
  · obtain ⟨zs, ez⟩ := ht
    have hq : SqT X.K H1 p vs := by
      obtain ⟨ws, _, _, ra', hT, _⟩ := sq_later rs1 rv hi Gr.refl rs1 (by subst ez; intro q hq; simp [srcOf] at hq)
      rcases hs with hs | hs
      · have := hT zs ez
        subst ez
        cases rv with
        | @tup _ ws' _ h1 h2 h3 =>
          obtain ⟨its, _, ⟨o, n, e1, c1, _, _⟩, _⟩ := I1.list hs
          obtain ⟨its', _, ⟨o', e2, c2, _⟩, _⟩ := I1.tuple h1
          rw [e1] at e2
          cases e2
          rw [c1] at c2
          exact absurd (Value.type.inj c2) (by decide)
      · exact hs
    obtain ⟨its, rv', p', hz⟩ := I1.tuple hq
    refine wpAny_pyIter_tuple (show s1.heap.IsTuple p its.toArray from p') ?_
    refine ⟨s1.heap.objs.size, [s1.heap.objs.size], _, _, H1, rfl, I1.kept (t' := s1.toks) fun b o e => Heap.get?_push_of_some _ e, turn_tuple p _, ⟨_, Heap.get?_push_size _ rfl, rfl, rfl⟩, fun b hb => ?_, ?_⟩
    · have e : b = s1.heap.objs.size := by simpa using hb
      subst e
      exact I1.fpOk (Nat.le_refl _) (I1.hok.fresh (Nat.le_refl _))
    · refine q2 (Itt X.K p) H1 loc1 Gr.refl rs1 fun H2 loc2 μ2 g2 rs2 st => ?_
      obtain ⟨ws, _, _, ra', hT, _⟩ := sq_later rs1 rv hi g2 rs2 st
      have hT' := hT zs ez
      refine ⟨⟨ws, hT', by rw [ra'.length]; exact Nat.le_refl _⟩, fun i y hy => ?_⟩
      obtain ⟨w, h1, h2⟩ := ra'.get hy
      refine ⟨⟨ws, w, hT', h1⟩, fun v' H' ⟨e, y'⟩ => ?_⟩
      subst e
      have := y' ws hT'
      rw [h1] at this
      cases this
      exact ⟨Gr.refl, rs2, h2⟩
  · have hL : ∀ {H2 loc2 μ2}, Gr X.K H1 loc1 H2 loc2 → RS X.K H2 loc2 μ2 → (∀ q ∈ srcOf x xs, μ2[q.1]? = some (.lst q.2)) → ∃ ws, SqL X.K H2 p ws ∧ ws.length ≤ sizeLine ∧ RAs X.K H2 loc2 ws xs := fun g2 rs2 st => by
      obtain ⟨ws, _, h1, ra', _, hl⟩ := sq_later rs1 rv hi g2 rs2 st
      exact ⟨ws, hl fun zs ez => ht ⟨zs, ez⟩, h1, ra'⟩
    have st0 : ∀ q ∈ srcOf x xs, μ1[q.1]? = some (.lst q.2) := fun q hq => by
      cases x with
      | hd n =>
        have e : q = (n, xs) := by simpa [srcOf] using hq
        subst e
        simp only [items, itemsL] at hi
        split at hi
        · rename_i ys e
          injection hi with h1 h2
          subst h1
          exact e
        · cases hi
      | _ => simp [srcOf] at hq
    obtain ⟨ws, hq, hz, _⟩ := hL Gr.refl rs1 st0
    obtain ⟨its, rv', p', _⟩ := I1.list hq
    refine wpAny_pyIter_list p'.isList ?_
    refine ⟨s1.heap.objs.size, [s1.heap.objs.size], _, _, H1, rfl, I1.kept (t' := s1.toks) fun b o e => Heap.get?_push_of_some _ e, turn_list p _, ⟨_, Heap.get?_push_size _ rfl, rfl, rfl⟩, fun b hb => ?_, ?_⟩
    · have e : b = s1.heap.objs.size := by simpa using hb
      subst e
      exact I1.fpOk (Nat.le_refl _) (I1.hok.fresh (Nat.le_refl _))
    · refine q2 (Itl X.K p) H1 loc1 Gr.refl rs1 fun H2 loc2 μ2 g2 rs2 st => ?_
      obtain ⟨ws, hL', _, ra'⟩ := hL g2 rs2 st
      refine ⟨⟨ws, hL', by rw [ra'.length]; exact Nat.le_refl _⟩, fun i y hy => ?_⟩
      obtain ⟨w, h1, h2⟩ := ra'.get hy
      refine ⟨⟨ws, w, hL', h1⟩, fun v' H' ⟨e, y'⟩ => ?_⟩
      subst e
      have := y' ws hL'
      rw [h1] at this
      cases this
      exact ⟨Gr.refl, rs2, h2⟩
end

section
variable {X : Cx} {W : WX}
theorem still_nil {xs : List A} {μ : Sto} : (MIt.mk xs []).still μ := fun _ h => nomatch h
theorem itOk_range {K : PySem.W.Frag} {H : Hp} {loc : List Addr} {lo : Int} {n : Nat} : ItOk K (Itr lo n) ⟨(List.range n).map fun i => .int (lo + (i : Nat)), []⟩ H loc := fun H1 loc1 μ1 g rs _ => by
  refine ⟨by show n ≤ _; simp, fun i x hx => ?_⟩
  rw [List.getElem?_map] at hx
  cases e : (List.range n)[i]? with
  | none => rw [e] at hx; cases hx
  | some j =>
    rw [e] at hx
    have hx' : A.int (lo + (j : Nat)) = x := Option.some.inj hx
    subst hx'
    have hj : i < n ∧ j = i := by
      obtain ⟨h1, h2⟩ := List.getElem?_eq_some_iff.mp e
      rw [List.length_range] at h1
      rw [List.getElem_range] at h2
      exact ⟨h1, h2.symm⟩
    obtain ⟨h1, rfl⟩ := hj
    refine ⟨h1, fun v H' ⟨e1, e2⟩ => ?_⟩
    subst e1 e2
    exact ⟨Gr.refl, rs, .int _⟩
/-- range(n) | range(a, b) -/
def range1M (as : List A) : M MIt := match as with
  | [.int j] => if -(2 ^ 62) ≤ j ∧ j < 2 ^ 62 then ret ⟨(List.range j.toNat).map fun i => .int (0 + (i : Nat)), []⟩ else bad
  | _ => bad
def range2M (as : List A) : M MIt := match as with
  | [.int i, .int j] => if -(2 ^ 62) ≤ i ∧ i < 2 ^ 62 ∧ -(2 ^ 62) ≤ j ∧ j < 2 ^ 62 then ret ⟨(List.range (j - i).toNat).map fun k => .int (i + (k : Nat)), []⟩ else bad
  | _ => bad
theorem si_range1 {tg a : Expr} {ma : Env → M (List A)} {p pos : Pos} (hm : X.mg "range" = none) (ha : SA X W [a] ma) (hg : Gl X "range" := by rfl) (hs : starEach [a] X.env = [(false, eval a X.env)] := by rfl) : SI X W tg (.Call (.Name "range" p) [a] [] pos) (fun δ => bnd (ma δ) range1M) := fun σ H loc δ μ R re rs q => by
  refine wI_of (pi_range1 hg hm pwA hs) ?_
  refine ha.go re rs q fun vs as H1 loc1 μ1 g1 rs1 ra re1 q1 => ?_
  unfold range1M at q1
  split at q1
  · rename_i j
    cases ra with
    | cons r rr =>
      cases rr
      cases r
      split at q1
      · rename_i hj
        exact ⟨j, rfl, hj.1, hj.2, q1 _ H1 loc1 g1 rs1 itOk_range⟩
      · exact q1.elim
  · exact q1.elim
theorem si_range2 {tg a b : Expr} {ma : Env → M (List A)} {p pos : Pos} (hm : X.mg "range" = none) (ha : SA X W [a, b] ma) (hg : Gl X "range" := by rfl) (hs : starEach [a, b] X.env = [(false, eval a X.env), (false, eval b X.env)] := by rfl) (hs2 : starEach [b] X.env = [(false, eval b X.env)] := by rfl) :
    SI X W tg (.Call (.Name "range" p) [a, b] [] pos) (fun δ => bnd (ma δ) range2M) := fun σ H loc δ μ R re rs q => by
  refine wI_of (pi_range2 hg hm pwA hs hs2) ?_
  refine ha.go re rs q fun vs as H1 loc1 μ1 g1 rs1 ra re1 q1 => ?_
  unfold range2M at q1
  split at q1
  · rename_i i j
    cases ra with
    | cons r rr =>
      cases r
      cases rr with
      | cons r' rr' =>
        cases rr'
        cases r'
        split at q1
        · rename_i hj
          exact ⟨i, j, rfl, hj, q1 _ H1 loc1 g1 rs1 itOk_range⟩
        · exact q1.elim
  · exact q1.elim
/-- the signs of a text -/
def signs (s : Str) : List A := s.cps.toList.map fun c => .str ⟨#[c]⟩
def strIterM (a : A) : M MIt := match a with
  | .str s => ret ⟨signs s, []⟩
  | _ => bad
theorem si_str {tg e : Expr} {m : Env → M A} (h : SE X W e m) : SI X W tg e (fun δ => bnd (m δ) strIterM) := fun σ H loc δ μ R re rs q => by
  refine wI_of (pi_str pwE) ?_
  refine h.go re rs q fun v x H1 loc1 μ1 g1 rs1 rv re1 q1 => ?_
  cases rv with
  | str s =>
    refine ⟨s, rfl, q1 _ H1 loc1 g1 rs1 fun H2 loc2 μ2 g2 rs2 _ => ⟨?_, fun i x hx => ?_⟩⟩
    · show s.cps.size ≤ (signs s).length
      unfold signs
      rw [List.length_map, Array.length_toList]
      exact Nat.le_refl _
    · have hx' : (signs s)[i]? = some x := hx
      unfold signs at hx'
      rw [List.getElem?_map] at hx'
      cases e : s.cps.toList[i]? with
      | none => rw [e] at hx'; cases hx'
      | some c =>
        rw [e] at hx'
        have hx2 : A.str ⟨#[c]⟩ = x := Option.some.inj hx'
        subst hx2
        have hc : s.cps[i]? = some c := by rw [← Array.getElem?_toList]; exact e
        refine ⟨(Array.getElem?_eq_some_iff.mp hc).1, fun v H' ⟨e1, c', e2, e3⟩ => ?_⟩
        subst e1
        rw [hc] at e2
        cases e2
        subst e3
        exact ⟨Gr.refl, rs2, .str _⟩
  | _ => exact q1.elim
/-- enumerate(list) -/
def pairsFrom : Nat → List A → List A
  | _, [] => []
  | n, x :: xs => .tup [.int (n : Nat), x] :: pairsFrom (n + 1) xs
theorem pairsFrom_get : ∀ (xs : List A) (n i : Nat), (pairsFrom n xs)[i]? = (xs[i]?).map fun x => A.tup [.int ((n + i : Nat) : Int), x]
  | [], _, _ => by simp [pairsFrom]
  | x :: xs, n, 0 => by simp [pairsFrom]
  | x :: xs, n, i + 1 => by
    have := pairsFrom_get xs (n + 1) i
    simp only [pairsFrom, List.getElem?_cons_succ, this]
    congr 1
    funext y
    congr 4
    omega
theorem pairsFrom_len : ∀ (xs : List A) (n : Nat), (pairsFrom n xs).length = xs.length
  | [], _ => rfl
  | _ :: xs, n => congrArg (· + 1) (pairsFrom_len xs (n + 1))
def enumM (as : List A) : M MIt := match as with
  | [a] => bnd (itemsL a) fun xs => ret ⟨pairsFrom 0 xs, srcOf a xs⟩
  | _ => bad
theorem pair_new {K : PySem.W.Frag} {H : Hp} {loc : List Addr} {μ : Sto} {T : Addr} {v w : V} {a b : A} (rs : RS K H loc μ) (hT : H T = none) (ra : RA K H loc v a) (rb : RA K H loc w b) :
    Gr K H loc (upd H T (.tup [v, w])) loc ∧ RS K (upd H T (.tup [v, w])) loc μ ∧ RA K (upd H T (.tup [v, w])) loc (.ref T) (.tup [a, b]) :=
  ⟨Gr.new hT, rs.new hT, .tup (.inl (.inl upd_same)) (by show 2 ≤ sizeLine; decide) (.cons (ra.mono (Gr.new hT)) (.cons (rb.mono (Gr.new hT)) .nil))⟩
theorem items_of_L {a : A} {xs : List A} {μ : Sto} (h : itemsL a μ = .ok xs μ) : items a μ = .ok xs μ := by
  cases a with
  | tup zs => simp only [itemsL] at h; cases h
  | _ => exact h
theorem notTup_of_L {a : A} {xs : List A} {μ : Sto} (h : itemsL a μ = .ok xs μ) : ∀ zs, a ≠ .tup zs := fun zs e => by
  subst e
  simp only [itemsL] at h
  cases h
theorem si_enum {e : Expr} {ma : Env → M (List A)} {p pos tpos : Pos} {elts : List Expr} {kk : Nat} (hm : X.mg "enumerate" = none) (ha : SA X W [e] ma) (hg : Gl X "enumerate" := by rfl) (hs : starEach [e] X.env = [(false, eval e X.env)] := by rfl) :
    SI X W (.Tuple elts kk tpos) (.Call (.Name "enumerate" p) [e] [] pos) (fun δ => bnd (ma δ) enumM) := fun σ H loc δ μ R re rs q => by
  refine wI_of (pi_enum hg hm pwA hs) ?_
  refine ha.go re rs q fun vs as H1 loc1 μ1 g1 rs1 ra re1 q1 => ?_
  unfold enumM at q1
  split at q1
  · rename_i a
    cases ra with
    | @cons v _ _ _ r rr =>
      cases rr
      obtain ⟨p', ws, xs, ev, hq, hl, ra', hi, q2⟩ := RA.sqL (xs := []) rs1 r (post_bnd.mp q1)
      subst ev
      refine ⟨p', ws, rfl, hq, q2 _ H1 loc1 g1 rs1 fun H2 loc2 μ2 g2 rs2 st => ?_⟩
      obtain ⟨ws2, _, _, ra2, _, hL⟩ := sq_later rs1 r (items_of_L hi) g2 rs2 st
      have hL' := hL (notTup_of_L hi)
      refine ⟨⟨ws2, hL', by rw [pairsFrom_len, ra2.length]; exact Nat.le_refl _⟩, fun i x hx => ?_⟩
      rw [pairsFrom_get] at hx
      cases e : xs[i]? with
      | none => rw [e] at hx; cases hx
      | some y =>
        rw [e] at hx
        have hx' := Option.some.inj hx
        subst hx'
        obtain ⟨w, h1, h2⟩ := ra2.get e
        refine ⟨⟨ws2, w, hL', h1⟩, fun v' H' ⟨T, x', e1, hT, e2, e3⟩ => ?_⟩
        subst e1 e2
        have := e3 ws2 hL'
        rw [h1] at this
        cases this
        rw [Nat.zero_add]
        exact pair_new rs2 hT (.int _) h2
  · exact q1.elim
/-- zip of two lists or of two tuples -/
def zipL : List A → List A → List A
  | x :: xs, y :: ys => .tup [x, y] :: zipL xs ys
  | _, _ => []
theorem zipL_get : ∀ (xs ys : List A) (i : Nat), (zipL xs ys)[i]? = match xs[i]?, ys[i]? with | some x, some y => some (A.tup [x, y]) | _, _ => none
  | [], ys, i => by simp [zipL]
  | x :: xs, [], i => by
    simp only [zipL, List.getElem?_nil]
    cases (x :: xs)[i]? <;> rfl
  | x :: xs, y :: ys, 0 => by simp [zipL]
  | x :: xs, y :: ys, i + 1 => by simpa [zipL] using zipL_get xs ys i
theorem zipL_len : ∀ (xs ys : List A), (zipL xs ys).length = min xs.length ys.length
  | [], _ => by simp [zipL]
  | _ :: _, [] => by simp [zipL]
  | _ :: xs, _ :: ys => by simp only [zipL, List.length_cons, zipL_len xs ys]; omega
def zipM (as : List A) : M MIt := match as with
  | [.tup xs, .tup ys] => ret ⟨zipL xs ys, []⟩
  | [a, b] => bnd (itemsL a) fun xs => bnd (itemsL b) fun ys => ret ⟨zipL xs ys, srcOf a xs ++ srcOf b ys⟩
  | _ => bad
theorem si_zip {e e2 : Expr} {ma : Env → M (List A)} {p pos tpos : Pos} {elts : List Expr} {kk : Nat} (hm : X.mg "zip" = none) (ha : SA X W [e, e2] ma) (hg : Gl X "zip" := by rfl)
    (hs : starEach [e, e2] X.env = (false, eval e X.env) :: starEach [e2] X.env := by rfl) (hpl : (backTo pos (starEach [e2] X.env)).any (·.1) = false := by rfl) :
    SI X W (.Tuple elts kk tpos) (.Call (.Name "zip" p) [e, e2] [] pos) (fun δ => bnd (ma δ) zipM) := fun σ H loc δ μ R re rs q => by
  refine wI_of (RZ.pi_zipA hg hm pwA hs hpl) ?_
  refine ha.go re rs q fun vs as H1 loc1 μ1 g1 rs1 ra re1 q1 => ?_
  have main : ∀ a b v w, as = [a, b] → vs = [v, w] → RA X.K H1 loc1 v a → RA X.K H1 loc1 w b → (bnd (itemsL a) (fun xs => bnd (itemsL b) fun ys => ret (MIt.mk (zipL xs ys) (srcOf a xs ++ srcOf b ys))) μ1).post (KI X H loc R) (KX X W σ H1 loc1) →
      ∃ a b xs ys, vs = [.ref a, .ref b] ∧ ((SqL X.K H1 a xs ∧ SqL X.K H1 b ys ∧ R (Itz X.K a b) H1) ∨ (SqT X.K H1 a xs ∧ SqT X.K H1 b ys ∧ R (RZ.ItzT X.K a b) H1)) := fun a b v w ea ev r r' q1 => by
    obtain ⟨p1, ws, xs, e1, hq, hl, ra1, hi, q2⟩ := RA.sqL (xs := []) rs1 r (post_bnd.mp q1)
    obtain ⟨p2, zs, ys, e2, hq', hl', ra2, hi', q3⟩ := RA.sqL (xs := []) rs1 r' (post_bnd.mp q2)
    subst e1 e2 ev
    refine ⟨p1, p2, ws, zs, rfl, .inl ⟨hq, hq', q3 _ H1 loc1 g1 rs1 fun H2 loc2 μ2 g2 rs2 st => ?_⟩⟩
    obtain ⟨w1, _, _, rb1, _, hL1⟩ := sq_later rs1 r (items_of_L hi) g2 rs2 fun q hq => st q (List.mem_append_left _ hq)
    obtain ⟨w2, _, _, rb2, _, hL2⟩ := sq_later rs1 r' (items_of_L hi') g2 rs2 fun q hq => st q (List.mem_append_right _ hq)
    have h1 := hL1 (notTup_of_L hi)
    have h2 := hL2 (notTup_of_L hi')
    refine ⟨⟨w1, w2, h1, h2, ?_⟩, fun i x hx => ?_⟩
    · have : (zipL xs ys).length = min xs.length ys.length := zipL_len xs ys
      rw [rb1.length, rb2.length]
      show xs.length ≤ (zipL xs ys).length ∨ ys.length ≤ (zipL xs ys).length
      omega
    · have hx' : (zipL xs ys)[i]? = some x := hx
      rw [zipL_get] at hx'
      split at hx'
      · rename_i x1 y1 ex ey
        have hx2 := Option.some.inj hx'
        subst hx2
        obtain ⟨u1, b1, b2⟩ := rb1.get ex
        obtain ⟨u2, c1, c2⟩ := rb2.get ey
        refine ⟨⟨w1, w2, u1, u2, h1, h2, b1, c1⟩, fun v' H' ⟨T, x', y', e1, hT, e2, e3, e4⟩ => ?_⟩
        subst e1 e2
        have k1 := e3 w1 h1
        rw [b1] at k1
        cases k1
        have k2 := e4 w2 h2
        rw [c1] at k2
        cases k2
        exact pair_new rs2 hT b2 c2
      · cases hx'
  cases ra with
  | nil => exact q1.elim
  | cons r rr =>
    rename_i v vs' a as'
    cases rr with
    | nil =>
      cases a <;> exact q1.elim
    | cons r' rr' =>
      rename_i w vs2 b as2
      cases rr' with
      | cons _ _ => cases a <;> first | exact q1.elim | (cases b <;> exact q1.elim)
      | nil =>
        by_cases hab : ∃ xs ys, a = .tup xs ∧ b = .tup ys
        · obtain ⟨xs, ys, rfl, rfl⟩ := hab
          cases r with
          | @tup p1 ws _ k1 k2 k3 =>
            cases r' with
            | @tup p2 zs _ l1 l2 l3 =>
              refine ⟨p1, p2, ws, zs, rfl, .inr ⟨k1, l1, q1 _ H1 loc1 g1 rs1 fun H2 loc2 μ2 g2 rs2 _ => ?_⟩⟩
              have h1 := g2.sqT k1
              have h2 := g2.sqT l1
              refine ⟨⟨ws, zs, h1, h2, ?_⟩, fun i x hx => ?_⟩
              · have : (zipL xs ys).length = min xs.length ys.length := zipL_len xs ys
                rw [k3.length, l3.length]
                show xs.length ≤ (zipL xs ys).length ∨ ys.length ≤ (zipL xs ys).length
                omega
              · have hx' : (zipL xs ys)[i]? = some x := hx
                rw [zipL_get] at hx'
                split at hx'
                · rename_i x1 y1 ex ey
                  have hx2 := Option.some.inj hx'
                  subst hx2
                  obtain ⟨u1, b1, b2⟩ := (k3.mono g2).get ex
                  obtain ⟨u2, c1, c2⟩ := (l3.mono g2).get ey
                  refine ⟨⟨ws, zs, u1, u2, h1, h2, b1, c1⟩, fun v' H' ⟨T, x', y', e1, hT, e2, e3, e4⟩ => ?_⟩
                  subst e1 e2
                  have k1 := e3 ws h1
                  rw [b1] at k1
                  cases k1
                  have k2 := e4 zs h2
                  rw [c1] at k2
                  cases k2
                  exact pair_new rs2 hT b2 c2
                · cases hx'
        · refine main a b v w rfl rfl r r' ?_
          cases a with
          | tup xs =>
            cases b with
            | tup ys => exact absurd ⟨xs, ys, rfl, rfl⟩ hab
            | _ => exact q1
          | _ => exact q1
end

/-! ### loops -/
open Classical in
/-- for target in ..: body, from the items that are left -/
noncomputable def forM' (g : A → Env → M Env) (body : Env → M Fl) (mi : MIt) : List A → Env → M Fl
  | [], δ => fun μ => if mi.still μ then .ok (.nx δ) μ else .bad
  | a :: as, δ => fun μ => if mi.still μ then bnd (g a δ) (fun δ1 => bnd (body δ1) fun fl => match fl with
      | .nx δ2 => forM' g body mi as δ2
      | .ct δ2 => forM' g body mi as δ2
      | .bk δ2 => ret (.nx δ2)
      | fl => ret fl) μ else .bad
noncomputable def forS (m : Env → M MIt) (g : A → Env → M Env) (body : Env → M Fl) : Env → M Fl := fun δ => inS (m δ) δ fun mi => forM' g body mi mi.items δ
section
variable {X : Cx} {W : WX}
theorem ss_for {T : List Nat} {tg iter : Expr} {body : List Stmt} {pos : Pos} {m : Env → M MIt} {g : A → Env → M Env} {mb : Env → M Fl} (hp : PassesOwn (model X.prog X.w) X.A X.env X.xe) (hc : X.calm = true) (hi : SI X W tg iter m) (hg : SG X W T tg g) (hb : SB X W body mb)
    (hs : ∀ x, foldedSetIterable iter X.env x = pure x := by intro _; rfl) : SS X W (.For tg iter body [] pos) (forS m g mb) := fun σ H loc δ μ D re rs q => by
  refine wS_of (ps_for hp hc pwI pwG pwB hs) ?_
  refine hi σ H loc δ μ _ re rs (post_mono (post_inS q) (fun mi μ1 q1 J H1 loc1 g1 rs1 ok => ?_) fun _ _ z => KF.kx re z)
  refine ⟨fun i n σ2 H2 => n = mi.items.length - i ∧ i ≤ mi.items.length ∧ ∃ loc2 δ2 μ2, Gr X.K H1 loc1 H2 loc2 ∧ RS X.K H2 loc2 μ2 ∧ RE X.K H2 loc2 σ2 δ2 ∧ (forM' g mb mi (mi.items.drop i) δ2 μ2).post (KF X W D H2 loc2) NX,
    ⟨mi.items.length, by simp, Nat.zero_le _, loc1, δ, μ1, Gr.refl, rs1, re.mono g1, post_mono q1 (fun _ _ z => KF.mono g1 z) fun _ _ z => z⟩, ?_⟩
  rintro i n σ2 H2 ⟨rfl, hin, loc2, δ2, μ2, g2, rs2, re2, q2⟩
  by_cases hlt : i < mi.items.length
  · have hd : mi.items.drop i = mi.items[i] :: mi.items.drop (i + 1) := List.drop_eq_getElem_cons hlt
    rw [hd] at q2
    simp only [forM'] at q2
    split at q2
    · rename_i st
      obtain ⟨_, hyl⟩ := ok H2 loc2 μ2 g2 rs2 st
      obtain ⟨go, hy⟩ := hyl i mi.items[i] (List.getElem?_eq_getElem hlt)
      refine .inr ⟨go, fun σ' H' => ∃ loc' δ' μ', Gr X.K H1 loc1 H' loc' ∧ RS X.K H' loc' μ' ∧ RE X.K H' loc' σ' δ' ∧ (forM' g mb mi (mi.items.drop (i + 1)) δ' μ').post (KF X W D H' loc') NX,
        fun σ' H' ⟨loc', δ', μ', a1, a2, a3, a4⟩ => ⟨mi.items.length - (i + 1), by omega, rfl, hlt, loc', δ', μ', a1, a2, a3, a4⟩, fun v H' y => ?_⟩
      obtain ⟨g3, rs3, rv⟩ := hy v H' y
      refine hg σ2 H' loc2 δ2 μ2 v _ _ (re2.mono g3) rs3 rv (post_mono (post_bnd.mp q2) (fun δ3 μ3 q3 σ3 H3 loc3 g4 rs4 re4 _ => ?_) fun _ _ z => z)
      refine hb σ3 H3 loc3 δ3 μ3 _ re4 rs4 (post_mono (post_bnd.mp q3) (fun fl μ4 q4 => ?_) fun _ _ z => z)
      have g24 := g3.trans g4
      cases fl with
      | nx δ4 => exact fun σ4 H4 loc4 g5 rs5 re5 => ⟨loc4, δ4, μ4, g2.trans (g24.trans g5), rs5, re5, post_mono q4 (fun _ _ z => KF.mono (g24.trans g5) z) fun _ _ z => z⟩
      | ct δ4 => exact fun σ4 H4 loc4 g5 rs5 re5 => ⟨loc4, δ4, μ4, g2.trans (g24.trans g5), rs5, re5, post_mono q4 (fun _ _ z => KF.mono (g24.trans g5) z) fun _ _ z => z⟩
      | bk δ4 => exact fun σ4 H4 loc4 g5 rs5 re5 => q4 σ4 H4 loc4 (g24.trans g5) rs5 re5
      | rt a => exact fun v' H4 loc4 g5 rs5 rv5 => q4 v' H4 loc4 (g24.trans g5) rs5 rv5
      | rs x δ4 => exact fun σ4 H4 loc4 cls d g5 rs5 re5 rx => q4 σ4 H4 loc4 cls d (g24.trans g5) rs5 re5 rx
    · exact q2.elim
  · have e : i = mi.items.length := by omega
    subst e
    rw [List.drop_eq_nil_of_le (Nat.le_refl _)] at q2
    simp only [forM'] at q2
    split at q2
    · rename_i st
      obtain ⟨stop, _⟩ := ok H2 loc2 μ2 g2 rs2 st
      exact .inl ⟨stop, q2 σ2 H2 loc2 Gr.refl rs2 re2⟩
    · exact q2.elim
/-- while test: body, so many turns at most -/
def whileM (c : Env → M Bool) (body : Env → M Fl) : Nat → Env → M Fl
  | 0, _ => bad
  | n + 1, δ => inS (c δ) δ fun k => match k with
    | false => ret (.nx δ)
    | true => bnd (body δ) fun fl => match fl with
      | .nx δ' => whileM c body n δ'
      | .ct δ' => whileM c body n δ'
      | .bk δ' => ret (.nx δ')
      | fl => ret fl
theorem ss_while (n : Nat) {c : Expr} {body : List Stmt} {pos : Pos} {mc : Env → M Bool} {mb : Env → M Fl} (hp : PassesOwn (model X.prog X.w) X.A X.env X.xe) (hc : ST X W c mc) (hb : SB X W body mb) : SS X W (.While c body [] pos) (whileM mc mb n) := fun σ H loc δ μ D re rs q => by
  refine wS_of (ps_while hp pwT pwB) ?_
  refine ⟨fun n' σ2 H2 => ∃ loc2 δ2 μ2, Gr X.K H loc H2 loc2 ∧ RS X.K H2 loc2 μ2 ∧ RE X.K H2 loc2 σ2 δ2 ∧ (whileM mc mb n' δ2 μ2).post (KF X W D H2 loc2) NX, ⟨n, loc, δ, μ, Gr.refl, rs, re, q⟩, ?_⟩
  rintro n' σ2 H2 ⟨loc2, δ2, μ2, g2, rs2, re2, q2⟩
  cases n' with
  | zero => exact q2.elim
  | succ n' =>
    refine hc.goS re2 rs2 q2 fun k H3 loc3 μ3 g3 rs3 re3 q3 => ?_
    cases k with
    | false =>
      rw [if_neg Bool.false_ne_true]
      exact q3 σ2 H3 loc3 Gr.refl rs3 re3
    | true =>
      rw [if_pos rfl]
      refine ⟨fun σ' H' => ∃ loc' δ' μ', Gr X.K H loc H' loc' ∧ RS X.K H' loc' μ' ∧ RE X.K H' loc' σ' δ' ∧ (whileM mc mb n' δ' μ').post (KF X W D H' loc') NX, fun σ' H' a => ⟨n', Nat.lt_succ_self _, a⟩, ?_⟩
      refine hb σ2 H3 loc3 δ2 μ3 _ re3 rs3 (post_mono (post_bnd.mp q3) (fun fl μ4 q4 => ?_) fun _ _ z => z)
      have g23 := g2.trans g3
      cases fl with
      | nx δ4 => exact fun σ4 H4 loc4 g5 rs5 re5 => ⟨loc4, δ4, μ4, g23.trans g5, rs5, re5, post_mono q4 (fun _ _ z => KF.mono g5 z) fun _ _ z => z⟩
      | ct δ4 => exact fun σ4 H4 loc4 g5 rs5 re5 => ⟨loc4, δ4, μ4, g23.trans g5, rs5, re5, post_mono q4 (fun _ _ z => KF.mono g5 z) fun _ _ z => z⟩
      | bk δ4 => exact fun σ4 H4 loc4 g5 rs5 re5 => q4 σ4 H4 loc4 g5 rs5 re5
      | rt a => exact fun v' H4 loc4 g5 rs5 rv5 => q4 v' H4 loc4 g5 rs5 rv5
      | rs x δ4 => exact fun σ4 H4 loc4 cls d g5 rs5 re5 rx => q4 σ4 H4 loc4 cls d g5 rs5 re5 rx
end
end Lt

/-! Lt5: subscripts, slices, methods, built-in functions, comprehensions. -/
namespace Lt
open PySem PySem.Spec PyProof.Rows L2

/-! ### dicts -/
def lookA (kvs : List (Key × A)) (k : Key) : Option A := (kvs.find? fun kv => decide (kv.1 = k)).map (·.2)
def putA (kvs : List (Key × A)) (k : Key) (v : A) : List (Key × A) :=
  if (kvs.any fun kv => decide (kv.1 = k)) = true then kvs.map (fun kv => if kv.1 = k then (kv.1, v) else kv) else kvs ++ [(k, v)]
def dropA (kvs : List (Key × A)) (k : Key) : List (Key × A) := kvs.filter fun kv => decide (kv.1 ≠ k)
def keyA (a : A) : Option Key := match a with
  | .int i => some (.inl i)
  | .str s => some (.inr s)
  | _ => none
section
variable {K : PySem.W.Frag} {H : Hp} {loc : List Addr}
theorem RKV.look {vs : List (Key × V)} {xs : List (Key × A)} (r : RKV K H loc vs xs) (k : Key) : (∀ a, lookA xs k = some a → ∃ v, valV vs k = some v ∧ RA K H loc v a) ∧ (lookA xs k = none → valV vs k = none) := by
  induction r with
  | nil => exact ⟨fun a e => by simp [lookA] at e, fun _ => rfl⟩
  | @cons p q vs xs h t ih =>
    obtain ⟨e, ra⟩ := h
    obtain ⟨k1, v1⟩ := p
    obtain ⟨k2, x1⟩ := q
    simp only at e ra
    subst e
    by_cases hk : k1 = k
    · subst hk
      refine ⟨fun a e => ?_, fun e => ?_⟩
      · have : lookA ((k1, x1) :: xs) k1 = some x1 := by simp [lookA]
        rw [this] at e
        cases e
        exact ⟨v1, by simp [valV], ra⟩
      · have : lookA ((k1, x1) :: xs) k1 = some x1 := by simp [lookA]
        rw [this] at e
        cases e
    · have e1 : lookA ((k1, x1) :: xs) k = lookA xs k := by simp [lookA, List.find?_cons, hk]
      have e2 : valV ((k1, v1) :: vs) k = valV vs k := by simp [valV, List.find?_cons, hk]
      rw [e1, e2]
      exact ih
theorem RKV.any {vs : List (Key × V)} {xs : List (Key × A)} (r : RKV K H loc vs xs) (k : Key) : (vs.any fun kv => decide (kv.1 = k)) = xs.any fun kv => decide (kv.1 = k) := by
  induction r with
  | nil => rfl
  | cons h t ih => rw [List.any_cons, List.any_cons, ih, h.1]
theorem RKV.app {vs ws : List (Key × V)} {xs ys : List (Key × A)} (r : RKV K H loc vs xs) (q : RKV K H loc ws ys) : RKV K H loc (vs ++ ws) (xs ++ ys) := by
  induction r with
  | nil => exact q
  | cons h t ih => exact .cons h ih
theorem RKV.len {vs : List (Key × V)} {xs : List (Key × A)} (r : RKV K H loc vs xs) : vs.length = xs.length := Paired.length r
theorem RKV.upd (k : Key) {v : V} {a : A} (ra : RA K H loc v a) : ∀ {vs : List (Key × V)} {xs : List (Key × A)}, RKV K H loc vs xs → RKV K H loc (vs.map fun kv => if kv.1 = k then (kv.1, v) else kv) (xs.map fun kv => if kv.1 = k then (kv.1, a) else kv)
  | _, _, .nil => .nil
  | p :: vs, q :: xs, .cons h t => by
    obtain ⟨e, r1⟩ := h
    rw [List.map_cons, List.map_cons]
    refine .cons ?_ (RKV.upd k ra t)
    by_cases hk : p.1 = k
    · rw [if_pos hk, if_pos (e ▸ hk)]
      exact ⟨e, ra⟩
    · rw [if_neg hk, if_neg (fun z => hk (e.trans z))]
      exact ⟨e, r1⟩
theorem RKV.put {vs : List (Key × V)} {xs : List (Key × A)} (r : RKV K H loc vs xs) (k : Key) {v : V} {a : A} (ra : RA K H loc v a) : RKV K H loc (putK vs k v) (putA xs k a) := by
  unfold putK putA
  rw [r.any k]
  split
  · exact RKV.upd k ra r
  · exact r.app (.cons ⟨rfl, ra⟩ .nil)
theorem RA.key {v : V} {a : A} {k : Key} (r : RA K H loc v a) (h : keyA a = some k) : v = kV k := by
  cases r <;> simp only [keyA] at h <;> cases h <;> rfl
theorem RS.dic {μ : Sto} (r : RS K H loc μ) {n : Nat} {xs : List (Key × A)} (h : μ[n]? = some (.dic xs)) {a : Addr} (ha : loc[n]? = some a) : ∃ vs, H a = some (.dK vs) ∧ vs.length ≤ sizeLine ∧ RKV K H loc vs xs := by
  obtain ⟨b, o, h1, h2, vs, e, l, q⟩ := r.at_ n _ h
  rw [ha] at h1
  cases h1
  subst e
  exact ⟨vs, h2, l, q⟩
theorem RKV.mono {H1 : Hp} {loc1 : List Addr} (g : Gr K H loc H1 loc1) {vs : List (Key × V)} {xs : List (Key × A)} (r : RKV K H loc vs xs) : RKV K H1 loc1 vs xs := Paired.mapP r fun _ _ z => ⟨z.1, z.2.mono g⟩
end

/-! ### subscripts -/
theorem atI_ra {K : PySem.W.Frag} {H : Hp} {loc : List Addr} {vs : List V} {xs : List A} {i : Int} {x : A} (r : RAs K H loc vs xs) (h : atI xs i = some x) : ∃ v, atI vs i = some v ∧ RA K H loc v x := by
  unfold atI at h ⊢
  rw [r.length]
  cases e : ixN xs.length i with
  | none => rw [e] at h; cases h
  | some j =>
    rw [e] at h
    obtain ⟨v, h1, h2⟩ := r.get (show xs[j]? = some x from h)
    exact ⟨v, h1, h2⟩
def optM {α : Type} (o : Option α) : M α := match o with
  | some a => ret a
  | none => bad
def ixA (a b : A) : M A := fun μ => match a with
  | .tup xs => match b with
    | .int i => optM (atI xs i) μ
    | _ => .bad
  | .rol xs => match b with
    | .int i => optM (atI xs i) μ
    | _ => .bad
  | .str s => match b with
    | .int i => if s.length ≤ sizeLine then optM ((atI s.cps.toList i).map fun c => .str ⟨#[c]⟩) μ else .bad
    | _ => .bad
  | .hd n => match μ[n]? with
    | some (.lst xs) => match b with
      | .int i => optM (atI xs i) μ
      | _ => .bad
    | some (.dic kvs) => optM ((keyA b).bind fun k => lookA kvs k) μ
    | _ => .bad
  | _ => .bad
def rIxD : R2 := fun x y H Q => ∃ a v, x = .ref a ∧ DGet H a y (some v) ∧ Q v H
theorem ix_dict {X : Cx} (hu : X.A.units + 1 < cLine) : IxR X rIxD := by
  intro value slice pins s σ H x y v u Q I rx ry h hs
  obtain ⟨a, z, rfl, g, q⟩ := h
  cases rx
  exact tail_any (dict_typeIs I g) PySem.F.slot_dict_getitem.lookup (d_getItem hu I g ry fun w' s' I' rw' => ⟨z, H, I', rw', q⟩) hs
section
variable {X : Cx} {W : WX} {σ : St} {H : Hp} {loc : List Addr} {μ : Sto}
theorem post_opt {α : Type} {o : Option α} {Kp : α → Sto → Prop} {Kx : Exc → Sto → Prop} (h : (optM o μ).post Kp Kx) : ∃ a, o = some a ∧ Kp a μ := by
  cases o with
  | none => exact h.elim
  | some a => exact ⟨a, rfl, h⟩
theorem so_ix : SO X W (fun x y H Q => rIx X.K x y H Q ∨ rIxD x y H Q) ixA := fun σ H loc μ v u a b Q rs ra rb q => by
  cases ra with
  | @tup p vs xs h1 h2 h3 =>
    cases rb with
    | int i =>
      obtain ⟨x, e, q'⟩ := post_opt (show (optM (atI xs i) μ).post _ _ from q)
      obtain ⟨w, e1, e2⟩ := atI_ra h3 e
      exact .inl (.inr (.inl ⟨p, vs, i, w, rfl, rfl, h1, e1, q' w H loc Gr.refl rs e2⟩))
    | _ => exact q.elim
  | @rol p vs xs h1 h2 h3 =>
    cases rb with
    | int i =>
      obtain ⟨x, e, q'⟩ := post_opt (show (optM (atI xs i) μ).post _ _ from q)
      obtain ⟨w, e1, e2⟩ := atI_ra h3 e
      exact .inl (.inl ⟨p, vs, i, w, rfl, rfl, rol_sq h1, e1, q' w H loc Gr.refl rs e2⟩)
    | _ => exact q.elim
  | str s =>
    cases rb with
    | int i =>
      simp only [ixA] at q
      split at q
      · rename_i hl
        obtain ⟨x, e, q'⟩ := post_opt q
        cases ec : atI s.cps.toList i with
        | none => rw [ec] at e; cases e
        | some c =>
          rw [ec] at e
          have e' : A.str ⟨#[c]⟩ = x := Option.some.inj e
          subst e'
          exact .inl (.inr (.inr ⟨s, i, c, rfl, rfl, hl, ec, q' _ H loc Gr.refl rs (.str _)⟩))
      · exact q.elim
    | _ => exact q.elim
  | @hd p n hn =>
    simp only [ixA] at q
    split at q
    · rename_i xs e0
      obtain ⟨vs, h1, h2, h3⟩ := rs.lst e0 hn
      cases rb with
      | int i =>
        obtain ⟨x, e, q'⟩ := post_opt (show (optM (atI xs i) μ).post _ _ from q)
        obtain ⟨w, e1, e2⟩ := atI_ra h3 e
        exact .inl (.inl ⟨p, vs, i, w, rfl, rfl, .of h1, e1, q' w H loc Gr.refl rs e2⟩)
      | _ => exact q.elim
    · rename_i kvs e0
      obtain ⟨vs, h1, h2, h3⟩ := rs.dic e0 hn
      obtain ⟨x, e, q'⟩ := post_opt q
      cases ek : keyA b with
      | none => rw [ek] at e; cases e
      | some k =>
        rw [ek] at e
        obtain ⟨w, e1, e2⟩ := (h3.look k).1 x e
        have hu := rb.key ek
        subst hu
        exact .inr ⟨p, w, rfl, by rw [← e1]; exact .k h1, q' w H loc Gr.refl rs e2⟩
    · exact q.elim
  | _ => exact q.elim
theorem se_ix {a b : Expr} {ma mb : Env → M A} {pos : Pos} {k : Nat} (hr : Room k X.A) (ha : SE X W a ma) (hb : SE X W b mb) (hs : PlainIx b := by exact fun _ _ => rfl) : SE X W (.Subscript a b pos) (fun δ => bnd (ma δ) fun x => bnd (mb δ) fun y => ixA x y) := fun σ H loc δ μ Q re rs q => by
  refine wE_of (pe_ix (IxR.or ix_seq (ix_dict (hu_of hr))) pwE pwE hs) ?_
  refine ha.go re rs q fun v x H1 loc1 μ1 g1 rs1 rv re1 q1 => ?_
  refine hb.go re1 rs1 q1 fun u y H2 loc2 μ2 g2 rs2 ru re2 q2 => ?_
  exact so_ix σ H2 loc2 μ2 v u x y Q rs2 (rv.mono g2) ru (post_mono q2 (fun _ _ z => KV_.mono (g1.trans g2) z) fun _ _ z => z)

/-! ### slices -/
def cutA (xs : List A) (lo hi : Option Int) : List A := (xs.drop (HT.sIx xs.length 0 lo)).take (HT.sIx xs.length xs.length hi - HT.sIx xs.length 0 lo)
theorem RAs.cut {K : PySem.W.Frag} {vs : List V} {xs : List A} (r : RAs K H loc vs xs) (lo hi : Option Int) : RAs K H loc (cutV vs lo hi) (cutA xs lo hi) := by
  unfold cutV cutA
  rw [r.length]
  exact (r.drop _).take _
def sliceA (a : A) (lo hi : Option Int) : M A := fun μ => match a with
  | .tup xs => .ok (.tup (cutA xs lo hi)) μ
  | .rol xs => alloc (.lst (cutA xs lo hi)) μ
  | .hd n => match μ[n]? with
    | some (.lst xs) => alloc (.lst (cutA xs lo hi)) μ
    | _ => .bad
  | .str s => if s.length ≤ sizeLine then .ok (.str (cutS s lo hi)) μ else .bad
  | _ => .bad
/-- a part of a slice -/
def SP_ (X : Cx) (W : WX) (e : Option Expr) (m : Env → M (Option Int)) : Prop := ∃ t : TO, PO X e t ∧ ∀ (σ : St) (H : Hp) (loc : List Addr) (δ : Env) (μ : Sto) (Q : Option Int → Hp → Prop), RE X.K H loc σ δ → RS X.K H loc μ →
  (m δ μ).post (fun o μ' => ∀ (H' : Hp) (loc' : List Addr), Gr X.K H loc H' loc' → RS X.K H' loc' μ' → Q o H') (KX X W σ H loc) → t σ H Q
def partM (a : A) : M (Option Int) := match a with
  | .int i => ret (some i)
  | _ => bad
theorem sp_none : SP_ X W none (fun _ => ret none) := ⟨tNoPart, po_none, fun σ H loc δ μ Q re rs q => q H loc Gr.refl rs⟩
theorem sp_some {e : Expr} {m : Env → M A} (h : SE X W e m) : SP_ X W (some e) (fun δ => bnd (m δ) partM) := ⟨tPart (wE X e), po_some pwE, fun σ H loc δ μ Q re rs q => by
  refine h.go re rs q fun v x H1 loc1 μ1 g1 rs1 rv re1 q1 => ?_
  cases rv with
  | int i => exact ⟨i, rfl, q1 H1 loc1 g1 rs1⟩
  | _ => exact q1.elim⟩
theorem at_end_of {p : Addr} (rs : RS X.K H loc μ) : (loc ++ [p])[μ.length]? = some p := by
  rw [← rs.len, List.getElem?_append_right (Nat.le_refl _), Nat.sub_self]
  rfl
theorem cutV_le {vs : List V} {lo hi : Option Int} (h : vs.length ≤ sizeLine) : (cutV vs lo hi).length ≤ sizeLine := Nat.le_trans (cutV_length vs lo hi) h
theorem se_slice {e : Expr} {lo hi : Option Expr} {m : Env → M A} {ml mh : Env → M (Option Int)} {pos p2 : Pos} (h : SE X W e m) (hl : SP_ X W lo ml) (hh : SP_ X W hi mh) :
    SE X W (.Subscript e (.Slice lo hi none p2) pos) (fun δ => bnd (m δ) fun a => bnd (ml δ) fun l => bnd (mh δ) fun u => sliceA a l u) := fun σ H loc δ μ Q re rs q => by
  obtain ⟨tl, hl1, hl2⟩ := hl
  obtain ⟨th, hh1, hh2⟩ := hh
  refine wE_of (pe_slice (SlR.or (SlR.or sl_list sl_tupA) sl_str) pwE hl1 hh1) ?_
  refine h.go re rs q fun v x H1 loc1 μ1 g1 rs1 rv re1 q1 => ?_
  refine hl2 σ H1 loc1 δ μ1 _ re1 rs1 (post_mono (post_bnd.mp q1) (fun l μ2 q2 H2 loc2 g2 rs2 => ?_) fun _ _ z => z)
  refine hh2 σ H2 loc2 δ μ2 _ (re1.mono g2) rs2 (post_mono (post_bnd.mp q2) (fun u μ3 q3 H3 loc3 g3 rs3 => ?_) fun _ _ z => KX.mono g2 z)
  have g := (g1.trans g2).trans g3
  have rv3 := (rv.mono g2).mono g3
  cases rv3 with
  | @tup p vs xs h1 h2 h3 =>
    refine .inl (.inr ⟨p, vs, rfl, h1, fun hw => ?_, fun _ r hr => ?_⟩)
    · refine q3 _ H3 loc3 g rs3 ?_
      have e : cutA xs l u = xs := by
        unfold cutA
        rw [← h3.length, hw.1, hw.2, List.drop_zero, Nat.sub_zero, h3.length, List.take_length]
      rw [e]
      exact .tup h1 h2 h3
    · exact q3 _ _ loc3 (g.trans (Gr.new hr)) (rs3.new hr) (.tup (.inl (.inl upd_same)) (cutV_le h2) ((h3.cut l u).mono (Gr.new hr)))
  | @rol p vs xs h1 h2 h3 =>
    refine .inl (.inl ⟨p, vs, rfl, rol_sq h1, fun r hr => ?_⟩)
    exact q3 (.ref r) _ (loc3 ++ [r]) (g.trans (Gr.alloc hr)) (rs3.alloc hr ⟨_, rfl, cutV_le h2, (h3.cut l u).mono (Gr.alloc hr)⟩) (.hd (at_end_of rs3))
  | @hd p n hn =>
    simp only [sliceA] at q3
    split at q3
    · rename_i xs e
      obtain ⟨vs, h1, h2, h3⟩ := rs3.lst e hn
      refine .inl (.inl ⟨p, vs, rfl, .of h1, fun r hr => ?_⟩)
      exact q3 (.ref r) _ (loc3 ++ [r]) (g.trans (Gr.alloc hr)) (rs3.alloc hr ⟨_, rfl, cutV_le h2, (h3.cut l u).mono (Gr.alloc hr)⟩) (.hd (at_end_of rs3))
    · exact q3.elim
  | str s =>
    simp only [sliceA] at q3
    split at q3
    · rename_i hl
      exact .inr ⟨s, rfl, hl, q3 _ H3 loc3 g rs3 (.str _)⟩
    · exact q3.elim
  | _ => exact q3.elim
/-- xs[::-1] of a list -/
def revA (a : A) : M A := bnd (itemsL a) fun xs => alloc (.lst xs.reverse)
theorem se_rev {e : Expr} {m : Env → M A} {k : Nat} {p1 p2 p3 pos : Pos} (h : SE X W e m) : SE X W (.Subscript e (.Slice none none (some (.UnaryOp .USub (.Constant (.int 1) k p1) p2)) p3) pos) (fun δ => bnd (m δ) revA) := fun σ H loc δ μ Q re rs q => by
  refine wE_of (pe_revL pwE) ?_
  refine h.go re rs q fun v x H1 loc1 μ1 g1 rs1 rv re1 q1 => ?_
  obtain ⟨p, vs, xs, ev, hq, hl, ra, hi, q2⟩ := RA.sqL (xs := []) rs1 rv (post_bnd.mp q1)
  refine ⟨p, vs, ev, hq, fun r hr => ?_⟩
  exact q2 (.ref r) _ (loc1 ++ [r]) (g1.trans (Gr.alloc hr)) (rs1.alloc hr ⟨_, rfl, by rw [List.length_reverse]; exact hl, ra.reverse.mono (Gr.alloc hr)⟩) (.hd (at_end_of rs1))

/-! ### o[i] = v -/
def setA (o i v : A) : M Unit := fun μ => match o with
  | .hd n => match μ[n]? with
    | some (.lst xs) => match i with
      | .int k => match ixN xs.length k with
        | some j => .ok () (μ.set n (.lst (xs.set j v)))
        | none => .bad
      | _ => .bad
    | some (.dic kvs) => match keyA i with
      | some k => if kvs.length < sizeLine then .ok () (μ.set n (.dic (putA kvs k v))) else .bad
      | none => .bad
    | _ => .bad
  | _ => .bad
theorem set_dict (hu : X.A.units + 1 < cLine) : PSet X (fun o i v H Q => ∃ a H', o = .ref a ∧ DPut H a i v H' ∧ Q H') := by
  intro pins s σ H o i v ov iv u Q I ro ri rv h
  obtain ⟨a, H', rfl, g, q⟩ := h
  cases ro
  exact d_setItem hu I g ri rv fun s' I' => ⟨H', I', q⟩
theorem PSet.or {t t' : TSet} (h : PSet X t) (h' : PSet X t') : PSet X (fun o i v H Q => t o i v H Q ∨ t' o i v H Q) := by
  intro pins s σ H o i v ov iv u Q I ro ri rv q
  rcases q with q | q
  · exact h pins s σ H o i v ov iv u Q I ro ri rv q
  · exact h' pins s σ H o i v ov iv u Q I ro ri rv q
def noX {α : Type} (m : M α) : M α := fun μ => match m μ with
  | .ok a μ' => .ok a μ'
  | _ => .bad
theorem post_noX {α : Type} {m : M α} {Kp : α → Sto → Prop} {Kx Kx' : Exc → Sto → Prop} (h : (noX m μ).post Kp Kx) : (m μ).post Kp Kx' := by
  unfold noX at h
  split at h
  · rename_i a μ' e
    rw [e]
    exact h
  · exact h.elim
def subG (mo mi : Env → M A) : A → Env → M Env := fun v δ => bnd (noX (mo δ)) fun o => bnd (noX (mi δ)) fun i => bnd (setA o i v) fun _ => ret δ
theorem sg_sub {o i : Expr} {mo mi : Env → M A} {pos : Pos} {k : Nat} (hr : Room k X.A) (ho : SE X W o mo) (hi : SE X W i mi)
    (ha : ∀ v, assign (.Subscript o i pos) X.env v = (do
      let ov ← holding [v] (eval o X.env)
      let iv ← holding [v, ov] (eval i X.env)
      standAt pos
      holding [v, ov, iv] (setItem ov iv v)
      release [v, ov, iv] []) := by intro _; rfl) : SG X W [] (.Subscript o i pos) (subG mo mi) := fun σ H loc δ μ v a Q re rs ra q => by
  refine wG_of (pg_sub pwE pwE (PSet.or set_list (set_dict (hu_of hr))) ha) ?_
  refine ho σ H loc δ μ _ re rs (post_noX (post_mono (post_bnd.mp q) (fun x μ1 q1 u H1 loc1 g1 rs1 ru => ?_) fun _ _ z => z))
  refine hi σ H1 loc1 δ μ1 _ (re.mono g1) rs1 (post_noX (post_mono (post_bnd.mp q1) (fun y μ2 q2 w H2 loc2 g2 rs2 rw' => ?_) fun _ _ z => z))
  have g := g1.trans g2
  have ru2 := ru.mono g2
  have ra2 := ra.mono g
  have re2 := re.mono g
  have q3 := post_bnd.mp q2
  cases ru2 with
  | @hd p n hn =>
    simp only [setA] at q3
    split at q3
    · rename_i xs e
      obtain ⟨vs, h1, h2, h3⟩ := rs2.lst e hn
      cases rw' with
      | int k =>
        simp only at q3
        split at q3
        · rename_i j ej
          refine .inl ⟨p, vs, k, j, rfl, rfl, h1, by rw [h3.length]; exact ej, ?_⟩
          have gu := upd_gr (o := .lst (vs.set j v)) rs2 e hn
          exact q3 σ _ loc2 (g.trans gu) (rs2.set e hn ⟨_, rfl, by rw [List.length_set]; exact h2, (h3.set j ra2).mono gu⟩) (re2.mono gu) Agree.refl
        · exact q3.elim
      | _ => exact q3.elim
    · rename_i kvs e
      obtain ⟨vs, h1, h2, h3⟩ := rs2.dic e hn
      split at q3
      · rename_i k ek
        split at q3
        · rename_i hl
          have hy := rw'.key ek
          subst hy
          have hlv : vs.length < sizeLine := by rw [h3.len]; exact hl
          refine .inr ⟨p, _, rfl, .k h1 hlv, ?_⟩
          have gu := upd_gr (o := .dK (putK vs k v)) rs2 e hn
          have hz : (putK vs k v).length ≤ sizeLine := by
            unfold putK
            split
            · rw [List.length_map]; exact h2
            · rw [List.length_append]; exact hlv
          exact q3 σ _ loc2 (g.trans gu) (rs2.set e hn ⟨_, rfl, hz, (h3.put k ra2).mono gu⟩) (re2.mono gu) Agree.refl
        · exact q3.elim
      · exact q3.elim
    · exact q3.elim
  | _ => exact q3.elim
end
end Lt

/-! Lt6: methods, built-in functions, comprehensions. -/
namespace Lt
open PySem PySem.Spec PyProof.Rows L2

/-! ### methods of lists and texts -/
def SM (X : Cx) (W : WX) (r : V → List V → Hp → VK → Prop) (f : A → List A → M A) : Prop := ∀ (σ : St) (H : Hp) (loc : List Addr) (μ : Sto) (v : V) (a : A) (vs : List V) (as : List A) (Q : VK), RS X.K H loc μ → RA X.K H loc v a → RAs X.K H loc vs as →
  (f a as μ).post (KV_ X H loc Q) (KX X W σ H loc) → r v vs H Q
/-- a value that must be a text -/
def strM (a : A) : M Str := match a with
  | .str s => ret s
  | _ => bad
section
variable {X : Cx} {W : WX} {o e : Expr} {es : List Expr} {mo : Env → M A} {ma : Env → M (List A)} {name : Str} {apos cpos : Pos} {id : String} {r : V → List V → Hp → VK → Prop} {f : A → List A → M A}
theorem se_lm (slot : Slot "list" name id) (hty : typeOf (.builtin id) = pure (.type "method_descriptor")) (hm : MtR X id r) (hf : SM X W r f) (ho : SE X W o mo) (ha : SA X W (e :: es) ma)
    (hbase : attributeBase o name X.env (eval o X.env) = eval o X.env := by rfl)
    (hfew : ((backTo cpos (starEach (e :: es) X.env)).all (fun x => !x.1) && (backToKw cpos (keywordEach [] X.env)).all (fun x => x.1.isSome)
      && decide ((e :: es).length + ([] : List Keyword).length + (if ([] : List Keyword).isEmpty then 0 else 1) < 30)) = true := by rfl)
    (hline : (apos.endLine == cpos.line) = true := by rfl) (hs : starEach (e :: es) X.env = (false, eval e X.env) :: starEach es X.env := by rfl) (hplain : (backTo cpos (starEach es X.env)).any (·.1) = false := by rfl) :
    SE X W (.Call (.Attribute o name apos) (e :: es) [] cpos) (fun δ => bnd (mo δ) fun a => bnd (itemsL a) fun _ => bnd (ma δ) fun as => f a as) := fun σ H loc δ μ Q re rs q => by
  refine wE_of (pe_bm PySem.F.plainAttrs_list slot hty hm pwE pwA hbase hfew hline hs hplain) ?_
  refine ho.go re rs q fun v x H1 loc1 μ1 g1 rs1 rv re1 q1 => ?_
  obtain ⟨p, ws, xs, ev, hq, _, _, hi, q2⟩ := RA.sqL (xs := []) rs1 rv (post_bnd.mp q1)
  subst ev
  refine ⟨.inl ⟨rfl, ws, hq⟩, ?_⟩
  refine ha.go re1 rs1 q2 fun vs as H2 loc2 μ2 g2 rs2 ra re2 q3 => ?_
  exact hf σ H2 loc2 μ2 _ x vs as Q rs2 (rv.mono g2) ra (post_mono q3 (fun _ _ z => KV_.mono (g1.trans g2) z) fun _ _ z => z)
theorem se_lm0 (slot : Slot "list" name id) (hty : typeOf (.builtin id) = pure (.type "method_descriptor")) (hm : MtR X id r) (hf : SM X W r f) (ho : SE X W o mo)
    (hbase : attributeBase o name X.env (eval o X.env) = eval o X.env := by rfl) (hline : (apos.endLine == cpos.line) = true := by rfl) : SE X W (.Call (.Attribute o name apos) [] [] cpos) (fun δ => bnd (mo δ) fun a => bnd (itemsL a) fun _ => f a []) := fun σ H loc δ μ Q re rs q => by
  refine wE_of (pe_bm0 PySem.F.plainAttrs_list slot hty hm pwE hbase hline) ?_
  refine ho.go re rs q fun v x H1 loc1 μ1 g1 rs1 rv re1 q1 => ?_
  obtain ⟨p, ws, xs, ev, hq, _, _, hi, q2⟩ := RA.sqL (xs := []) rs1 rv (post_bnd.mp q1)
  subst ev
  exact ⟨.inl ⟨rfl, ws, hq⟩, hf σ H1 loc1 μ1 _ x [] [] Q rs1 rv .nil (post_mono q2 (fun _ _ z => KV_.mono g1 z) fun _ _ z => z)⟩
end
def appendA (a : A) (as : List A) : M A := fun μ => match a with
  | .hd n => match μ[n]? with
    | some (.lst xs) => match as with
      | [x] => if xs.length < sizeLine then .ok .non (μ.set n (.lst (xs ++ [x]))) else .bad
      | _ => .bad
    | _ => .bad
  | _ => .bad
def popA (a : A) (as : List A) : M A := fun μ => match a with
  | .hd n => match μ[n]? with
    | some (.lst xs) => match as with
      | [] => match xs[xs.length - 1]? with
        | some y => .ok y (μ.set n (.lst xs.dropLast))
        | none => .bad
      | _ => .bad
    | _ => .bad
  | _ => .bad
def popAtA (a : A) (as : List A) : M A := fun μ => match a with
  | .hd n => match μ[n]? with
    | some (.lst xs) => match as with
      | [.int i] => if -(2 ^ 63) ≤ i ∧ i < 2 ^ 63 then match seqIndex? i xs.length with
          | some k => match xs[k]? with
            | some y => .ok y (μ.set n (.lst (xs.eraseIdx k)))
            | none => .bad
          | none => .bad
        else .bad
      | _ => .bad
    | _ => .bad
  | _ => .bad
def extendA (a : A) (as : List A) : M A := fun μ => match a with
  | .hd n => match μ[n]? with
    | some (.lst xs) => match as with
      | [.hd m] => match μ[m]? with
        | some (.lst ys) => if xs.length + ys.length ≤ sizeLine then .ok .non (μ.set n (.lst (xs ++ ys))) else .bad
        | _ => .bad
      | _ => .bad
    | _ => .bad
  | _ => .bad
section
variable {X : Cx} {W : WX} {σ : St} {H : Hp} {loc : List Addr} {μ : Sto}
theorem sm_append : SM X W rAppend appendA := fun σ H loc μ v a vs as Q rs ra ras q => by
  cases ra with
  | @hd p n hn =>
    simp only [appendA] at q
    split at q
    · rename_i xs e
      obtain ⟨ws, h1, h2, h3⟩ := rs.lst e hn
      cases ras with
      | nil => exact q.elim
      | @cons w _ _ _ r rr =>
        cases rr with
        | cons _ _ => exact q.elim
        | nil =>
          simp only at q
          split at q
          · rename_i hl
            have hl' : ws.length < sizeLine := by rw [h3.length]; exact hl
            refine ⟨p, ws, _, rfl, rfl, h1, hl', ?_⟩
            have gu := upd_gr (o := .lst (ws ++ [w])) rs e hn
            exact q .non _ loc gu (rs.set e hn ⟨_, rfl, by rw [List.length_append]; exact hl', (h3.append (.cons r .nil)).mono gu⟩) .non
          · exact q.elim
    · exact q.elim
  | _ => exact q.elim
theorem sm_pop : SM X W rPop popA := fun σ H loc μ v a vs as Q rs ra ras q => by
  cases ra with
  | @hd p n hn =>
    simp only [popA] at q
    split at q
    · rename_i xs e
      obtain ⟨ws, h1, h2, h3⟩ := rs.lst e hn
      cases ras with
      | cons _ _ => exact q.elim
      | nil =>
        simp only at q
        split at q
        · rename_i y ey
          obtain ⟨w, w1, w2⟩ := h3.get ey
          refine ⟨p, ws, w, rfl, rfl, h1, by rw [h3.length]; exact w1, ?_⟩
          have gu := upd_gr (o := .lst ws.dropLast) rs e hn
          exact q w _ loc gu (rs.set e hn ⟨_, rfl, by rw [List.length_dropLast]; omega, h3.dropLast.mono gu⟩) (w2.mono gu)
        · exact q.elim
    · exact q.elim
  | _ => exact q.elim
theorem sm_popAt : SM X W rPopAt popAtA := fun σ H loc μ v a vs as Q rs ra ras q => by
  cases ra with
  | @hd p n hn =>
    simp only [popAtA] at q
    split at q
    · rename_i xs e
      obtain ⟨ws, h1, h2, h3⟩ := rs.lst e hn
      split at q
      · rename_i i
        cases ras with
        | cons r rr =>
          cases rr
          cases r
          split at q
          · rename_i hi
            split at q
            · rename_i k ek
              split at q
              · rename_i y ey
                obtain ⟨w, w1, w2⟩ := h3.get ey
                refine ⟨p, ws, i, k, w, rfl, rfl, h1, hi.1, hi.2, by rw [h3.length]; exact ek, w1, ?_⟩
                have gu := upd_gr (o := .lst (ws.eraseIdx k)) rs e hn
                exact q w _ loc gu (rs.set e hn ⟨_, rfl, Nat.le_trans (len_erase _ _) h2, (h3.erase k).mono gu⟩) (w2.mono gu)
              · exact q.elim
            · exact q.elim
          · exact q.elim
      · exact q.elim
    · exact q.elim
  | _ => exact q.elim
theorem sm_extend : SM X W rExtend extendA := fun σ H loc μ v a vs as Q rs ra ras q => by
  cases ra with
  | @hd p n hn =>
    simp only [extendA] at q
    split at q
    · rename_i xs e
      obtain ⟨ws, h1, h2, h3⟩ := rs.lst e hn
      split at q
      · rename_i m
        split at q
        · rename_i ys e2
          split at q
          · rename_i hl
            cases ras with
            | cons r rr =>
              cases rr
              cases r with
              | @hd b _ hb =>
                obtain ⟨zs, k1, k2, k3⟩ := rs.lst e2 hb
                have hl' : ws.length + zs.length ≤ sizeLine := by rw [h3.length, k3.length]; exact hl
                refine ⟨p, b, ws, zs, rfl, rfl, h1, k1, hl', ?_⟩
                have gu := upd_gr (o := .lst (ws ++ zs)) rs e hn
                exact q .non _ loc gu (rs.set e hn ⟨_, rfl, by rw [List.length_append]; exact hl', (h3.append k3).mono gu⟩) .non
          · exact q.elim
        · exact q.elim
      · exact q.elim
    · exact q.elim
  | _ => exact q.elim
end

/-! ### built-in functions -/
def SC (X : Cx) (W : WX) (r : List V → Hp → VK → Prop) (f : List A → M A) : Prop := ∀ (σ : St) (H : Hp) (loc : List Addr) (μ : Sto) (vs : List V) (as : List A) (Q : VK), RS X.K H loc μ → RAs X.K H loc vs as →
  (f as μ).post (KV_ X H loc Q) (KX X W σ H loc) → r vs H Q
section
variable {X : Cx} {W : WX} {x : Str} {p pos : Pos} {e : Expr} {es : List Expr} {id : String} {r : List V → Hp → VK → Prop} {ma : Env → M (List A)} {f : List A → M A}
theorem se_callB (hc : CallR X (.builtin id) r) (hf : SC X W r f) (hm : X.mg x = none) (hv : bootBuiltins x = some (.builtin id)) (ha : SA X W (e :: es) ma) (hg : Gl X x := by rfl) (hn : x ≠ "__name__" := by decide) (hdb : (x == ("__debug__" : Str)) = false := by decide +kernel)
    (he : starEach (e :: es) X.env = (false, eval e X.env) :: starEach es X.env := by rfl) (hpl : (backTo pos (starEach es X.env)).any (·.1) = false := by rfl) : SE X W (.Call (.Name x p) (e :: es) [] pos) (fun δ => bnd (ma δ) f) := fun σ H loc δ μ Q re rs q => by
  refine wE_of (pe_callB hc hg hm hv pwA hn hdb he hpl) ?_
  exact ha.go re rs q fun vs as H1 loc1 μ1 g1 rs1 ra re1 q1 => hf σ H1 loc1 μ1 vs as Q rs1 ra (post_mono q1 (fun _ _ z => KV_.mono g1 z) fun _ _ z => z)
theorem se_callT (hc : CallR X (.type id) r) (hf : SC X W r f) (hm : X.mg x = none) (hv : bootBuiltins x = some (.type id)) (ha : SA X W (e :: es) ma) (hg : Gl X x := by rfl) (hn : x ≠ "__name__" := by decide) (hdb : (x == ("__debug__" : Str)) = false := by decide +kernel)
    (he : starEach (e :: es) X.env = (false, eval e X.env) :: starEach es X.env := by rfl) (hpl : (backTo pos (starEach es X.env)).any (·.1) = false := by rfl) : SE X W (.Call (.Name x p) (e :: es) [] pos) (fun δ => bnd (ma δ) f) := fun σ H loc δ μ Q re rs q => by
  refine wE_of (pe_callTy hc hg hm hv pwA hn hdb he hpl) ?_
  exact ha.go re rs q fun vs as H1 loc1 μ1 g1 rs1 ra re1 q1 => hf σ H1 loc1 μ1 vs as Q rs1 ra (post_mono q1 (fun _ _ z => KV_.mono g1 z) fun _ _ z => z)
end
def lenA (as : List A) : M A := fun μ => match as with
  | [.tup xs] => .ok (.int xs.length) μ
  | [.rol xs] => .ok (.int xs.length) μ
  | [.str s] => if s.length ≤ sizeLine then .ok (.int s.length) μ else .bad
  | [.hd n] => match μ[n]? with
    | some (.lst xs) => .ok (.int xs.length) μ
    | some (.dic xs) => .ok (.int xs.length) μ
    | _ => .bad
  | _ => .bad
def rLenD : List V → Hp → VK → Prop := fun xs H Q => ∃ a kvs, xs = [.ref a] ∧ H a = some (.dK kvs) ∧ Q (.int kvs.length) H
theorem call_lenK {X : Cx} : CallR X (.builtin "len") rLenD := by
  intro pins s σ H xs us Q I r h
  obtain ⟨a, kvs, rfl, e, q⟩ := h
  obtain ⟨u, rfl, rx⟩ := vals1 r
  cases rx
  exact d_len I (.of e) fun t s' I' => ⟨.int kvs.length, H, I', ⟨t, rfl⟩, q⟩
section
variable {X : Cx} {W : WX}
theorem sc_len : SC X W (fun xs H Q => (∃ x n, xs = [x] ∧ LenV X.K x H n ∧ Q (.int n) H) ∨ rLenD xs H Q) lenA := fun σ H loc μ vs as Q rs ras q => by
  cases ras with
  | nil => exact q.elim
  | cons r rr =>
    rename_i v _ a _
    cases rr with
    | cons _ _ => cases r <;> exact q.elim
    | nil =>
      cases r with
      | @tup p ws xs h1 h2 h3 => exact .inl ⟨_, _, rfl, .inr ⟨ws, h1, rfl⟩, by rw [h3.length]; exact q _ H loc Gr.refl rs (.int _)⟩
      | @rol p ws xs h1 h2 h3 => exact .inl ⟨_, _, rfl, .inl ⟨ws, rol_sq h1, rfl⟩, by rw [h3.length]; exact q _ H loc Gr.refl rs (.int _)⟩
      | str s =>
        simp only [lenA] at q
        split at q
        · rename_i hl
          exact .inl ⟨_, _, rfl, ⟨hl, rfl⟩, q _ H loc Gr.refl rs (.int _)⟩
        · exact q.elim
      | @hd p n hn =>
        simp only [lenA] at q
        split at q
        · rename_i xs e
          obtain ⟨ws, h1, h2, h3⟩ := rs.lst e hn
          exact .inl ⟨_, _, rfl, .inl ⟨ws, .of h1, rfl⟩, by rw [h3.length]; exact q _ H loc Gr.refl rs (.int _)⟩
        · rename_i xs e
          obtain ⟨ws, h1, h2, h3⟩ := rs.dic e hn
          exact .inr ⟨p, ws, rfl, h1, by rw [h3.len]; exact q _ H loc Gr.refl rs (.int _)⟩
        · exact q.elim
      | _ => exact q.elim
theorem se_len {p pos : Pos} {e : Expr} {ma : Env → M (List A)} (hm : X.mg "len" = none) (ha : SA X W [e] ma) (hg : Gl X "len" := by rfl) (he : starEach [e] X.env = (false, eval e X.env) :: starEach [] X.env := by rfl) (hpl : (backTo pos (starEach [] X.env)).any (·.1) = false := by rfl) :
    SE X W (.Call (.Name "len" p) [e] [] pos) (fun δ => bnd (ma δ) lenA) := se_callB (CallR.or call_len call_lenK) sc_len hm PySem.boot_len ha hg (he := he) (hpl := hpl)
/-- int(x): a number, a truth, a text -/
def intA (as : List A) : M A := match as with
  | [.int i] => ret (.int i)
  | [.bl b] => ret (.int (if b then 1 else 0))
  | [.str s] => if s.length ≤ 640 then bnd (optM (PySem.intText? s)) fun n => ret (.int n) else bad
  | _ => bad
theorem sc_int : SC X W (fun xs H Q => ((∃ i, xs = [.int i] ∧ Q (.int i) H) ∨ ∃ k, xs = [.bl k] ∧ Q (.int (if k then 1 else 0)) H) ∨ (∃ a n, xs = [.str a] ∧ PySem.intText? a = some n ∧ a.length ≤ 640 ∧ Q (.int n) H)) intA := fun σ H loc μ vs as Q rs ras q => by
  cases ras with
  | nil => exact q.elim
  | cons r rr =>
    cases rr with
    | cons _ _ => cases r <;> exact q.elim
    | nil =>
      cases r with
      | int i => exact .inl (.inl ⟨i, rfl, q _ H loc Gr.refl rs (.int _)⟩)
      | bl i => exact .inl (.inr ⟨i, rfl, q _ H loc Gr.refl rs (.int _)⟩)
      | str s =>
        simp only [intA] at q
        split at q
        · rename_i hl
          obtain ⟨n, e, q⟩ := post_opt (post_bnd.mp q)
          exact .inr ⟨s, n, rfl, e, hl, q _ H loc Gr.refl rs (.int _)⟩
        · exact q.elim
      | _ => exact q.elim
theorem se_toint {p pos : Pos} {e : Expr} {ma : Env → M (List A)} (hm : X.mg "int" = none) (ha : SA X W [e] ma) (hg : Gl X "int" := by rfl) (he : starEach [e] X.env = (false, eval e X.env) :: starEach [] X.env := by rfl) (hpl : (backTo pos (starEach [] X.env)).any (·.1) = false := by rfl) :
    SE X W (.Call (.Name "int" p) [e] [] pos) (fun δ => bnd (ma δ) intA) := se_callT (CallR.or call_int1 call_int_str) sc_int hm PyProof.Rows.boot_int ha hg (he := he) (hpl := hpl)
/-- the type of a value, by its name -/
def typA (μ : Sto) (a : A) : Option String := match a with
  | .non => some "NoneType"
  | .bl _ => some "bool"
  | .int _ => some "int"
  | .str _ => some "str"
  | .tup _ => some "tuple"
  | .rol _ => some "list"
  | .hd n => match μ[n]? with
    | some (.lst _) => some "list"
    | some (.dic _) => some "dict"
    | _ => none
  | .fn _ => none
  | .exc _ _ _ => none
theorem typA_ok {K : PySem.W.Frag} {H : Hp} {loc : List Addr} {μ : Sto} {v : V} {a : A} {t : String} (rs : RS K H loc μ) (r : RA K H loc v a) (e : typA μ a = some t) : TyX K H v (.type t) := by
  cases r with
  | non => cases e; exact .base .non
  | bl b => cases e; exact .base (.bl b)
  | int b => cases e; exact .base (.int b)
  | str b => cases e; exact .base (.str b)
  | tup h1 h2 h3 =>
    cases e
    rcases h1 with (h1 | ⟨o, h1⟩) | ⟨o, its, n, h1, h4, _⟩
    · exact .base (.tup h1)
    · exact .fTuple h1
    · exact .kTuple h1 h4
  | rol h1 h2 h3 =>
    cases e
    rcases h1 with ⟨o, h1⟩ | ⟨o, its, n, h1, h4, _⟩
    · exact .base (.frz h1)
    · exact .kList h1 h4
  | hd h =>
    simp only [typA] at e
    split at e
    · rename_i xs e1
      cases e
      obtain ⟨vs, q1, _, _⟩ := rs.lst e1 h
      exact .base (.lst q1)
    · rename_i xs e1
      cases e
      obtain ⟨vs, q1, _, _⟩ := rs.dic e1 h
      exact .base (.dK q1)
    · cases e
  | fn => cases e
  | exc => cases e
  | ex0 => cases e
def isiA (T : String) (a : A) : M A := fun μ => match typA μ a with
  | some t => match kitB t T with
    | some b => .ok (.bl b) μ
    | none => .bad
  | none => .bad
/-- isinstance(x, T), T a built-in type -/
theorem se_isi (T : String) {xT : Str} {e : Expr} {m : Env → M A} {p pT pos : Pos} (hm : X.mg "isinstance" = none) (hmT : X.mg xT = none) (hvT : bootBuiltins xT = some (.type T)) (h : SE X W e m) (hg : Gl X "isinstance" := by rfl) (hgT : Gl X xT := by rfl) (hnT : xT ≠ "__name__" := by decide +kernel) (hdT : (xT == ("__debug__" : Str)) = false := by decide +kernel)
    (he : starEach [e, .Name xT pT] X.env = (false, eval e X.env) :: starEach [.Name xT pT] X.env := by rfl) (hpl : (backTo pos (starEach [.Name xT pT] X.env)).any (·.1) = false := by rfl) (he2 : starEach [Expr.Name xT pT] X.env = (false, eval (.Name xT pT) X.env) :: starEach [] X.env := by rfl) :
    SE X W (.Call (.Name "isinstance" p) [e, .Name xT pT] [] pos) (fun δ => bnd (m δ) (isiA T)) := fun σ H loc δ μ Q re rs q => by
  refine wE_of (pe_callB call_isi hg hm PyProof.Rows.boot_isinstance (pa_cons pwE (pa_cons (pe_bltn (v := .ty T) hgT hmT hvT rfl hnT hdT) pa_nil he2) he) (he := he) (hpl := hpl)) ?_
  refine h.go re rs q fun v x H1 loc1 μ1 g1 rs1 rv re1 q1 => ?_
  unfold isiA at q1
  split at q1
  · rename_i t et
    split at q1
    · rename_i b eb
      exact ⟨v, .ty T, .type t, .type T, b, rfl, .ty T, typA_ok rs1 rv et, kit_ty eb, q1 _ H1 loc1 g1 rs1 (.bl b)⟩
    · exact q1.elim
  · exact q1.elim
end

/-! ### lists that are used at once -/
def KL (X : Cx) (H : Hp) (loc : List Addr) (Q : VK) : List A → Sto → Prop := fun as μ' => ∀ (p : Addr) (vs : List V) (H' : Hp) (loc' : List Addr), Gr X.K H loc H' loc' → RS X.K H' loc' μ' → H p = none → H' p = some (.lst vs) → p ∉ loc' → vs.length ≤ sizeLine → RAs X.K H' loc' vs as → Q (.ref p) H'
def SL (X : Cx) (W : WX) (e : Expr) (m : Env → M (List A)) : Prop := ∀ (σ : St) (H : Hp) (loc : List Addr) (δ : Env) (μ : Sto) (Q : VK), RE X.K H loc σ δ → RS X.K H loc μ → (m δ μ).post (KL X H loc Q) (KX X W σ H loc) → wE X e σ H Q
/-- what a call makes of such a list: by its items -/
def SLC (X : Cx) (W : WX) (r : List V → Hp → VK → Prop) (f : List A → M A) : Prop := ∀ (σ : St) (H : Hp) (loc : List Addr) (μ : Sto) (p : Addr) (vs : List V) (as : List A) (Q : VK), RS X.K H loc μ → SqL X.K H p vs → vs.length ≤ sizeLine → RAs X.K H loc vs as →
  (f as μ).post (KV_ X H loc Q) (KX X W σ H loc) → r [.ref p] H Q
def boolsOf : List A → Option (List Bool)
  | [] => some []
  | .bl b :: as => (boolsOf as).map (b :: ·)
  | _ :: _ => none
def intsOf : List A → Option (List Int)
  | [] => some []
  | .int b :: as => (intsOf as).map (b :: ·)
  | _ :: _ => none
def strsOf : List A → Option (List Str)
  | [] => some []
  | .str b :: as => (strsOf as).map (b :: ·)
  | _ :: _ => none
def allF (as : List A) : M A := bnd (optM (boolsOf as)) fun bs => ret (.bl (bs.all id))
def anyF (as : List A) : M A := bnd (optM (boolsOf as)) fun bs => ret (.bl (bs.any id))
def sumF (as : List A) : M A := bnd (optM (intsOf as)) fun bs => ret (.int bs.sum)
def tupF (as : List A) : M A := ret (.tup as)
def lstF (as : List A) : M A := alloc (.lst as)
def lenF (as : List A) : M A := ret (.int as.length)
def joinF (s : Str) (as : List A) : M A := bnd (optM (strsOf as)) fun ys => if (ys.map (·.length)).sum + ys.length * s.length ≤ 16777216 then ret (.str (Txt.join s ys)) else bad
section
variable {K : PySem.W.Frag} {H : Hp} {loc : List Addr}
theorem bools_ra : ∀ {vs : List V} {as : List A} {bs : List Bool}, RAs K H loc vs as → boolsOf as = some bs → vs = bs.map V.bl
  | _, _, _, .nil, e => by cases e; rfl
  | _, .bl b :: as, bs, .cons r t, e => by
    cases r
    simp only [boolsOf] at e
    cases h : boolsOf as with
    | none => rw [h] at e; cases e
    | some cs =>
      rw [h] at e
      cases e
      rw [bools_ra t h]
      rfl
  | _, .non :: _, _, .cons _ _, e => by cases e
  | _, .int _ :: _, _, .cons _ _, e => by cases e
  | _, .str _ :: _, _, .cons _ _, e => by cases e
  | _, .tup _ :: _, _, .cons _ _, e => by cases e
  | _, .rol _ :: _, _, .cons _ _, e => by cases e
  | _, .hd _ :: _, _, .cons _ _, e => by cases e
  | _, .fn _ :: _, _, .cons _ _, e => by cases e
  | _, .exc _ _ _ :: _, _, .cons _ _, e => by cases e
theorem ints_ra : ∀ {vs : List V} {as : List A} {bs : List Int}, RAs K H loc vs as → intsOf as = some bs → vs = bs.map V.int
  | _, _, _, .nil, e => by cases e; rfl
  | _, .int b :: as, bs, .cons r t, e => by
    cases r
    simp only [intsOf] at e
    cases h : intsOf as with
    | none => rw [h] at e; cases e
    | some cs =>
      rw [h] at e
      cases e
      rw [ints_ra t h]
      rfl
  | _, .non :: _, _, .cons _ _, e => by cases e
  | _, .bl _ :: _, _, .cons _ _, e => by cases e
  | _, .str _ :: _, _, .cons _ _, e => by cases e
  | _, .tup _ :: _, _, .cons _ _, e => by cases e
  | _, .rol _ :: _, _, .cons _ _, e => by cases e
  | _, .hd _ :: _, _, .cons _ _, e => by cases e
  | _, .fn _ :: _, _, .cons _ _, e => by cases e
  | _, .exc _ _ _ :: _, _, .cons _ _, e => by cases e
theorem strs_ra : ∀ {vs : List V} {as : List A} {bs : List Str}, RAs K H loc vs as → strsOf as = some bs → vs = bs.map V.str
  | _, _, _, .nil, e => by cases e; rfl
  | _, .str b :: as, bs, .cons r t, e => by
    cases r
    simp only [strsOf] at e
    cases h : strsOf as with
    | none => rw [h] at e; cases e
    | some cs =>
      rw [h] at e
      cases e
      rw [strs_ra t h]
      rfl
  | _, .non :: _, _, .cons _ _, e => by cases e
  | _, .bl _ :: _, _, .cons _ _, e => by cases e
  | _, .int _ :: _, _, .cons _ _, e => by cases e
  | _, .tup _ :: _, _, .cons _ _, e => by cases e
  | _, .rol _ :: _, _, .cons _ _, e => by cases e
  | _, .hd _ :: _, _, .cons _ _, e => by cases e
  | _, .fn _ :: _, _, .cons _ _, e => by cases e
  | _, .exc _ _ _ :: _, _, .cons _ _, e => by cases e
end
section
variable {X : Cx} {W : WX}
theorem slc_all : SLC X W (rAll X.K) allF := fun σ H loc μ p vs as Q rs hq hl ra q => by
  obtain ⟨bs, e, q⟩ := post_opt (post_bnd.mp q)
  exact ⟨p, bs, rfl, by rw [← bools_ra ra e]; exact hq, q _ H loc Gr.refl rs (.bl _)⟩
theorem slc_any : SLC X W (rAny X.K) anyF := fun σ H loc μ p vs as Q rs hq hl ra q => by
  obtain ⟨bs, e, q⟩ := post_opt (post_bnd.mp q)
  exact ⟨p, bs, rfl, by rw [← bools_ra ra e]; exact hq, q _ H loc Gr.refl rs (.bl _)⟩
theorem slc_sum : SLC X W (rSum X.K) sumF := fun σ H loc μ p vs as Q rs hq hl ra q => by
  obtain ⟨bs, e, q⟩ := post_opt (post_bnd.mp q)
  exact ⟨p, bs, rfl, by rw [← ints_ra ra e]; exact hq, q _ H loc Gr.refl rs (.int _)⟩
theorem slc_tup : SLC X W (fun xs H Q => ∃ p ys, xs = [.ref p] ∧ ((SqL X.K H p ys ∧ ∀ l, H l = none → Q (.ref l) (upd H l (.tup ys))) ∨ (SqT X.K H p ys ∧ Q (.ref p) H))) tupF := fun σ H loc μ p vs as Q rs hq hl ra q =>
  ⟨p, vs, rfl, .inl ⟨hq, fun l hn => q (.ref l) _ loc (Gr.new hn) (rs.new hn) (.tup (.inl (.inl upd_same)) hl (ra.mono (Gr.new hn)))⟩⟩
theorem slc_list : SLC X W (fun xs H Q => ∃ p ys, xs = [.ref p] ∧ (SqL X.K H p ys ∨ SqT X.K H p ys) ∧ ∀ l, H l = none → Q (.ref l) (upd H l (.lst ys))) lstF := fun σ H loc μ p vs as Q rs hq hl ra q =>
  ⟨p, vs, rfl, .inl hq, fun l hn => q (.ref l) _ (loc ++ [l]) (Gr.alloc hn) (rs.alloc hn ⟨vs, rfl, hl, ra.mono (Gr.alloc hn)⟩) (.hd (at_end_of rs))⟩
theorem slc_len : SLC X W (fun xs H Q => ∃ x n, xs = [x] ∧ LenV X.K x H n ∧ Q (.int n) H) lenF := fun σ H loc μ p vs as Q rs hq hl ra q =>
  ⟨_, _, rfl, .inl ⟨vs, hq, rfl⟩, by rw [ra.length]; exact q _ H loc Gr.refl rs (.int _)⟩
/-- f(..), the argument a list that is used at once -/
theorem se_callBL {x : Str} {p pos : Pos} {e : Expr} {id : String} {r : List V → Hp → VK → Prop} {m : Env → M (List A)} {f : List A → M A} (hc : CallR X (.builtin id) r) (hf : SLC X W r f) (hm : X.mg x = none) (hv : bootBuiltins x = some (.builtin id)) (h : SL X W e m) (hg : Gl X x := by rfl) (hn : x ≠ "__name__" := by decide) (hdb : (x == ("__debug__" : Str)) = false := by decide +kernel)
    (he : starEach [e] X.env = (false, eval e X.env) :: starEach [] X.env := by rfl) (hpl : (backTo pos (starEach [] X.env)).any (·.1) = false := by rfl) : SE X W (.Call (.Name x p) [e] [] pos) (fun δ => bnd (m δ) f) := fun σ H loc δ μ Q re rs q => by
  refine wE_of (pe_callB hc hg hm hv (pa_cons pwE pa_nil he) hn hdb he hpl) ?_
  refine h σ H loc δ μ _ re rs (post_mono (post_bnd.mp q) (fun as μ1 q1 p vs H1 loc1 g1 rs1 _ hp _ hl ra => ?_) fun _ _ z => z)
  exact hf σ H1 loc1 μ1 p vs as Q rs1 (.of hp) hl ra (post_mono q1 (fun _ _ z => KV_.mono g1 z) fun _ _ z => KX.mono g1 z)
theorem se_callTL {x : Str} {p pos : Pos} {e : Expr} {id : String} {r : List V → Hp → VK → Prop} {m : Env → M (List A)} {f : List A → M A} (hc : CallR X (.type id) r) (hf : SLC X W r f) (hm : X.mg x = none) (hv : bootBuiltins x = some (.type id)) (h : SL X W e m) (hg : Gl X x := by rfl) (hn : x ≠ "__name__" := by decide) (hdb : (x == ("__debug__" : Str)) = false := by decide +kernel)
    (he : starEach [e] X.env = (false, eval e X.env) :: starEach [] X.env := by rfl) (hpl : (backTo pos (starEach [] X.env)).any (·.1) = false := by rfl) : SE X W (.Call (.Name x p) [e] [] pos) (fun δ => bnd (m δ) f) := fun σ H loc δ μ Q re rs q => by
  refine wE_of (pe_callTy hc hg hm hv (pa_cons pwE pa_nil he) hn hdb he hpl) ?_
  refine h σ H loc δ μ _ re rs (post_mono (post_bnd.mp q) (fun as μ1 q1 p vs H1 loc1 g1 rs1 _ hp _ hl ra => ?_) fun _ _ z => z)
  exact hf σ H1 loc1 μ1 p vs as Q rs1 (.of hp) hl ra (post_mono q1 (fun _ _ z => KV_.mono g1 z) fun _ _ z => KX.mono g1 z)
/-- .. the argument a list of the store -/
theorem SLC.sc {r : List V → Hp → VK → Prop} {f : List A → M A} (hf : SLC X W r f) : SC X W r (fun as => match as with | [a] => bnd (itemsL a) f | _ => bad) := fun σ H loc μ vs as Q rs ras q => by
  cases ras with
  | nil => exact q.elim
  | cons rr ss =>
    cases ss with
    | cons _ _ => exact q.elim
    | nil =>
      obtain ⟨p, ws, xs, ev, hq, hl, ra, hi, q2⟩ := RA.sqL (xs := []) rs rr (post_bnd.mp q)
      subst ev
      exact hf σ H loc μ p ws xs Q rs hq hl ra q2
/-- tuple(x), list(x) of a list or a tuple -/
def tupleA (as : List A) : M A := match as with
  | [a] => bnd (items a) tupF
  | _ => bad
def listA (as : List A) : M A := match as with
  | [a] => bnd (items a) lstF
  | _ => bad
theorem sc_tuple : SC X W (fun xs H Q => ∃ p ys, xs = [.ref p] ∧ ((SqL X.K H p ys ∧ ∀ l, H l = none → Q (.ref l) (upd H l (.tup ys))) ∨ (SqT X.K H p ys ∧ Q (.ref p) H))) tupleA := fun σ H loc μ vs as Q rs ras q => by
  cases ras with
  | nil => exact q.elim
  | cons rr ss =>
    cases ss with
    | cons _ _ => exact q.elim
    | nil =>
      obtain ⟨p, ws, xs, ev, hq, hl, ra, hi, q2⟩ := RA.sq rs rr (post_bnd.mp (show (bnd (items _) tupF μ).post _ _ from q))
      subst ev
      refine ⟨p, ws, rfl, ?_⟩
      rcases hq with hq | hq
      · exact .inl ⟨hq, fun l hn => q2 (.ref l) _ loc (Gr.new hn) (rs.new hn) (.tup (.inl (.inl upd_same)) hl (ra.mono (Gr.new hn)))⟩
      · exact .inr ⟨hq, q2 _ H loc Gr.refl rs (.tup hq hl ra)⟩
theorem sc_list : SC X W (fun xs H Q => ∃ p ys, xs = [.ref p] ∧ (SqL X.K H p ys ∨ SqT X.K H p ys) ∧ ∀ l, H l = none → Q (.ref l) (upd H l (.lst ys))) listA := fun σ H loc μ vs as Q rs ras q => by
  cases ras with
  | nil => exact q.elim
  | cons rr ss =>
    cases ss with
    | cons _ _ => exact q.elim
    | nil =>
      obtain ⟨p, ws, xs, ev, hq, hl, ra, hi, q2⟩ := RA.sq rs rr (post_bnd.mp (show (bnd (items _) lstF μ).post _ _ from q))
      subst ev
      exact ⟨p, ws, rfl, hq, fun l hn => q2 (.ref l) _ (loc ++ [l]) (Gr.alloc hn) (rs.alloc hn ⟨ws, rfl, hl, ra.mono (Gr.alloc hn)⟩) (.hd (at_end_of rs))⟩
/-- such a list comes into the store -/
theorem se_ofL {e : Expr} {m : Env → M (List A)} (h : SL X W e m) : SE X W e (fun δ => bnd (m δ) lstF) := fun σ H loc δ μ Q re rs q => by
  refine h σ H loc δ μ _ re rs (post_mono (post_bnd.mp q) (fun as μ1 q1 p vs H1 loc1 g1 rs1 hn hp hnl hl ra => ?_) fun _ _ z => z)
  have hm : RM X.K H1 loc1 (.lst as) (.lst vs) := ⟨vs, rfl, hl, ra⟩
  exact q1 (.ref p) H1 (loc1 ++ [p]) (g1.adopt hn) (rs1.adopt hp hnl hm) (.hd (at_end_of rs1))
/-- s.join(..) -/
theorem se_joinL {o e : Expr} {mo : Env → M A} {m : Env → M (List A)} {apos pos : Pos} (ho : SE X W o mo) (h : SL X W e m) (hs : starEach [e] X.env = [(false, eval e X.env)] := by rfl) (hbase : attributeBase o "join" X.env (eval o X.env) = eval o X.env := by rfl) (hline : (apos.endLine == pos.line) = true := by rfl) :
    SE X W (.Call (.Attribute o "join" apos) [e] [] pos) (fun δ => bnd (mo δ) fun a => bnd (strM a) fun s => bnd (m δ) (joinF s)) := fun σ H loc δ μ Q re rs q => by
  refine wE_of (pe_join pwE pwE hs hbase hline) ?_
  refine ho.go re rs q fun v x H1 loc1 μ1 g1 rs1 rv re1 q1 => ?_
  cases rv with
  | str s =>
    refine ⟨⟨s, rfl⟩, ?_⟩
    refine h σ H1 loc1 δ μ1 _ re1 rs1 (post_mono (post_bnd.mp q1) (fun as μ2 q2 p vs H2 loc2 g2 rs2 _ hp _ hl ra => ?_) fun _ _ z => z)
    obtain ⟨ys, e, q3⟩ := post_opt (post_bnd.mp q2)
    split at q3
    · rename_i hz
      exact ⟨s, p, ys, rfl, rfl, .inl (by rw [← strs_ra ra e]; exact .of hp), hz, q3 _ H2 loc2 (g1.trans g2) rs2 (.str _)⟩
    · exact q3.elim
  | _ => exact q1.elim
def joinA (s : Str) (a : A) : M A := bnd (items a) (joinF s)
theorem se_join {o e : Expr} {mo m : Env → M A} {apos pos : Pos} (ho : SE X W o mo) (h : SE X W e m) (hs : starEach [e] X.env = [(false, eval e X.env)] := by rfl) (hbase : attributeBase o "join" X.env (eval o X.env) = eval o X.env := by rfl) (hline : (apos.endLine == pos.line) = true := by rfl) :
    SE X W (.Call (.Attribute o "join" apos) [e] [] pos) (fun δ => bnd (mo δ) fun a => bnd (strM a) fun s => bnd (m δ) (joinA s)) := fun σ H loc δ μ Q re rs q => by
  refine wE_of (pe_join pwE pwE hs hbase hline) ?_
  refine ho.go re rs q fun v x H1 loc1 μ1 g1 rs1 rv re1 q1 => ?_
  cases rv with
  | str s =>
    refine ⟨⟨s, rfl⟩, ?_⟩
    refine h.go re1 rs1 q1 fun u y H2 loc2 μ2 g2 rs2 ru re2 q2 => ?_
    obtain ⟨p, ws, xs, ev, hq, hl, ra, hi, q3⟩ := RA.sq rs2 ru (post_bnd.mp q2)
    subst ev
    obtain ⟨ys, e, q4⟩ := post_opt (post_bnd.mp q3)
    split at q4
    · rename_i hz
      exact ⟨s, p, ys, rfl, rfl, by rw [← strs_ra ra e]; exact hq, hz, q4 _ H2 loc2 (g1.trans g2) rs2 (.str _)⟩
    · exact q4.elim
  | _ => exact q1.elim
def upperA (a : A) : M A := bnd (strM a) fun s => if s.length ≤ 5592405 then ret (.str (Txt.upper s)) else bad
theorem se_upper {o : Expr} {mo : Env → M A} {apos pos : Pos} (ho : SE X W o mo) (hbase : attributeBase o "upper" X.env (eval o X.env) = eval o X.env := by rfl) (hline : (apos.endLine == pos.line) = true := by rfl) :
    SE X W (.Call (.Attribute o "upper" apos) [] [] pos) (fun δ => bnd (mo δ) upperA) := fun σ H loc δ μ Q re rs q => by
  refine wE_of (pe_upper pwE hbase hline) ?_
  refine ho.go re rs q fun v x H1 loc1 μ1 g1 rs1 rv re1 q1 => ?_
  cases rv with
  | str s =>
    have q2 : ((if s.length ≤ 5592405 then ret (.str (Txt.upper s)) else bad : M A) μ1).post _ _ := q1
    split at q2
    · rename_i hl
      exact ⟨⟨s, rfl⟩, s, rfl, rfl, hl, q2 _ H1 loc1 g1 rs1 (.str _)⟩
    · exact q2.elim
  | _ => exact q1.elim
end
end Lt

/-! Lt7: comprehensions. -/
namespace Lt
open PySem PySem.Spec PyProof.Rows L2
/-- within a block nothing is raised -/
abbrev W0 : WX := fun _ _ _ _ => False
def wipeE (δ : Env) : List Nat → Env
  | [] => δ
  | v :: vs => (wipeE δ vs).set v none
theorem RE.wipe {K : PySem.W.Frag} {H : Hp} {loc : List Addr} {σ : St} {δ : Env} (re : RE K H loc σ δ) : ∀ vs : List Nat, RE K H loc (L2.wipe σ vs) (wipeE δ vs)
  | [] => re
  | v :: vs => by
    have ih := RE.wipe re vs
    refine ⟨by show ((L2.wipe σ vs).set v none).length = ((wipeE δ vs).set v none).length; rw [List.length_set, List.length_set]; exact ih.len, fun i x e => ?_⟩
    have e' : ((wipeE δ vs).set v none)[i]? = some (some x) := e
    by_cases hv : v = i
    · subst hv
      by_cases hl : v < (wipeE δ vs).length
      · rw [List.getElem?_set_self hl] at e'; cases e'
      · rw [List.getElem?_eq_none (by rw [List.length_set]; exact Nat.le_of_not_lt hl)] at e'; cases e'
    · rw [List.getElem?_set_ne hv] at e'
      obtain ⟨w, h1, h2⟩ := ih.at_ i x e'
      exact ⟨w, by show ((L2.wipe σ vs).set v none)[i]? = _; rw [List.getElem?_set_ne hv]; exact h1, h2⟩
/-- all blocks of a scope -/
abbrev Blk (X : Cx) (scope : Scope) (P : Cx → Prop) : Prop := ∀ (s : Shared) (H : Hp) (C : Addr) (cl : List (Str × Addr)) (fp : List Addr), P (X.blk s H scope (compEnvC scope cl C X.env) fp)
/-- the tests of a clause -/
def STs (X : Cx) (scope : Scope) (ifs : List Expr) (m : Env → M Bool) : Prop := ∃ tt : TT, Blk X scope (fun Y => PTs Y ifs tt) ∧ ∀ (σ : St) (H : Hp) (loc : List Addr) (δ : Env) (μ : Sto) (Q : Bool → Hp → Prop), RE X.K H loc σ δ → RS X.K H loc μ → (m δ μ).post (KB X H loc Q) NX → tt σ H Q
section
variable {X : Cx} {scope : Scope}
theorem sts_nil : STs X scope [] (fun _ => ret true) := ⟨tYes, fun _ _ _ _ _ => pts_nil, fun σ H loc δ μ Q re rs q => q H loc Gr.refl rs⟩
theorem sts_one {c : Expr} {m : Env → M Bool} (h : Blk X scope (fun Y => ST Y W0 c m)) : STs X scope [c] m :=
  ⟨fun σ H Q => Blk X scope (fun Y => wT Y c σ H Q), fun s H C cl fp => pts_one ⟨fun pins s' σ H' Q I q => q s H C cl fp pins s' I⟩, fun σ H loc δ μ Q re rs q s0 H0 C cl fp => h s0 H0 C cl fp σ H loc δ μ Q re rs (post_mono q (fun _ _ z => z) fun _ _ z => z.elim)⟩
end
structure Gr0 (K : PySem.W.Frag) (H : Hp) (loc : List Addr) (H' : Hp) (loc' : List Addr) : Prop where
  pre : ∃ more, loc' = loc ++ more
  tup : ∀ a xs, H a = some (.tup xs) → H' a = some (.tup xs)
  frz : ∀ a o u, H a = some (.frz o u) → H' a = some (.frz o u)
  exs : ∀ a φ, H a = some (.ext φ) → a ∉ loc → H' a = some (.ext φ) ∧ a ∉ loc'
section
variable {K : PySem.W.Frag} {H H1 : Hp} {loc loc1 : List Addr}
theorem Gr0.get (g : Gr0 K H loc H1 loc1) {n : Nat} {a : Addr} (h : loc[n]? = some a) : loc1[n]? = some a := by
  obtain ⟨m, rfl⟩ := g.pre
  rw [List.getElem?_append_left (List.getElem?_eq_some_iff.mp h).1]
  exact h
theorem Gr0.sqT (g : Gr0 K H loc H1 loc1) {a : Addr} {xs : List V} (h : SqT K H a xs) : SqT K H1 a xs := by
  rcases h with (h | ⟨o, h⟩) | h
  · exact .inl (.inl (g.tup a xs h))
  · exact .inl (.inr ⟨o, g.frz a o _ h⟩)
  · exact .inr h
mutual
theorem RA.mono0 (g : Gr0 K H loc H1 loc1) : ∀ {v : V} {x : A}, RA K H loc v x → RA K H1 loc1 v x
  | _, _, .non => .non
  | _, _, .bl b => .bl b
  | _, _, .int i => .int i
  | _, _, .str s => .str s
  | _, _, .tup h l r => .tup (g.sqT h) l (RAs.mono0 g r)
  | _, _, .rol h l r => .rol (h.imp (fun ⟨o, q⟩ => ⟨o, g.frz _ o _ q⟩) id) l (RAs.mono0 g r)
  | _, _, .hd h => .hd (g.get h)
  | _, _, .fn => .fn
  | _, _, .exc h1 h2 h3 h4 l r => .exc (g.exs _ _ h1 h2).1 (g.exs _ _ h1 h2).2 (g.exs _ _ h3 h4).1 (g.exs _ _ h3 h4).2 l (RAs.mono0 g r)
  | _, _, .ex0 h1 h2 => .ex0 (g.exs _ _ h1 h2).1 (g.exs _ _ h1 h2).2
theorem RAs.mono0 (g : Gr0 K H loc H1 loc1) : ∀ {vs : List V} {xs : List A}, RAs K H loc vs xs → RAs K H1 loc1 vs xs
  | _, _, .nil => .nil
  | _, _, .cons r t => .cons (RA.mono0 g r) (RAs.mono0 g t)
end
theorem RM.mono0 {m : Mu} {o : HO} (g : Gr0 K H loc H1 loc1) (h : RM K H loc m o) : RM K H1 loc1 m o := by
  cases m with
  | lst xs =>
    obtain ⟨vs, e, l, r⟩ := h
    exact ⟨vs, e, l, r.mono0 g⟩
  | dic kvs =>
    obtain ⟨vs, e, l, r⟩ := h
    exact ⟨vs, e, l, Paired.mapP r fun p q z => ⟨z.1, z.2.mono0 g⟩⟩
  | ins C fs =>
    obtain ⟨dx, vs, e, r⟩ := h
    exact ⟨dx, vs, e, Paired.mapP r fun p q z => ⟨z.1, z.2.mono0 g⟩⟩
/-- a list outside of the store changes -/
theorem Gr0.at {D : Addr} {xs : List V} {o : HO} (h : H D = some (.lst xs)) : Gr0 K H loc (upd H D o) loc :=
  ⟨⟨[], (List.append_nil _).symm⟩, fun b xs e => by rw [upd_ne (fun z => by subst z; rw [h] at e; cases e)]; exact e, fun b ob u e => by rw [upd_ne (fun z => by subst z; rw [h] at e; cases e)]; exact e, fun b φ e n => ⟨by rw [upd_ne (fun z => by subst z; rw [h] at e; cases e)]; exact e, n⟩⟩
theorem RS.at {D : Addr} {xs : List V} {o : HO} {μ : Sto} (h : H D = some (.lst xs)) (hD : D ∉ loc) (r : RS K H loc μ) : RS K (upd H D o) loc μ :=
  ⟨r.len, r.nd, fun n m e => by
    obtain ⟨a, u, h1, h2, h3⟩ := r.at_ n m e
    exact ⟨a, u, h1, by rw [upd_ne (fun z => by subst z; exact hD (List.mem_of_getElem? h1))]; exact h2, h3.mono0 (Gr0.at h)⟩⟩
/-- from a heap that has it not -/
theorem Gr.at {D : Addr} {xs : List V} {o : HO} (h0 : H D = none) (h : H1 D = some (.lst xs)) (g : Gr K H loc H1 loc1) : Gr K H loc (upd H1 D o) loc1 :=
  ⟨g.pre, fun b ys e => by rw [upd_ne (ne_of_none e h0)]; exact g.tup b ys e, fun b ob u e => by rw [upd_ne (ne_of_none e h0)]; exact g.frz b ob u e, fun b u e n => ⟨by rw [upd_ne (ne_of_none e h0)]; exact (g.frm b u e n).1, (g.frm b u e n).2⟩⟩
theorem Gr.none0 {D : Addr} {μ : Sto} (g : Gr K H loc H1 loc1) (rs : RS K H1 loc1 μ) (h : H1 D = none) : H D = none := by
  cases e : H D with
  | none => rfl
  | some o =>
    have hn : D ∉ loc := fun hm => by
      obtain ⟨m, rfl⟩ := g.pre
      exact rs.notin h (List.mem_append_left _ hm)
    have := (g.frm D o e hn).1
    rw [h] at this
    cases this
end
theorem wipe_wipe {σ : St} {vs : List Nat} : L2.wipe (L2.wipe σ vs) vs = L2.wipe σ vs :=
  Agree.wipe (T := vs) ⟨L2.wipe_length σ vs, fun i h => L2.wipe_out h⟩ fun _ h => h
open Classical in
noncomputable def lcM (g : A → Env → M Env) (t : Env → M Bool) (elt : Env → M A) (mi : MIt) (δ : Env) : List A → M (List A)
  | [] => fun μ => if mi.still μ then .ok [] μ else .bad
  | a :: as => fun μ => if mi.still μ then bnd (noX (g a δ)) (fun δ1 => bnd (noX (t δ1)) fun k => match k with
      | true => bnd (noX (elt δ1)) fun y => bnd (noX (lcM g t elt mi δ as)) fun ys => ret (y :: ys)
      | false => lcM g t elt mi δ as) μ else .bad
/-- [elt for target in .. if ..] -/
noncomputable def compM (m : Env → M MIt) (g : A → Env → M Env) (t : Env → M Bool) (elt : Env → M A) (vs : List Nat) (δ : Env) : M (List A) := bnd (m δ) fun mi => if mi.items.length ≤ sizeLine then noX (lcM g t elt mi (wipeE δ vs) mi.items) else bad
section
variable {X : Cx} {W : WX}
theorem lc_reading {tg iter elt : Expr} {ifs : List Expr} {scope : Scope} {vs T : List Nat} {m : Env → M MIt} {g : A → Env → M Env} {t : Env → M Bool} {me : Env → M A} (hi : SI X W tg iter m) (hg : Blk X scope (fun Y => SG Y W0 T tg g)) (hT : ∀ i ∈ T, i ∈ vs)
    (ht : STs X scope ifs t) (he : Blk X scope (fun Y => SE Y W0 elt me)) :
    ∃ (gg : TG) (tt : TT) (te : TE), Blk X scope (fun Y => PG Y tg gg) ∧ Blk X scope (fun Y => PTs Y ifs tt) ∧ Blk X scope (fun Y => PE Y elt te) ∧ ∀ (σ : St) (H : Hp) (loc : List Addr) (δ : Env) (μ : Sto) (Q : VK), RE X.K H loc σ δ → RS X.K H loc μ →
      (compM m g t me vs δ μ).post (KL X H loc Q) (KX X W σ H loc) → tLc (wI X tg iter) gg tt te vs σ H Q := by
  obtain ⟨tt, ht1, ht2⟩ := ht
  refine ⟨fun v σ H Q => Blk X scope (fun Y => wG Y tg v σ H Q), tt, fun σ H Q => Blk X scope (fun Y => wE Y elt σ H Q), fun s H C cl fp => ⟨fun pins s' σ H' v u Q I r q => q s H C cl fp pins s' u I r⟩, ht1, fun s H C cl fp => ⟨fun pins s' σ H' Q I q => q s H C cl fp pins s' I⟩, fun σ H loc δ μ Q re rs q => ?_⟩
  refine hi σ H loc δ μ _ re rs (post_mono (post_bnd.mp q) (fun mi μ1 q1 J H1 loc1 g1 rs1 ok => ?_) fun _ _ z => z)
  intro D hD
  have re1 := (re.mono g1).wipe vs
  split at q1
  · rename_i hlen
    refine ⟨fun i n H2 => n = mi.items.length - i ∧ i ≤ mi.items.length ∧ ∃ loc2 μ2 acc accA, Gr X.K H1 loc1 H2 loc2 ∧ RS X.K H2 loc2 μ2 ∧ H2 D = some (.lst acc) ∧ D ∉ loc2 ∧ acc.length ≤ i ∧ RAs X.K H2 loc2 acc accA ∧
        (lcM g t me mi (wipeE δ vs) (mi.items.drop i) μ2).post (fun ys μ' => KL X H loc Q (accA ++ ys) μ') NX,
      ⟨mi.items.length, by simp, Nat.zero_le _, loc1, μ1, [], [], Gr.new hD, rs1.new hD, upd_same, rs1.notin hD, Nat.le_refl _, .nil, ?_⟩, ?_⟩
    · exact post_noX q1
    · rintro i n H2 ⟨rfl, hin, loc2, μ2, acc, accA, g2, rs2, hD2, hDn, hacc, ra, q2⟩
      by_cases hlt : i < mi.items.length
      · have hd : mi.items.drop i = mi.items[i] :: mi.items.drop (i + 1) := List.drop_eq_getElem_cons hlt
        rw [hd] at q2
        simp only [lcM] at q2
        split at q2
        · rename_i st
          obtain ⟨_, hyl⟩ := ok H2 loc2 μ2 g2 rs2 st
          obtain ⟨go, hy⟩ := hyl i mi.items[i] (List.getElem?_eq_getElem hlt)
          refine .inr ⟨go, fun H' => ∃ loc' μ' acc' accA', Gr X.K H1 loc1 H' loc' ∧ RS X.K H' loc' μ' ∧ H' D = some (.lst acc') ∧ D ∉ loc' ∧ acc'.length ≤ i + 1 ∧ RAs X.K H' loc' acc' accA' ∧
              (lcM g t me mi (wipeE δ vs) (mi.items.drop (i + 1)) μ').post (fun ys μ' => KL X H loc Q (accA' ++ ys) μ') NX,
            fun H' ⟨loc', μ', acc', accA', a1, a2, a3, a4, a5, a6, a7⟩ => ⟨mi.items.length - (i + 1), by omega, rfl, hlt, loc', μ', acc', accA', a1, a2, a3, a4, a5, a6, a7⟩, fun v H' y => ?_⟩
          obtain ⟨g3, rs3, rv⟩ := hy v H' y
          have g13 := g2.trans g3
          intro s0 H0 C cl fp
          refine hg s0 H0 C cl fp (L2.wipe σ vs) H' loc2 (wipeE δ vs) μ2 v _ _ (re1.mono g13) rs3 rv (post_noX (post_mono (post_bnd.mp q2) (fun δ3 μ3 q3 σ3 H3 loc3 g4 rs4 re4 ag => ?_) fun _ _ z => z))
          refine ⟨?_, ?_⟩
          · have e1 := ag.wipe hT
            rw [e1, wipe_wipe]
          · have g24 := g3.trans g4
            refine ht2 σ3 H3 loc3 δ3 μ3 _ re4 rs4 (post_noX (post_mono (post_bnd.mp q3) (fun k μ4 q4 H4 loc4 g5 rs5 => ?_) fun _ _ z => z))
            have g25 := g24.trans g5
            obtain ⟨hD4, hDn4⟩ := g25.frm D _ hD2 hDn
            cases k with
            | false =>
              show (if false = true then _ else _)
              rw [if_neg Bool.false_ne_true]
              exact ⟨loc4, μ4, acc, accA, g2.trans g25, rs5, hD4, hDn4, Nat.le_succ_of_le hacc, ra.mono g25, q4⟩
            | true =>
              show (if true = true then _ else _)
              rw [if_pos rfl]
              intro s1 H1' C1 cl1 fp1
              refine he s1 H1' C1 cl1 fp1 σ3 H4 loc4 δ3 μ4 _ (re4.mono g5) rs5 (post_noX (post_mono (post_bnd.mp q4) (fun y' μ5 q5 w H5 loc5 g6 rs6 rw' => ?_) fun _ _ z => z))
              obtain ⟨hD5, hDn5⟩ := g6.frm D _ hD4 hDn4
              refine ⟨acc, hD5, Nat.lt_of_le_of_lt hacc (Nat.lt_of_lt_of_le hlt hlen), loc5, μ5, acc ++ [w], accA ++ [y'], ?_⟩
              have g26 := (g2.trans g25).trans g6
              refine ⟨g26.at hD hD5, RS.at hD5 hDn5 rs6, upd_same, hDn5, by rw [List.length_append]; exact Nat.succ_le_succ hacc, ((ra.mono (g25.trans g6)).append (.cons rw' .nil)).mono0 (Gr0.at hD5), ?_⟩
              refine post_mono (post_noX (post_bnd.mp q5)) (fun ys μ' z => ?_) fun _ _ z => z
              show KL X H loc Q (accA ++ [y'] ++ ys) μ'
              rw [List.append_assoc]
              exact z
        · exact q2.elim
      · have e : i = mi.items.length := by omega
        subst e
        rw [List.drop_eq_nil_of_le (Nat.le_refl _)] at q2
        simp only [lcM] at q2
        split at q2
        · rename_i st
          obtain ⟨stop, _⟩ := ok H2 loc2 μ2 g2 rs2 st
          refine .inl ⟨stop, ?_⟩
          have q3 : KL X H loc Q (accA ++ []) μ2 := q2
          rw [List.append_nil] at q3
          have hDH : H D = none := g1.none0 rs1 hD
          exact q3 D acc H2 loc2 (g1.trans g2) rs2 hDH hD2 hDn (Nat.le_trans hacc hlen) ra
        · exact q2.elim
  · exact q1.elim
variable {tg iter elt : Expr} {ifs : List Expr} {scope : Scope} {own : List (Str × Nat)} {T : List Nat} {m : Env → M MIt} {g : A → Env → M Env} {t : Env → M Bool} {me : Env → M A} {pos : Pos}
theorem se_lc (hc : X.calm = true) (hN : X.N.Nodup) (hi : SI X W tg iter m) (ok : BlkOk X.N X.env.scope scope own) (hg : Blk X scope (fun Y => SG Y W0 T tg g)) (hT : ∀ i ∈ T, i ∈ own.map (·.2))
    (ht : STs X scope ifs t) (he : Blk X scope (fun Y => SE Y W0 elt me)) (hs : ∀ x, foldedSetIterable iter X.env x = pure x := by intro _; rfl) : SL X W (.ListComp elt [⟨tg, iter, ifs, 0⟩] scope pos) (compM m g t me (own.map (·.2))) := fun σ H loc δ μ Q re rs q => by
  obtain ⟨gg, tt, te, h1, h2, h3, h4⟩ := lc_reading hi hg hT ht he
  exact wE_of (pe_lc hc hN pwI ok h1 h2 h3 hs) (h4 σ H loc δ μ Q re rs q)
theorem ss_setLc (i : Nat) {y : Str} {py spos : Pos} (hc : X.calm = true) (hN : X.N.Nodup) (hi : SI X W tg iter m) (ok : BlkOk X.N X.env.scope scope own) (hg : Blk X scope (fun Y => SG Y W0 T tg g)) (hT : ∀ i ∈ T, i ∈ own.map (·.2))
    (ht : STs X scope ifs t) (he : Blk X scope (fun Y => SE Y W0 elt me)) (hy : X.N[i]? = some y := by rfl) (hyl : X.env.scope.names.lookup y = some .local := by rfl)
    (hsw : swapsWith (.ListComp elt [⟨tg, iter, ifs, 0⟩] scope pos) (some (.Name y py)) spos.line X.env = pure true := by rfl) (hs : ∀ x, foldedSetIterable iter X.env x = pure x := by intro _; rfl) :
    SS X W (.Assign [.Name y py] (.ListComp elt [⟨tg, iter, ifs, 0⟩] scope pos) spos) (fun δ => inS (compM m g t me (own.map (·.2)) δ) δ fun as => bnd (lstF as) fun a => ret (.nx (δ.set i (some a)))) := fun σ H loc δ μ D re rs q => by
  obtain ⟨gg, tt, te, h1, h2, h3, h4⟩ := lc_reading hi hg hT ht he
  refine wS_of (ps_setLc hc hN hy hyl hsw pwI ok h1 h2 h3 hs) ?_
  refine h4 σ H loc δ μ _ re rs (post_mono (post_inS q) (fun as μ1 q1 p vs H1 loc1 g1 rs1 hn hp hnl hl ra => ?_) fun _ _ z => KF.kx re z)
  have hm : RM X.K H1 loc1 (.lst as) (.lst vs) := ⟨vs, rfl, hl, ra⟩
  have gA := g1.adopt hn
  exact q1 (σ.set i (some (.ref p))) H1 (loc1 ++ [p]) gA (rs1.adopt hp hnl hm) ((re.mono gA).set (.hd (at_end_of rs1)))
end
end Lt

/-! Lt8: exceptions as values. -/
namespace PySem.W
open PySem PySem.Spec PySem.Calls PyProof.Rows
section
variable {prog : Program} {w : World} {A : Around} {E : Value → Shared → Prop} {s : Shared} {K : Frag} {x D : Addr} {ox : Obj}
theorem lt_findData {C : Addr} {od : Option Obj} {name : Str} {a g : Value} (hc : (clsIn K C).isSome = true) (ha : findIn K (.ref C) name = some (some a)) (hg : specialIn K a "__get__" = some (some g)) (ht : takesIn K a = some true) : findObj K C od name = some (.bind g a) := by
  obtain ⟨cd, hc⟩ := Option.isSome_iff_exists.mp hc
  unfold findObj
  rw [hc, Option.bind_some, ha, Option.bind_some]
  simp [hg, ht]
theorem lt_classE {od : Option Obj} {Q : Option Value → Shared → Prop} (hga : findIn K (.ref D) "__getattribute__" = some (some (.builtin "BaseException.__getattribute__"))) (hgt : findIn K (.ref D) "__getattr__" = some none) (hsub : subIn K (.ref D) (.type "BaseException") = some true)
    (hdct : hasDictIn K D = true) (ha : findIn K (.ref D) "__class__" = some (some (.builtin "object.__class__")))
    (hn : specialIn K (.builtin "object.__class__") "__get__" = some (some (.builtin "getset_descriptor.__get__"))) (htk : takesIn K (.builtin "object.__class__") = some true) (hm : mroIn K D (.type "object") = some true)
    (X : K.In s.heap) (I : InstAt s.heap x ox D od) (h : Q (some (.ref D)) { s with toks := s.toks + 1 }) : wpAny (model prog w) A (getAttr? (.ref x) "__class__") Q E s := by
  have hf : findObj K D od "__class__" = some (.bind (.builtin "getset_descriptor.__get__") (.builtin "object.__class__")) := lt_findData (by obtain ⟨cd, hc, _⟩ := any_some hdct; rw [hc]; rfl) ha hn htk
  obtain ⟨hp, g, d, t, os⟩ := s
  have L0 := I.type (M := model prog w)
  have L1 := looks_findIn (M := model prog w) X hga
  have L2 := looks_findIn (M := model prog w) X hgt
  have L3 := looks_find (M := model prog w) X I hf
  have sub : Looks (model prog w) hp (isInstance (.ref x) (.type "BaseException")) true := L0.andThen (looks_subIn X hsub)
  have hx0 : (false && onTheHeap (Value.builtin "BaseException.__getattribute__")) = false := rfl
  have hx2 : (Value.builtin "BaseException.__getattribute__" == Value.builtin "object.__getattribute__") = false := by decide +kernel
  have hx1 : (onTheHeap (Value.ref D) && Value.builtin "BaseException.__getattribute__" == Value.builtin "object.__getattribute__") = false := by rw [hx2]; rfl
  unfold getAttr? getAttrBy? getAttrBy
  refine wpAny_bind (wpAny_mkText (wpAny_bind (wpAny_attempt (wpAny_holding (wpAny_bind (L0.at (wpAny_bind (L1.at ?_))))))))
  show wpAny _ _ (if (onTheHeap (Value.ref D) && Value.builtin "BaseException.__getattribute__" == Value.builtin "object.__getattribute__") = true then _ else _) _ _ _
  rw [hx1, if_neg Bool.false_ne_true]
  unfold getAttrByItsOwn hookBefore
  refine wpAny_bind ?_
  rw [if_pos (show onTheHeap (Value.ref D) = true from rfl)]
  refine L2.at ?_
  refine wpAny_bind (wpAny_attempt (wpAny_holding ?_))
  unfold callGetattribute
  rw [hx0, if_neg Bool.false_ne_true]
  unfold boundAndCalled
  rw [PySem.F.excAttr_ValueError.ga.bind (.ref x)]
  refine wpAny_bind (wpAny_pure ?_)
  show wpAny _ _ (call (.builtin "BaseException.__getattribute__") [.ref x, .str "__class__" t]) _ _ _
  refine wpAny_call (codeAny_call_builtin PySem.F.excAttr_ValueError.ga.plain PySem.F.entry_bexc_ga ?_)
  refine @check_slot (model prog w) _ _ ⟨hp, g, d, t + 1, os⟩ "BaseException.__getattribute__" "BaseException" "__getattribute__" (.ref x) [.str "__class__" t] [] _ (by decide +kernel) (by decide +kernel) sub (PySem.F.args_bexc_ga (.ref x) (.str "__class__" t)) ?_
  unfold Builtin.«object.__getattribute__»
  refine wpAny_bind (wpAny_of_eq (a := ((Value.ref x : Value), [Value.str "__class__" t])) (by first | rfl | (simp only [slotArgs]; rfl)) ?_)
  refine wpAny_bind (wpAny_pure (wpAny_bind (L0.at (wpAny_bind (L3.at ?_)))))
  show wpAny _ _ (holding [Value.builtin "object.__class__"] (call (.builtin "getset_descriptor.__get__") [.builtin "object.__class__", .ref x, .ref D]) >>= ret) _ _ _
  refine wpAny_bind (wpAny_holding (wpAny_call (class_get (s := ⟨hp, g, d, t + 1, os⟩) (ox := ox) (od := od) X I hm ?_)))
  refine wpAny_pure ?_
  show wpAny _ _ (handedOut (.ref D)) _ _ _
  rw [handedOut_of (v := .ref D) rfl]
  first
    | exact wpAny_pure (wpAny_pure h)
    | exact wpAny_pure h
    | exact wpAny_pure (wpAny_bind (wpAny_pure (wpAny_pure h)))
theorem lt_kitx_exc {od : Option Obj} (hga : findIn K (.ref D) "__getattribute__" = some (some (.builtin "BaseException.__getattribute__"))) (hgt : findIn K (.ref D) "__getattr__" = some none) (hsub : subIn K (.ref D) (.type "BaseException") = some true) (hdct : hasDictIn K D = true) (ha : findIn K (.ref D) "__class__" = some (some (.builtin "object.__class__")))
    (hn : specialIn K (.builtin "object.__class__") "__get__" = some (some (.builtin "getset_descriptor.__get__"))) (htk : takesIn K (.builtin "object.__class__") = some true) (hm : mroIn K D (.type "object") = some true) :
    KitX K (.ref x) (.ref D) (fun h => InstAt h x ox D od) where
  ty := fun _ _ _ I => I.type
  it := fun _ _ X _ => by
    obtain ⟨cdD, hcD, _⟩ := any_some hdct
    unfold clsIn at hcD
    split at hcD
    · rename_i c' d' cd' sl' ho
      intro A' Q' E' s' k q
      unfold isType loadHead
      exact wpAny_bind (wpAny_loadPart (k _ _ (X _ _ ho)) (wpAny_pure q))
    · cases hcD
  ne := fun h tp dd its n sl X htp => by
    obtain ⟨cdD, hcD, _⟩ := any_some hdct
    refine Bool.eq_false_iff.mpr fun q => ?_
    have e : D = tp := Value.ref.inj (beq_iff_eq.mp q)
    subst e
    unfold clsIn at hcD
    split at hcD
    · rename_i c' d' cd' sl' ho
      have z := (X _ _ ho).symm.trans htp
      cases z
    · cases hcD
  ca := fun X I k => lt_classE hga hgt hsub hdct ha hn htk hm X I k
end
end PySem.W
namespace Lt
open PySem PySem.Spec PyProof.Rows L2
/-- at a: an exception of class D, as a value -/
def IsX (H : Hp) (a D : Addr) : Prop := H a = some (ExO (.ref D) a) ∨ ∃ d fs, H a = some (exo a D (some d)) ∧ H d = some (exd d fs)
theorem exO_at {P : Program} {w : World} {H : Hp} {h : Heap} {a : Addr} {cls : Value} (hok : HOk P w H h) (e : H a = some (ExO cls a)) : ∃ (oe : Obj) (vs : Array Value), h.get? a = some oe ∧ Zc cls none oe ∧ oe.data = .fields vs := by
  have x : ObjOk P w H h a (.ext fun h => ∃ (oe : Obj) (vs : Array Value), h.get? a = some oe ∧ Zc cls none oe ∧ oe.data = .fields vs ∧ vs[1]? = some .none ∧ vs[2]? = some .none ∧ 4 < vs.size) := hok a _ e
  obtain ⟨oe, vs, h1, h2, h3, _⟩ := x.1
  exact ⟨oe, vs, h1, h2, h3⟩
theorem isX_inst {P : Program} {w : World} {H : Hp} {h : Heap} {a D : Addr} (hok : HOk P w H h) (e : IsX H a D) : ∃ ox od, PySem.W.InstAt h a ox D od := by
  rcases e with e | ⟨d, fs, e, ed⟩
  · obtain ⟨oe, vs, h1, h2, h3⟩ := exO_at hok e
    exact ⟨oe, none, h1, h2.1, by unfold PySem.W.notCls; rw [h3] <;> rfl, by rw [h2.2]; trivial⟩
  · obtain ⟨t1, h1⟩ := exo_at hok e
    obtain ⟨mA, hns, _⟩ := exd_at hok ed
    obtain ⟨od, ho, _⟩ := lookIn_ns hns
    exact ⟨_, some od, h1, rfl, rfl, ho⟩
def rIsX (K : PySem.W.Frag) : List V → Hp → VK → Prop := fun xs H Q => ∃ (a D : Addr) (c : V) (cv : Value) (b : Bool), xs = [.ref a, c] ∧ (∀ u, RelV c u → u = cv) ∧ ExcC K D ∧ IsX H a D ∧ PySem.W.kitOne K (.ref D) cv = some b ∧ Q (.bl b) H
theorem call_isX {X : Cx} : CallR X (.builtin "isinstance") (rIsX X.K) := by
  intro pins s σ H xs us Q I r h
  obtain ⟨a, D, c, cv, b, rfl, hcv, C, hx, e, q⟩ := h
  obtain ⟨u1, u2, rfl, r1, r2⟩ := vals2 r
  have ec := hcv _ r2
  subst ec
  obtain rfl : u1 = Value.ref a := r1
  obtain ⟨ox, od, J⟩ := isX_inst I.hok hx
  exact PySem.W.kia_one (PySem.W.lt_kitx_exc C.hg C.hk C.hs C.hd C.ha C.hn C.ht C.hm) I.kIn J e (fun z => nomatch z) fun tk => ⟨.bl b, H, I.tok tk, rfl, q⟩
/-- isinstance of an exception: what each class answers -/
def isxA (sub : Addr → Option Bool) (a : A) : M A := match a with
  | .exc D _ _ => bnd (optM (sub D)) fun b => ret (.bl b)
  | _ => bad
theorem RA.isX {K : PySem.W.Frag} {H : Hp} {loc : List Addr} {v : V} {D : Addr} {ns : List Str} {xs : List A} (r : RA K H loc v (.exc D ns xs)) : ∃ a, v = .ref a ∧ IsX H a D := by
  cases r with
  | exc h1 _ h3 _ _ _ => exact ⟨_, rfl, .inr ⟨_, _, h1, h3⟩⟩
  | ex0 h1 _ => exact ⟨_, rfl, .inl h1⟩
section
variable {X : Cx} {W : WX}
/-- isinstance(e, C), e an exception, C an own class -/
theorem se_isX (sub : Addr → Option Bool) {xT : Str} {C : Addr} {e : Expr} {m : Env → M A} {p pT pos : Pos} (hs : ∀ D b, sub D = some b → ExcC X.K D ∧ PySem.W.kitOne X.K (.ref D) (.ref C) = some b) (hm : X.mg "isinstance" = none) (hmT : X.mg xT = some (.ref C)) (h : SE X W e m) (hg : Gl X "isinstance" := by rfl) (hgT : Gl X xT := by rfl) (hdT : (xT == ("__debug__" : Str)) = false := by decide +kernel)
    (he : starEach [e, .Name xT pT] X.env = (false, eval e X.env) :: starEach [.Name xT pT] X.env := by rfl) (hpl : (backTo pos (starEach [.Name xT pT] X.env)).any (·.1) = false := by rfl) (he2 : starEach [Expr.Name xT pT] X.env = (false, eval (.Name xT pT) X.env) :: starEach [] X.env := by rfl) :
    SE X W (.Call (.Name "isinstance" p) [e, .Name xT pT] [] pos) (fun δ => bnd (m δ) (isxA sub)) := fun σ H loc δ μ Q re rs q => by
  refine wE_of (pe_callB call_isX hg hm PyProof.Rows.boot_isinstance (pa_cons pwE (pa_cons (pe_glob (v := .ref C) hgT hmT (by first | rfl | exact rfl) hdT) pa_nil he2) he) (he := he) (hpl := hpl)) ?_
  refine h.go re rs q fun v x H1 loc1 μ1 g1 rs1 rv re1 q1 => ?_
  unfold isxA at q1
  split at q1
  · rename_i D ns xs
    obtain ⟨b, eb, q2⟩ := post_opt (post_bnd.mp q1)
    obtain ⟨a, ev, hx⟩ := rv.isX
    subst ev
    obtain ⟨h1, h2⟩ := hs D b eb
    exact ⟨a, D, .ref C, .ref C, b, rfl, fun u z => z, h1, hx, h2, q2 _ H1 loc1 g1 rs1 (.bl b)⟩
  · exact q1.elim
/-- isinstance(e, T), e an exception, T a built-in class -/
theorem se_isXB (T : String) (sub : Addr → Option Bool) {xT : Str} {e : Expr} {m : Env → M A} {p pT pos : Pos} (hs : ∀ D b, sub D = some b → ExcC X.K D ∧ PySem.W.kitOne X.K (.ref D) (.type T) = some b) (hm : X.mg "isinstance" = none) (hmT : X.mg xT = none) (hvT : bootBuiltins xT = some (.type T)) (h : SE X W e m) (hg : Gl X "isinstance" := by rfl) (hgT : Gl X xT := by rfl) (hnT : xT ≠ "__name__" := by decide +kernel) (hdT : (xT == ("__debug__" : Str)) = false := by decide +kernel)
    (he : starEach [e, .Name xT pT] X.env = (false, eval e X.env) :: starEach [.Name xT pT] X.env := by rfl) (hpl : (backTo pos (starEach [.Name xT pT] X.env)).any (·.1) = false := by rfl) (he2 : starEach [Expr.Name xT pT] X.env = (false, eval (.Name xT pT) X.env) :: starEach [] X.env := by rfl) :
    SE X W (.Call (.Name "isinstance" p) [e, .Name xT pT] [] pos) (fun δ => bnd (m δ) (isxA sub)) := fun σ H loc δ μ Q re rs q => by
  refine wE_of (pe_callB call_isX hg hm PyProof.Rows.boot_isinstance (pa_cons pwE (pa_cons (pe_bltn (v := .ty T) hgT hmT hvT rfl hnT hdT) pa_nil he2) he) (he := he) (hpl := hpl)) ?_
  refine h.go re rs q fun v x H1 loc1 μ1 g1 rs1 rv re1 q1 => ?_
  unfold isxA at q1
  split at q1
  · rename_i D ns xs
    obtain ⟨b, eb, q2⟩ := post_opt (post_bnd.mp q1)
    obtain ⟨a, ev, hx⟩ := rv.isX
    subst ev
    obtain ⟨h1, h2⟩ := hs D b eb
    exact ⟨a, D, .ty T, .type T, b, rfl, fun u z => z, h1, hx, h2, q2 _ H1 loc1 g1 rs1 (.bl b)⟩
  · exact q1.elim
end
/-- e.f -/
def tXfV (K : PySem.W.Frag) (n : Str) (te : TE) : TE := fun σ H Q => te σ H fun x H1 => ∃ (a D d : Addr) (fs : List (Str × V)) (v : V), x = .ref a ∧ XfC K D ∧ PySem.W.findIn K (.ref D) n = some none ∧ H1 a = some (exo a D (some d)) ∧ H1 d = some (exd d fs) ∧ fs.lookup n = some v ∧ Q v H1
theorem pe_xfV {X : Cx} {e : Expr} {te : TE} {pos : Pos} {n : Str} (he : PE X e te) (hb : attributeBase e n X.env (eval e X.env) = eval e X.env := by rfl) : PE X (.Attribute e n pos) (tXfV X.K n te) := by
  refine ⟨fun pins s σ H Q I h => ?_⟩
  refine attr_of hb (thn (he.run pins s σ H _ I h) fun u s1 hh => ?_)
  obtain ⟨x, H1, I1, rx, a, D, d, fs, v, ex, T, hno, ea, ed, l, q⟩ := hh
  subst ex
  obtain rfl : u = Value.ref a := rx
  obtain ⟨t1, h1⟩ := exo_at I1.hok ea
  obtain ⟨mA, hns, hr⟩ := exd_at I1.hok ed
  obtain ⟨od, ho, hl⟩ := lookIn_ns hns
  obtain ⟨u, hu, ru⟩ := RelO.some_of (v := v) (o := mA n) (by rw [← l]; exact hr n)
  have J : PySem.W.InstAt s1.heap a _ D (some od) := ⟨h1, rfl, rfl, ho⟩
  exact HandSPX.exc_get I1.kIn J T.ga T.gg T.exC (PySem.W.findObj_own T.hdC hno rfl (by rw [hl, hu])) (handed_of ru) ⟨v, H1, I1.tok _, ru, q⟩
def lookN (n : Str) : List Str → List A → Option A
  | m :: ns, x :: xs => if n == m then some x else lookN n ns xs
  | _, _ => none
theorem lookN_ok {K : PySem.W.Frag} {H : Hp} {loc : List Addr} {n : Str} : ∀ {ns : List Str} {vs : List V} {xs : List A} {x : A}, RAs K H loc vs xs → lookN n ns xs = some x → ∃ v, (ns.zip vs).lookup n = some v ∧ RA K H loc v x
  | [], _, _, _, _, e => by simp [lookN] at e
  | _ :: _, _, _, _, .nil, e => by simp [lookN] at e
  | m :: ns, v :: vs, y :: ys, x, .cons r t, e => by
    unfold lookN at e
    by_cases h : (n == m) = true
    · rw [if_pos h] at e
      cases e
      refine ⟨v, ?_, r⟩
      show List.lookup n ((m, v) :: ns.zip vs) = _
      unfold List.lookup
      rw [h]
    · rw [if_neg h] at e
      obtain ⟨w, h1, h2⟩ := lookN_ok t e
      refine ⟨w, ?_, h2⟩
      show List.lookup n ((m, v) :: ns.zip vs) = _
      unfold List.lookup
      rw [Bool.eq_false_iff.mpr h]
      exact h1
/-- a field of an exception, D of the classes ok -/
def xfA (ok : Addr → Bool) (n : Str) (a : A) : M A := match a with
  | .exc D ns xs => if ok D = true then optM (lookN n ns xs) else bad
  | _ => bad
section
variable {X : Cx} {W : WX}
theorem se_xf (ok : Addr → Bool) {n : Str} {e : Expr} {m : Env → M A} {pos : Pos} (hok : ∀ D, ok D = true → XfC X.K D ∧ PySem.W.findIn X.K (.ref D) n = some none) (h : SE X W e m) (hb : attributeBase e n X.env (eval e X.env) = eval e X.env := by rfl) : SE X W (.Attribute e n pos) (fun δ => bnd (m δ) (xfA ok n)) := fun σ H loc δ μ Q re rs q => by
  refine wE_of (pe_xfV pwE hb) ?_
  refine h.go re rs q fun v x H1 loc1 μ1 g1 rs1 rv re1 q1 => ?_
  unfold xfA at q1
  split at q1
  · rename_i D ns xs
    split at q1
    · rename_i hD
      obtain ⟨T, hno⟩ := hok D hD
      obtain ⟨y, ey, q2⟩ := post_opt q1
      cases rv with
      | exc h1 h2 h3 h4 h5 h6 =>
        obtain ⟨w, l1, l2⟩ := lookN_ok h6 ey
        exact ⟨_, D, _, _, w, rfl, T, hno, h1, h3, l1, q2 w H1 loc1 g1 rs1 l2⟩
      | ex0 h1 h2 => simp [lookN] at ey
    · exact q1.elim
  · exact q1.elim
end
/-! ### making -/
/-- B.__init__(self, ..), B an own class over ValueError -/
theorem pe_oinit {X : Cx} {e : Expr} {es : List Expr} {ta : TA} {B : Addr} {x : Str} {p1 p2 pos : Pos} {pl : Sem Bool} (hg : Gl X x) (hm : X.mg x = some (.ref B)) (hs : PySem.W.specialIn X.K (.ref B) "__getattribute__" = some (some (.builtin "type.__getattribute__"))) (hr : PySem.W.readsIn X.K B (.type "type") = true)
    (vV : PySem.W.findCls X.K (.ref B) (.type "type") "__init__" = some (.val (.builtin "ValueError.__init__"))) (ha : PA X (e :: es) ta)
    (hc : eval (.Call (.Attribute (.Name x p1) "__init__" p2) (e :: es) [] pos) X.env = (do
      let ov ← eval (.Name x p1) X.env
      standAt p2.atName
      let (f, first) ← holding [ov] (getMethod ov "__init__" pl)
      callWith pos f first (backTo pos (starEach (e :: es) X.env)) (backToKw pos (keywordEach [] X.env))) := by rfl)
    (hdb : (x == ("__debug__" : Str)) = false := by decide +kernel)
    (he : starEach (e :: es) X.env = (false, eval e X.env) :: starEach es X.env := by rfl) (hpl : (backTo pos (starEach es X.env)).any (·.1) = false := by rfl) :
    PE X (.Call (.Attribute (.Name x p1) "__init__" p2) (e :: es) [] pos) (tVeI X.K ta) := by
  refine ⟨fun pins s σ H Q I h => ?_⟩
  refine PySem.W.methodCall_KW (ld_glob I hg hm ?_ hdb) hc
  refine PySem.W.method_cls I.kIn hs ?_
  refine PySem.W.cls_value I.kIn hr vV (by decide +kernel) ?_
  show wpAny _ _ (callWith pos (Value.builtin "ValueError.__init__") [] (backTo pos (starEach (e :: es) X.env)) []) _ _ _
  refine PyProof.Rows.callWith_method1 (thn (ha.run pos pins _ σ H _ (I.tok _) h) fun us s1 ⟨vs, H1, I1, r1, a, C, ws, ev, hl, T, ea, q⟩ => ?_) he hpl
  subst ev
  cases r1 with
  | @cons _ u0 _ ur ra rw' =>
    obtain rfl : u0 = Value.ref a := ra
    have hlen : ur.length ≤ sizeLine := by
      rw [← Paired.length rw', sizeLine_eq]
      omega
    exact oinit_ok T I1 ea hlen fun s' J => ⟨.non, H1, J, rfl, q⟩
/-- what C's __init__ (self, y) does: it sets f -/
def spInit (K : PySem.W.Frag) (f : Str) : Sp := fun vs H Q _ => ∃ (a C : Addr) (y : V), vs = [.ref a, y] ∧ OexC K C ∧ PySem.W.findIn K (.ref C) f = some none ∧ H a = some (exo a C none) ∧ ∀ dx, H dx = none → dx ≠ a → Q .non (upd (upd H dx (exd dx [(f, y)])) a (exo a C (some dx)))
/-- C(e, ..) as a value -/
def tMkV (C : Addr) (sp : Sp) (ta : TA) : TE := fun σ H Q => ta σ H fun vs H1 => vs.length ≤ 1000 ∧ ∀ a, H1 a = none → sp (.ref a :: vs) (upd H1 a (exo a C none)) (fun v H2 => v = .non ∧ Q (.ref a) H2) (fun _ _ _ => False)
theorem pe_mkV {X : Cx} {CX : CXT} {x : Str} {C fI : Addr} {k : Nat} {fd : FuncData} {ps : List Str} {sp : Sp} {e : Expr} {es : List Expr} {ta : TA} {p pos : Pos} (T : OexC X.K C) (iC : PySem.W.findIn X.K (.ref C) "__init__" = some (some (.ref fI))) (tI : PySem.W.typeIn X.K (.ref fI) = some (.type "function"))
    (F1 : FnOk X.prog X.w X.K X.mg X.base CX k fI fd ps sp) (hr : Room (k + 1) X.A) (hb : Binds X.K fd ps []) (hx : Passes CX X (fun _ _ _ => False)) (hg : Gl X x) (hm : X.mg x = some (.ref C)) (ha : PA X (e :: es) ta)
    (hdb : (x == ("__debug__" : Str)) = false := by decide +kernel) (he : starEach (e :: es) X.env = (false, eval e X.env) :: starEach es X.env := by rfl) (hpl : (backTo pos (starEach es X.env)).any (·.1) = false := by rfl) :
    PE X (.Call (.Name x p) (e :: es) [] pos) (tMkV C sp ta) := by
  refine ⟨fun pins s σ H Q I h => ?_⟩
  obtain ⟨nm, q, N, bs, bm, sn, sub, ab, col, dd, k0, k1, k2, k3, k5, hC, hbm⟩ := T.cls
  refine wpAny_Call_Name_kw (ld_glob I hg hm ?_ hdb)
  refine PySem.W.callWith_K (h₀ := X.base) I.ok.mod.kin T.kC (thn (ha.run pos pins s σ H _ I h) fun us s1 ⟨vs, H1, I1, r1, hz, q1⟩ => ⟨I1.kIn, ?_⟩) he hpl
  show wpAny _ _ (call (.ref C) us) _ _ _
  obtain ⟨hp, g, dr, tk, os⟩ := s1
  have hsz : hp.objs.size ≤ hp.objs.size + 1 := Nat.le_succ _
  have hn : H1 (hp.objs.size + 1) = none := I1.hok.fresh hsz
  have hq := q1 (hp.objs.size + 1) hn
  have kk : ∀ b o, hp.get? b = some o → ((hp.push (PySem.W.kdv_tup us)).push (PySem.HandSPX.excO C hp.objs.size)).get? b = some o := fun b o e => Heap.get?_push_of_some _ (Heap.get?_push_of_some _ e)
  have hget : ((hp.push (PySem.W.kdv_tup us)).push (PySem.HandSPX.excO C hp.objs.size)).get? (hp.objs.size + 1) = some (PySem.HandSPX.excO C hp.objs.size) := by heap_get
  have I2 : Inv X pins σ (upd H1 (hp.objs.size + 1) (exo (hp.objs.size + 1) C none)) ⟨(hp.push (PySem.W.kdv_tup us)).push (PySem.HandSPX.excO C hp.objs.size), g, dr, tk, os⟩ :=
    I1.laid (t' := tk) (a := hp.objs.size + 1) (o := exo (hp.objs.size + 1) C none) (h' := (hp.push (PySem.W.kdv_tup us)).push (PySem.HandSPX.excO C hp.objs.size)) kk hsz (exo_ok hget)
  have r2 : Vals (V.ref (hp.objs.size + 1) :: vs) (Value.ref (hp.objs.size + 1) :: us) := .cons rfl r1
  have hl : (Value.ref (hp.objs.size + 1) :: us).length = ps.length := by
    have e := r2.length
    rw [F1.len _ _ _ _ hq] at e
    exact e.symm
  have hus : us.length ≤ sizeLine := by
    rw [← Paired.length r1, sizeLine_eq]
    omega
  have hb' := hb _ (Value.ref (hp.objs.size + 1) :: us) I2.kIn (by rw [List.append_nil]; exact hl)
  rw [List.append_nil] at hb'
  refine wpAny_call (PySem.HandSPX.call_own F.excBase_ValueError (fun Y => PySem.HandSPX.refsVE_contains Y bm hbm) (I1.kIn _ _ hC) (PySem.W.looks_findIn I1.kIn iC) (fun self => PySem.W.bind_fn I1.kIn self tI) hus
    (codeAny_mono (F1.run _ X.stack _ _ ⟨Value.ref (hp.objs.size + 1) :: us, []⟩ (Value.ref (hp.objs.size + 1) :: us) _ _ (fun _ _ _ => False) (hr.make C us []) (I2.env0.make C us []) hb' r2 hq) fun r s' hq' => ?_))
  cases r with
  | error er => exact hx pins σ _ _ er s' I2 hq'
  | ok fl =>
    cases fl with
    | ret u =>
      obtain ⟨v, H2, os2, bare2, un2, hok2, rv, ev, q2⟩ := hq'
      subst ev
      obtain ⟨h2, g2, d2, t2, os'⟩ := s'
      exact ⟨rv, .ref (hp.objs.size + 1), H2, I2.call' (ch := []) os2 un2 hok2 bare2 (fun b z => absurd z (by simp)), rfl, q2⟩
    | next => exact False.elim hq'
    | brk => exact False.elim hq'
    | cont => exact False.elim hq'
end Lt

/-! Lt9: methods by name, exceptions made, the defs of a text together, the end. -/
namespace Lt
open PySem PySem.Spec PyProof.Rows L2
section
variable {X : Cx} {W : WX} {o e : Expr} {mo me : Env → M A} {apos pos : Pos}
theorem se_append (ho : SE X W o mo) (he : SE X W e me)
    (hbase : attributeBase o "append" X.env (eval o X.env) = eval o X.env := by rfl)
    (hfew : ((backTo pos (starEach [e] X.env)).all (fun x => !x.1) && (backToKw pos (keywordEach [] X.env)).all (fun x => x.1.isSome)
      && decide (([e] : List Expr).length + ([] : List Keyword).length + (if ([] : List Keyword).isEmpty then 0 else 1) < 30)) = true := by rfl)
    (hline : (apos.endLine == pos.line) = true := by rfl) (hs : starEach [e] X.env = (false, eval e X.env) :: starEach [] X.env := by rfl) (hplain : (backTo pos (starEach [] X.env)).any (·.1) = false := by rfl) :
    SE X W (.Call (.Attribute o "append" apos) [e] [] pos) (fun δ => bnd (mo δ) fun a => bnd (itemsL a) fun _ => bnd (bnd (me δ) fun x => bnd (ret []) fun xs => ret (x :: xs)) fun as => appendA a as) :=
  se_lm PySem.F.slot_list_append PySem.F.type_list_append mt_append sm_append ho (sa_cons he sa_nil hs) hbase hfew hline hs hplain
theorem se_extend (ho : SE X W o mo) (he : SE X W e me)
    (hbase : attributeBase o "extend" X.env (eval o X.env) = eval o X.env := by rfl)
    (hfew : ((backTo pos (starEach [e] X.env)).all (fun x => !x.1) && (backToKw pos (keywordEach [] X.env)).all (fun x => x.1.isSome)
      && decide (([e] : List Expr).length + ([] : List Keyword).length + (if ([] : List Keyword).isEmpty then 0 else 1) < 30)) = true := by rfl)
    (hline : (apos.endLine == pos.line) = true := by rfl) (hs : starEach [e] X.env = (false, eval e X.env) :: starEach [] X.env := by rfl) (hplain : (backTo pos (starEach [] X.env)).any (·.1) = false := by rfl) :
    SE X W (.Call (.Attribute o "extend" apos) [e] [] pos) (fun δ => bnd (mo δ) fun a => bnd (itemsL a) fun _ => bnd (bnd (me δ) fun x => bnd (ret []) fun xs => ret (x :: xs)) fun as => extendA a as) :=
  se_lm PySem.F.slot_list_extend PySem.F.type_list_extend mt_extend sm_extend ho (sa_cons he sa_nil hs) hbase hfew hline hs hplain
theorem se_pop0 (ho : SE X W o mo) (hbase : attributeBase o "pop" X.env (eval o X.env) = eval o X.env := by rfl) (hline : (apos.endLine == pos.line) = true := by rfl) :
    SE X W (.Call (.Attribute o "pop" apos) [] [] pos) (fun δ => bnd (mo δ) fun a => bnd (itemsL a) fun _ => popA a []) :=
  se_lm0 PySem.F.slot_list_pop PySem.F.type_list_pop mt_pop sm_pop ho hbase hline
end
/-! ### exceptions made -/
section
variable {X : Cx} {W : WX}
theorem se_mkV {x : Str} {C fI : Addr} {k : Nat} {fd : FuncData} {ps : List Str} {f : Str} {e : Expr} {m : Env → M A} {p pos : Pos} (T : OexC X.K C) (iC : PySem.W.findIn X.K (.ref C) "__init__" = some (some (.ref fI))) (tI : PySem.W.typeIn X.K (.ref fI) = some (.type "function"))
    (nf : PySem.W.findIn X.K (.ref C) f = some none) (F1 : FnOk X.prog X.w X.K X.mg X.base (L2.CX X.prog X.w) k fI fd ps (spInit X.K f)) (hr : Room (k + 1) X.A) (hb : Binds X.K fd ps []) (hm : X.mg x = some (.ref C)) (h : SE X W e m) (hg : Gl X x := by rfl)
    (hdb : (x == ("__debug__" : Str)) = false := by decide +kernel) (he : starEach [e] X.env = (false, eval e X.env) :: starEach [] X.env := by rfl) (hpl : (backTo pos (starEach [] X.env)).any (·.1) = false := by rfl) :
    SE X W (.Call (.Name x p) [e] [] pos) (fun δ => bnd (m δ) fun a => ret (.exc C [f] [a])) := fun σ H loc δ μ Q re rs q => by
  refine wE_of (pe_mkV T iC tI F1 hr hb (fun pins σ H s e s' I c => passAt takes0 σ pins H s e s' I c) hg hm (pa_cons pwE pa_nil he) hdb he hpl) ?_
  refine h.go re rs q fun v a H1 loc1 μ1 g1 rs1 rv re1 q1 => ?_
  refine ⟨(by show 1 ≤ 1000; decide), fun b hb' => ?_⟩
  refine ⟨b, C, v, rfl, T, nf, upd_same, fun dx hd ne => ⟨rfl, ?_⟩⟩
  rw [upd_ne ne] at hd
  have e1 : upd (upd (upd H1 b (exo b C none)) dx (exd dx [(f, v)])) b (exo b C (some dx)) = upd (upd H1 dx (exd dx [(f, v)])) b (exo b C (some dx)) := by
    funext c
    by_cases h1 : c = b
    · subst h1; rw [upd_same, upd_same]
    · rw [upd_ne h1, upd_ne h1]
      by_cases h2 : c = dx
      · subst h2; rw [upd_same, upd_same]
      · rw [upd_ne h2, upd_ne h2, upd_ne h1]
  rw [e1]
  have g2 : Gr X.K H1 loc1 (upd H1 dx (exd dx [(f, v)])) loc1 := Gr.new hd
  have rs2 := rs1.new (o := exd dx [(f, v)]) hd
  have hb2 : upd H1 dx (exd dx [(f, v)]) b = none := by rw [upd_ne (Ne.symm ne)]; exact hb'
  have g3 : Gr X.K H1 loc1 (upd (upd H1 dx (exd dx [(f, v)])) b (exo b C (some dx))) loc1 := g2.trans (Gr.new hb2)
  exact q1 (.ref b) _ loc1 (g1.trans g3) (rs2.new hb2) (.exc upd_same (rs1.notin hb') (by rw [upd_ne ne]; exact upd_same) (rs1.notin hd) rfl (.cons (rv.mono g3) .nil))
/-- C(e), an own class over ValueError without own __init__ -/
theorem se_mk0 {x : Str} {C : Addr} {e : Expr} {m : Env → M A} {p pos : Pos} (q : PySem.W.excIn X.K C [.type "ValueError", .type "Exception", .type "BaseException", .type "object"] "ValueError.__new__" = true) (hm : X.mg x = some (.ref C)) (kC : PySem.W.keepIn X.K (.ref C) = true) (h : SE X W e m) (hg : Gl X x := by rfl)
    (hs : starEach [e] X.env = (false, eval e X.env) :: starEach [] X.env := by rfl) (hdb : (x == ("__debug__" : Str)) = false := by decide +kernel) :
    SE X W (.Call (.Name x p) [e] [] pos) (fun δ => bnd (m δ) fun _ => ret (.exc C [] [])) := fun σ H loc δ μ Q re rs q' => by
  refine wE_of (pe_exc1 PySem.F.excBase_ValueError q hm kC hg pwE hs hdb) ?_
  refine h.go re rs q' fun v a H1 loc1 μ1 g1 rs1 rv re1 q1 => ?_
  intro b hb
  exact q1 (.ref b) _ loc1 (g1.trans (Gr.new hb)) (rs1.new hb) (.ex0 upd_same (rs1.notin hb))
end
/-! ### what the classes say -/
def excB (K : PySem.W.Frag) (D : Addr) : Bool := decide (PySem.W.findIn K (.ref D) "__getattribute__" = some (some (.builtin "BaseException.__getattribute__"))) && (decide (PySem.W.findIn K (.ref D) "__getattr__" = some none) && (decide (PySem.W.subIn K (.ref D) (.type "BaseException") = some true) && (PySem.W.hasDictIn K D && (decide (PySem.W.findIn K (.ref D) "__class__" = some (some (.builtin "object.__class__"))) && (decide (PySem.W.specialIn K (.builtin "object.__class__") "__get__" = some (some (.builtin "getset_descriptor.__get__"))) && (decide (PySem.W.takesIn K (.builtin "object.__class__") = some true) && decide (PySem.W.mroIn K D (.type "object") = some true)))))))
theorem excB_ok {K : PySem.W.Frag} {D : Addr} (h : excB K D = true) : ExcC K D := by
  obtain ⟨h1, h⟩ := Bool.and_eq_true_iff.mp h
  obtain ⟨h2, h⟩ := Bool.and_eq_true_iff.mp h
  obtain ⟨h3, h⟩ := Bool.and_eq_true_iff.mp h
  obtain ⟨h4, h⟩ := Bool.and_eq_true_iff.mp h
  obtain ⟨h5, h⟩ := Bool.and_eq_true_iff.mp h
  obtain ⟨h6, h⟩ := Bool.and_eq_true_iff.mp h
  obtain ⟨h7, h8⟩ := Bool.and_eq_true_iff.mp h
  exact ⟨of_decide_eq_true h1, of_decide_eq_true h2, of_decide_eq_true h3, h4, of_decide_eq_true h5, of_decide_eq_true h6, of_decide_eq_true h7, of_decide_eq_true h8⟩
/-- what isinstance(an instance of D, c) answers -/
def subK (K : PySem.W.Frag) (c : Value) (D : Addr) : Option Bool := if excB K D = true then PySem.W.kitOne K (.ref D) c else none
theorem subK_ok {K : PySem.W.Frag} {c : Value} {D : Addr} {b : Bool} (h : subK K c D = some b) : ExcC K D ∧ PySem.W.kitOne K (.ref D) c = some b := by
  unfold subK at h
  split at h
  · rename_i e
    exact ⟨excB_ok e, h⟩
  · cases h
def fokK (K : PySem.W.Frag) (n : Str) (D : Addr) : Bool := xfB K D && decide (PySem.W.findIn K (.ref D) n = some none)
theorem fokK_ok {K : PySem.W.Frag} {n : Str} {D : Addr} (h : fokK K n D = true) : XfC K D ∧ PySem.W.findIn K (.ref D) n = some none := by
  obtain ⟨h1, h2⟩ := Bool.and_eq_true_iff.mp h
  exact ⟨xfB_ok h1, of_decide_eq_true h2⟩
def oexB (K : PySem.W.Frag) (C : Addr) : Bool := (match K.lookup C with
  | some ⟨.type "type", _, .cls cd, sl⟩ => (match cd.mro, sl.toList with
    | .ref C' :: bm, [_, _, _, _, some (.builtin n), _] => C' == C && n == "ValueError.__new__" && !cd.hasDel && cd.hasDict && PySem.HandSPX.refsVE bm
    | _, _ => false)
  | _ => false) && (decide (PySem.W.findIn K (.ref C) "__setattr__" = some (some (.builtin "object.__setattr__"))) && (decide (PySem.W.subIn K (.ref C) (.type "BaseException") = some true) && decide (PySem.W.typeIn K (.ref C) = some (.type "type"))))
theorem oexB_ok {K : PySem.W.Frag} {C : Addr} (h : oexB K C = true) (kC : PySem.W.keepIn K (.ref C) = true) : OexC K C := by
  obtain ⟨q, h⟩ := Bool.and_eq_true_iff.mp h
  obtain ⟨h2, h⟩ := Bool.and_eq_true_iff.mp h
  obtain ⟨h3, h4⟩ := Bool.and_eq_true_iff.mp h
  refine ⟨?_, of_decide_eq_true h2, of_decide_eq_true h3, of_decide_eq_true h4, kC⟩
  split at q
  · rename_i dd cd sl ho
    split at q
    · rename_i C' bm k0 k1 k2 k3 n k5 hm hs
      simp only [Bool.and_eq_true, beq_iff_eq, Bool.not_eq_true'] at q
      obtain ⟨⟨⟨⟨rfl, rfl⟩, hdel⟩, hdic⟩, hrf⟩ := q
      obtain ⟨nm, bs, mro, ns, qn, hd, sn, sub, ab, col, del⟩ := cd
      dsimp only at hm hdel hdic
      subst hm hdel hdic
      have hsl : sl = #[k0, k1, k2, k3, some (.builtin "ValueError.__new__"), k5] := by
        obtain ⟨l⟩ := sl
        simp only at hs
        rw [hs]
      subst hsl
      exact ⟨nm, qn, ns, bs, bm, sn, sub, ab, col, dd, k0, k1, k2, k3, k5, ho, hrf⟩
    · cases q
  · cases q
theorem cx_none {P : Program} {w : World} {H : Hp} {s : Shared} {e : Value} {s' : Shared} (z : L2.CX P w [] H s (fun _ _ _ => False) e s') : False := by
  obtain ⟨_, _, _, _, _, _, _, _, _, _, _, _, q⟩ := z
  exact q
/-! ### defs together -/
section
variable {P : Program} {w : World} {K : PySem.W.Frag} {mg : Str → Option Value} {base : Heap}
theorem fnM_bad {k : Nat} {f : Addr} {fd : FuncData} {ps : List Str} : FnM P w K mg base k f fd ps (fun _ => bad) :=
  ⟨fun vs H Q E h => by obtain ⟨_, _, _, _, _, _, z⟩ := h; exact z.elim, fun A outer s H args us vs Q E _ _ _ _ h => by obtain ⟨_, _, _, _, _, _, z⟩ := h; exact z.elim⟩
/-- a promise made weaker -/
theorem fnOk_weak {CX : CXT} {k : Nat} {f : Addr} {fd : FuncData} {ps : List Str} {sp sp' : Sp} (F : FnOk P w K mg base CX k f fd ps sp) (h : ∀ vs H Q E, sp' vs H Q E → sp vs H Q E) : FnOk P w K mg base CX k f fd ps sp' :=
  ⟨fun vs H Q E q => F.len vs H Q E (h _ _ _ _ q), fun A outer s H args us vs Q E a b c d q => F.run A outer s H args us vs Q E a b c d (h _ _ _ _ q)⟩
/-- what law(script) is asked -/
def spLaw (K : PySem.W.Frag) : Sp := fun vs H Q _ => ∃ (a : Addr) (ns : List Int), vs = [.ref a] ∧ SqL K H a (ns.map V.int) ∧ ns.length ≤ 63 ∧ ∀ H', Q (.bl true) H'
theorem ints_RAs {H : Hp} {loc : List Addr} : ∀ ns : List Int, RAs K H loc (ns.map V.int) (ns.map A.int)
  | [] => .nil
  | n :: ns => .cons (.int n) (ints_RAs ns)
/-- the script as an argument -/
def Scr (a : A) (μ : Sto) (ns : List Int) : Prop := (a = .rol (ns.map A.int) ∧ μ = []) ∨ (a = .hd 0 ∧ μ = [.lst (ns.map A.int)])
theorem law_of {k : Nat} {f : Addr} {fd : FuncData} {x : Str} {mf : List A → M A} (F : FnM P w K mg base k f fd [x] mf) (h : ∀ (ns : List Int) (a : A) (μ : Sto), ns.length ≤ 63 → Scr a μ ns → (mf [a] μ).post (fun r _ => r = .bl true) (fun _ _ => False)) :
    FnOk P w K mg base (L2.CX P w) k f fd [x] (spLaw K) := fnOk_weak F fun vs H Q E q => by
  obtain ⟨a, ns, rfl, hq, hl, q⟩ := q
  have hz : (ns.map V.int).length ≤ sizeLine := by
    rw [List.length_map, sizeLine_eq]
    omega
  have fin : ∀ {H : Hp} {loc : List Addr} {r : Res A}, r.post (fun r _ => r = .bl true) (fun _ _ => False) → r.post (fun a μ' => ∀ (v : V) (H' : Hp) (loc' : List Addr), Gr K H loc H' loc' → RS K H' loc' μ' → RA K H' loc' v a → Q v H')
      (fun x μ' => ∀ (H' : Hp) (loc' : List Addr) (cls : Value) (d : Option Addr), Gr K H loc H' loc' → RS K H' loc' μ' → RX K H' loc' x cls d → E cls d H') := fun z => post_mono z (fun a μ' e v H' loc' _ _ ra => by
    subst e
    cases ra
    exact q H') fun _ _ z => z.elim
  rcases hq with hq | hq
  · rcases hq with hq | ⟨o, hq⟩
    · refine ⟨[a], [.lst (ns.map A.int)], [.hd 0], rfl, ⟨rfl, by simp, fun n m e => ?_⟩, .cons (.hd rfl) .nil, fin (h ns _ _ hl (.inr ⟨rfl, rfl⟩))⟩
      cases n with
      | zero =>
        cases e
        exact ⟨a, _, rfl, hq, _, rfl, hz, ints_RAs ns⟩
      | succ n => simp at e
    · exact ⟨[], [], [.rol (ns.map A.int)], rfl, RS.nil, .cons (.rol (.inl ⟨o, hq⟩) hz (ints_RAs ns)) .nil, fin (h ns _ _ hl (.inl ⟨rfl, rfl⟩))⟩
  · exact ⟨[], [], [.rol (ns.map A.int)], rfl, RS.nil, .cons (.rol (.inr hq) hz (ints_RAs ns)) .nil, fin (h ns _ _ hl (.inl ⟨rfl, rfl⟩))⟩
end
end Lt

/-! Lt10: runs of mirrors in plain Lean: what a run gives, as rewriting rules. -/
namespace Lt
open PySem PySem.Spec PyProof.Rows L2
/-- what a statement's run gives: goes on, returns, breaks, continues; nothing is raised -/
def fin (r : Res Fl) (Kn : Env → Sto → Prop) (Kr : A → Sto → Prop) (Kb Kc : Env → Sto → Prop) : Prop := match r with
  | .ok (.nx δ) μ => Kn δ μ
  | .ok (.rt a) μ => Kr a μ
  | .ok (.bk δ) μ => Kb δ μ
  | .ok (.ct δ) μ => Kc δ μ
  | _ => False
/-- the same of an expression -/
abbrev gives {α : Type} (r : Res α) (K : α → Sto → Prop) : Prop := r.post K NX
section
variable {μ : Sto} {δ : Env} {Kn Kb Kc : Env → Sto → Prop} {Kr : A → Sto → Prop} {α β : Type}
@[simp] theorem w_bnd {m : M α} {k : α → M β} {K : β → Sto → Prop} : gives (bnd m k μ) K ↔ gives (m μ) fun a μ' => gives (k a μ') K := post_bnd
@[simp] theorem w_ret {a : α} {K : α → Sto → Prop} : gives (ret a μ) K ↔ K a μ := Iff.rfl
@[simp] theorem w_bad {K : α → Sto → Prop} : gives ((bad : M α) μ) K ↔ False := Iff.rfl
@[simp] theorem w_ok {a : α} {K : α → Sto → Prop} : gives (.ok a μ) K ↔ K a μ := Iff.rfl
@[simp] theorem w_noX {m : M α} {K : α → Sto → Prop} : gives (noX m μ) K ↔ gives (m μ) K := by
  unfold noX gives
  cases m μ <;> exact Iff.rfl
@[simp] theorem w_optS {a : α} {K : α → Sto → Prop} : gives (optM (some a) μ) K ↔ K a μ := Iff.rfl
theorem w_opt {o : Option α} {K : α → Sto → Prop} : gives (optM o μ) K ↔ ∃ a, o = some a ∧ K a μ := by
  cases o with
  | none => exact ⟨fun h => h.elim, fun ⟨_, h, _⟩ => by cases h⟩
  | some a => exact ⟨fun h => ⟨a, rfl, h⟩, fun ⟨_, h, q⟩ => by cases h; exact q⟩
@[simp] theorem f_inS {m : M α} {k : α → M Fl} {δ0 : Env} : fin (inS m δ0 k μ) Kn Kr Kb Kc ↔ gives (m μ) fun a μ' => fin (k a μ') Kn Kr Kb Kc := by
  unfold inS gives
  cases m μ <;> exact Iff.rfl
@[simp] theorem f_bnd {m : M α} {k : α → M Fl} : fin (bnd m k μ) Kn Kr Kb Kc ↔ gives (m μ) fun a μ' => fin (k a μ') Kn Kr Kb Kc := by
  unfold bnd gives
  cases m μ <;> exact Iff.rfl
@[simp] theorem f_seq {m k : Env → M Fl} : fin (seqM m k δ μ) Kn Kr Kb Kc ↔ fin (m δ μ) (fun δ' μ' => fin (k δ' μ') Kn Kr Kb Kc) Kr Kb Kc := by
  unfold seqM bnd
  cases m δ μ with
  | ok fl μ' => cases fl <;> exact Iff.rfl
  | _ => exact Iff.rfl
theorem f_mono {r : Res Fl} {Kn' : Env → Sto → Prop} (h : fin r Kn Kr Kb Kc) (k : ∀ δ μ, Kn δ μ → Kn' δ μ) : fin r Kn' Kr Kb Kc := by
  cases r with
  | ok fl μ' =>
    cases fl with
    | nx δ => exact k _ _ h
    | _ => exact h
  | _ => exact h
@[simp] theorem f_nx : fin (ret (.nx δ) μ) Kn Kr Kb Kc ↔ Kn δ μ := Iff.rfl
@[simp] theorem f_rt {a : A} : fin (ret (.rt a) μ) Kn Kr Kb Kc ↔ Kr a μ := Iff.rfl
@[simp] theorem f_bk : fin (ret (.bk δ) μ) Kn Kr Kb Kc ↔ Kb δ μ := Iff.rfl
@[simp] theorem f_ct : fin (ret (.ct δ) μ) Kn Kr Kb Kc ↔ Kc δ μ := Iff.rfl
@[simp] theorem w_run {n : Nat} {m : Env → M Fl} {as : List A} {K : A → Sto → Prop} : gives (runBody n m as μ) K ↔ fin (m (startE n as) μ) (fun _ μ' => K .non μ') K (fun _ _ => False) (fun _ _ => False) := by
  unfold runBody fin gives
  cases m (startE n as) μ with
  | ok fl μ' => cases fl <;> exact Iff.rfl
  | _ => exact Iff.rfl
@[simp] theorem w_call {n : Nat} {mf : List A → M A} {as : List A} {K : A → Sto → Prop} : gives (callM n mf as μ) K ↔ as.length = n ∧ gives (mf as μ) K := by
  unfold callM
  split
  · rename_i h
    exact ⟨fun q => ⟨h, q⟩, fun q => q.2⟩
  · rename_i h
    exact ⟨fun q => q.elim, fun q => absurd q.1 h⟩
/-- the monad's rules -/
theorem wM : (∀ {μ : Sto} {m : M α} {k : α → M β} {K : β → Sto → Prop}, gives (bnd m k μ) K ↔ gives (m μ) fun a μ' => gives (k a μ') K) ∧ True := ⟨w_bnd, trivial⟩
/-! ### names -/
@[simp] theorem g_zero {a : A} {K : A → Sto → Prop} : gives (getv (some a :: δ) 0 μ) K ↔ K a μ := Iff.rfl
@[simp] theorem g_succ {o : Option A} {n : Nat} {K : A → Sto → Prop} : gives (getv (o :: δ) (n + 1) μ) K ↔ gives (getv δ n μ) K := by
  unfold getv
  rw [List.getElem?_cons_succ]
@[simp] theorem w_setG {i : Nat} {a : A} {K : Env → Sto → Prop} : gives (setG i a δ μ) K ↔ K (δ.set i (some a)) μ := Iff.rfl
@[simp] theorem w_gsNil {K : Env → Sto → Prop} : gives (gsNil [] δ μ) K ↔ K δ μ := Iff.rfl
@[simp] theorem w_gsCons {g : A → Env → M Env} {gs : List A → Env → M Env} {a : A} {as : List A} {K : Env → Sto → Prop} : gives (gsCons g gs (a :: as) δ μ) K ↔ gives (g a δ μ) fun δ' μ' => gives (gs as δ' μ') K := post_bnd
@[simp] theorem w_tupG {n : Nat} {gs : List A → Env → M Env} {xs : List A} {K : Env → Sto → Prop} : gives (tupG n gs (.tup xs) δ μ) K ↔ xs.length = n ∧ gives (gs xs δ μ) K := by
  unfold tupG
  simp only
  split
  · rename_i h
    exact ⟨fun q => ⟨h, q⟩, fun q => q.2⟩
  · rename_i h
    exact ⟨fun q => q.elim, fun q => absurd q.1 h⟩
@[simp] theorem w_subG {mo mi : Env → M A} {v : A} {K : Env → Sto → Prop} : gives (subG mo mi v δ μ) K ↔ gives (mo δ μ) fun o μ1 => gives (mi δ μ1) fun i μ2 => gives (setA o i v μ2) fun _ μ3 => K δ μ3 := by
  unfold subG
  rw [w_bnd, w_noX]
  refine iff_of_eq (congrArg _ (funext fun o => funext fun μ1 => propext ?_))
  rw [w_bnd, w_noX]
  refine iff_of_eq (congrArg _ (funext fun i => funext fun μ2 => propext ?_))
  rw [w_bnd]
  exact Iff.rfl
/-! ### numbers -/
variable {i j : Int} {K : A → Sto → Prop} {KB : Bool → Sto → Prop}
@[simp] theorem w_add : gives (addA (.int i) (.int j) μ) K ↔ K (.int (i + j)) μ := Iff.rfl
@[simp] theorem w_sub : gives (subA (.int i) (.int j) μ) K ↔ K (.int (i - j)) μ := Iff.rfl
theorem ite_bad {c : Prop} [Decidable c] {m : M α} {K : α → Sto → Prop} : gives ((if c then m else bad) μ) K ↔ c ∧ gives (m μ) K := by
  split
  · rename_i h
    exact ⟨fun q => ⟨h, q⟩, fun q => q.2⟩
  · rename_i h
    exact ⟨fun q => q.elim, fun q => absurd q.1 h⟩
@[simp] theorem w_mul : gives (mulA (.int i) (.int j) μ) K ↔ CMul i j ∧ K (.int (i * j)) μ := ite_bad
@[simp] theorem w_mod : gives (modA (.int i) (.int j) μ) K ↔ 0 < j ∧ K (.int (i % j)) μ := ite_bad
@[simp] theorem w_fdiv : gives (fdivA (.int i) (.int j) μ) K ↔ CDiv i j ∧ K (.int (i / j)) μ := ite_bad
@[simp] theorem w_pow : gives (powA (.int i) (.int j) μ) K ↔ CPow i j ∧ K (.int (i ^ j.toNat)) μ := ite_bad
@[simp] theorem w_lt : gives (ltA (.int i) (.int j) μ) K ↔ K (.bl (decide (i < j))) μ := Iff.rfl
@[simp] theorem w_le : gives (leA (.int i) (.int j) μ) K ↔ K (.bl (decide (i ≤ j))) μ := Iff.rfl
@[simp] theorem w_gt : gives (gtA (.int i) (.int j) μ) K ↔ K (.bl (decide (j < i))) μ := Iff.rfl
@[simp] theorem w_ge : gives (geA (.int i) (.int j) μ) K ↔ K (.bl (decide (j ≤ i))) μ := Iff.rfl
@[simp] theorem w_asB {b : Bool} : gives (asB (.bl b) μ) KB ↔ KB b μ := Iff.rfl
@[simp] theorem w_int : gives (intA [.int i] μ) K ↔ K (.int i) μ := Iff.rfl
@[simp] theorem w_intB {b : Bool} : gives (intA [.bl b] μ) K ↔ K (.int (if b then 1 else 0)) μ := Iff.rfl
@[simp] theorem w_eqI : gives (eqA (.int i) (.int j) μ) K ↔ K (.bl (decide (i = j))) μ := Iff.rfl
@[simp] theorem w_neI : gives (neA (.int i) (.int j) μ) K ↔ K (.bl (!decide (i = j))) μ := Iff.rfl
@[simp] theorem w_eqT {s t : Str} : gives (eqA (.str s) (.str t) μ) K ↔ K (.bl (decide (s = t))) μ := Iff.rfl
@[simp] theorem w_neT {s t : Str} : gives (neA (.str s) (.str t) μ) K ↔ K (.bl (!decide (s = t))) μ := Iff.rfl
@[simp] theorem w_eqB {s t : Bool} : gives (eqA (.bl s) (.bl t) μ) K ↔ K (.bl (decide (s = t))) μ := Iff.rfl
@[simp] theorem w_truB {b : Bool} : gives (truA (.bl b) μ) KB ↔ KB b μ := Iff.rfl
@[simp] theorem w_truI : gives (truA (.int i) μ) KB ↔ KB (i != 0) μ := Iff.rfl
@[simp] theorem w_isNn {a : A} : gives (isA a .non μ) K ↔ K (.bl (isN a)) μ := by unfold isA; exact Iff.rfl
@[simp] theorem w_nisN {a : A} : gives (nisA a .non μ) K ↔ K (.bl (!isN a)) μ := by unfold nisA; exact Iff.rfl
@[simp] theorem w_isBl {a b : Bool} : gives (isA (.bl a) (.bl b) μ) K ↔ K (.bl (decide (a = b))) μ := Iff.rfl
/-! ### sequences -/
@[simp] theorem w_mkTup {as : List A} : gives (mkTup as μ) K ↔ as.length ≤ sizeLine ∧ K (.tup as) μ := ite_bad
@[simp] theorem w_mkLst {as : List A} : gives (mkLst as μ) K ↔ as.length ≤ sizeLine ∧ K (.hd μ.length) (μ ++ [.lst as]) := ite_bad
@[simp] theorem w_lstF {as : List A} : gives (lstF as μ) K ↔ K (.hd μ.length) (μ ++ [.lst as]) := Iff.rfl
@[simp] theorem w_tupF {as : List A} : gives (tupF as μ) K ↔ K (.tup as) μ := Iff.rfl
@[simp] theorem w_addT {xs ys : List A} : gives (addA (.tup xs) (.tup ys) μ) K ↔ xs.length + ys.length ≤ sizeLine ∧ K (.tup (xs ++ ys)) μ := ite_bad
@[simp] theorem w_addS {s t : Str} : gives (addA (.str s) (.str t) μ) K ↔ s.length + t.length ≤ sizeLine ∧ K (.str (s ++ t)) μ := ite_bad
theorem w_itemsL {n : Nat} {xs : List A} {KL : List A → Sto → Prop} (h : μ[n]? = some (.lst xs)) : gives (itemsL (.hd n) μ) KL ↔ KL xs μ := by
  unfold itemsL
  simp only [h]
  exact Iff.rfl
@[simp] theorem w_itemsR {xs : List A} {KL : List A → Sto → Prop} : gives (itemsL (.rol xs) μ) KL ↔ KL xs μ := Iff.rfl
@[simp] theorem w_itemsT {xs : List A} {KL : List A → Sto → Prop} : gives (items (.tup xs) μ) KL ↔ KL xs μ := Iff.rfl
theorem w_itemsH {n : Nat} {xs : List A} {KL : List A → Sto → Prop} (h : μ[n]? = some (.lst xs)) : gives (items (.hd n) μ) KL ↔ KL xs μ := w_itemsL h
theorem w_append {n : Nat} {xs : List A} {x : A} (h : μ[n]? = some (.lst xs)) : gives (appendA (.hd n) [x] μ) K ↔ xs.length < sizeLine ∧ K .non (μ.set n (.lst (xs ++ [x]))) := by
  unfold appendA
  simp only [h]
  split
  · rename_i q
    exact ⟨fun z => ⟨q, z⟩, fun z => z.2⟩
  · rename_i q
    exact ⟨fun z => z.elim, fun z => absurd z.1 q⟩
theorem w_pop {n : Nat} {xs : List A} {x : A} (h : μ[n]? = some (.lst (xs ++ [x]))) : gives (popA (.hd n) [] μ) K ↔ K x (μ.set n (.lst xs)) := by
  unfold popA
  simp only [h, List.length_append, List.length_singleton, Nat.add_sub_cancel, List.getElem?_concat_length, List.dropLast_concat]
  exact Iff.rfl
@[simp] theorem w_lenT {xs : List A} : gives (lenA [.tup xs] μ) K ↔ K (.int xs.length) μ := Iff.rfl
theorem w_lenH {n : Nat} {xs : List A} (h : μ[n]? = some (.lst xs)) : gives (lenA [.hd n] μ) K ↔ K (.int xs.length) μ := by
  unfold lenA
  simp only [h]
  exact Iff.rfl
@[simp] theorem w_lenS {s : Str} : gives (lenA [.str s] μ) K ↔ s.length ≤ sizeLine ∧ K (.int s.length) μ := by
  unfold lenA
  simp only
  split
  · rename_i q
    exact ⟨fun z => ⟨q, z⟩, fun z => z.2⟩
  · rename_i q
    exact ⟨fun z => z.elim, fun z => absurd z.1 q⟩
@[simp] theorem w_ixT {xs : List A} : gives (ixA (.tup xs) (.int i) μ) K ↔ ∃ a, atI xs i = some a ∧ K a μ := by
  unfold ixA
  exact w_opt
theorem w_ixH {n : Nat} {xs : List A} (h : μ[n]? = some (.lst xs)) : gives (ixA (.hd n) (.int i) μ) K ↔ ∃ a, atI xs i = some a ∧ K a μ := by
  unfold ixA
  simp only [h]
  exact w_opt
@[simp] theorem w_ixS {s : Str} : gives (ixA (.str s) (.int i) μ) K ↔ s.length ≤ sizeLine ∧ ∃ c, atI s.cps.toList i = some c ∧ K (.str ⟨#[c]⟩) μ := by
  unfold ixA
  simp only
  split
  · rename_i q
    refine ⟨fun z => ⟨q, ?_⟩, fun ⟨_, c, e, z⟩ => ?_⟩
    · obtain ⟨a, e, z⟩ := w_opt.mp z
      cases e2 : atI s.cps.toList i with
      | none => rw [e2] at e; cases e
      | some c =>
        rw [e2] at e
        cases e
        exact ⟨c, rfl, z⟩
    · rw [e]
      exact z
  · rename_i q
    exact ⟨fun z => z.elim, fun z => absurd z.1 q⟩
theorem w_setL {n : Nat} {xs : List A} {v : A} {KU : Unit → Sto → Prop} (h : μ[n]? = some (.lst xs)) : gives (setA (.hd n) (.int i) v μ) KU ↔ ∃ k, ixN xs.length i = some k ∧ KU () (μ.set n (.lst (xs.set k v))) := by
  unfold setA
  simp only [h]
  cases e : ixN xs.length i with
  | none => exact ⟨fun z => z.elim, fun ⟨_, z, _⟩ => by cases z⟩
  | some k => exact ⟨fun z => ⟨k, rfl, z⟩, fun ⟨_, z, q⟩ => by cases z; exact q⟩
@[simp] theorem w_part {KO : Option Int → Sto → Prop} : gives (partM (.int i) μ) KO ↔ KO (some i) μ := Iff.rfl
theorem w_rev {n : Nat} {xs : List A} (h : μ[n]? = some (.lst xs)) : gives (revA (.hd n) μ) K ↔ K (.hd μ.length) (μ ++ [.lst xs.reverse]) := by
  unfold revA
  rw [w_bnd, w_itemsL h]
  exact Iff.rfl
theorem w_addH {n m : Nat} {xs ys : List A} (h : μ[n]? = some (.lst xs)) (h2 : μ[m]? = some (.lst ys)) : gives (addA (.hd n) (.hd m) μ) K ↔ xs.length + ys.length ≤ sizeLine ∧ K (.hd μ.length) (μ ++ [.lst (xs ++ ys)]) := by
  unfold addA
  simp only [h, h2]
  split
  · rename_i q
    exact ⟨fun z => ⟨q, z⟩, fun z => z.2⟩
  · rename_i q
    exact ⟨fun z => z.elim, fun z => absurd z.1 q⟩
section
variable {x0 x1 x2 x3 x4 x5 : α} {r : List α} {n : Nat}
@[simp] theorem ixN_0 : ixN (n + 1) 0 = some 0 := by unfold ixN; rw [if_pos (by decide), if_pos (by omega)] <;> rfl
@[simp] theorem ixN_1 : ixN (n + 1 + 1) 1 = some 1 := by unfold ixN; rw [if_pos (by decide), if_pos (by omega)] <;> rfl
@[simp] theorem atI_0 : atI (x0 :: r) 0 = some x0 := by unfold atI; simp
@[simp] theorem atI_1 : atI (x0 :: x1 :: r) 1 = some x1 := by unfold atI; simp
theorem atI_nat (xs : List α) (k : Nat) (h : k < xs.length) : atI xs (k : Int) = some xs[k] := by
  unfold atI ixN
  rw [if_pos (by omega), if_pos (by omega)]
  simp [h]
@[simp] theorem atI_2 : atI (x0 :: x1 :: x2 :: r) 2 = some x2 := atI_nat (x0 :: x1 :: x2 :: r) 2 (by simp)
@[simp] theorem atI_3 : atI (x0 :: x1 :: x2 :: x3 :: r) 3 = some x3 := atI_nat (x0 :: x1 :: x2 :: x3 :: r) 3 (by simp)
@[simp] theorem atI_4 : atI (x0 :: x1 :: x2 :: x3 :: x4 :: r) 4 = some x4 := atI_nat (x0 :: x1 :: x2 :: x3 :: x4 :: r) 4 (by simp)
theorem atI_in {xs : List α} {i : Int} (h0 : 0 ≤ i) (h1 : i < xs.length) : ∃ a, atI xs i = some a ∧ a ∈ xs := by
  obtain ⟨k, rfl⟩ : ∃ k : Nat, i = (k : Int) := ⟨i.toNat, by omega⟩
  have hk : k < xs.length := by omega
  exact ⟨xs[k], atI_nat xs k hk, List.getElem_mem hk⟩
end
theorem gm {r : Res α} {K K' : α → Sto → Prop} (h : gives r K) (k : ∀ a μ, K a μ → K' a μ) : gives r K' := post_mono h k fun _ _ z => z
@[simp] theorem w_strM {s : Str} {KS : Str → Sto → Prop} : gives (strM (.str s) μ) KS ↔ KS s μ := Iff.rfl
theorem w_enumH {n : Nat} {xs : List A} {KI : MIt → Sto → Prop} (h : μ[n]? = some (.lst xs)) : gives (enumM [.hd n] μ) KI ↔ KI ⟨pairsFrom 0 xs, [(n, xs)]⟩ μ := by
  unfold enumM
  rw [w_bnd, w_itemsL h]
  exact Iff.rfl
theorem still_one {n : Nat} {ys xs : List A} (h : μ[n]? = some (.lst xs)) : (MIt.mk ys [(n, xs)]).still μ := fun p hp => by
  rw [List.mem_singleton.mp hp]
  exact h
theorem cmulL {i j : Int} (h0 : -(2 ^ 64) < i) (h1 : i < 2 ^ 64) : CMul i j := .inl ⟨h0, h1⟩
theorem cmulR {i j : Int} (h0 : -(2 ^ 64) < j) (h1 : j < 2 ^ 64) : CMul i j := .inr ⟨h0, h1⟩
@[simp] theorem wipeE_nil : wipeE δ [] = δ := rfl
@[simp] theorem wipeE_cons {v : Nat} {vs : List Nat} : wipeE δ (v :: vs) = (wipeE δ vs).set v none := rfl
theorem get_0 {μ : List β} {a : β} : (μ ++ [a])[μ.length]? = some a := by simp
theorem get_1 {μ : List β} {a b : β} : (μ ++ [a] ++ [b])[μ.length]? = some a := by simp
theorem get_2 {μ : List β} {a b : β} : (μ ++ [a] ++ [b])[(μ ++ [a]).length]? = some b := by simp
theorem get_app {μ more : List β} {n : Nat} {a : β} (h : μ[n]? = some a) : (μ ++ more)[n]? = some a := by rw [List.getElem?_append_left (List.getElem?_eq_some_iff.mp h).1]; exact h
/-! ### equality, kinds -/
theorem eqS_self {a : A} {k : Bool} (h : eqS a a = some k) : k = true := by
  cases a <;> simp [eqS] at h <;> first | exact h | exact h.symm
theorem eqB_self {a : A} {d : PyData} (h : datS μ a = some d) (hs : SeqAt.shaped d = true) : eqB μ a a = some true := by
  unfold eqB
  cases e : eqS a a with
  | some k => simp only; rw [eqS_self e]
  | none =>
    simp only [h]
    rw [if_pos ⟨hs, hs⟩, SeqAt.eqv_refl d (SeqAt.canLay_of_shaped hs)]
theorem w_eq_self {a : A} {d : PyData} (h : datS μ a = some d) (hs : SeqAt.shaped d = true) : gives (eqA a a μ) K ↔ K (.bl true) μ := by
  unfold eqA
  simp only [eqB_self h hs]
  exact Iff.rfl
theorem w_ne_self {a : A} {d : PyData} (h : datS μ a = some d) (hs : SeqAt.shaped d = true) : gives (neA a a μ) K ↔ K (.bl false) μ := by
  unfold neA
  simp only [eqB_self h hs]
  exact Iff.rfl
theorem w_eqD {a b : A} {d e : PyData} (hn : eqS a b = none) (h : datS μ a = some d) (h2 : datS μ b = some e) (hs : SeqAt.shaped d = true) (hs2 : SeqAt.shaped e = true) : gives (eqA a b μ) K ↔ K (.bl (PyData.eqv d e)) μ := by
  unfold eqA eqB
  simp only [hn, h, h2, hs, hs2, and_self, if_true]
  exact Iff.rfl
theorem w_neD {a b : A} {d e : PyData} (hn : eqS a b = none) (h : datS μ a = some d) (h2 : datS μ b = some e) (hs : SeqAt.shaped d = true) (hs2 : SeqAt.shaped e = true) : gives (neA a b μ) K ↔ K (.bl (!PyData.eqv d e)) μ := by
  unfold neA eqB
  simp only [hn, h, h2, hs, hs2, and_self, if_true]
  exact Iff.rfl
theorem w_isi {T t : String} {b : Bool} {a : A} (h : typA μ a = some t) (h2 : kitB t T = some b) : gives (isiA T a μ) K ↔ K (.bl b) μ := by
  unfold isiA
  simp only [h, h2]
  exact Iff.rfl
@[simp] theorem w_isi_ss {s : Str} : gives (isiA "str" (.str s) μ) K ↔ K (.bl true) μ := w_isi rfl (by decide +kernel)
@[simp] theorem w_isi_ii : gives (isiA "int" (.int i) μ) K ↔ K (.bl true) μ := w_isi rfl (by decide +kernel)
@[simp] theorem w_isi_ib : gives (isiA "bool" (.int i) μ) K ↔ K (.bl false) μ := w_isi rfl (by decide +kernel)
@[simp] theorem w_isi_tt {xs : List A} : gives (isiA "tuple" (.tup xs) μ) K ↔ K (.bl true) μ := w_isi rfl (by decide +kernel)
@[simp] theorem w_isx {sub : Addr → Option Bool} {D : Addr} {ns : List Str} {xs : List A} : gives (isxA sub (.exc D ns xs) μ) K ↔ ∃ b, sub D = some b ∧ K (.bl b) μ := by
  unfold isxA
  rw [w_bnd, w_opt]
  exact Iff.rfl
theorem w_xf {ok : Addr → Bool} {n : Str} {D : Addr} {ns : List Str} {xs : List A} {x : A} (h : ok D = true) (h2 : lookN n ns xs = some x) : gives (xfA ok n (.exc D ns xs) μ) K ↔ K x μ := by
  unfold xfA
  simp only [h, h2, if_true]
  exact Iff.rfl
theorem w_xf1 {ok : Addr → Bool} {n : Str} {D : Addr} {x : A} (h : ok D = true) : gives (xfA ok n (.exc D [n] [x]) μ) K ↔ K x μ := w_xf h (by unfold lookN; rw [if_pos (by simp)])
/-! ### loops -/
open Classical in
/-- a loop's rule: what holds before item k -/
theorem f_for {g : A → Env → M Env} {body : Env → M Fl} {mi : MIt} (I : List A → Env → Sto → Prop) (hI : ∀ a as δ μ, I (a :: as) δ μ → mi.still μ ∧ gives (g a δ μ) fun δ1 μ1 => fin (body δ1 μ1) (I as) Kr Kn (I as)) (hn : ∀ δ μ, I [] δ μ → mi.still μ ∧ Kn δ μ) :
    ∀ (as : List A) (δ : Env) (μ : Sto), I as δ μ → fin (forM' g body mi as δ μ) Kn Kr Kb Kc
  | [], δ, μ, h => by
    obtain ⟨s, q⟩ := hn δ μ h
    simp only [forM', if_pos s]
    exact q
  | a :: as, δ, μ, h => by
    obtain ⟨s, q⟩ := hI a as δ μ h
    simp only [forM', if_pos s]
    rw [f_bnd]
    refine post_mono q (fun δ1 μ1 z => ?_) fun _ _ z => z
    unfold bnd
    revert z
    cases body δ1 μ1 with
    | ok fl μ2 =>
      cases fl with
      | nx δ2 => exact fun z => f_for I hI hn as δ2 μ2 z
      | ct δ2 => exact fun z => f_for I hI hn as δ2 μ2 z
      | bk δ2 => exact fun z => z
      | rt a => exact fun z => z
      | rs x δ2 => exact fun z => z.elim
    | _ => exact fun z => z.elim
@[simp] theorem f_forS {m : Env → M MIt} {g : A → Env → M Env} {body : Env → M Fl} : fin (forS m g body δ μ) Kn Kr Kb Kc ↔ gives (m δ μ) fun mi μ' => fin (forM' g body mi mi.items δ μ') Kn Kr Kb Kc := f_inS
open Classical in
/-- a comprehension's rule: ys so far -/
theorem w_lc {g : A → Env → M Env} {t : Env → M Bool} {elt : Env → M A} {mi : MIt} {δ : Env} (I : List A → List A → Sto → Prop) {KL : List A → Sto → Prop}
    (hI : ∀ a as ys μ, I (a :: as) ys μ → mi.still μ ∧ gives (g a δ μ) fun δ1 μ1 => gives (t δ1 μ1) fun k μ2 => match k with | true => gives (elt δ1 μ2) fun y μ3 => I as (ys ++ [y]) μ3 | false => I as ys μ2) (hn : ∀ ys μ, I [] ys μ → mi.still μ ∧ KL ys μ) :
    ∀ (as ys : List A) (μ : Sto), I as ys μ → gives (lcM g t elt mi δ as μ) fun zs μ' => KL (ys ++ zs) μ'
  | [], ys, μ, h => by
    obtain ⟨s, q⟩ := hn ys μ h
    simp only [lcM, if_pos s]
    rw [w_ok, List.append_nil]
    exact q
  | a :: as, ys, μ, h => by
    obtain ⟨s, q⟩ := hI a as ys μ h
    simp only [lcM, if_pos s]
    rw [w_bnd, w_noX]
    refine post_mono q (fun δ1 μ1 z => ?_) fun _ _ z => z
    rw [w_bnd, w_noX]
    refine post_mono z (fun k μ2 z => ?_) fun _ _ z => z
    cases k with
    | false => exact w_lc I hI hn as ys μ2 z
    | true =>
      show gives (bnd _ _ μ2) _
      rw [w_bnd, w_noX]
      refine post_mono z (fun y μ3 z => ?_) fun _ _ z => z
      rw [w_bnd, w_noX]
      refine post_mono (w_lc I hI hn as (ys ++ [y]) μ3 z) (fun zs μ4 z => ?_) fun _ _ z => z
      rw [w_ret]
      rw [List.append_assoc] at z
      exact z
/-- .. over what nobody changes, item by item -/
@[simp] theorem w_lcN {g : A → Env → M Env} {t : Env → M Bool} {elt : Env → M A} {its : List A} {δ : Env} {KL : List A → Sto → Prop} : gives (lcM g t elt ⟨its, []⟩ δ [] μ) KL ↔ KL [] μ := by
  simp only [lcM, if_pos still_nil]
  exact Iff.rfl
@[simp] theorem w_lcC {g : A → Env → M Env} {t : Env → M Bool} {elt : Env → M A} {its as : List A} {a : A} {δ : Env} {KL : List A → Sto → Prop} : gives (lcM g t elt ⟨its, []⟩ δ (a :: as) μ) KL ↔ gives (g a δ μ) fun δ1 μ1 => gives (t δ1 μ1) fun k μ2 =>
    (k = true → gives (elt δ1 μ2) fun y μ3 => gives (lcM g t elt ⟨its, []⟩ δ as μ3) fun ys μ4 => KL (y :: ys) μ4) ∧ (k = false → gives (lcM g t elt ⟨its, []⟩ δ as μ2) KL) := by
  simp only [lcM, if_pos still_nil]
  rw [w_bnd, w_noX]
  refine iff_of_eq (congrArg _ (funext fun δ1 => funext fun μ1 => propext ?_))
  rw [w_bnd, w_noX]
  refine iff_of_eq (congrArg _ (funext fun k => funext fun μ2 => propext ?_))
  cases k with
  | false => exact ⟨fun h => ⟨fun z => (nomatch z), fun _ => h⟩, fun h => h.2 rfl⟩
  | true =>
    refine Iff.trans ?_ ⟨fun h => ⟨fun _ => h, fun z => (nomatch z)⟩, fun h => h.1 rfl⟩
    show gives (bnd _ _ μ2) _ ↔ _
    rw [w_bnd, w_noX]
    refine iff_of_eq (congrArg _ (funext fun y => funext fun μ3 => propext ?_))
    rw [w_bnd, w_noX]
    exact Iff.rfl
@[simp] theorem w_comp {m : Env → M MIt} {g : A → Env → M Env} {t : Env → M Bool} {elt : Env → M A} {vs : List Nat} {KL : List A → Sto → Prop} : gives (compM m g t elt vs δ μ) KL ↔ gives (m δ μ) fun mi μ' => mi.items.length ≤ sizeLine ∧ gives (lcM g t elt mi (wipeE δ vs) mi.items μ') KL := by
  unfold compM
  rw [w_bnd]
  refine iff_of_eq (congrArg _ (funext fun o => funext fun μ1 => propext ?_))
  rw [ite_bad, w_noX]
@[simp] theorem w_range {KI : MIt → Sto → Prop} : gives (range1M [.int j] μ) KI ↔ (-(2 ^ 62) ≤ j ∧ j < 2 ^ 62) ∧ KI ⟨(List.range j.toNat).map fun i => .int (0 + (i : Nat)), []⟩ μ := by
  unfold range1M
  exact ite_bad
end
end Lt

/-! Lt11: negative numbers, constants of a module, in, dict displays, get, len(set(..)), calls of values, == with what is empty. -/
namespace Lt
open PySem PySem.Spec PyProof.Rows L2
section
variable {X : Cx} {W : WX} {a b e : Expr} {ma mb m : Env → M A} {pos : Pos} {k : Nat}
def negA (a : A) : M A := match a with
  | .int i => ret (.int (-i))
  | _ => bad
theorem se_neg (ha : SE X W a ma) : SE X W (.UnaryOp .USub a pos) (fun δ => bnd (ma δ) negA) := fun σ H loc δ μ Q re rs q => by
  refine wE_of (pe_un un_neg pwE) ?_
  refine ha.go re rs q fun v x H1 loc1 μ1 g1 rs1 rv re1 q1 => ?_
  cases rv with
  | int i => exact ⟨i, rfl, q1 _ H1 loc1 g1 rs1 (.int _)⟩
  | _ => exact q1.elim
/-- a constant of the module -/
def KonstOk (K : PySem.W.Frag) (mg : Str → Option Value) (x : Str) (c : A) : Prop := ∃ (v : V) (u : Value), mg x = some u ∧ RelV v u ∧ ∀ H loc, RA K H loc v c
theorem se_konst {x : Str} {c : A} (h : KonstOk X.K X.mg x c) (hg : Gl X x := by rfl) (hd : (x == ("__debug__" : Str)) = false := by decide +kernel) : SE X W (.Name x pos) (fun _ => ret c) := by
  obtain ⟨v, u, h1, h2, h3⟩ := h
  exact se_glob hg h1 h2 h3 hd
/-! ### in -/
def flatA : A → Bool
  | .non => true
  | .bl _ => true
  | .int _ => true
  | .str _ => true
  | _ => false
def eqF : A → A → Bool
  | .non, .non => true
  | .bl a, .bl b => a == b
  | .bl a, .int b => (if a then 1 else 0) == b
  | .int a, .bl b => a == (if b then 1 else 0)
  | .int a, .int b => a == b
  | .str a, .str b => a == b
  | _, _ => false
theorem RA.flat {K : PySem.W.Frag} {H : Hp} {loc : List Addr} {v : V} {a : A} (r : RA K H loc v a) (h : flatA a = true) : flatV v = true := by
  cases r <;> first | rfl | cases h
theorem RA.eqF {K : PySem.W.Frag} {H : Hp} {loc : List Addr} {v u : V} {a b : A} (r : RA K H loc v a) (r2 : RA K H loc u b) (h : flatA a = true) (h2 : flatA b = true) : eqV v u = Lt.eqF a b := by
  cases r <;> cases r2 <;> first | rfl | cases h | cases h2
theorem RAs.flat {K : PySem.W.Frag} {H : Hp} {loc : List Addr} : ∀ {vs : List V} {as : List A}, RAs K H loc vs as → as.all flatA = true → vs.all flatV = true
  | _, _, .nil, _ => rfl
  | _, _, .cons r t, h => by
    rw [List.all_cons, Bool.and_eq_true] at h
    rw [List.all_cons, r.flat h.1, RAs.flat t h.2]
    rfl
theorem RAs.inF {K : PySem.W.Frag} {H : Hp} {loc : List Addr} {x : V} {a : A} (r : RA K H loc x a) (f : flatA a = true) : ∀ {vs : List V} {as : List A}, RAs K H loc vs as → as.all flatA = true → inV x vs = as.any fun y => eqF y a
  | _, _, .nil, _ => rfl
  | _, _, .cons q t, h => by
    rw [List.all_cons, Bool.and_eq_true] at h
    have ih := RAs.inF r f t h.2
    unfold inV at ih ⊢
    rw [List.any_cons, List.any_cons, q.eqF r h.1 f, ih]
def inL (a : A) (xs : List A) : Option Bool := if flatA a = true ∧ xs.all flatA = true then some (xs.any fun y => eqF y a) else none
def inB (μ : Sto) (a b : A) : Option Bool := match b with
  | .str t => match a with
    | .str s => match s.cps.toList with
      | [c] => some (decide (c ∈ t.cps.toList))
      | _ => none
    | _ => none
  | .tup xs => inL a xs
  | .rol xs => inL a xs
  | .hd n => match μ[n]? with
    | some (.lst xs) => inL a xs
    | some (.dic kvs) => (keyA a).map fun k => (lookA kvs k).isSome
    | _ => none
  | _ => none
def inA (a b : A) : M A := fun μ => match inB μ a b with
  | some k => .ok (.bl k) μ
  | none => .bad
def ninA (a b : A) : M A := fun μ => match inB μ a b with
  | some k => .ok (.bl (!k)) μ
  | none => .bad
end
section
variable {K : PySem.W.Frag} {H : Hp} {loc : List Addr} {μ : Sto}
theorem inB_ok {v u : V} {a b : A} {k : Bool} (rs : RS K H loc μ) (ra : RA K H loc v a) (rb : RA K H loc u b) (e : inB μ a b = some k) :
    (∃ (c : Nat) (z : Str), v = .str ⟨#[c]⟩ ∧ u = .str z ∧ k = decide (c ∈ z.cps.toList)) ∨ (∃ p xs, u = .ref p ∧ (SqL K H p xs ∨ SqT K H p xs) ∧ flatV v = true ∧ xs.all flatV = true ∧ k = inV v xs) ∨ ∃ p o, u = .ref p ∧ DGet H p v o ∧ k = o.isSome := by
  have seq : ∀ {p : Addr} {vs : List V} {xs : List A}, (SqL K H p vs ∨ SqT K H p vs) → RAs K H loc vs xs → inL a xs = some k → ∃ p' xs, V.ref p = .ref p' ∧ (SqL K H p' xs ∨ SqT K H p' xs) ∧ flatV v = true ∧ xs.all flatV = true ∧ k = inV v xs := fun {p vs xs} hq r e => by
    unfold inL at e
    split at e
    · rename_i h
      cases e
      exact ⟨p, vs, rfl, hq, ra.flat h.1, r.flat h.2, (RAs.inF ra h.1 r h.2).symm⟩
    · cases e
  cases rb with
  | str t =>
    simp only [inB] at e
    cases ra with
    | str s =>
      simp only at e
      split at e
      · rename_i c hc
        cases e
        refine .inl ⟨c, t, ?_, rfl, rfl⟩
        obtain ⟨⟨l⟩⟩ := s
        simp only at hc
        subst hc
        rfl
      · cases e
    | _ => cases e
  | tup h1 h2 h3 => exact .inr (.inl (seq (.inr h1) h3 e))
  | rol h1 h2 h3 => exact .inr (.inl (seq (.inl (rol_sq h1)) h3 e))
  | @hd p n hn =>
    simp only [inB] at e
    split at e
    · rename_i xs e0
      obtain ⟨vs, h1, h2, h3⟩ := rs.lst e0 hn
      exact .inr (.inl (seq (.inl (.of h1)) h3 e))
    · rename_i kvs e0
      obtain ⟨vs, h1, h2, h3⟩ := rs.dic e0 hn
      cases ek : keyA a with
      | none => rw [ek] at e; cases e
      | some kk =>
        rw [ek] at e
        cases e
        have hu := ra.key ek
        subst hu
        refine .inr (.inr ⟨p, _, rfl, .k h1, ?_⟩)
        cases el : lookA kvs kk with
        | none =>
          show (lookA kvs kk).isSome = _
          rw [(h3.look kk).2 el, el]
          rfl
        | some x =>
          obtain ⟨w, e1, _⟩ := (h3.look kk).1 x el
          show (lookA kvs kk).isSome = _
          rw [e1, el]
          rfl
    · cases e
  | _ => cases e
end
section
variable {X : Cx} {W : WX} {a b : Expr} {ma mb : Env → M A} {pos : Pos} {k : Nat}
theorem op_dIn (hu : X.A.units + 1 < cLine) : OpR X (compareOp .In) (fun x y H Q => ∃ p o, y = .ref p ∧ DGet H p x o ∧ Q (.bl o.isSome) H) := by
  intro pins s σ H x y v u Q I rx ry h
  obtain ⟨p, o, rfl, g, q⟩ := h
  obtain rfl : u = Value.ref p := ry
  exact d_in hu I g rx fun s' I' => ⟨.bl _, H, I', rfl, q⟩
theorem op_dNin (hu : X.A.units + 1 < cLine) : OpR X (compareOp .NotIn) (fun x y H Q => ∃ p o, y = .ref p ∧ DGet H p x o ∧ Q (.bl (!o.isSome)) H) := by
  intro pins s σ H x y v u Q I rx ry h
  obtain ⟨p, o, rfl, g, q⟩ := h
  obtain rfl : u = Value.ref p := ry
  exact d_notIn hu I g rx fun s' I' => ⟨.bl _, H, I', rfl, q⟩
theorem so_in : SO X W (fun x y H Q => (∃ (c : Nat) (z : Str), x = .str ⟨#[c]⟩ ∧ y = .str z ∧ Q (.bl (decide (c ∈ z.cps.toList))) H) ∨ rIn X.K false x y H Q ∨ ∃ p o, y = .ref p ∧ DGet H p x o ∧ Q (.bl o.isSome) H) inA := fun σ H loc μ v u a b Q rs ra rb q => by
  unfold inA at q
  split at q
  · rename_i k e
    rcases inB_ok rs ra rb e with ⟨c, z, h1, h2, h3⟩ | ⟨p, xs, h1, h2, h3, h4, h5⟩ | ⟨p, o, h1, h2, h3⟩
    · exact .inl ⟨c, z, h1, h2, by rw [← h3]; exact q _ H loc Gr.refl rs (.bl _)⟩
    · exact .inr (.inl ⟨p, xs, h1, h2, h3, h4, by rw [if_neg Bool.false_ne_true, ← h5]; exact q _ H loc Gr.refl rs (.bl _)⟩)
    · exact .inr (.inr ⟨p, o, h1, h2, by rw [← h3]; exact q _ H loc Gr.refl rs (.bl _)⟩)
  · exact q.elim
theorem so_nin : SO X W (fun x y H Q => (∃ (c : Nat) (z : Str), x = .str ⟨#[c]⟩ ∧ y = .str z ∧ Q (.bl (!decide (c ∈ z.cps.toList))) H) ∨ rIn X.K true x y H Q ∨ ∃ p o, y = .ref p ∧ DGet H p x o ∧ Q (.bl (!o.isSome)) H) ninA := fun σ H loc μ v u a b Q rs ra rb q => by
  unfold ninA at q
  split at q
  · rename_i k e
    rcases inB_ok rs ra rb e with ⟨c, z, h1, h2, h3⟩ | ⟨p, xs, h1, h2, h3, h4, h5⟩ | ⟨p, o, h1, h2, h3⟩
    · exact .inl ⟨c, z, h1, h2, by rw [← h3]; exact q _ H loc Gr.refl rs (.bl _)⟩
    · exact .inr (.inl ⟨p, xs, h1, h2, h3, h4, by rw [if_pos rfl, ← h5]; exact q _ H loc Gr.refl rs (.bl _)⟩)
    · exact .inr (.inr ⟨p, o, h1, h2, by rw [← h3]; exact q _ H loc Gr.refl rs (.bl _)⟩)
  · exact q.elim
theorem op_inAll (hu : X.A.units + 1 < cLine) : OpR X (compareOp .In) (fun x y H Q => (∃ (c : Nat) (z : Str), x = .str ⟨#[c]⟩ ∧ y = .str z ∧ Q (.bl (decide (c ∈ z.cps.toList))) H) ∨ rIn X.K false x y H Q ∨ ∃ p o, y = .ref p ∧ DGet H p x o ∧ Q (.bl o.isSome) H) := OpR.or op_in_sign (OpR.or op_in_seq (op_dIn hu))
theorem op_ninAll (hu : X.A.units + 1 < cLine) : OpR X (compareOp .NotIn) (fun x y H Q => (∃ (c : Nat) (z : Str), x = .str ⟨#[c]⟩ ∧ y = .str z ∧ Q (.bl (!decide (c ∈ z.cps.toList))) H) ∨ rIn X.K true x y H Q ∨ ∃ p o, y = .ref p ∧ DGet H p x o ∧ Q (.bl (!o.isSome)) H) := OpR.or op_notIn_sign (OpR.or op_notIn_seq (op_dNin hu))
theorem se_in (hr : Room k X.A) (ha : SE X W a ma) (hb : SE X W b mb) (hm : behindInMarks .In b = false := by rfl) : SE X W (.Compare a [.In] [b] pos) (fun δ => bnd (ma δ) fun x => bnd (mb δ) fun y => inA x y) := se_cmp (op_inAll (hu_of hr)) so_in ha hb hm
theorem se_nin (hr : Room k X.A) (ha : SE X W a ma) (hb : SE X W b mb) (hm : behindInMarks .NotIn b = false := by rfl) : SE X W (.Compare a [.NotIn] [b] pos) (fun δ => bnd (ma δ) fun x => bnd (mb δ) fun y => ninA x y) := se_cmp (op_ninAll (hu_of hr)) so_nin ha hb hm
theorem st_in (hr : Room k X.A) (ha : SE X W a ma) (hb : SE X W b mb) (hm : behindInMarks .In b = false := by rfl) : ST X W (.Compare a [.In] [b] pos) (fun δ => bnd (ma δ) fun x => bnd (mb δ) fun y => bnd (inA x y) asB) := st_cmp (op_inAll (hu_of hr)) so_in ha hb hm
theorem st_nin (hr : Room k X.A) (ha : SE X W a ma) (hb : SE X W b mb) (hm : behindInMarks .NotIn b = false := by rfl) : ST X W (.Compare a [.NotIn] [b] pos) (fun δ => bnd (ma δ) fun x => bnd (mb δ) fun y => bnd (ninA x y) asB) := st_cmp (op_ninAll (hu_of hr)) so_nin ha hb hm
end
end Lt

/-! Lt12: == with what is empty, dict displays, get, len(set(..)), calls of values. -/
namespace Lt
open PySem PySem.Spec PyProof.Rows L2
/-! ### a == (), a == [] -/
def rEqE (K : PySem.W.Frag) (neg : Bool) : R2 := fun x y H Q => ∃ (p q : Addr) (xs : List V), x = .ref p ∧ y = .ref q ∧ ((SqT K H p xs ∧ SqT K H q []) ∨ (SqL K H p xs ∧ SqL K H q [])) ∧ Q (.bl (if neg then !xs.isEmpty else xs.isEmpty)) H
section
variable {X : Cx}
theorem its_nil {its : List Value} (r : Vals [] its) : its = [] := by
  cases r
  rfl
theorem emp_size {xs : List V} {its : List Value} (r : Vals xs its) : ((List.range (min its.toArray.size ([] : List Value).toArray.size)).all (fun _ => true) && its.toArray.size == ([] : List Value).toArray.size) = xs.isEmpty := by
  cases r with
  | nil => rfl
  | cons a b => simp
theorem op_eqE (hu : X.A.units + 1 < cLine) : OpR X (compareOp .Eq) (rEqE X.K false) := by
  intro pins s σ H x y v u Q I rx ry h
  obtain ⟨p, q, xs, rfl, rfl, hq, h⟩ := h
  obtain rfl : v = Value.ref p := rx
  obtain rfl : u = Value.ref q := ry
  have hu' : X.A.units < cLine := by omega
  rcases hq with ⟨h1, h2⟩ | ⟨h1, h2⟩
  · obtain ⟨its, r, t1, _⟩ := I.tuple h1
    obtain ⟨its2, r2, t2, _⟩ := I.tuple h2
    have e := its_nil r2
    subst e
    refine SeqAt.eq_tupleAt (e := fun _ => true) t1 t2 hu' (fun j _ hj => absurd hj (by simp)) ?_
    rw [emp_size r]
    exact ⟨.bl _, H, I, rfl, h⟩
  · obtain ⟨its, r, t1, _⟩ := I.list h1
    obtain ⟨its2, r2, t2, _⟩ := I.list h2
    have e := its_nil r2
    subst e
    by_cases hz : its = []
    · subst hz
      have hxs : xs = [] := List.eq_nil_of_length_eq_zero (by rw [r.length]; rfl)
      subst hxs
      refine SeqAt.eq_listAt (e := fun _ => true) t1.isList t2.isList rfl hu' (fun j hj _ => absurd hj (by simp)) ?_
      exact ⟨.bl _, H, I, rfl, h⟩
    · have hxs : xs.isEmpty = false := by
        cases r with
        | nil => exact absurd rfl hz
        | cons a b => rfl
      refine SeqAt.eq_list_lengthsAt t1.isList t2.isList ?_ hu' ⟨.bl _, H, I, rfl, by rw [if_neg Bool.false_ne_true, hxs] at h; exact h⟩
      cases its with
      | nil => exact absurd rfl hz
      | cons a b => simp
theorem op_neE (hu : X.A.units + 1 < cLine) : OpR X (compareOp .NotEq) (rEqE X.K true) := by
  intro pins s σ H x y v u Q I rx ry h
  obtain ⟨p, q, xs, rfl, rfl, hq, h⟩ := h
  obtain rfl : v = Value.ref p := rx
  obtain rfl : u = Value.ref q := ry
  have hu' : X.A.units < cLine := by omega
  rcases hq with ⟨h1, h2⟩ | ⟨h1, h2⟩
  · obtain ⟨its, r, t1, _⟩ := I.tuple h1
    obtain ⟨its2, r2, t2, _⟩ := I.tuple h2
    have e := its_nil r2
    subst e
    refine SeqAt.RcNeAt.tuples (e := fun _ => true) t1 t2 hu' (fun j _ hj => absurd hj (by simp)) X.prog X.w X.xe _ ?_
    rw [emp_size r]
    exact ⟨.bl _, H, I, rfl, h⟩
  · obtain ⟨its, r, t1, _⟩ := I.list h1
    obtain ⟨its2, r2, t2, _⟩ := I.list h2
    have e := its_nil r2
    subst e
    by_cases hz : its = []
    · subst hz
      have hxs : xs = [] := List.eq_nil_of_length_eq_zero (by rw [r.length]; rfl)
      subst hxs
      refine SeqAt.RcNeAt.lists (e := fun _ => true) t1.isList t2.isList rfl hu' (fun j hj _ => absurd hj (by simp)) X.prog X.w X.xe _ ?_
      exact ⟨.bl _, H, I, rfl, h⟩
    · have hxs : xs.isEmpty = false := by
        cases r with
        | nil => exact absurd rfl hz
        | cons a b => rfl
      refine SeqAt.RcNeAt.lists_lengths t1.isList t2.isList ?_ hu' X.prog X.w X.xe _ ⟨.bl _, H, I, rfl, by rw [if_pos rfl, hxs] at h; exact h⟩
      cases its with
      | nil => exact absurd rfl hz
      | cons a b => simp
end
def empB (μ : Sto) (a b : A) : Option Bool := match a, b with
  | .tup xs, .tup [] => some xs.isEmpty
  | .hd n, .hd m => match μ[n]?, μ[m]? with
    | some (.lst xs), some (.lst []) => some xs.isEmpty
    | _, _ => none
  | _, _ => none
def eqEA (a b : A) : M A := fun μ => match empB μ a b with
  | some k => .ok (.bl k) μ
  | none => .bad
def neEA (a b : A) : M A := fun μ => match empB μ a b with
  | some k => .ok (.bl (!k)) μ
  | none => .bad
section
variable {K : PySem.W.Frag} {H : Hp} {loc : List Addr} {μ : Sto}
theorem RAs.nil_of {vs : List V} (r : RAs K H loc vs []) : vs = [] := by
  cases r
  rfl
theorem empB_ok {v u : V} {a b : A} {k : Bool} (rs : RS K H loc μ) (ra : RA K H loc v a) (rb : RA K H loc u b) (e : empB μ a b = some k) :
    ∃ (p q : Addr) (xs : List V), v = .ref p ∧ u = .ref q ∧ ((SqT K H p xs ∧ SqT K H q []) ∨ (SqL K H p xs ∧ SqL K H q [])) ∧ k = xs.isEmpty := by
  cases ra with
  | tup h1 h2 h3 =>
    cases rb with
    | @tup p2 vs2 ys g1 g2 g3 =>
      cases ys with
      | nil =>
        cases e
        have e2 := g3.nil_of
        subst e2
        exact ⟨_, _, _, rfl, rfl, .inl ⟨h1, g1⟩, h3.isEmpty.symm⟩
      | cons y ys => cases e
    | _ => cases e
  | @hd p n hn =>
    cases rb with
    | @hd p2 m hm =>
      simp only [empB] at e
      split at e
      · rename_i xs e1 e2
        cases e
        obtain ⟨vs, a1, a2, a3⟩ := rs.lst e1 hn
        obtain ⟨ws, b1, b2, b3⟩ := rs.lst e2 hm
        have e3 := b3.nil_of
        subst e3
        exact ⟨_, _, _, rfl, rfl, .inr ⟨.of a1, .of b1⟩, a3.isEmpty.symm⟩
      · cases e
    | _ => cases e
  | _ => cases e
end
section
variable {X : Cx} {W : WX} {a b : Expr} {ma mb : Env → M A} {pos : Pos} {k : Nat}
theorem so_eqE : SO X W (rEqE X.K false) eqEA := fun σ H loc μ v u a b Q rs ra rb q => by
  unfold eqEA at q
  split at q
  · rename_i k e
    obtain ⟨p, q', xs, h1, h2, h3, h4⟩ := empB_ok rs ra rb e
    exact ⟨p, q', xs, h1, h2, h3, by rw [if_neg Bool.false_ne_true, ← h4]; exact q _ H loc Gr.refl rs (.bl _)⟩
  · exact q.elim
theorem so_neE : SO X W (rEqE X.K true) neEA := fun σ H loc μ v u a b Q rs ra rb q => by
  unfold neEA at q
  split at q
  · rename_i k e
    obtain ⟨p, q', xs, h1, h2, h3, h4⟩ := empB_ok rs ra rb e
    exact ⟨p, q', xs, h1, h2, h3, by rw [if_pos rfl, ← h4]; exact q _ H loc Gr.refl rs (.bl _)⟩
  · exact q.elim
theorem se_eqE (hr : Room k X.A) (ha : SE X W a ma) (hb : SE X W b mb) : SE X W (.Compare a [.Eq] [b] pos) (fun δ => bnd (ma δ) fun x => bnd (mb δ) fun y => eqEA x y) := se_cmp (op_eqE (hu_of hr)) so_eqE ha hb
theorem se_neE (hr : Room k X.A) (ha : SE X W a ma) (hb : SE X W b mb) : SE X W (.Compare a [.NotEq] [b] pos) (fun δ => bnd (ma δ) fun x => bnd (mb δ) fun y => neEA x y) := se_cmp (op_neE (hu_of hr)) so_neE ha hb
theorem st_eqE (hr : Room k X.A) (ha : SE X W a ma) (hb : SE X W b mb) : ST X W (.Compare a [.Eq] [b] pos) (fun δ => bnd (ma δ) fun x => bnd (mb δ) fun y => bnd (eqEA x y) asB) := st_cmp (op_eqE (hu_of hr)) so_eqE ha hb
theorem st_neE (hr : Room k X.A) (ha : SE X W a ma) (hb : SE X W b mb) : ST X W (.Compare a [.NotEq] [b] pos) (fun δ => bnd (ma δ) fun x => bnd (mb δ) fun y => bnd (neEA x y) asB) := st_cmp (op_neE (hu_of hr)) so_neE ha hb
end
/-! ### dict displays -/
def mergeA (kvs more : List (Key × A)) : List (Key × A) := more.foldl (fun acc kv => putA acc kv.1 kv.2) kvs
section
variable {K : PySem.W.Frag} {H : Hp} {loc : List Addr}
theorem RKV.merge : ∀ {vs more : List (Key × V)} {xs mora : List (Key × A)}, RKV K H loc more mora → RKV K H loc vs xs → RKV K H loc (mergeK vs more) (mergeA xs mora) := by
  intro vs more xs mora r
  unfold RKV at r
  induction r generalizing vs xs with
  | nil => exact fun q => q
  | @cons p q ps qs h t ih =>
    intro r0
    have e : RKV K H loc (putK vs p.1 p.2) (putA xs q.1 q.2) := by
      have := r0.put p.1 h.2
      rw [← h.1]
      exact this
    exact ih e
theorem RKV.zip : ∀ (kk : List Key) {us : List V} {as : List A}, RAs K H loc us as → RKV K H loc (kk.zip us) (kk.zip as)
  | [], _, _, _ => .nil
  | _ :: _, _, _, .nil => .nil
  | k :: kk, _, _, .cons r t => .cons ⟨rfl, r⟩ (RKV.zip kk t)
theorem zip_kV : ∀ (kk : List Key) (us : List V), (kk.map kV).zip us = (kk.zip us).map fun kv => (kV kv.1, kv.2)
  | [], _ => rfl
  | _ :: _, [] => rfl
  | k :: kk, u :: us => by
    show (kV k, u) :: (kk.map kV).zip us = _
    rw [zip_kV kk us]
    rfl
theorem Gr0.atD {D : Addr} {kvs : List (Key × V)} {o : HO} (h : H D = some (.dK kvs)) : Gr0 K H loc (upd H D o) loc :=
  ⟨⟨[], (List.append_nil _).symm⟩, fun b xs e => by rw [upd_ne (fun z => by subst z; rw [h] at e; cases e)]; exact e, fun b ob u e => by rw [upd_ne (fun z => by subst z; rw [h] at e; cases e)]; exact e, fun b φ e n => ⟨by rw [upd_ne (fun z => by subst z; rw [h] at e; cases e)]; exact e, n⟩⟩
theorem RS.atD {D : Addr} {kvs : List (Key × V)} {o : HO} {μ : Sto} (h : H D = some (.dK kvs)) (hD : D ∉ loc) (r : RS K H loc μ) : RS K (upd H D o) loc μ :=
  ⟨r.len, r.nd, fun n m e => by
    obtain ⟨a, u, h1, h2, h3⟩ := r.at_ n m e
    exact ⟨a, u, h1, by rw [upd_ne (fun z => by subst z; exact hD (List.mem_of_getElem? h1))]; exact h2, h3.mono0 (Gr0.atD h)⟩⟩
theorem Gr.atN {D : Addr} {o : HO} {H1 : Hp} {loc1 : List Addr} (h0 : H D = none) (g : Gr K H loc H1 loc1) : Gr K H loc (upd H1 D o) loc1 :=
  ⟨g.pre, fun b ys e => by rw [upd_ne (ne_of_none e h0)]; exact g.tup b ys e, fun b ob u e => by rw [upd_ne (ne_of_none e h0)]; exact g.frz b ob u e, fun b u e n => ⟨by rw [upd_ne (ne_of_none e h0)]; exact (g.frm b u e n).1, (g.frm b u e n).2⟩⟩
end
def SDs (X : Cx) (W : WX) (pos : Pos) (ks : List (Option Expr)) (vs : List Expr) (kk : List Key) (ms : Env → M (List A)) : Prop := ∃ trs : List (TE × TE), PPs X pos ks vs trs ∧ ∀ (σ : St) (H : Hp) (loc : List Addr) (δ : Env) (μ : Sto) (Q : List (V × V) → Hp → Prop), RE X.K H loc σ δ → RS X.K H loc μ →
  (ms δ μ).post (fun as μ' => ∀ (us : List V) (H' : Hp) (loc' : List Addr), Gr X.K H loc H' loc' → RS X.K H' loc' μ' → RAs X.K H' loc' us as → Q ((kk.map kV).zip us) H') (KX X W σ H loc) → tPairs trs σ H Q
section
variable {X : Cx} {W : WX} {pos : Pos}
theorem sds_nil : SDs X W pos [] [] [] (fun _ => ret []) := ⟨[], pps_nil, fun σ H loc δ μ Q re rs q => q [] H loc Gr.refl rs .nil⟩
theorem sds_cons {k v : Expr} {ks : List (Option Expr)} {vs : List Expr} {kk : List Key} {key : Key} {m : Env → M A} {ms : Env → M (List A)} (hk : PE X k (tC (kV key))) (hv : SE X W v m) (hs : SDs X W pos ks vs kk ms) :
    SDs X W pos (some k :: ks) (v :: vs) (key :: kk) (fun δ => bnd (m δ) fun x => bnd (ms δ) fun xs => ret (x :: xs)) := by
  obtain ⟨trs, h1, h2⟩ := hs
  refine ⟨(tC (kV key), wE X v) :: trs, pps_cons hk pwE h1, fun σ H loc δ μ Q re rs q => ?_⟩
  show wE X v σ H _
  refine hv.go re rs q fun w x H1 loc1 μ1 g1 rs1 rw' re1 q1 => ?_
  refine h2 σ H1 loc1 δ μ1 _ re1 rs1 (post_mono (post_bnd.mp q1) (fun xs μ2 q2 us H2 loc2 g2 rs2 ra => ?_) fun _ _ z => z)
  exact q2 (w :: us) H2 loc2 (g1.trans g2) rs2 (.cons (rw'.mono g2) ra)
def dispM (kk : List Key) (as : List A) : M A := if as.length = kk.length ∧ kk.length ≤ 15 then alloc (.dic (mergeA [] (kk.zip as))) else bad
theorem se_disp {keys : List (Option Expr)} {values : List Expr} {kk : List Key} {ms : Env → M (List A)} (h : SDs X W pos keys values kk ms) (hall : keys.all (·.isSome) = true := by rfl) (hl : keys.length = values.length := by rfl) (h0 : keys ≠ [] := by exact fun z => nomatch z)
    (h15 : keys.length ≤ 15 := by decide) : SE X W (.Dict keys values pos) (fun δ => bnd (ms δ) (dispM kk)) := fun σ H loc δ μ Q re rs q => by
  obtain ⟨trs, h1, h2⟩ := h
  refine wE_of (pe_disp h1 hall hl h0 h15) ?_
  intro p hp
  have g0 : Gr X.K H loc (upd H p (.dK [])) loc := Gr.new hp
  refine h2 σ _ loc δ μ _ (re.mono g0) (rs.new hp) (post_mono (post_bnd.mp q) (fun as μ1 q1 us H1 loc1 g1 rs1 ra => ?_) fun _ _ z => KX.mono g0 z)
  unfold dispM at q1
  split at q1
  · rename_i hk
    obtain ⟨e1, n1⟩ := g1.frm p _ upd_same (rs.notin hp)
    have hz : (mergeK [] (kk.zip us)).length ≤ sizeLine := by
      have z1 := length_mergeK (kk.zip us) []
      rw [List.length_nil, List.length_zip, ra.length, hk.1] at z1
      rw [sizeLine_eq]
      omega
    refine ⟨e1, kk.zip us, zip_kV kk us, by rw [List.length_zip, ra.length, hk.1]; omega, ?_⟩
    have g2 : Gr X.K H loc H1 loc1 := g0.trans g1
    have rk : RKV X.K (upd H1 p (.dK (mergeK [] (kk.zip us)))) loc1 (mergeK [] (kk.zip us)) (mergeA [] (kk.zip as)) := RKV.merge (RKV.zip kk (ra.mono0 (Gr0.atD e1))) .nil
    exact q1 (.ref p) _ (loc1 ++ [p]) ((g2.atN hp).adopt hp) ((rs1.atD e1 n1).adopt upd_same n1 ⟨_, rfl, hz, rk⟩) (.hd (at_end_of (rs1.atD (o := .dK (mergeK [] (kk.zip us))) e1 n1)))
  · exact q1.elim
theorem se_dnew : SE X W (.Dict [] [] pos) (fun _ => alloc (.dic [])) := fun σ H loc δ μ Q re rs q => by
  refine wE_of pe_dnewK ?_
  intro p hp
  exact q (.ref p) _ (loc ++ [p]) (Gr.alloc hp) (rs.alloc hp ⟨[], rfl, Nat.zero_le _, .nil⟩) (.hd (at_end_of rs))
/-! ### d.get(k, x) -/
def isDicM (a : A) : M Unit := fun μ => match a with
  | .hd n => match μ[n]? with
    | some (.dic _) => .ok () μ
    | _ => .bad
  | _ => .bad
def getA (d x y : A) : M A := fun μ => match d with
  | .hd n => match μ[n]? with
    | some (.dic kvs) => match keyA x with
      | some k => .ok ((lookA kvs k).getD y) μ
      | none => .bad
    | _ => .bad
  | _ => .bad
theorem se_get2 {o a b : Expr} {mo ma mb : Env → M A} {apos : Pos} {k : Nat} (hr : Room k X.A) (ho : SE X W o mo) (ha : SE X W a ma) (hb : SE X W b mb) (m : M2 X o "get" apos a b pos := by exact ⟨rfl, rfl, rfl, rfl⟩) :
    SE X W (.Call (.Attribute o "get" apos) [a, b] [] pos) (fun δ => bnd (mo δ) fun d => bnd (isDicM d) fun _ => bnd (ma δ) fun x => bnd (mb δ) fun y => getA d x y) := fun σ H loc δ μ Q re rs q => by
  refine wE_of (pe_dget2 (hu_of hr) pwE pwE pwE m) ?_
  refine ho.go re rs q fun v x H1 loc1 μ1 g1 rs1 rv re1 q1 => ?_
  have q1 := post_bnd.mp q1
  unfold isDicM at q1
  split at q1
  · rename_i n
    split at q1
    · rename_i kvs e1
      cases rv with
      | @hd p n' hn =>
        obtain ⟨vs, b1, b2, b3⟩ := rs1.dic e1 hn
        refine ⟨p, rfl, .inl ⟨vs, .inl b1⟩, ?_⟩
        refine ha.go re1 rs1 q1 fun v2 x2 H2 loc2 μ2 g2 rs2 rv2 re2 q2 => ?_
        refine hb.go re2 rs2 q2 fun v3 x3 H3 loc3 μ3 g3 rs3 rv3 re3 q3 => ?_
        unfold getA at q3
        simp only at q3
        split at q3
        · rename_i kvs3 e3
          split at q3
          · rename_i kk ek
            obtain ⟨vs3, c1, c2, c3⟩ := rs3.dic e3 ((g2.trans g3).get hn)
            have hu := (rv2.mono g3).key ek
            subst hu
            refine ⟨_, .k c1, ?_⟩
            have gg := (g1.trans g2).trans g3
            cases el : lookA kvs3 kk with
            | none =>
              rw [(c3.look kk).2 el]
              rw [el] at q3
              exact q3 v3 H3 loc3 gg rs3 rv3
            | some x =>
              obtain ⟨w, e1, r1⟩ := (c3.look kk).1 x el
              rw [e1]
              rw [el] at q3
              exact q3 w H3 loc3 gg rs3 r1
          · exact q3.elim
        · exact q3.elim
    · exact q1.elim
  · exact q1.elim
/-! ### len(set(xs)) of at most one text -/
def lenSetA (a : A) : M A := bnd (items a) fun xs => bnd (optM (strsOf xs)) fun ys => if ys.length ≤ 1 then ret (.int ys.length) else bad
theorem se_lenSet {a : Expr} {ma : Env → M A} {p p2 q : Pos} (hm : X.mg "len" = none) (hm2 : X.mg "set" = none) (ha : SE X W a ma) (hc : X.calm = true := by rfl) (hg : Gl X "len" := by rfl) (hg2 : Gl X "set" := by rfl)
    (na : starEach [a] X.env = (false, eval a X.env) :: starEach [] X.env := by rfl) : SE X W (.Call (.Name "len" p) [.Call (.Name "set" p2) [a] [] q] [] pos) (fun δ => bnd (ma δ) lenSetA) := fun σ H loc δ μ Q re rs q' => by
  refine wE_of (pe_lenSet hc hg hm hg2 hm2 pwE na) ?_
  refine ha.go re rs q' fun v x H1 loc1 μ1 g1 rs1 rv re1 q1 => ?_
  obtain ⟨p, vs, xs, ev, hq, hl, ra, hi, q2⟩ := rv.sq rs1 (post_bnd.mp q1)
  subst ev
  obtain ⟨ys, e, q2⟩ := post_opt (post_bnd.mp q2)
  split at q2
  · rename_i h1
    refine ⟨p, ys, rfl, ?_, h1, q2 _ H1 loc1 g1 rs1 (.int _)⟩
    rw [← strs_ra ra e]
    exact hq
  · exact q2.elim
/-! ### a value that is called -/
def fnV (ap : Addr → Option (List A → M A)) (f : A) : M (List A → M A) := match f with
  | .fn a => optM (ap a)
  | _ => bad
theorem se_callV (ap : Addr → Option (List A → M A)) (i : Nat) {k : Nat} {x : Str} {e : Expr} {es : List Expr} {ma : Env → M (List A)} {p : Pos} (hap : ∀ f mf, ap f = some mf → ∃ (fd : FuncData) (ps : List Str) (mf' : List A → M A), FnM X.prog X.w X.K X.mg X.base k f fd ps mf' ∧ PySem.W.keepIn X.K (.ref f) = true ∧ L2.Binds X.K fd ps [] ∧ mf = callM ps.length mf')
    (hr : Room k X.A) (tk : Takes X W) (ha : SA X W (e :: es) ma) (hN : X.N[i]? = some x := by rfl) (hv : Vis X.env.scope x := by first | exact Or.inl rfl | exact Or.inr (Or.inl rfl) | exact Or.inr (Or.inr rfl))
    (hdb : (x == ("__debug__" : Str)) = false := by decide +kernel) (hcd : (x == ("__classdict__" : Str)) = false := by decide +kernel) (he : starEach (e :: es) X.env = (false, eval e X.env) :: starEach es X.env := by rfl) (hpl : (backTo pos (starEach es X.env)).any (·.1) = false := by rfl) :
    SE X W (.Call (.Name x p) (e :: es) [] pos) (fun δ => bnd (getv δ i) fun f => bnd (fnV ap f) fun mf => bnd (ma δ) mf) := fun σ H loc δ μ Q re rs q => fun pins s I => by
  have q := post_bnd.mp q
  simp only [getv] at q
  split at q
  · rename_i a ea
    obtain ⟨v0, hs, r0⟩ := re.at_ i a ea
    cases r0 with
    | @fn f =>
      obtain ⟨mf, eap, q⟩ := post_opt (post_bnd.mp (show (bnd (fnV ap (.fn f)) (fun mf => bnd (ma δ) mf) μ).post _ _ from q))
      have q := post_bnd.mp q
      refine wpAny_Call_Name_kw (thn ((pe_var (pos := p) hN hv hdb hcd).run pins s σ H (fun v H1 => v = .ref f ∧ H1 = H) I ⟨.ref f, hs, rfl, rfl⟩) fun u s1 ⟨v, H1, I1, r1, q1⟩ => ?_)
      obtain ⟨rfl, rfl⟩ := q1
      cases r1
      obtain ⟨fd, ps, mf', F, hk, hb, em⟩ := hap f mf eap
      subst em
      refine PySem.W.callWith_K (h₀ := X.base) I.ok.mod.kin hk (thn (ha σ _ loc δ μ (fun vs H2 => spM X.K ps.length mf' vs H2 Q (WE W σ)) re rs (post_mono q (fun as μ1 q1 us H2 loc2 g2 rs2 ra => ?_) fun _ _ z => z) pos pins s1 I1) fun us s2 ⟨vs, H2, I2, r, q2⟩ => ⟨I2.kIn, ?_⟩) he hpl
      · exact spM_of rs2 ra (post_mono q1 (fun _ _ z => KV_.mono g2 z) fun _ _ z => KX.mono g2 z)
      · exact run_fnS F hr hb (passAt tk σ) I2 r q2
    | _ => exact q.elim
  · exact q.elim
end
end Lt

/-! Lt13: first, *rest = a tuple; tuple * int; tuple(..), list(..). -/
namespace Lt
open PySem PySem.Spec PyProof.Rows L2
/-- e1, *e2 = a tuple of at least one item -/
def gStar1 (K : PySem.W.Frag) (t : TGs) : TG := fun v σ H Q => ∃ (a : Addr) (x : V) (xs : List V), v = .ref a ∧ SqT K H a (x :: xs) ∧ ∀ D, H D = none → t [x, .ref D] σ (upd H D (.lst xs)) Q
section
variable {X : Cx} {W : WX}
theorem pg_star1 {e1 e2 : Expr} {p pos : Pos} {k : Nat} {t : TGs} (hc : X.calm = true) (h : PGs X [e1, e2] t) (hl : (assignEach [e1, .Starred e2 p] X.env).length = 2 := by rfl) (hst : (assignEach [e1, .Starred e2 p] X.env).findIdx? (·.1) = some 1 := by rfl)
    (hm : (assignEach [e1, .Starred e2 p] X.env).map (·.2) = (assignEach [e1, e2] X.env).map (·.2) := by rfl) : PG X (.Tuple [e1, .Starred e2 p] k pos) (gStar1 X.K t) := by
  refine ⟨fun pins s σ H v u Q I r hw => ?_⟩
  obtain ⟨a, x, xs, rfl, hq, hw⟩ := hw
  obtain rfl : u = Value.ref a := r
  obtain ⟨its, rv, ht, hz⟩ := I.tuple hq
  cases rv with
  | @cons _ u0 _ us r0 rr =>
    have hA := I.ok.hd hc
    have hax : a < s.heap.objs.size := let ⟨o, ho, _⟩ := ht; Heap.lt_size ho
    have hne := Nat.ne_of_lt hax
    have hz' : us.length + 1 ≤ sizeLine := by
      rw [List.length_cons, rr.length] at hz
      exact hz
    rw [assign_Tuple]
    refine wpAny_bind (wpAny_standAt ?_)
    unfold unpack unpackItems notIterableAtAll
    rw [hl, hst, hm]
    refine wpAny_bind (wpAny_holding (wpAny_bind (wpAny_bind (wpAny_specialOf ht.typeIs slot_tuple_iter.lookup (wpAny_pure ?_)))))
    simp only [Bool.false_eq_true, if_false]
    refine wpAny_bind (wpAny_holding (iter_tuple ht ?_))
    refine wpAny_bind (wpAny_holding (draw_tuple hne 1 0 _ _ ⟨_, Heap.get?_push_size _ rfl, rfl, rfl⟩ (ht.push _) (by simp) fun g it1 sb1 => ?_))
    have ht1 : IsTup g a (u0 :: us).toArray := (ht.push _).extBut sb1.extBut hne
    have it1' : IsTupIter g s.heap.objs.size a 1 := it1
    have l1 : s.heap.objs.size < g.objs.size := let ⟨o, ho, _⟩ := it1'; Heap.lt_size ho
    have l2 : a < g.objs.size := let ⟨o, ho, _⟩ := ht1; Heap.lt_size ho
    simp only [List.drop_zero, List.take_succ_cons, List.take_zero, List.length_singleton, Nat.lt_irrefl, if_false]
    refine wpAny_bind (wpAny_holding (PySem.W.kun_collect (s := { s with heap := g }) (T := "tuple_iterator") (.inr (.inr (.inr rfl))) (Walks.tuple (A := X.A.in1) hA s.heap.objs.size a hne (u0 :: us).toArray) (fun j z st => st.1.typeIs) (k := 1) (by simp) ⟨it1', ht1⟩ l1 l2 (fun g2 tk k2 => ?_) (by simpa using hz')))
    have kp : ∀ b o, s.heap.get? b = some o → g2.get? b = some o := fun b o e => k2 b o (Nat.ne_of_lt (Heap.lt_size e)) (sb1.extBut b o (Nat.ne_of_lt (Heap.lt_size e)) (Heap.get?_push_of_some _ e))
    have ed : List.drop 1 (u0 :: us).toArray.toList = us := rfl
    rw [ed]
    simp only [Nat.sub_self, Nat.not_lt_zero, if_false, Nat.sub_zero, List.take_length, List.drop_length, List.append_nil]
    refine wpAny_bind (wpAny_newList (wpAny_pure ?_) (by omega))
    have I1 : Inv X pins σ H { s with heap := g2, toks := tk } := I.kept (t' := tk) kp
    have I2 := I1.laid (t' := tk) (a := g2.objs.size) (o := .lst xs) (h' := g2.push { cls := .type "list", data := .seq us.toArray }) (fun b o e => Heap.get?_push_of_some _ e) (Nat.le_refl _) ⟨by rw [List.length_cons] at hz; omega, us, 0, rr, Heap.get?_push_size _ rfl⟩
    exact h.run pins _ σ _ [x, .ref g2.objs.size] [u0, .ref g2.objs.size] Q I2 (.cons r0 (.cons rfl .nil)) (hw _ (I1.hok.fresh (Nat.le_refl _)))
def starG (gs : List A → Env → M Env) : A → Env → M Env := fun a δ => match a with
  | .tup (x :: xs) => bnd (alloc (.lst xs)) fun h => gs [x, h] δ
  | _ => bad
theorem sg_star1 {T : List Nat} {e1 e2 : Expr} {p pos : Pos} {k : Nat} {gs : List A → Env → M Env} (hc : X.calm = true) (h : SGs X W T [e1, e2] gs) (hl : (assignEach [e1, .Starred e2 p] X.env).length = 2 := by rfl) (hst : (assignEach [e1, .Starred e2 p] X.env).findIdx? (·.1) = some 1 := by rfl)
    (hm : (assignEach [e1, .Starred e2 p] X.env).map (·.2) = (assignEach [e1, e2] X.env).map (·.2) := by rfl) : SG X W T (.Tuple [e1, .Starred e2 p] k pos) (starG gs) := fun σ H loc δ μ v a Q re rs ra q => by
  obtain ⟨t, h1, h2⟩ := h
  refine wG_of (pg_star1 hc h1 hl hst hm) ?_
  cases ra with
  | @tup a vs xs hq hz r =>
    cases r with
    | nil => exact q.elim
    | @cons x vs y ys r0 rr =>
      refine ⟨a, x, vs, rfl, hq, fun D hD => ?_⟩
      have g1 : Gr X.K H loc (upd H D (.lst vs)) (loc ++ [D]) := Gr.alloc hD
      have hz' : vs.length ≤ sizeLine := by rw [List.length_cons] at hz; omega
      exact h2 σ _ (loc ++ [D]) δ _ [x, .ref D] [y, .hd μ.length] Q (re.mono g1) (rs.alloc (m := .lst ys) hD ⟨vs, rfl, hz', rr.mono g1⟩) (.cons (r0.mono g1) (.cons (.hd (at_end_of rs)) .nil))
        (post_mono q (fun δ' μ' q' σ' H' loc' g' rs' re' ag => q' σ' H' loc' (g1.trans g') rs' re' ag) fun _ _ z => z)
  | _ => exact q.elim
/-! ### tuple(..), list(..) -/
theorem se_tuple {p pos : Pos} {e : Expr} {ma : Env → M (List A)} (hm : X.mg "tuple" = none) (ha : SA X W [e] ma) (hg : Gl X "tuple" := by rfl) (he : starEach [e] X.env = (false, eval e X.env) :: starEach [] X.env := by rfl) (hpl : (backTo pos (starEach [] X.env)).any (·.1) = false := by rfl) :
    SE X W (.Call (.Name "tuple" p) [e] [] pos) (fun δ => bnd (ma δ) tupleA) := se_callT call_tuple_of sc_tuple hm PyProof.Rows.Boot.«tuple» ha hg (he := he) (hpl := hpl)
theorem se_tupleL {p pos : Pos} {e : Expr} {m : Env → M (List A)} (hm : X.mg "tuple" = none) (h : SL X W e m) (hg : Gl X "tuple" := by rfl) (he : starEach [e] X.env = (false, eval e X.env) :: starEach [] X.env := by rfl) (hpl : (backTo pos (starEach [] X.env)).any (·.1) = false := by rfl) :
    SE X W (.Call (.Name "tuple" p) [e] [] pos) (fun δ => bnd (m δ) tupF) := se_callTL call_tuple_of slc_tup hm PyProof.Rows.Boot.«tuple» h hg (he := he) (hpl := hpl)
theorem se_list {p pos : Pos} {e : Expr} {ma : Env → M (List A)} (hm : X.mg "list" = none) (ha : SA X W [e] ma) (hg : Gl X "list" := by rfl) (he : starEach [e] X.env = (false, eval e X.env) :: starEach [] X.env := by rfl) (hpl : (backTo pos (starEach [] X.env)).any (·.1) = false := by rfl) :
    SE X W (.Call (.Name "list" p) [e] [] pos) (fun δ => bnd (ma δ) listA) := se_callT call_list_of sc_list hm PyProof.Rows.Boot.«list» ha hg (he := he) (hpl := hpl)
end
end Lt

/-! Lt14: tuple * int. -/
namespace Lt
open PySem PySem.Spec PyProof.Rows L2
open PySem.AutoSeq1 (wpAny_loadPart')
theorem tup_mul1 (l : Addr) (items : Array Value) (n : Nat) (dd : Option Addr) (sl : Array (Option Value)) (u : Tok) (hi : items.isEmpty = false) :
    Meets (Builtin.«tuple.__mul__» ⟨[.ref l, .int 1 u], []⟩) (fun _ R s => s.heap.get? l = some { cls := .type "tuple", dict := dd, data := .seq items n, slots := sl } ∧ R (.ok (.ret (Value.ref l))) s) :=
  .of_wp fun prog w A R s h => by
    obtain ⟨hp, g, d, tk, os⟩ := s
    obtain ⟨hl, h⟩ := h
    have f1 := PySem.AutoSeq1.idx_int
    wp_walk using wpAny_loadPart' hl
    exact ⟨_, rfl, h⟩
theorem tup_mul0 (l : Addr) (items : Array Value) (n : Nat) (dd : Option Addr) (sl : Array (Option Value)) (u : Tok) (hi : items.isEmpty = false) :
    Meets (Builtin.«tuple.__mul__» ⟨[.ref l, .int 0 u], []⟩) (fun _ R s => s.heap.get? l = some { cls := .type "tuple", dict := dd, data := .seq items n, slots := sl } ∧ R (.ok (.ret (Value.ref s.heap.objs.size))) { s with heap := s.heap.push { cls := Value.type "tuple", data := Data.seq #[] } }) :=
  .of_wp fun prog w A R s h => by
    obtain ⟨hp, g, d, tk, os⟩ := s
    obtain ⟨hl, h⟩ := h
    have f1 := PySem.AutoSeq1.idx_int
    wp_walk using wpAny_loadPart' hl
    exact ⟨_, rfl, h⟩
def rRep1 (K : PySem.W.Frag) : R2 := fun x y H Q => ∃ l xs, x = .ref l ∧ y = .int 1 ∧ SqT K H l xs ∧ xs ≠ [] ∧ Q (.ref l) H
def rRep0 (K : PySem.W.Frag) : R2 := fun x y H Q => ∃ l xs, x = .ref l ∧ y = .int 0 ∧ SqT K H l xs ∧ xs ≠ [] ∧ ∀ p, H p = none → Q (.ref p) (upd H p (.tup []))
section
variable {X : Cx} {W : WX}
theorem its_ne {xs : List V} {its : List Value} (r : Vals xs its) (h : xs ≠ []) : its.toArray.isEmpty = false := by
  cases r with
  | nil => exact absurd rfl h
  | cons a b => rfl
theorem op_rep1 : OpR X (binaryOp .Mult) (rRep1 X.K) := by
  intro pins s σ H x y v u Q I rx ry h
  obtain ⟨l, xs, rfl, rfl, hT, hne, q⟩ := h
  obtain rfl : v = Value.ref l := rx
  obtain ⟨t, rfl⟩ := ry
  obtain ⟨its, r, ⟨⟨cls, dd, data, sl⟩, ho, hc, n, hd⟩, hs⟩ := I.tuple hT
  simp only at hc hd
  subst hc hd
  have M1 := tup_mul1 l its.toArray n dd sl t (its_ne r hne)
  have M0 := int_rmul_tuple 1 t l its.toArray n dd sl
  refine wpAny_binaryOp_repeat_ref (T := "tuple") (U := "int") (by decide) ⟨_, ho, rfl⟩ (fun s' => typeIs_int s' 1 t) noFill_tuple_mul F.fills_int_mul F.slot_int_rmul repeat_tuple F.slot_int_index.lookup ?_
  refine call_meets F.slot_int_rmul (typeIs_int s 1 t) F.entry_int_rmul (F.args_int_rmul_2 _ _) M0 ⟨ho, rfl, ⟨_, ho, rfl⟩, ?_⟩
  exact call_meets F.slot_tuple_mul ⟨_, ho, rfl⟩ F.entry_tuple_mul (F.args_tuple_mul_2 _ _) M1 ⟨ho, .ref l, H, I, rfl, q⟩
theorem op_rep0 : OpR X (binaryOp .Mult) (rRep0 X.K) := by
  intro pins s σ H x y v u Q I rx ry h
  obtain ⟨l, xs, rfl, rfl, hT, hne, q⟩ := h
  obtain rfl : v = Value.ref l := rx
  obtain ⟨t, rfl⟩ := ry
  obtain ⟨its, r, ⟨⟨cls, dd, data, sl⟩, ho, hc, n, hd⟩, hs⟩ := I.tuple hT
  simp only at hc hd
  subst hc hd
  have M1 := tup_mul0 l its.toArray n dd sl t (its_ne r hne)
  have M0 := int_rmul_tuple 0 t l its.toArray n dd sl
  refine wpAny_binaryOp_repeat_ref (T := "tuple") (U := "int") (by decide) ⟨_, ho, rfl⟩ (fun s' => typeIs_int s' 0 t) noFill_tuple_mul F.fills_int_mul F.slot_int_rmul repeat_tuple F.slot_int_index.lookup ?_
  refine call_meets F.slot_int_rmul (typeIs_int s 0 t) F.entry_int_rmul (F.args_int_rmul_2 _ _) M0 ⟨ho, rfl, ⟨_, ho, rfl⟩, ?_⟩
  refine call_meets F.slot_tuple_mul ⟨_, ho, rfl⟩ F.entry_tuple_mul (F.args_tuple_mul_2 _ _) M1 ⟨ho, .ref s.heap.objs.size, _, I.laid (t' := s.toks) (o := .tup []) (fun b ob q => Heap.get?_push_of_some _ q) (Nat.le_refl _) ?_, rfl, q _ (I.hok.fresh (Nat.le_refl _))⟩
  exact ⟨Nat.zero_le _, [], .nil, IsTup.new _ _⟩
def repA (a b : A) : M A := match a, b with
  | .tup xs, .int k => if xs ≠ [] ∧ 0 ≤ k ∧ k ≤ 1000 ∧ xs.length ≤ 1000 then ret (.tup (List.replicate k.toNat xs).flatten) else bad
  | _, _ => bad
theorem RAs.rep {K : PySem.W.Frag} {H : Hp} {loc : List Addr} {vs : List V} {xs : List A} (r : RAs K H loc vs xs) : ∀ n : Nat, RAs K H loc (List.replicate n vs).flatten (List.replicate n xs).flatten
  | 0 => .nil
  | n + 1 => by
    rw [List.replicate_succ, List.replicate_succ, List.flatten_cons, List.flatten_cons]
    exact r.append (RAs.rep r n)
theorem so_rep : SO X W (fun x y H Q => rRepT X.K x y H Q ∨ rRep1 X.K x y H Q ∨ rRep0 X.K x y H Q) repA := fun σ H loc μ v u a b Q rs ra rb q => by
  cases ra with
  | @tup p vs xs hq hl r =>
    cases rb with
    | int k =>
      unfold repA at q
      simp only at q
      split at q
      · rename_i h
        obtain ⟨h1, h2, h3, h4⟩ := h
        have hv : vs ≠ [] := fun e => h1 (by subst e; cases r; rfl)
        have hz : (List.replicate k.toNat vs).flatten.length ≤ sizeLine := by
          rw [PyProof.Rows.lm_len_rep_flat, r.length, sizeLine_eq]
          have a1 : k.toNat * xs.length ≤ 1000 * 1000 := Nat.mul_le_mul (by omega) h4
          omega
        by_cases k1 : k = 1
        · subst k1
          refine .inr (.inl ⟨p, vs, rfl, rfl, hq, hv, ?_⟩)
          have e1 : (List.replicate (1 : Int).toNat xs).flatten = xs := by simp
          rw [e1] at q
          exact q _ H loc Gr.refl rs (.tup hq hl r)
        · by_cases k0 : k = 0
          · subst k0
            refine .inr (.inr ⟨p, vs, rfl, rfl, hq, hv, fun d hd => ?_⟩)
            have e1 : (List.replicate (0 : Int).toNat xs).flatten = [] := rfl
            rw [e1] at q
            exact q _ _ loc (Gr.new hd) (rs.new hd) (.tup (.inl (.inl upd_same)) (Nat.zero_le _) .nil)
          · refine .inl ⟨p, k, vs, rfl, rfl, hq, hv, by omega, h3, by rw [r.length]; exact h4, fun d hd => ?_⟩
            exact q _ _ loc (Gr.new hd) (rs.new hd) (.tup (.inl (.inl upd_same)) hz ((r.rep k.toNat).mono (Gr.new hd)))
      · exact q.elim
    | _ => exact q.elim
  | _ => exact q.elim
theorem se_rep {a b : Expr} {ma mb : Env → M A} {pos : Pos} (ha : SE X W a ma) (hb : SE X W b mb) : SE X W (.BinOp a .Mult b pos) (fun δ => bnd (ma δ) fun x => bnd (mb δ) fun y => repA x y) := se_bin (OpR.or op_repT (OpR.or op_rep1 op_rep0)) so_rep ha hb
end
end Lt

/-! Lt15: [d[k] for k in d]. -/
namespace Lt
open PySem PySem.Spec PyProof.Rows L2
def dicM (a : A) : M (List (Key × A)) := fun μ => match a with
  | .hd n => match μ[n]? with
    | some (.dic kvs) => .ok kvs μ
    | _ => .bad
  | _ => .bad
section
variable {K : PySem.W.Frag} {H : Hp} {loc : List Addr}
theorem RKV.vals {vs : List (Key × V)} {xs : List (Key × A)} (r : RKV K H loc vs xs) : ∀ {ws : List (Key × V)} {ys : List (Key × A)}, RKV K H loc ws ys → RAs K H loc (ws.map fun kv => (valV vs kv.1).getD .non) (ys.map fun kv => (lookA xs kv.1).getD .non)
  | _, _, .nil => .nil
  | (k, v) :: ws, (k2, x) :: ys, .cons h t => by
    refine .cons ?_ (RKV.vals r t)
    obtain ⟨e, _⟩ := h
    have e' : k = k2 := e
    subst e'
    show RA K H loc ((valV vs k).getD .non) ((lookA xs k).getD .non)
    cases el : lookA xs k with
    | none =>
      rw [(r.look k).2 el]
      exact .non
    | some y =>
      obtain ⟨w, e1, r1⟩ := (r.look k).1 y el
      rw [e1]
      exact r1
theorem val_there : ∀ {vs : List (Key × V)} {i : Nat} {k : Key} {v : V}, vs[i]? = some (k, v) → ∃ w, valV vs k = some w := fun {vs i k v} e => by
  have hm : (k, v) ∈ vs := List.mem_of_getElem? e
  unfold valV
  cases q : vs.find? fun kv => decide (kv.1 = k) with
  | none =>
    have := List.find?_eq_none.mp q (k, v) hm
    simp at this
  | some kv => exact ⟨kv.2, by simp⟩
end
section
variable {X : Cx} {W : WX}
theorem se_dvals (i j : Nat) {x y : Str} {scope : Scope} {k1 : Nat} {p1 p2 p3 p4 p5 pos : Pos} (hc : X.calm = true) (hN : X.N.Nodup) (ok : BlkOk X.N X.env.scope scope [(y, j)]) (hij : i ≠ j) (hr : Room k1 X.A)
    (h0 : PE X (.Name x p2) (tVar i)) (hg : ∀ (s : Shared) (H : Hp) (C : Addr) (cl : List (Str × Addr)) (fp : List Addr), PG (X.blk s H scope (compEnvC scope cl C X.env) fp) (.Name y p1) (gName j))
    (he : ∀ (s : Shared) (H : Hp) (C : Addr) (cl : List (Str × Addr)) (fp : List Addr), PE (X.blk s H scope (compEnvC scope cl C X.env) fp) (.Subscript (.Name x p3) (.Name y p4) p5) (tDGet (tVar i) (tVar j))) (hs : ∀ z, foldedSetIterable (.Name x p2) X.env z = pure z := by intro _; rfl) :
    SL X W (.ListComp (.Subscript (.Name x p3) (.Name y p4) p5) [⟨.Name y p1, .Name x p2, [], 0⟩] scope pos) (fun δ => bnd (getv δ i) fun d => if j < δ.length then bnd (dicM d) fun kvs => ret (kvs.map fun kv => (lookA kvs kv.1).getD .non) else bad) := fun σ H loc δ μ Q re rs q => by
  have q := post_bnd.mp q
  simp only [getv] at q
  split at q
  · rename_i a ea
    obtain ⟨v0, hs0, r0⟩ := re.at_ i a ea
    by_cases hjl : j < δ.length
    case neg =>
      have q' : ((if j < δ.length then bnd (dicM a) fun kvs => ret (kvs.map fun kv => (lookA kvs kv.1).getD .non) else bad) μ).post (KL X H loc Q) (KX X W σ H loc) := q
      rw [if_neg hjl] at q'
      exact q'.elim
    have q' : ((if j < δ.length then bnd (dicM a) fun kvs => ret (kvs.map fun kv => (lookA kvs kv.1).getD .non) else bad) μ).post (KL X H loc Q) (KX X W σ H loc) := q
    rw [if_pos hjl] at q'
    have q := post_bnd.mp q'
    cases r0 with
    | @hd p n hn =>
      simp only [dicM] at q
      split at q
      · rename_i kvs e0
        obtain ⟨vs, b1, b2, b3⟩ := rs.dic e0 hn
        refine wE_of (pe_lock (pe_lc (own := [(y, j)]) hc hN (pi_keys h0) ok hg (fun _ _ _ _ _ => pts_nil) he hs)) ?_
        refine ⟨p, .dK vs, b1, trivial, fun od => ?_⟩
        refine ⟨_, hs0, p, od, rfl, .inl ⟨vs, upd_same, fun D hD => ?_⟩⟩
        have hDp : D ≠ p := fun e => by rw [e, upd_same] at hD; cases hD
        refine ⟨fun t m H2 => m = vs.length - t ∧ t ≤ vs.length ∧ H2 = upd (upd H p (.frz od (.dK vs))) D (.lst ((vs.take t).map fun kv => (valV vs kv.1).getD .non)), ⟨vs.length, rfl, Nat.zero_le _, rfl⟩, ?_⟩
        rintro t m H2 ⟨rfl, ht, rfl⟩
        have at_p : upd (upd H p (.frz od (.dK vs))) D (.lst ((vs.take t).map fun kv => (valV vs kv.1).getD .non)) p = some (.frz od (.dK vs)) := by rw [upd_ne (Ne.symm hDp), upd_same]
        by_cases hlt : t < vs.length
        · refine .inr ⟨⟨at_p, hlt⟩, fun H' => H' = upd (upd H p (.frz od (.dK vs))) D (.lst ((vs.take (t + 1)).map fun kv => (valV vs kv.1).getD .non)), fun H' eH => ⟨vs.length - (t + 1), by omega, rfl, hlt, eH⟩, ?_⟩
          rintro z H' ⟨rfl, k, v, ee, rfl⟩
          obtain ⟨w, ew⟩ := val_there ee
          have hj : (L2.wipe σ [j]).length = σ.length := L2.wipe_length σ [j]
          refine ⟨?_, ?_⟩
          · show ((((σ.set j none).set j (some (kV k))).set j none) : L2.St) = σ.set j none
            rw [List.set_set, List.set_set]
          · simp only [tYes, if_true]
            refine ⟨.ref p, ?_, kV k, ?_, p, w, rfl, .inl ⟨vs, k, .inr ⟨od, at_p⟩, rfl, ew.symm⟩, _, upd_same, ?_, ?_⟩
            · show ((σ.set j none).set j (some (kV k)))[i]? = _
              rw [List.getElem?_set_ne (Ne.symm hij), List.getElem?_set_ne (Ne.symm hij)]
              exact hs0
            · show ((σ.set j none).set j (some (kV k)))[j]? = _
              exact List.getElem?_set_self (by rw [List.length_set, re.len]; exact hjl)
            · rw [List.length_map, List.length_take]
              omega
            · funext c
              by_cases hcD : c = D
              · subst hcD
                rw [upd_same, upd_same, List.take_succ, ee]
                simp [ew]
              · rw [upd_ne hcD, upd_ne hcD, upd_ne hcD]
        · have et : t = vs.length := by omega
          subst et
          refine .inl ⟨⟨at_p, Nat.le_refl _⟩, at_p, ?_⟩
          have eH : upd (upd (upd H p (.frz od (.dK vs))) D (.lst ((vs.take vs.length).map fun kv => (valV vs kv.1).getD .non))) p (.dK vs) = upd H D (.lst (vs.map fun kv => (valV vs kv.1).getD .non)) := by
            funext c
            rw [List.take_length]
            by_cases hcp : c = p
            · subst hcp
              rw [upd_same, upd_ne (Ne.symm hDp), b1]
            · rw [upd_ne hcp]
              by_cases hcD : c = D
              · subst hcD
                rw [upd_same, upd_same]
              · rw [upd_ne hcD, upd_ne hcD, upd_ne hcp]
          rw [eH]
          rw [upd_ne hDp] at hD
          have ra := b3.vals b3
          exact q D _ _ loc (Gr.new hD) (rs.new hD) hD upd_same (rs.notin hD) (by rw [List.length_map]; exact b2) (ra.mono (Gr.new hD))
      · exact q.elim
    | _ => exact q.elim
  · exact q.elim
end
end Lt

/-! Lt16: the rules once more, the mirrors by named combinators (so that unification stays of first order). -/
namespace Lt
open PySem PySem.Spec PyProof.Rows L2
variable {α β : Type}
def saN : Env → M (List A) := fun _ => ret []
def saC (m : Env → M A) (ms : Env → M (List A)) : Env → M (List A) := fun δ => bnd (m δ) fun x => bnd (ms δ) fun xs => ret (x :: xs)
def opM (f : A → A → M A) (ma mb : Env → M A) : Env → M A := fun δ => bnd (ma δ) fun x => bnd (mb δ) fun y => f x y
def tsM (f : A → A → M A) (ma mb : Env → M A) : Env → M Bool := fun δ => bnd (ma δ) fun x => bnd (mb δ) fun y => bnd (f x y) asB
def apM (f : α → M β) (m : Env → M α) : Env → M β := fun δ => bnd (m δ) f
def kM (a : A) : Env → M A := fun _ => ret a
def vM (i : Nat) : Env → M A := fun δ => getv δ i
def notT (m : Env → M Bool) : Env → M Bool := fun δ => bnd (m δ) fun k => ret (!k)
def andT (a b : Env → M Bool) : Env → M Bool := fun δ => bnd (a δ) fun k => match k with | true => b δ | false => ret false
def orT (a b : Env → M Bool) : Env → M Bool := fun δ => bnd (a δ) fun k => match k with | true => ret true | false => b δ
def andE (a b : Env → M A) : Env → M A := fun δ => bnd (a δ) fun x => bnd (asB x) fun k => match k with | true => b δ | false => ret (.bl false)
def orE (a b : Env → M A) : Env → M A := fun δ => bnd (a δ) fun x => bnd (asB x) fun k => match k with | true => ret (.bl true) | false => b δ
def notE (a : Env → M A) : Env → M A := fun δ => bnd (a δ) fun x => bnd (asB x) fun k => ret (.bl (!k))
def ifE (c : Env → M Bool) (a b : Env → M A) : Env → M A := fun δ => bnd (c δ) fun k => match k with | true => a δ | false => b δ
def slM (m : Env → M A) (l u : Env → M (Option Int)) : Env → M A := fun δ => bnd (m δ) fun a => bnd (l δ) fun lo => bnd (u δ) fun hi => sliceA a lo hi
def noP : Env → M (Option Int) := fun _ => ret none
def m0M (f : A → List A → M A) (mo : Env → M A) : Env → M A := fun δ => bnd (mo δ) fun a => bnd (itemsL a) fun _ => f a []
def m1M (f : A → List A → M A) (mo me : Env → M A) : Env → M A := fun δ => bnd (mo δ) fun a => bnd (itemsL a) fun _ => bnd (bnd (me δ) fun x => bnd (ret []) fun xs => ret (x :: xs)) fun as => f a as
def joinLM (mo : Env → M A) (m : Env → M (List A)) : Env → M A := fun δ => bnd (mo δ) fun a => bnd (strM a) fun s => bnd (m δ) (joinF s)
def joinM (mo m : Env → M A) : Env → M A := fun δ => bnd (mo δ) fun a => bnd (strM a) fun s => bnd (m δ) (joinA s)
def getM (mo ma mb : Env → M A) : Env → M A := fun δ => bnd (mo δ) fun d => bnd (isDicM d) fun _ => bnd (ma δ) fun x => bnd (mb δ) fun y => getA d x y
def dvalsM (i j : Nat) : Env → M (List A) := fun δ => bnd (getv δ i) fun d => if j < δ.length then bnd (dicM d) fun kvs => ret (kvs.map fun kv => (lookA kvs kv.1).getD .non) else bad
def callVM (ap : Addr → Option (List A → M A)) (i : Nat) (ma : Env → M (List A)) : Env → M A := fun δ => bnd (getv δ i) fun f => bnd (fnV ap f) fun mf => bnd (ma δ) mf
def excM (C : Addr) (f : Str) (m : Env → M A) : Env → M A := fun δ => bnd (m δ) fun a => ret (.exc C [f] [a])
def exc0M (C : Addr) (m : Env → M A) : Env → M A := fun δ => bnd (m δ) fun _ => ret (.exc C [] [])
def yesT : Env → M Bool := fun _ => ret true
def nxS : Env → M Fl := fun δ => ret (.nx δ)
def bkS : Env → M Fl := fun δ => ret (.bk δ)
def ctS : Env → M Fl := fun δ => ret (.ct δ)
def rtN : Env → M Fl := fun _ => ret (.rt .non)
def rtS (m : Env → M A) : Env → M Fl := fun δ => inS (m δ) δ fun a => ret (.rt a)
def exS (m : Env → M A) : Env → M Fl := fun δ => inS (m δ) δ fun _ => ret (.nx δ)
def setS (i : Nat) (m : Env → M A) : Env → M Fl := fun δ => inS (m δ) δ fun a => ret (.nx (δ.set i (some a)))
def setLS (i : Nat) (m : Env → M (List A)) : Env → M Fl := fun δ => inS (m δ) δ fun as => bnd (lstF as) fun a => ret (.nx (δ.set i (some a)))
def asgS (g : A → Env → M Env) (m : Env → M A) : Env → M Fl := fun δ => inS (m δ) δ fun a => bnd (g a δ) fun δ' => ret (.nx δ')
def ifS (c : Env → M Bool) (a b : Env → M Fl) : Env → M Fl := fun δ => inS (c δ) δ fun k => match k with | true => a δ | false => b δ
section
variable {μ : Sto} {δ : Env} {Kn Kb Kc : Env → Sto → Prop} {Kr : A → Sto → Prop} {K : A → Sto → Prop} {KB : Bool → Sto → Prop} {KL : List A → Sto → Prop} {KO : Option Int → Sto → Prop} {Kβ : β → Sto → Prop}
@[simp] theorem w_saN : gives (saN δ μ) KL ↔ KL [] μ := Iff.rfl
@[simp] theorem w_saC {m : Env → M A} {ms : Env → M (List A)} : gives (saC m ms δ μ) KL ↔ gives (m δ μ) fun x μ1 => gives (ms δ μ1) fun xs μ2 => KL (x :: xs) μ2 := by
  unfold saC; simp
@[simp] theorem w_opM {f : A → A → M A} {ma mb : Env → M A} : gives (opM f ma mb δ μ) K ↔ gives (ma δ μ) fun x μ1 => gives (mb δ μ1) fun y μ2 => gives (f x y μ2) K := by
  unfold opM; simp
@[simp] theorem w_tsM {f : A → A → M A} {ma mb : Env → M A} : gives (tsM f ma mb δ μ) KB ↔ gives (ma δ μ) fun x μ1 => gives (mb δ μ1) fun y μ2 => gives (f x y μ2) fun z μ3 => gives (asB z μ3) KB := by
  unfold tsM; simp
@[simp] theorem w_apM {f : α → M β} {m : Env → M α} : gives (apM f m δ μ) Kβ ↔ gives (m δ μ) fun x μ1 => gives (f x μ1) Kβ := w_bnd
@[simp] theorem w_kM {a : A} : gives (kM a δ μ) K ↔ K a μ := Iff.rfl
@[simp] theorem w_vM {i : Nat} : gives (vM i δ μ) K ↔ gives (getv δ i μ) K := Iff.rfl
@[simp] theorem w_notT {m : Env → M Bool} : gives (notT m δ μ) KB ↔ gives (m δ μ) fun k μ1 => KB (!k) μ1 := w_bnd
theorem w_sel {b : Bool} {m1 m2 : M α} {Ka : α → Sto → Prop} : gives ((match b with | true => m1 | false => m2) μ) Ka ↔ (b = true → gives (m1 μ) Ka) ∧ (b = false → gives (m2 μ) Ka) := by
  cases b <;> simp
@[simp] theorem w_andT {a b : Env → M Bool} : gives (andT a b δ μ) KB ↔ gives (a δ μ) fun k μ1 => (k = true → gives (b δ μ1) KB) ∧ (k = false → KB false μ1) := by
  unfold andT
  rw [w_bnd]
  refine iff_of_eq (congrArg _ (funext fun k => funext fun μ1 => propext ?_))
  cases k <;> simp
@[simp] theorem w_orT {a b : Env → M Bool} : gives (orT a b δ μ) KB ↔ gives (a δ μ) fun k μ1 => (k = true → KB true μ1) ∧ (k = false → gives (b δ μ1) KB) := by
  unfold orT
  rw [w_bnd]
  refine iff_of_eq (congrArg _ (funext fun k => funext fun μ1 => propext ?_))
  cases k <;> simp
@[simp] theorem w_andE {a b : Env → M A} : gives (andE a b δ μ) K ↔ gives (a δ μ) fun x μ0 => gives (asB x μ0) fun k μ1 => (k = true → gives (b δ μ1) K) ∧ (k = false → K (.bl false) μ1) := by
  unfold andE
  rw [w_bnd]
  refine iff_of_eq (congrArg _ (funext fun x => funext fun μ0 => propext ?_))
  rw [w_bnd]
  refine iff_of_eq (congrArg _ (funext fun k => funext fun μ1 => propext ?_))
  cases k <;> simp
@[simp] theorem w_orE {a b : Env → M A} : gives (orE a b δ μ) K ↔ gives (a δ μ) fun x μ0 => gives (asB x μ0) fun k μ1 => (k = true → K (.bl true) μ1) ∧ (k = false → gives (b δ μ1) K) := by
  unfold orE
  rw [w_bnd]
  refine iff_of_eq (congrArg _ (funext fun x => funext fun μ0 => propext ?_))
  rw [w_bnd]
  refine iff_of_eq (congrArg _ (funext fun k => funext fun μ1 => propext ?_))
  cases k <;> simp
@[simp] theorem w_notE {a : Env → M A} : gives (notE a δ μ) K ↔ gives (a δ μ) fun x μ0 => gives (asB x μ0) fun k μ1 => K (.bl (!k)) μ1 := by
  unfold notE; simp
@[simp] theorem w_ifE {c : Env → M Bool} {a b : Env → M A} : gives (ifE c a b δ μ) K ↔ gives (c δ μ) fun k μ1 => (k = true → gives (a δ μ1) K) ∧ (k = false → gives (b δ μ1) K) := by
  unfold ifE
  rw [w_bnd]
  refine iff_of_eq (congrArg _ (funext fun k => funext fun μ1 => propext ?_))
  cases k <;> simp
@[simp] theorem w_slM {m : Env → M A} {l u : Env → M (Option Int)} : gives (slM m l u δ μ) K ↔ gives (m δ μ) fun a μ1 => gives (l δ μ1) fun lo μ2 => gives (u δ μ2) fun hi μ3 => gives (sliceA a lo hi μ3) K := by
  unfold slM; simp
@[simp] theorem w_noP : gives (noP δ μ) KO ↔ KO none μ := Iff.rfl
@[simp] theorem w_m0M {f : A → List A → M A} {mo : Env → M A} : gives (m0M f mo δ μ) K ↔ gives (mo δ μ) fun a μ1 => gives (itemsL a μ1) fun _ μ2 => gives (f a [] μ2) K := by
  unfold m0M; simp
@[simp] theorem w_m1M {f : A → List A → M A} {mo me : Env → M A} : gives (m1M f mo me δ μ) K ↔ gives (mo δ μ) fun a μ1 => gives (itemsL a μ1) fun _ μ2 => gives (me δ μ2) fun x μ3 => gives (f a [x] μ3) K := by
  unfold m1M; simp
@[simp] theorem w_joinLM {mo : Env → M A} {m : Env → M (List A)} : gives (joinLM mo m δ μ) K ↔ gives (mo δ μ) fun a μ1 => gives (strM a μ1) fun s μ2 => gives (m δ μ2) fun as μ3 => gives (joinF s as μ3) K := by
  unfold joinLM; simp
@[simp] theorem w_getM {mo ma mb : Env → M A} : gives (getM mo ma mb δ μ) K ↔ gives (mo δ μ) fun d μ1 => gives (isDicM d μ1) fun _ μ2 => gives (ma δ μ2) fun x μ3 => gives (mb δ μ3) fun y μ4 => gives (getA d x y μ4) K := by
  unfold getM; simp
@[simp] theorem w_callVM {ap : Addr → Option (List A → M A)} {i : Nat} {ma : Env → M (List A)} : gives (callVM ap i ma δ μ) K ↔ gives (getv δ i μ) fun f μ1 => gives (fnV ap f μ1) fun mf μ2 => gives (ma δ μ2) fun as μ3 => gives (mf as μ3) K := by
  unfold callVM; simp
@[simp] theorem w_excM {C : Addr} {f : Str} {m : Env → M A} : gives (excM C f m δ μ) K ↔ gives (m δ μ) fun a μ1 => K (.exc C [f] [a]) μ1 := w_bnd
@[simp] theorem w_exc0M {C : Addr} {m : Env → M A} : gives (exc0M C m δ μ) K ↔ gives (m δ μ) fun _ μ1 => K (.exc C [] []) μ1 := w_bnd
@[simp] theorem w_yesT : gives (yesT δ μ) KB ↔ KB true μ := Iff.rfl
@[simp] theorem f_nxS : fin (nxS δ μ) Kn Kr Kb Kc ↔ Kn δ μ := Iff.rfl
@[simp] theorem f_bkS : fin (bkS δ μ) Kn Kr Kb Kc ↔ Kb δ μ := Iff.rfl
@[simp] theorem f_ctS : fin (ctS δ μ) Kn Kr Kb Kc ↔ Kc δ μ := Iff.rfl
@[simp] theorem f_rtN : fin (rtN δ μ) Kn Kr Kb Kc ↔ Kr .non μ := Iff.rfl
@[simp] theorem f_rtS {m : Env → M A} : fin (rtS m δ μ) Kn Kr Kb Kc ↔ gives (m δ μ) Kr := by
  unfold rtS; simp
@[simp] theorem f_exS {m : Env → M A} : fin (exS m δ μ) Kn Kr Kb Kc ↔ gives (m δ μ) fun _ μ1 => Kn δ μ1 := by
  unfold exS; simp
@[simp] theorem f_setS {i : Nat} {m : Env → M A} : fin (setS i m δ μ) Kn Kr Kb Kc ↔ gives (m δ μ) fun a μ1 => Kn (δ.set i (some a)) μ1 := by
  unfold setS; simp
@[simp] theorem f_setLS {i : Nat} {m : Env → M (List A)} : fin (setLS i m δ μ) Kn Kr Kb Kc ↔ gives (m δ μ) fun as μ1 => Kn (δ.set i (some (.hd μ1.length))) (μ1 ++ [.lst as]) := by
  unfold setLS; simp
@[simp] theorem f_asgS {g : A → Env → M Env} {m : Env → M A} : fin (asgS g m δ μ) Kn Kr Kb Kc ↔ gives (m δ μ) fun a μ1 => gives (g a δ μ1) fun δ' μ2 => Kn δ' μ2 := by
  unfold asgS; simp
@[simp] theorem f_ifS {c : Env → M Bool} {a b : Env → M Fl} : fin (ifS c a b δ μ) Kn Kr Kb Kc ↔ gives (c δ μ) fun k μ1 => (k = true → fin (a δ μ1) Kn Kr Kb Kc) ∧ (k = false → fin (b δ μ1) Kn Kr Kb Kc) := by
  unfold ifS
  rw [f_inS]
  refine iff_of_eq (congrArg _ (funext fun k => funext fun μ1 => propext ?_))
  cases k <;> simp
end
end Lt

/-! Lt17: the rules with named mirrors (printed by gen_lt17.py). -/
namespace Lt
open PySem PySem.Spec PyProof.Rows L2
variable {X : Cx} {W : WX} {a b e o tg iter elt : Expr} {es ifs : List Expr} {ma mb mo me m : Env → M A} {pos apos p : Pos} {k : Nat} {scope : Scope} {own : List (Str × Nat)} {T : List Nat} {g : A → Env → M Env} {t : Env → M Bool}

def noSt : Expr → Bool
  | .Starred _ _ => false
  | _ => true
theorem stE_of {e : Expr} {es : List Expr} {env : PySem.Env} (h : noSt e = true) : starEach (e :: es) env = (false, eval e env) :: starEach es env := by
  cases e <;> first | rfl | cases h
theorem stE2_of {a b : Expr} {env : PySem.Env} (h : (noSt a && noSt b) = true) : starEach [a, b] env = [(false, eval a env), (false, eval b env)] := by
  obtain ⟨h1, h2⟩ := Bool.and_eq_true_iff.mp h
  rw [stE_of h1, stE_of h2]
  rfl
def noSts : List Expr → Bool
  | [] => true
  | e :: es => noSt e && noSts es
theorem hpl_of {pos : Pos} {env : PySem.Env} : ∀ {es : List Expr}, noSts es = true → (backTo pos (starEach es env)).any (·.1) = false
  | [], _ => rfl
  | e :: es, h => by
    obtain ⟨h1, h2⟩ := Bool.and_eq_true_iff.mp h
    rw [stE_of h1]
    exact hpl_of h2
theorem few_of {pos : Pos} {e : Expr} {env : PySem.Env} (h : noSt e = true) : ((backTo pos (starEach [e] env)).all (fun x => !x.1) && (backToKw pos (keywordEach [] env)).all (fun x => x.1.isSome)
      && decide (([e] : List Expr).length + ([] : List Keyword).length + (if ([] : List Keyword).isEmpty then 0 else 1) < 30)) = true := by
  rw [stE_of h]
  rfl
def noLc : Expr → Bool
  | .ListComp .. | .SetComp .. | .DictComp .. => false
  | _ => true
theorem swF_of {e : Expr} {t : Option Expr} {n : Nat} {env : PySem.Env} (h : noLc e = true) : swapsWith e t n env = pure false := by
  cases e <;> first | rfl | cases h
def noSet : Expr → Bool
  | .Set .. => false
  | _ => true
theorem fsi_of {e : Expr} {env : PySem.Env} {x : Value} (h : noSet e = true) : foldedSetIterable e env x = pure x := by
  cases e <;> first | rfl | cases h
def noSup : Expr → Bool
  | .Call (.Name _ _) [] [] _ => false
  | _ => true
theorem abs_of {o : Expr} {a : Str} {env : PySem.Env} {w : Sem Value} (h : noSup o = true) : attributeBase o a env w = w := by
  unfold attributeBase
  split
  · cases h
  · rfl
def noSw (t e : Expr) : Bool := match t, e with
  | .Tuple .., .Tuple .. => false
  | .List .., .Tuple .. => false
  | _, _ => true
theorem swp_of {t e : Expr} {env : PySem.Env} (h : noSw t e = true) : swappedStores [t] e env = pure none := by
  cases t <;> cases e <;> first | rfl | cases h
theorem cse_add (ha : SE X W a ma) (hb : SE X W b mb) : SE X W (.BinOp a .Add b pos) (opM addA ma mb) := se_add ha hb
theorem cse_sub (ha : SE X W a ma) (hb : SE X W b mb) : SE X W (.BinOp a .Sub b pos) (opM subA ma mb) := se_sub ha hb
theorem cse_mul (ha : SE X W a ma) (hb : SE X W b mb) : SE X W (.BinOp a .Mult b pos) (opM mulA ma mb) := se_mul ha hb
theorem cse_mod (ha : SE X W a ma) (hb : SE X W b mb) : SE X W (.BinOp a .Mod b pos) (opM modA ma mb) := se_mod ha hb
theorem cse_fdiv (ha : SE X W a ma) (hb : SE X W b mb) : SE X W (.BinOp a .FloorDiv b pos) (opM fdivA ma mb) := se_fdiv ha hb
theorem cse_pow (ha : SE X W a ma) (hb : SE X W b mb) : SE X W (.BinOp a .Pow b pos) (opM powA ma mb) := se_pow ha hb
theorem cse_rep {a b : Expr} {ma mb : Env → M A} {pos : Pos} (ha : SE X W a ma) (hb : SE X W b mb) : SE X W (.BinOp a .Mult b pos) (opM repA ma mb) := se_rep ha hb
theorem cse_lt (ha : SE X W a ma) (hb : SE X W b mb) : SE X W (.Compare a [.Lt] [b] pos) (opM ltA ma mb) := se_lt ha hb
theorem cst_lt (ha : SE X W a ma) (hb : SE X W b mb) : ST X W (.Compare a [.Lt] [b] pos) (tsM ltA ma mb) := st_lt ha hb
theorem cse_le (ha : SE X W a ma) (hb : SE X W b mb) : SE X W (.Compare a [.LtE] [b] pos) (opM leA ma mb) := se_le ha hb
theorem cst_le (ha : SE X W a ma) (hb : SE X W b mb) : ST X W (.Compare a [.LtE] [b] pos) (tsM leA ma mb) := st_le ha hb
theorem cse_gt (ha : SE X W a ma) (hb : SE X W b mb) : SE X W (.Compare a [.Gt] [b] pos) (opM gtA ma mb) := se_gt ha hb
theorem cst_gt (ha : SE X W a ma) (hb : SE X W b mb) : ST X W (.Compare a [.Gt] [b] pos) (tsM gtA ma mb) := st_gt ha hb
theorem cse_ge (ha : SE X W a ma) (hb : SE X W b mb) : SE X W (.Compare a [.GtE] [b] pos) (opM geA ma mb) := se_ge ha hb
theorem cst_ge (ha : SE X W a ma) (hb : SE X W b mb) : ST X W (.Compare a [.GtE] [b] pos) (tsM geA ma mb) := st_ge ha hb
theorem cse_eq (hr : Room k X.A) (ha : SE X W a ma) (hb : SE X W b mb) : SE X W (.Compare a [.Eq] [b] pos) (opM eqA ma mb) := se_eq hr ha hb
theorem cst_eq (hr : Room k X.A) (ha : SE X W a ma) (hb : SE X W b mb) : ST X W (.Compare a [.Eq] [b] pos) (tsM eqA ma mb) := st_eq hr ha hb
theorem cse_ne (hr : Room k X.A) (ha : SE X W a ma) (hb : SE X W b mb) : SE X W (.Compare a [.NotEq] [b] pos) (opM neA ma mb) := se_ne hr ha hb
theorem cst_ne (hr : Room k X.A) (ha : SE X W a ma) (hb : SE X W b mb) : ST X W (.Compare a [.NotEq] [b] pos) (tsM neA ma mb) := st_ne hr ha hb
theorem cse_is (ha : SE X W a ma) (hb : SE X W b mb) : SE X W (.Compare a [.Is] [b] pos) (opM isA ma mb) := se_is ha hb
theorem cst_is (ha : SE X W a ma) (hb : SE X W b mb) : ST X W (.Compare a [.Is] [b] pos) (tsM isA ma mb) := st_is ha hb
theorem cse_nis (ha : SE X W a ma) (hb : SE X W b mb) : SE X W (.Compare a [.IsNot] [b] pos) (opM nisA ma mb) := se_nis ha hb
theorem cst_nis (ha : SE X W a ma) (hb : SE X W b mb) : ST X W (.Compare a [.IsNot] [b] pos) (tsM nisA ma mb) := st_nis ha hb
theorem cse_in (hr : Room k X.A) (ha : SE X W a ma) (hb : SE X W b mb) (hm : behindInMarks .In b = false := by rfl) : SE X W (.Compare a [.In] [b] pos) (opM inA ma mb) := se_in hr ha hb hm
theorem cst_in (hr : Room k X.A) (ha : SE X W a ma) (hb : SE X W b mb) (hm : behindInMarks .In b = false := by rfl) : ST X W (.Compare a [.In] [b] pos) (tsM inA ma mb) := st_in hr ha hb hm
theorem cse_nin (hr : Room k X.A) (ha : SE X W a ma) (hb : SE X W b mb) (hm : behindInMarks .NotIn b = false := by rfl) : SE X W (.Compare a [.NotIn] [b] pos) (opM ninA ma mb) := se_nin hr ha hb hm
theorem cst_nin (hr : Room k X.A) (ha : SE X W a ma) (hb : SE X W b mb) (hm : behindInMarks .NotIn b = false := by rfl) : ST X W (.Compare a [.NotIn] [b] pos) (tsM ninA ma mb) := st_nin hr ha hb hm
theorem cse_eqE (hr : Room k X.A) (ha : SE X W a ma) (hb : SE X W b mb) : SE X W (.Compare a [.Eq] [b] pos) (opM eqEA ma mb) := se_eqE hr ha hb
theorem cst_eqE (hr : Room k X.A) (ha : SE X W a ma) (hb : SE X W b mb) : ST X W (.Compare a [.Eq] [b] pos) (tsM eqEA ma mb) := st_eqE hr ha hb
theorem cse_neE (hr : Room k X.A) (ha : SE X W a ma) (hb : SE X W b mb) : SE X W (.Compare a [.NotEq] [b] pos) (opM neEA ma mb) := se_neE hr ha hb
theorem cst_neE (hr : Room k X.A) (ha : SE X W a ma) (hb : SE X W b mb) : ST X W (.Compare a [.NotEq] [b] pos) (tsM neEA ma mb) := st_neE hr ha hb
theorem cse_var (i : Nat) {x : Str} {pos : Pos} (hN : X.N[i]? = some x := by rfl) (hv : Vis X.env.scope x := by first | exact Or.inl rfl | exact Or.inr (Or.inl rfl) | exact Or.inr (Or.inr rfl)) (hd : (x == ("__debug__" : Str)) = false := by decide +kernel)
    (hcd : (x == ("__classdict__" : Str)) = false := by decide +kernel) : SE X W (.Name x pos) (vM i) := se_var i hN hv hd hcd
theorem cse_int {i : Int} {j : Nat} {pos : Pos} : SE X W (.Constant (.int i) j pos) (kM (.int i)) := se_int 
theorem cse_bl {b : Bool} {j : Nat} {pos : Pos} : SE X W (.Constant (.bool b) j pos) (kM (.bl b)) := se_bl 
theorem cse_non {j : Nat} {pos : Pos} : SE X W (.Constant .none j pos) (kM .non) := se_non 
theorem cse_str {x : Str} {j : Nat} {pos : Pos} : SE X W (.Constant (.str x) j pos) (kM (.str x)) := se_str 
theorem cse_glob {x : Str} {v : V} {u : Value} {a : A} {pos : Pos} (hg : Gl X x) (hm : X.mg x = some u) (r : RelV v u) (ra : ∀ H loc, RA X.K H loc v a) (hd : (x == ("__debug__" : Str)) = false := by decide +kernel) : SE X W (.Name x pos) (kM a) := se_glob hg hm r ra hd
theorem cse_konst {x : Str} {c : A} (h : KonstOk X.K X.mg x c) (hg : Gl X x := by rfl) (hd : (x == ("__debug__" : Str)) = false := by decide +kernel) : SE X W (.Name x pos) (kM c) := se_konst h hg hd
theorem csa_nil : SA X W [] (saN) := sa_nil 
theorem csa_cons {e : Expr} {es : List Expr} {m : Env → M A} {ms : Env → M (List A)} (h : SE X W e m) (hs : SA X W es ms) (hst : noSt e = true := by rfl) : SA X W (e :: es) (saC m ms) := sa_cons h hs (stE_of hst)
theorem cse_tup {es : List Expr} {k : Nat} {pos : Pos} {ms : Env → M (List A)} (hs : SA X W es ms) : SE X W (.Tuple es k pos) (apM mkTup ms) := se_tup hs
theorem cse_lst {es : List Expr} {pos : Pos} {ms : Env → M (List A)} (hs : SA X W es ms) : SE X W (.List es pos) (apM mkLst ms) := se_lst hs
theorem cse_neg (ha : SE X W a ma) : SE X W (.UnaryOp .USub a pos) (apM negA ma) := se_neg ha
theorem cse_ix {a b : Expr} {ma mb : Env → M A} {pos : Pos} {k : Nat} (hr : Room k X.A) (ha : SE X W a ma) (hb : SE X W b mb) (hs : PlainIx b := by exact fun _ _ => rfl) : SE X W (.Subscript a b pos) (opM ixA ma mb) := se_ix hr ha hb hs
theorem cse_slice {e : Expr} {lo hi : Option Expr} {m : Env → M A} {ml mh : Env → M (Option Int)} {pos p2 : Pos} (h : SE X W e m) (hl : SP_ X W lo ml) (hh : SP_ X W hi mh) : SE X W (.Subscript e (.Slice lo hi none p2) pos) (slM m ml mh) := se_slice h hl hh
theorem csp_none : SP_ X W none (noP) := sp_none 
theorem csp_some {e : Expr} {m : Env → M A} (h : SE X W e m) : SP_ X W (some e) (apM partM m) := sp_some h
theorem cse_rev {e : Expr} {m : Env → M A} {k : Nat} {p1 p2 p3 pos : Pos} (h : SE X W e m) : SE X W (.Subscript e (.Slice none none (some (.UnaryOp .USub (.Constant (.int 1) k p1) p2)) p3) pos) (apM revA m) := se_rev h
theorem cst_val (ha : SE X W a ma) (he : ∀ whole, isTrue a X.env whole = (do let v ← whole; standAt a.pos; holding [v] (truthy v)) := by intro _; rfl) : ST X W a (apM truA ma) := st_val ha he
theorem cst_not {ta : Env → M Bool} (ha : ST X W a ta) : ST X W (.UnaryOp .Not a pos) (notT ta) := st_not ha
theorem csw_and {ta tb : Env → M Bool} {rest : List Expr} (ha : ST X W a ta) (hb : SW X W (.BoolOp .And (b :: rest) pos) tb) : SW X W (.BoolOp .And (a :: b :: rest) pos) (andT ta tb) := sw_and ha hb
theorem csw_or {ta tb : Env → M Bool} {rest : List Expr} (ha : ST X W a ta) (hb : SW X W (.BoolOp .Or (b :: rest) pos) tb) : SW X W (.BoolOp .Or (a :: b :: rest) pos) (orT ta tb) := sw_or ha hb
theorem cse_and {rest : List Expr} (ha : SE X W a ma) (hb : SE X W (.BoolOp .And (b :: rest) pos) mb) : SE X W (.BoolOp .And (a :: b :: rest) pos) (andE ma mb) := se_and ha hb
theorem cse_or {rest : List Expr} (ha : SE X W a ma) (hb : SE X W (.BoolOp .Or (b :: rest) pos) mb) : SE X W (.BoolOp .Or (a :: b :: rest) pos) (orE ma mb) := se_or ha hb
theorem cse_not (ha : SE X W a ma) : SE X W (.UnaryOp .Not a pos) (notE ma) := se_not ha
theorem cse_if {c : Expr} {tc : Env → M Bool} (hc : ST X W c tc) (ha : SE X W a ma) (hb : SE X W b mb) : SE X W (.IfExp c a b pos) (ifE tc ma mb) := se_if hc ha hb
theorem csb_nil : SB X W [] (nxS) := sb_nil 
theorem css_pass {pos : Pos} : SS X W (.Pass pos) (nxS) := ss_pass 
theorem css_break {pos : Pos} : SS X W (.Break pos) (bkS) := ss_break 
theorem css_cont {pos : Pos} : SS X W (.Continue pos) (ctS) := ss_cont 
theorem css_expr {e : Expr} {m : Env → M A} {pos : Pos} (h : SE X W e m) (hs : noLc e = true := by rfl) : SS X W (.Expr e pos) (exS m) := ss_expr h (swF_of hs)
theorem css_ret {e : Expr} {m : Env → M A} {pos : Pos} (h : SE X W e m) : SS X W (.Return (some e) pos) (rtS m) := ss_ret h
theorem css_retN {pos : Pos} : SS X W (.Return none pos) (rtN) := ss_retN 
theorem css_if {c : Expr} {a b : List Stmt} {tc : Env → M Bool} {ma mb : Env → M Fl} {pos : Pos} (hc : ST X W c tc) (ha : SB X W a ma) (hb : SB X W b mb) : SS X W (.If c a b pos) (ifS tc ma mb) := ss_if hc ha hb
theorem css_set (i : Nat) {x : Str} {e : Expr} {m : Env → M A} {pos pos' : Pos} (hN : X.N.Nodup) (h : SE X W e m) (hi : X.N[i]? = some x := by rfl) (hx : Loc X.env.scope x := by first | exact Or.inl rfl | exact Or.inr rfl)
    (hs : noLc e = true := by rfl) (hf : X.fn x = true ∨ X.env.scope.names.lookup x = some .local := by first | exact .inl rfl | exact .inr rfl) : SS X W (.Assign [.Name x pos'] e pos) (setS i m) := ss_set i hN h hi hx (swF_of hs) hf
theorem css_asg {T : List Nat} {tg e : Expr} {g : A → Env → M Env} {m : Env → M A} {pos : Pos} (h : SE X W e m) (hg : SG X W T tg g) (hs : noLc e = true := by rfl) (hw : swappedStores [tg] e X.env = pure none := by first | exact swp_of rfl | rfl)
    (h1 : (assignEach [tg] X.env).map (·.2) = [assign tg X.env] := by rfl) : SS X W (.Assign [tg] e pos) (asgS g m) := ss_asg h hg (swF_of hs) hw h1
theorem css_setLc {m : Env → M MIt} {me : Env → M A} (i : Nat) {y : Str} {py spos : Pos} (hc : X.calm = true) (hN : X.N.Nodup) (hi : SI X W tg iter m) (ok : BlkOk X.N X.env.scope scope own) (hg : Blk X scope (fun Y => SG Y W0 T tg g)) (hT : ∀ i ∈ T, i ∈ own.map (·.2))
    (ht : STs X scope ifs t) (he : Blk X scope (fun Y => SE Y W0 elt me)) (hy : X.N[i]? = some y := by rfl) (hyl : X.env.scope.names.lookup y = some .local := by rfl)
    (hsw : swapsWith (.ListComp elt [⟨tg, iter, ifs, 0⟩] scope pos) (some (.Name y py)) spos.line X.env = pure true := by rfl) (hs : noSet iter = true := by rfl) : SS X W (.Assign [.Name y py] (.ListComp elt [⟨tg, iter, ifs, 0⟩] scope pos) spos) (setLS i (compM m g t me (own.map (·.2)))) := ss_setLc i hc hN hi ok hg hT ht he hy hyl hsw (fun x => fsi_of hs)
theorem cse_call {f : Addr} {fd : FuncData} {ps : List Str} {mf : List A → M A} {x : Str} {ma : Env → M (List A)} (F : FnM X.prog X.w X.K X.mg X.base k f fd ps mf) (hr : Room k X.A) (tk : Takes X W) (hm : X.mg x = some (.ref f)) (hk : PySem.W.keepIn X.K (.ref f) = true) (hb : Binds X.K fd ps []) (ha : SA X W (e :: es) ma) (hg : Gl X x := by rfl)
    (hdb : (x == ("__debug__" : Str)) = false := by decide +kernel) (he : noSt e = true := by rfl) (hpl : noSts es = true := by rfl) : SE X W (.Call (.Name x p) (e :: es) [] pos) (apM (callM ps.length mf) ma) := se_call F hr tk hm hk hb ha hg hdb (stE_of he) (hpl_of hpl)
theorem cse_call0 {f : Addr} {fd : FuncData} {ps : List Str} {mf : List A → M A} {x : Str} (F : FnM X.prog X.w X.K X.mg X.base k f fd ps mf) (hr : Room k X.A) (tk : Takes X W) (hm : X.mg x = some (.ref f)) (hk : PySem.W.keepIn X.K (.ref f) = true) (hb : Binds X.K fd ps []) (hg : Gl X x := by rfl)
    (hdb : (x == ("__debug__" : Str)) = false := by decide +kernel) : SE X W (.Call (.Name x p) [] [] pos) (fun _ => callM ps.length mf []) := se_call0 F hr tk hm hk hb hg hdb
theorem csi_seq (h : SE X W e m) : SI X W tg e (apM iterM m) := si_seq h
theorem csi_str {tg e : Expr} {m : Env → M A} (h : SE X W e m) : SI X W tg e (apM strIterM m) := si_str h
theorem csi_range1 {tg a : Expr} {ma : Env → M (List A)} {p pos : Pos} (hm : X.mg "range" = none) (ha : SA X W [a] ma) (hg : Gl X "range" := by rfl) (hs : noSt a = true := by rfl) : SI X W tg (.Call (.Name "range" p) [a] [] pos) (apM range1M ma) := si_range1 hm ha hg (stE_of hs)
theorem csi_range2 {tg a b : Expr} {ma : Env → M (List A)} {p pos : Pos} (hm : X.mg "range" = none) (ha : SA X W [a, b] ma) (hg : Gl X "range" := by rfl) (hs : (noSt a && noSt b) = true := by rfl) (hs2 : noSt b = true := by rfl) : SI X W tg (.Call (.Name "range" p) [a, b] [] pos) (apM range2M ma) := si_range2 hm ha hg (stE2_of hs) (stE_of hs2)
theorem csi_enum {e : Expr} {ma : Env → M (List A)} {p pos tpos : Pos} {elts : List Expr} {kk : Nat} (hm : X.mg "enumerate" = none) (ha : SA X W [e] ma) (hg : Gl X "enumerate" := by rfl) (hs : noSt e = true := by rfl) : SI X W (.Tuple elts kk tpos) (.Call (.Name "enumerate" p) [e] [] pos) (apM enumM ma) := si_enum hm ha hg (stE_of hs)
theorem csi_zip {e e2 : Expr} {ma : Env → M (List A)} {p pos tpos : Pos} {elts : List Expr} {kk : Nat} (hm : X.mg "zip" = none) (ha : SA X W [e, e2] ma) (hg : Gl X "zip" := by rfl)
    (hs : noSt e = true := by rfl) (hpl : noSts [e2] = true := by rfl) : SI X W (.Tuple elts kk tpos) (.Call (.Name "zip" p) [e, e2] [] pos) (apM zipM ma) := si_zip hm ha hg (stE_of hs) (hpl_of hpl)
theorem cse_len {p pos : Pos} {e : Expr} {ma : Env → M (List A)} (hm : X.mg "len" = none) (ha : SA X W [e] ma) (hg : Gl X "len" := by rfl) (he : noSt e = true := by rfl) : SE X W (.Call (.Name "len" p) [e] [] pos) (apM lenA ma) := se_len hm ha hg (stE_of he) rfl
theorem cse_toint {p pos : Pos} {e : Expr} {ma : Env → M (List A)} (hm : X.mg "int" = none) (ha : SA X W [e] ma) (hg : Gl X "int" := by rfl) (he : noSt e = true := by rfl) : SE X W (.Call (.Name "int" p) [e] [] pos) (apM intA ma) := se_toint hm ha hg (stE_of he) rfl
theorem cse_isi (T : String) {xT : Str} {e : Expr} {m : Env → M A} {p pT pos : Pos} (hm : X.mg "isinstance" = none) (hmT : X.mg xT = none) (hvT : bootBuiltins xT = some (.type T)) (h : SE X W e m) (hg : Gl X "isinstance" := by rfl) (hgT : Gl X xT := by rfl) (hnT : xT ≠ "__name__" := by decide +kernel) (hdT : (xT == ("__debug__" : Str)) = false := by decide +kernel)
    (he : noSt e = true := by rfl) : SE X W (.Call (.Name "isinstance" p) [e, .Name xT pT] [] pos) (apM (isiA T) m) := se_isi T hm hmT hvT h hg hgT hnT hdT (stE_of he) rfl rfl
theorem cse_callB {x : Str} {id : String} {r : List V → Hp → VK → Prop} {ma : Env → M (List A)} {f : List A → M A} (hc : CallR X (.builtin id) r) (hf : SC X W r f) (hm : X.mg x = none) (hv : bootBuiltins x = some (.builtin id)) (ha : SA X W (e :: es) ma) (hg : Gl X x := by rfl) (hn : x ≠ "__name__" := by decide) (hdb : (x == ("__debug__" : Str)) = false := by decide +kernel)
    (he : noSt e = true := by rfl) (hpl : noSts es = true := by rfl) : SE X W (.Call (.Name x p) (e :: es) [] pos) (apM f ma) := se_callB hc hf hm hv ha hg hn hdb (stE_of he) (hpl_of hpl)
theorem cse_callBL {x : Str} {p pos : Pos} {e : Expr} {id : String} {r : List V → Hp → VK → Prop} {m : Env → M (List A)} {f : List A → M A} (hc : CallR X (.builtin id) r) (hf : SLC X W r f) (hm : X.mg x = none) (hv : bootBuiltins x = some (.builtin id)) (h : SL X W e m) (hg : Gl X x := by rfl) (hn : x ≠ "__name__" := by decide) (hdb : (x == ("__debug__" : Str)) = false := by decide +kernel)
    (he : noSt e = true := by rfl) : SE X W (.Call (.Name x p) [e] [] pos) (apM f m) := se_callBL hc hf hm hv h hg hn hdb (stE_of he) rfl
theorem cse_ofL {e : Expr} {m : Env → M (List A)} (h : SL X W e m) : SE X W e (apM lstF m) := se_ofL h
theorem cse_joinL {o e : Expr} {mo : Env → M A} {m : Env → M (List A)} {apos pos : Pos} (ho : SE X W o mo) (h : SL X W e m) (hs : noSt e = true := by rfl) (hbase : noSup o = true := by rfl) (hline : (apos.endLine == pos.line) = true := by rfl) : SE X W (.Call (.Attribute o "join" apos) [e] [] pos) (joinLM mo m) := se_joinL ho h (stE_of hs) (abs_of hbase) hline
theorem cse_join {o e : Expr} {mo m : Env → M A} {apos pos : Pos} (ho : SE X W o mo) (h : SE X W e m) (hs : noSt e = true := by rfl) (hbase : noSup o = true := by rfl) (hline : (apos.endLine == pos.line) = true := by rfl) : SE X W (.Call (.Attribute o "join" apos) [e] [] pos) (joinM mo m) := se_join ho h (stE_of hs) (abs_of hbase) hline
theorem cse_upper {o : Expr} {mo : Env → M A} {apos pos : Pos} (ho : SE X W o mo) (hbase : noSup o = true := by rfl) (hline : (apos.endLine == pos.line) = true := by rfl) : SE X W (.Call (.Attribute o "upper" apos) [] [] pos) (apM upperA mo) := se_upper ho (abs_of hbase) hline
theorem csts_nil : STs X scope [] (yesT) := sts_nil 
theorem cse_isX (sub : Addr → Option Bool) {xT : Str} {C : Addr} {e : Expr} {m : Env → M A} {p pT pos : Pos} (hs : ∀ D b, sub D = some b → ExcC X.K D ∧ PySem.W.kitOne X.K (.ref D) (.ref C) = some b) (hm : X.mg "isinstance" = none) (hmT : X.mg xT = some (.ref C)) (h : SE X W e m) (hg : Gl X "isinstance" := by rfl) (hgT : Gl X xT := by rfl) (hdT : (xT == ("__debug__" : Str)) = false := by decide +kernel)
    (he : noSt e = true := by rfl) : SE X W (.Call (.Name "isinstance" p) [e, .Name xT pT] [] pos) (apM (isxA sub) m) := se_isX sub hs hm hmT h hg hgT hdT (stE_of he) rfl rfl
theorem cse_isXB (T : String) (sub : Addr → Option Bool) {xT : Str} {e : Expr} {m : Env → M A} {p pT pos : Pos} (hs : ∀ D b, sub D = some b → ExcC X.K D ∧ PySem.W.kitOne X.K (.ref D) (.type T) = some b) (hm : X.mg "isinstance" = none) (hmT : X.mg xT = none) (hvT : bootBuiltins xT = some (.type T)) (h : SE X W e m) (hg : Gl X "isinstance" := by rfl) (hgT : Gl X xT := by rfl) (hnT : xT ≠ "__name__" := by decide +kernel) (hdT : (xT == ("__debug__" : Str)) = false := by decide +kernel)
    (he : noSt e = true := by rfl) : SE X W (.Call (.Name "isinstance" p) [e, .Name xT pT] [] pos) (apM (isxA sub) m) := se_isXB T sub hs hm hmT hvT h hg hgT hnT hdT (stE_of he) rfl rfl
theorem cse_xf (ok : Addr → Bool) {n : Str} {e : Expr} {m : Env → M A} {pos : Pos} (hok : ∀ D, ok D = true → XfC X.K D ∧ PySem.W.findIn X.K (.ref D) n = some none) (h : SE X W e m) (hb : noSup e = true := by rfl) : SE X W (.Attribute e n pos) (apM (xfA ok n) m) := se_xf ok hok h (abs_of hb)
theorem cse_append (ho : SE X W o mo) (he : SE X W e me)
    (hbase : noSup o = true := by rfl)
    (hfew : noSt e = true := by rfl)
    (hline : (apos.endLine == pos.line) = true := by rfl) (hs : noSt e = true := by rfl) : SE X W (.Call (.Attribute o "append" apos) [e] [] pos) (m1M appendA mo me) := se_append ho he (abs_of hbase) (few_of hfew) hline (stE_of hs) rfl
theorem cse_extend (ho : SE X W o mo) (he : SE X W e me)
    (hbase : noSup o = true := by rfl)
    (hfew : noSt e = true := by rfl)
    (hline : (apos.endLine == pos.line) = true := by rfl) (hs : noSt e = true := by rfl) : SE X W (.Call (.Attribute o "extend" apos) [e] [] pos) (m1M extendA mo me) := se_extend ho he (abs_of hbase) (few_of hfew) hline (stE_of hs) rfl
theorem cse_pop0 (ho : SE X W o mo) (hbase : noSup o = true := by rfl) (hline : (apos.endLine == pos.line) = true := by rfl) : SE X W (.Call (.Attribute o "pop" apos) [] [] pos) (m0M popA mo) := se_pop0 ho (abs_of hbase) hline
theorem cse_mkV {x : Str} {C fI : Addr} {k : Nat} {fd : FuncData} {ps : List Str} {f : Str} {e : Expr} {m : Env → M A} {p pos : Pos} (T : OexC X.K C) (iC : PySem.W.findIn X.K (.ref C) "__init__" = some (some (.ref fI))) (tI : PySem.W.typeIn X.K (.ref fI) = some (.type "function"))
    (nf : PySem.W.findIn X.K (.ref C) f = some none) (F1 : FnOk X.prog X.w X.K X.mg X.base (L2.CX X.prog X.w) k fI fd ps (spInit X.K f)) (hr : Room (k + 1) X.A) (hb : Binds X.K fd ps []) (hm : X.mg x = some (.ref C)) (h : SE X W e m) (hg : Gl X x := by rfl)
    (hdb : (x == ("__debug__" : Str)) = false := by decide +kernel) (he : noSt e = true := by rfl) : SE X W (.Call (.Name x p) [e] [] pos) (excM C f m) := se_mkV T iC tI nf F1 hr hb hm h hg hdb (stE_of he) rfl
theorem cse_mk0 {x : Str} {C : Addr} {e : Expr} {m : Env → M A} {p pos : Pos} (q : PySem.W.excIn X.K C [.type "ValueError", .type "Exception", .type "BaseException", .type "object"] "ValueError.__new__" = true) (hm : X.mg x = some (.ref C)) (kC : PySem.W.keepIn X.K (.ref C) = true) (h : SE X W e m) (hg : Gl X x := by rfl)
    (hs : noSt e = true := by rfl) (hdb : (x == ("__debug__" : Str)) = false := by decide +kernel) : SE X W (.Call (.Name x p) [e] [] pos) (exc0M C m) := se_mk0 q hm kC h hg (stE_of hs) hdb
theorem cse_disp {keys : List (Option Expr)} {values : List Expr} {kk : List Key} {ms : Env → M (List A)} (h : SDs X W pos keys values kk ms) (hall : keys.all (·.isSome) = true := by rfl) (hl : keys.length = values.length := by rfl) (h0 : keys ≠ [] := by exact fun z => nomatch z)
    (h15 : keys.length ≤ 15 := by decide) : SE X W (.Dict keys values pos) (apM (dispM kk) ms) := se_disp h hall hl h0 h15
theorem csds_nil : SDs X W pos [] [] [] (saN) := sds_nil 
theorem csds_cons {k v : Expr} {ks : List (Option Expr)} {vs : List Expr} {kk : List Key} {key : Key} {m : Env → M A} {ms : Env → M (List A)} (hk : PE X k (tC (kV key))) (hv : SE X W v m) (hs : SDs X W pos ks vs kk ms) : SDs X W pos (some k :: ks) (v :: vs) (key :: kk) (saC m ms) := sds_cons hk hv hs
theorem cse_get2 {o a b : Expr} {mo ma mb : Env → M A} {apos : Pos} {k : Nat} (hr : Room k X.A) (ho : SE X W o mo) (ha : SE X W a ma) (hb : SE X W b mb) (m : M2 X o "get" apos a b pos := by exact ⟨rfl, rfl, rfl, rfl⟩) : SE X W (.Call (.Attribute o "get" apos) [a, b] [] pos) (getM mo ma mb) := se_get2 hr ho ha hb m
theorem cse_lenSet {a : Expr} {ma : Env → M A} {p p2 q : Pos} (hm : X.mg "len" = none) (hm2 : X.mg "set" = none) (ha : SE X W a ma) (hc : X.calm = true := by rfl) (hg : Gl X "len" := by rfl) (hg2 : Gl X "set" := by rfl)
    (na : noSt a = true := by rfl) : SE X W (.Call (.Name "len" p) [.Call (.Name "set" p2) [a] [] q] [] pos) (apM lenSetA ma) := se_lenSet hm hm2 ha hc hg hg2 (stE_of na)
theorem cse_callV (ap : Addr → Option (List A → M A)) (i : Nat) {k : Nat} {x : Str} {e : Expr} {es : List Expr} {ma : Env → M (List A)} {p : Pos} (hap : ∀ f mf, ap f = some mf → ∃ (fd : FuncData) (ps : List Str) (mf' : List A → M A), FnM X.prog X.w X.K X.mg X.base k f fd ps mf' ∧ PySem.W.keepIn X.K (.ref f) = true ∧ L2.Binds X.K fd ps [] ∧ mf = callM ps.length mf')
    (hr : Room k X.A) (tk : Takes X W) (ha : SA X W (e :: es) ma) (hN : X.N[i]? = some x := by rfl) (hv : Vis X.env.scope x := by first | exact Or.inl rfl | exact Or.inr (Or.inl rfl) | exact Or.inr (Or.inr rfl))
    (hdb : (x == ("__debug__" : Str)) = false := by decide +kernel) (hcd : (x == ("__classdict__" : Str)) = false := by decide +kernel) (he : noSt e = true := by rfl) (hpl : noSts es = true := by rfl) : SE X W (.Call (.Name x p) (e :: es) [] pos) (callVM ap i ma) := se_callV ap i hap hr tk ha hN hv hdb hcd (stE_of he) (hpl_of hpl)
theorem cse_dnew : SE X W (.Dict [] [] pos) (fun _ => alloc (.dic [])) := se_dnew 
theorem cse_dvals (i j : Nat) {x y : Str} {scope : Scope} {k1 : Nat} {p1 p2 p3 p4 p5 pos : Pos} (hc : X.calm = true) (hN : X.N.Nodup) (ok : BlkOk X.N X.env.scope scope [(y, j)]) (hij : i ≠ j) (hr : Room k1 X.A)
    (h0 : PE X (.Name x p2) (tVar i)) (hg : ∀ (s : Shared) (H : Hp) (C : Addr) (cl : List (Str × Addr)) (fp : List Addr), PG (X.blk s H scope (compEnvC scope cl C X.env) fp) (.Name y p1) (gName j))
    (he : ∀ (s : Shared) (H : Hp) (C : Addr) (cl : List (Str × Addr)) (fp : List Addr), PE (X.blk s H scope (compEnvC scope cl C X.env) fp) (.Subscript (.Name x p3) (.Name y p4) p5) (tDGet (tVar i) (tVar j))) : SL X W (.ListComp (.Subscript (.Name x p3) (.Name y p4) p5) [⟨.Name y p1, .Name x p2, [], 0⟩] scope pos) (dvalsM i j) := se_dvals i j hc hN ok hij hr h0 hg he (fun _ => rfl)
theorem cse_tuple {p pos : Pos} {e : Expr} {ma : Env → M (List A)} (hm : X.mg "tuple" = none) (ha : SA X W [e] ma) (hg : Gl X "tuple" := by rfl) (he : noSt e = true := by rfl) : SE X W (.Call (.Name "tuple" p) [e] [] pos) (apM tupleA ma) := se_tuple hm ha hg (stE_of he) rfl
theorem cse_tupleL {p pos : Pos} {e : Expr} {m : Env → M (List A)} (hm : X.mg "tuple" = none) (h : SL X W e m) (hg : Gl X "tuple" := by rfl) (he : noSt e = true := by rfl) : SE X W (.Call (.Name "tuple" p) [e] [] pos) (apM tupF m) := se_tupleL hm h hg (stE_of he) rfl
theorem cse_list {p pos : Pos} {e : Expr} {ma : Env → M (List A)} (hm : X.mg "list" = none) (ha : SA X W [e] ma) (hg : Gl X "list" := by rfl) (he : noSt e = true := by rfl) : SE X W (.Call (.Name "list" p) [e] [] pos) (apM listA ma) := se_list hm ha hg (stE_of he) rfl
end Lt

/-! Lt18: constants of a module, from the written part. -/
namespace Lt
open PySem PySem.Spec PyProof.Rows L2
variable {K : PySem.W.Frag} {mg : Str → Option Value} {x : Str}
theorem konst_int {i : Int} {t : _} (h : mg x = some (.int i t)) : KonstOk K mg x (.int i) := ⟨.int i, _, h, ⟨t, rfl⟩, fun _ _ => .int i⟩
theorem konst_str {s : Str} {t : _} (h : mg x = some (.str s t)) : KonstOk K mg x (.str s) := ⟨.str s, _, h, ⟨t, rfl⟩, fun _ _ => .str s⟩
def strV : Value → Option Str
  | .str s _ => some s
  | _ => none
/-- a tuple of texts stands there -/
def tupS (K : PySem.W.Frag) (q : Addr) (ss : List Str) : Bool := match K.lookup q with
  | some o => (match o.cls with | .type n => decide (n = "tuple") | _ => false) && (match o.data with | .seq its _ => decide (its.size ≤ sizeLine) && decide (its.toList.map strV = ss.map some) | _ => false)
  | none => false
theorem vals_of : ∀ (us : List Value) (ss : List Str), us.map strV = ss.map some → Vals (ss.map V.str) us
  | [], [], _ => .nil
  | [], s :: ss, h => by cases h
  | u :: us, [], h => by cases h
  | u :: us, s :: ss, h => by
    rw [List.map_cons, List.map_cons] at h
    obtain ⟨h1, h2⟩ := List.cons.inj h
    refine .cons ?_ (vals_of us ss h2)
    cases u <;> simp [strV] at h1
    subst h1
    exact ⟨_, rfl⟩
theorem ras_str {H : Hp} {loc : List Addr} : ∀ ss : List Str, RAs K H loc (ss.map V.str) (ss.map A.str)
  | [] => .nil
  | s :: ss => .cons (.str s) (ras_str ss)
theorem konst_tup {q : Addr} {ss : List Str} (h : mg x = some (.ref q)) (ht : tupS K q ss = true) : KonstOk K mg x (.tup (ss.map A.str)) := by
  unfold tupS at ht
  cases e : K.lookup q with
  | none => rw [e] at ht; cases ht
  | some o =>
    rw [e] at ht
    obtain ⟨h1, h2⟩ := Bool.and_eq_true_iff.mp ht
    refine ⟨.ref q, _, h, rfl, fun H loc => ?_⟩
    split at h1
    · rename_i n hc
      have h1 := of_decide_eq_true h1
      subst h1
      split at h2
      · rename_i its n hd
        obtain ⟨h3, h4⟩ := Bool.and_eq_true_iff.mp h2
        have h3 := of_decide_eq_true h3
        have h4 := of_decide_eq_true h4
        have hl : ss.length = its.toList.length := by
          have := congrArg List.length h4
          rw [List.length_map, List.length_map] at this
          exact this.symm
        refine .tup (.inr ⟨o, its, n, e, hc, hd, h3, vals_of _ _ h4⟩) ?_ (ras_str ss)
        rw [List.length_map, hl]
        exact h3
      · cases h2
    · cases h1
/-- which def stands at an address -/
def foL {F : Type} : List (Addr × F) → Addr → Option F
  | [], _ => none
  | p :: l, a => if p.1 = a then some p.2 else foL l a
def AllP {F : Type} (fa : F → Addr) : List (Addr × F) → Prop
  | [] => True
  | p :: l => p.1 = fa p.2 ∧ AllP fa l
theorem foL_ok {F : Type} {fa : F → Addr} : ∀ {l : List (Addr × F)}, AllP fa l → ∀ {a : Addr} {i : F}, foL l a = some i → a = fa i
  | [], _, _, _, q => by cases q
  | p :: l, h, a, i, q => by
    unfold foL at q
    split at q
    · rename_i e
      cases q
      rw [← e]
      exact h.1
    · exact foL_ok h.2 q
end Lt

namespace Tx
open PySem PySem.Spec PyProof.Rows L2 Lt
/-! ### the text by places -/
def top (i : Nat) : Stmt := PySem.Challenge.pw_forgeproved_k01_which_are_surface_progra.main.body.getD i (.Pass ⟨0, 0, 0, 0⟩)
abbrev s_is_all_small : Stmt := top 7
abbrev s_is_small : Stmt := top 8
abbrev s_is_great : Stmt := top 9
abbrev s_are_small : Stmt := top 10
abbrev s_are_unlike : Stmt := top 11
abbrev s_is_count : Stmt := top 12
abbrev s_is_part : Stmt := top 13
abbrev s_are_parts : Stmt := top 14
abbrev s_is_way : Stmt := top 15
abbrev s_are_ways : Stmt := top 16
abbrev s_is_op : Stmt := top 17
abbrev s_fits : Stmt := top 18
abbrev s_is_term : Stmt := top 19
abbrev s_are_kinds : Stmt := top 20
abbrev s_is_kind : Stmt := top 21
abbrev s_is_maker : Stmt := top 22
abbrev s_is_data : Stmt := top 23
abbrev s_is_pattern : Stmt := top 25
abbrev s_are_patterns : Stmt := top 26
abbrev s_is_line : Stmt := top 27
abbrev s_is_surface_def : Stmt := top 29
abbrev s_is_surface : Stmt := top 30
abbrev s__law_feed : Stmt := top 32
abbrev s__law_take : Stmt := top 33
abbrev s__law_word : Stmt := top 34
abbrev s__law_unlike : Stmt := top 35
abbrev s__law_names : Stmt := top 36
abbrev s__law_renamed : Stmt := top 37
abbrev s__law_datas : Stmt := top 38
abbrev s__law_makers : Stmt := top 39
abbrev s__law_number : Stmt := top 40
abbrev s__law_pattern : Stmt := top 41
abbrev s__law_guard : Stmt := top 42
abbrev s__law_body : Stmt := top 43
abbrev s__law_line : Stmt := top 44
abbrev s__law_ways : Stmt := top 45
abbrev s__law_nodes_at_most : Stmt := top 46
abbrev s__law_lines : Stmt := top 47
abbrev s__law_kinds : Stmt := top 48
abbrev s__law_olds : Stmt := top 49
abbrev s__law_named : Stmt := top 51
abbrev s__law_two : Stmt := top 52
abbrev s__law_fresh : Stmt := top 53
abbrev s__law_bad_pattern : Stmt := top 54
abbrev s__law_bad_term : Stmt := top 55
abbrev s__law_bad_line : Stmt := top 56
abbrev s__law_bad_def : Stmt := top 57
abbrev s__law_other : Stmt := top 58
abbrev s__law_wide : Stmt := top 59
abbrev s_law : Stmt := top 60
inductive Fn where
  | is_all_small | is_small | is_great | are_small | are_unlike | is_count | is_part | are_parts | is_way | are_ways | is_op | fits | is_term | are_kinds | is_kind | is_maker | is_data | is_pattern | are_patterns | is_line | is_surface_def | is_surface | _law_feed | _law_take | _law_word | _law_unlike | _law_names | _law_renamed | _law_datas | _law_makers | _law_number | _law_pattern | _law_guard | _law_body | _law_line | _law_ways | _law_nodes_at_most | _law_lines | _law_kinds | _law_olds | _law_named | _law_two | _law_fresh | _law_bad_pattern | _law_bad_term | _law_bad_line | _law_bad_def | _law_other | _law_wide | law
def nm : Fn → Str
  | .is_all_small => "is_all_small"
  | .is_small => "is_small"
  | .is_great => "is_great"
  | .are_small => "are_small"
  | .are_unlike => "are_unlike"
  | .is_count => "is_count"
  | .is_part => "is_part"
  | .are_parts => "are_parts"
  | .is_way => "is_way"
  | .are_ways => "are_ways"
  | .is_op => "is_op"
  | .fits => "fits"
  | .is_term => "is_term"
  | .are_kinds => "are_kinds"
  | .is_kind => "is_kind"
  | .is_maker => "is_maker"
  | .is_data => "is_data"
  | .is_pattern => "is_pattern"
  | .are_patterns => "are_patterns"
  | .is_line => "is_line"
  | .is_surface_def => "is_surface_def"
  | .is_surface => "is_surface"
  | ._law_feed => "_law_feed"
  | ._law_take => "_law_take"
  | ._law_word => "_law_word"
  | ._law_unlike => "_law_unlike"
  | ._law_names => "_law_names"
  | ._law_renamed => "_law_renamed"
  | ._law_datas => "_law_datas"
  | ._law_makers => "_law_makers"
  | ._law_number => "_law_number"
  | ._law_pattern => "_law_pattern"
  | ._law_guard => "_law_guard"
  | ._law_body => "_law_body"
  | ._law_line => "_law_line"
  | ._law_ways => "_law_ways"
  | ._law_nodes_at_most => "_law_nodes_at_most"
  | ._law_lines => "_law_lines"
  | ._law_kinds => "_law_kinds"
  | ._law_olds => "_law_olds"
  | ._law_named => "_law_named"
  | ._law_two => "_law_two"
  | ._law_fresh => "_law_fresh"
  | ._law_bad_pattern => "_law_bad_pattern"
  | ._law_bad_term => "_law_bad_term"
  | ._law_bad_line => "_law_bad_line"
  | ._law_bad_def => "_law_bad_def"
  | ._law_other => "_law_other"
  | ._law_wide => "_law_wide"
  | .law => "law"
def ps : Fn → List Str
  | .is_all_small => ["text"]
  | .is_small => ["thing"]
  | .is_great => ["thing"]
  | .are_small => ["thing"]
  | .are_unlike => ["names"]
  | .is_count => ["thing"]
  | .is_part => ["thing"]
  | .are_parts => ["thing"]
  | .is_way => ["thing"]
  | .are_ways => ["thing"]
  | .is_op => ["thing"]
  | .fits => ["thing", "forms"]
  | .is_term => ["thing"]
  | .are_kinds => ["thing"]
  | .is_kind => ["thing"]
  | .is_maker => ["thing"]
  | .is_data => ["thing"]
  | .is_pattern => ["thing"]
  | .are_patterns => ["thing"]
  | .is_line => ["thing"]
  | .is_surface_def => ["thing"]
  | .is_surface => ["value"]
  | ._law_feed => ["script"]
  | ._law_take => ["feed", "many"]
  | ._law_word => ["feed", "letters", "size"]
  | ._law_unlike => ["name", "taken"]
  | ._law_names => ["feed", "smalls", "greats"]
  | ._law_renamed => ["thing", "names"]
  | ._law_datas => []
  | ._law_makers => ["kind"]
  | ._law_number => ["feed"]
  | ._law_pattern => ["feed", "kind", "deep", "room"]
  | ._law_guard => ["feed", "names"]
  | ._law_body => ["line", "names"]
  | ._law_line => ["feed", "kinds", "line", "looks"]
  | ._law_ways => ["pattern"]
  | ._law_nodes_at_most => ["lines"]
  | ._law_lines => ["feed", "kinds", "most", "looks"]
  | ._law_kinds => ["feed"]
  | ._law_olds => []
  | ._law_named => ["feed"]
  | ._law_two => ["lines", "others"]
  | ._law_fresh => ["feed", "names"]
  | ._law_bad_pattern => ["feed", "small", "great"]
  | ._law_bad_term => ["feed", "small", "great"]
  | ._law_bad_line => ["feed", "line", "small", "great"]
  | ._law_bad_def => ["feed", "one", "small", "great"]
  | ._law_other => ["feed", "surface", "small"]
  | ._law_wide => ["feed", "surface", "small", "great"]
  | .law => ["script"]
def sf : Fn → Stmt
  | .is_all_small => s_is_all_small
  | .is_small => s_is_small
  | .is_great => s_is_great
  | .are_small => s_are_small
  | .are_unlike => s_are_unlike
  | .is_count => s_is_count
  | .is_part => s_is_part
  | .are_parts => s_are_parts
  | .is_way => s_is_way
  | .are_ways => s_are_ways
  | .is_op => s_is_op
  | .fits => s_fits
  | .is_term => s_is_term
  | .are_kinds => s_are_kinds
  | .is_kind => s_is_kind
  | .is_maker => s_is_maker
  | .is_data => s_is_data
  | .is_pattern => s_is_pattern
  | .are_patterns => s_are_patterns
  | .is_line => s_is_line
  | .is_surface_def => s_is_surface_def
  | .is_surface => s_is_surface
  | ._law_feed => s__law_feed
  | ._law_take => s__law_take
  | ._law_word => s__law_word
  | ._law_unlike => s__law_unlike
  | ._law_names => s__law_names
  | ._law_renamed => s__law_renamed
  | ._law_datas => s__law_datas
  | ._law_makers => s__law_makers
  | ._law_number => s__law_number
  | ._law_pattern => s__law_pattern
  | ._law_guard => s__law_guard
  | ._law_body => s__law_body
  | ._law_line => s__law_line
  | ._law_ways => s__law_ways
  | ._law_nodes_at_most => s__law_nodes_at_most
  | ._law_lines => s__law_lines
  | ._law_kinds => s__law_kinds
  | ._law_olds => s__law_olds
  | ._law_named => s__law_named
  | ._law_two => s__law_two
  | ._law_fresh => s__law_fresh
  | ._law_bad_pattern => s__law_bad_pattern
  | ._law_bad_term => s__law_bad_term
  | ._law_bad_line => s__law_bad_line
  | ._law_bad_def => s__law_bad_def
  | ._law_other => s__law_other
  | ._law_wide => s__law_wide
  | .law => s_law
structure Cxp where
  fo : Addr → Option Fn
/-- what a value that is called does -/
def apF (cx : Cxp) (g : Fn → List Lt.A → M Lt.A) (a : Addr) : Option (List Lt.A → M Lt.A) := (cx.fo a).map fun i => callM (ps i).length (g i)
/-! ### the mirrors -/
noncomputable def m_is_all_small (cx : Cxp) (fa : Fn → Addr) (g : Fn → List A → M A) : Lt.Env → M Fl :=
 (rtS (apM allF (compM (apM strIterM (vM 0)) (setG 1) yesT (opM inA (vM 1) (kM (.str ("abcdefghijklmnopqrstuvwxyz" : Str)))) [1])))
noncomputable def m_is_small (cx : Cxp) (fa : Fn → Addr) (g : Fn → List A → M A) : Lt.Env → M Fl :=
 (seqM (ifS (orT (notT (apM truA (apM (isiA "str") (vM 0)))) (orT (tsM ltA (apM lenA (saC (vM 0) saN)) (kM (.int 1))) (tsM gtA (apM lenA (saC (vM 0) saN)) (kM (.int 8))))) (rtS (kM (.bl false))) nxS) (rtS (andE (apM (callM 1 (g .is_all_small)) (saC (vM 0) saN)) (opM ninA (vM 0) (kM (.tup [.str ("data" : Str), .str ("let" : Str), .str ("in" : Str), .str ("case" : Str), .str ("of" : Str), .str ("num" : Str)]))))))
noncomputable def m_is_great (cx : Cxp) (fa : Fn → Addr) (g : Fn → List A → M A) : Lt.Env → M Fl :=
 (seqM (ifS (orT (notT (apM truA (apM (isiA "str") (vM 0)))) (orT (tsM ltA (apM lenA (saC (vM 0) saN)) (kM (.int 1))) (tsM gtA (apM lenA (saC (vM 0) saN)) (kM (.int 8))))) (rtS (kM (.bl false))) nxS) (rtS (andE (opM inA (opM ixA (vM 0) (kM (.int 0))) (kM (.str ("ABCDEFGHIJKLMNOPQRSTUVWXYZ" : Str)))) (apM (callM 1 (g .is_all_small)) (saC (slM (vM 0) (apM partM (kM (.int 1))) noP) saN)))))
noncomputable def m_are_small (cx : Cxp) (fa : Fn → Addr) (g : Fn → List A → M A) : Lt.Env → M Fl :=
 (rtS (andE (apM (isiA "tuple") (vM 0)) (apM allF (compM (apM iterM (vM 0)) (setG 1) yesT (apM (callM 1 (g .is_small)) (saC (vM 1) saN)) [1]))))
noncomputable def m_are_unlike (cx : Cxp) (fa : Fn → Addr) (g : Fn → List A → M A) : Lt.Env → M Fl :=
 (rtS (opM eqA (apM lenSetA (vM 0)) (apM lenA (saC (vM 0) saN))))
noncomputable def m_is_count (cx : Cxp) (fa : Fn → Addr) (g : Fn → List A → M A) : Lt.Env → M Fl :=
 (rtS (andE (apM (isiA "int") (vM 0)) (andE (notE (apM (isiA "bool") (vM 0))) (andE (opM leA (kM (.int 0)) (vM 0)) (opM ltA (vM 0) (kM (.int 100000000000000000000)))))))
noncomputable def m_is_part (cx : Cxp) (fa : Fn → Addr) (g : Fn → List A → M A) : Lt.Env → M Fl :=
 (rtS (andE (apM (isiA "tuple") (vM 0)) (andE (opM eqA (apM lenA (saC (vM 0) saN)) (kM (.int 2))) (andE (apM (callM 1 (g .is_small)) (saC (opM ixA (vM 0) (kM (.int 0))) saN)) (apM (callM 1 (g .is_term)) (saC (opM ixA (vM 0) (kM (.int 1))) saN))))))
noncomputable def m_are_parts (cx : Cxp) (fa : Fn → Addr) (g : Fn → List A → M A) : Lt.Env → M Fl :=
 (seqM (ifS (orT (notT (apM truA (apM (isiA "tuple") (vM 0)))) (orT (tsM eqEA (vM 0) (apM mkTup saN)) (notT (apM truA (apM allF (compM (apM iterM (vM 0)) (setG 1) yesT (apM (callM 1 (g .is_part)) (saC (vM 1) saN)) [1])))))) (rtS (kM (.bl false))) nxS) (rtS (apM (callM 1 (g .are_unlike)) (saC (apM lstF (compM (apM iterM (vM 0)) (tupG 2 (gsCons (setG 2) (gsCons (setG 3) gsNil))) yesT (vM 2) [2, 3])) saN))))
noncomputable def m_is_way (cx : Cxp) (fa : Fn → Addr) (g : Fn → List A → M A) : Lt.Env → M Fl :=
 (seqM (ifS (orT (notT (apM truA (apM (isiA "tuple") (vM 0)))) (orT (tsM neA (apM lenA (saC (vM 0) saN)) (kM (.int 3))) (orT (notT (apM truA (apM (callM 1 (g .is_great)) (saC (opM ixA (vM 0) (kM (.int 0))) saN)))) (notT (apM truA (apM (callM 1 (g .are_small)) (saC (opM ixA (vM 0) (kM (.int 1))) saN))))))) (rtS (kM (.bl false))) nxS) (rtS (andE (apM (callM 1 (g .are_unlike)) (saC (opM ixA (vM 0) (kM (.int 1))) saN)) (apM (callM 1 (g .is_term)) (saC (opM ixA (vM 0) (kM (.int 2))) saN)))))
noncomputable def m_are_ways (cx : Cxp) (fa : Fn → Addr) (g : Fn → List A → M A) : Lt.Env → M Fl :=
 (rtS (andE (apM (isiA "tuple") (vM 0)) (andE (opM neEA (vM 0) (apM mkTup saN)) (apM allF (compM (apM iterM (vM 0)) (setG 1) yesT (apM (callM 1 (g .is_way)) (saC (vM 1) saN)) [1])))))
noncomputable def m_is_op (cx : Cxp) (fa : Fn → Addr) (g : Fn → List A → M A) : Lt.Env → M Fl :=
 (rtS (andE (apM (isiA "str") (vM 0)) (opM inA (vM 0) (kM (.tup [.str ("+" : Str), .str ("-" : Str), .str ("*" : Str), .str ("<" : Str), .str ("==" : Str)])))))
noncomputable def m_fits (cx : Cxp) (fa : Fn → Addr) (g : Fn → List A → M A) : Lt.Env → M Fl :=
 (seqM (ifS (orT (notT (apM truA (apM (isiA "tuple") (vM 0)))) (orT (tsM eqEA (vM 0) (apM mkTup saN)) (orT (notT (apM truA (apM (isiA "str") (opM ixA (vM 0) (kM (.int 0)))))) (tsM ninA (opM ixA (vM 0) (kM (.int 0))) (vM 1))))) (rtS (kM (.bl false))) nxS) (seqM (asgS (starG (gsCons (setG 2) (gsCons (setG 3) gsNil))) (vM 0)) (seqM (setS 4 (opM ixA (vM 1) (vM 2))) (seqM (ifS (tsM neA (apM lenA (saC (vM 3) saN)) (apM lenA (saC (vM 4) saN))) (rtS (kM (.bl false))) nxS) (seqM (forS (apM zipM (saC (vM 4) (saC (vM 3) saN))) (tupG 2 (gsCons (setG 5) (gsCons (setG 6) gsNil))) (ifS (notT (apM truA (callVM (apF cx g) 5 (saC (vM 6) saN)))) (rtS (kM (.bl false))) nxS)) (rtS (kM (.bl true))))))))
noncomputable def m_is_term (cx : Cxp) (fa : Fn → Addr) (g : Fn → List A → M A) : Lt.Env → M Fl :=
 (rtS (apM (callM 2 (g .fits)) (saC (vM 0) (saC (apM (dispM [.inr ("num" : Str), .inr ("name" : Str), .inr ("make" : Str), .inr ("app" : Str), .inr ("fun" : Str), .inr ("let" : Str), .inr ("case" : Str), .inr ("op" : Str)]) (saC (apM mkLst (saC (kM (.fn (fa .is_count))) saN)) (saC (apM mkLst (saC (kM (.fn (fa .is_small))) saN)) (saC (apM mkLst (saC (kM (.fn (fa .is_great))) saN)) (saC (apM mkLst (saC (kM (.fn (fa .is_term))) (saC (kM (.fn (fa .is_term))) saN))) (saC (apM mkLst (saC (kM (.fn (fa .is_small))) (saC (kM (.fn (fa .is_term))) saN))) (saC (apM mkLst (saC (kM (.fn (fa .are_parts))) (saC (kM (.fn (fa .is_term))) saN))) (saC (apM mkLst (saC (kM (.fn (fa .is_term))) (saC (kM (.fn (fa .are_ways))) saN))) (saC (apM mkLst (saC (kM (.fn (fa .is_op))) (saC (kM (.fn (fa .is_term))) (saC (kM (.fn (fa .is_term))) saN)))) saN))))))))) saN))))
noncomputable def m_are_kinds (cx : Cxp) (fa : Fn → Addr) (g : Fn → List A → M A) : Lt.Env → M Fl :=
 (rtS (andE (apM (isiA "tuple") (vM 0)) (apM allF (compM (apM iterM (vM 0)) (setG 1) yesT (apM (callM 1 (g .is_kind)) (saC (vM 1) saN)) [1]))))
noncomputable def m_is_kind (cx : Cxp) (fa : Fn → Addr) (g : Fn → List A → M A) : Lt.Env → M Fl :=
 (rtS (apM (callM 2 (g .fits)) (saC (vM 0) (saC (apM (dispM [.inr ("num" : Str), .inr ("var" : Str), .inr ("fun" : Str), .inr ("data" : Str)]) (saC (apM mkLst saN) (saC (apM mkLst (saC (kM (.fn (fa .is_small))) saN)) (saC (apM mkLst (saC (kM (.fn (fa .is_kind))) (saC (kM (.fn (fa .is_kind))) saN))) (saC (apM mkLst (saC (kM (.fn (fa .is_great))) (saC (kM (.fn (fa .are_kinds))) saN))) saN))))) saN))))
noncomputable def m_is_maker (cx : Cxp) (fa : Fn → Addr) (g : Fn → List A → M A) : Lt.Env → M Fl :=
 (rtS (andE (apM (isiA "tuple") (vM 0)) (andE (opM eqA (apM lenA (saC (vM 0) saN)) (kM (.int 2))) (andE (apM (callM 1 (g .is_great)) (saC (opM ixA (vM 0) (kM (.int 0))) saN)) (apM (callM 1 (g .are_kinds)) (saC (opM ixA (vM 0) (kM (.int 1))) saN))))))
noncomputable def m_is_data (cx : Cxp) (fa : Fn → Addr) (g : Fn → List A → M A) : Lt.Env → M Fl :=
 (seqM (ifS (orT (notT (apM truA (apM (isiA "tuple") (vM 0)))) (orT (tsM neA (apM lenA (saC (vM 0) saN)) (kM (.int 3))) (orT (notT (apM truA (apM (callM 1 (g .is_great)) (saC (opM ixA (vM 0) (kM (.int 0))) saN)))) (notT (apM truA (apM (callM 1 (g .are_small)) (saC (opM ixA (vM 0) (kM (.int 1))) saN))))))) (rtS (kM (.bl false))) nxS) (rtS (andE (apM (isiA "tuple") (opM ixA (vM 0) (kM (.int 2)))) (andE (opM neEA (opM ixA (vM 0) (kM (.int 2))) (apM mkTup saN)) (apM allF (compM (apM iterM (opM ixA (vM 0) (kM (.int 2)))) (setG 1) yesT (apM (callM 1 (g .is_maker)) (saC (vM 1) saN)) [1]))))))
noncomputable def m_is_pattern (cx : Cxp) (fa : Fn → Addr) (g : Fn → List A → M A) : Lt.Env → M Fl :=
 (rtS (apM (callM 2 (g .fits)) (saC (vM 0) (saC (apM (dispM [.inr ("any" : Str), .inr ("name" : Str), .inr ("num" : Str), .inr ("make" : Str), .inr ("as" : Str)]) (saC (apM mkLst saN) (saC (apM mkLst (saC (kM (.fn (fa .is_small))) saN)) (saC (apM mkLst (saC (kM (.fn (fa .is_count))) saN)) (saC (apM mkLst (saC (kM (.fn (fa .is_great))) (saC (kM (.fn (fa .are_patterns))) saN))) (saC (apM mkLst (saC (kM (.fn (fa .is_small))) (saC (kM (.fn (fa .is_pattern))) saN))) saN)))))) saN))))
noncomputable def m_are_patterns (cx : Cxp) (fa : Fn → Addr) (g : Fn → List A → M A) : Lt.Env → M Fl :=
 (rtS (andE (apM (isiA "tuple") (vM 0)) (apM allF (compM (apM iterM (vM 0)) (setG 1) yesT (apM (callM 1 (g .is_pattern)) (saC (vM 1) saN)) [1]))))
noncomputable def m_is_line (cx : Cxp) (fa : Fn → Addr) (g : Fn → List A → M A) : Lt.Env → M Fl :=
 (seqM (ifS (orT (notT (apM truA (apM (isiA "tuple") (vM 0)))) (orT (tsM neA (apM lenA (saC (vM 0) saN)) (kM (.int 3))) (notT (apM truA (apM (callM 1 (g .are_patterns)) (saC (opM ixA (vM 0) (kM (.int 0))) saN)))))) (rtS (kM (.bl false))) nxS) (rtS (andE (orE (opM isA (opM ixA (vM 0) (kM (.int 1))) (kM .non)) (apM (callM 1 (g .is_term)) (saC (opM ixA (vM 0) (kM (.int 1))) saN))) (apM (callM 1 (g .is_term)) (saC (opM ixA (vM 0) (kM (.int 2))) saN)))))
noncomputable def m_is_surface_def (cx : Cxp) (fa : Fn → Addr) (g : Fn → List A → M A) : Lt.Env → M Fl :=
 (seqM (ifS (orT (notT (apM truA (apM (isiA "tuple") (vM 0)))) (orT (tsM neA (apM lenA (saC (vM 0) saN)) (kM (.int 2))) (notT (apM truA (apM (callM 1 (g .is_small)) (saC (opM ixA (vM 0) (kM (.int 0))) saN)))))) (rtS (kM (.bl false))) nxS) (rtS (andE (apM (isiA "tuple") (opM ixA (vM 0) (kM (.int 1)))) (andE (opM neEA (opM ixA (vM 0) (kM (.int 1))) (apM mkTup saN)) (apM allF (compM (apM iterM (opM ixA (vM 0) (kM (.int 1)))) (setG 1) yesT (apM (callM 1 (g .is_line)) (saC (vM 1) saN)) [1]))))))
noncomputable def m_is_surface (cx : Cxp) (fa : Fn → Addr) (g : Fn → List A → M A) : Lt.Env → M Fl :=
 (seqM (ifS (orT (notT (apM truA (apM (isiA "tuple") (vM 0)))) (tsM neA (apM lenA (saC (vM 0) saN)) (kM (.int 2)))) (rtS (kM (.bl false))) nxS) (seqM (asgS (tupG 2 (gsCons (setG 1) (gsCons (setG 2) gsNil))) (vM 0)) (seqM (ifS (orT (notT (apM truA (apM (isiA "tuple") (vM 1)))) (notT (apM truA (apM (isiA "tuple") (vM 2))))) (rtS (kM (.bl false))) nxS) (rtS (andE (apM allF (compM (apM iterM (vM 1)) (setG 3) yesT (apM (callM 1 (g .is_data)) (saC (vM 3) saN)) [3])) (apM allF (compM (apM iterM (vM 2)) (setG 4) yesT (apM (callM 1 (g .is_surface_def)) (saC (vM 4) saN)) [4])))))))
noncomputable def m__law_feed (cx : Cxp) (fa : Fn → Addr) (g : Fn → List A → M A) : Lt.Env → M Fl :=
 (seqM (setS 1 (kM (.int 7))) (seqM (setS 2 (apM mkLst saN)) (seqM (forS (apM enumM (saC (slM (vM 0) noP (apM partM (kM (.int 63)))) saN)) (tupG 2 (gsCons (setG 3) (gsCons (setG 4) gsNil))) (seqM (setS 1 (opM addA (kM (.int 1)) (opM modA (apM intA (saC (opM addA (opM addA (opM mulA (vM 1) (kM (.int 69621))) (opM mulA (opM modA (apM intA (saC (vM 4) saN)) (kM (.int 1000003))) (kM (.int 48271)))) (opM mulA (vM 3) (kM (.int 40009)))) saN)) (kM (.int 2147483645))))) (seqM (setS 5 (ifE (tsM geA (vM 4) (opM powA (kM (.int 10)) (kM (.int 18)))) (vM 4) (kM (.int 0)))) (forS (apM range1M (saC (kM (.int 60)) saN)) (setG 6) (ifS (tsM gtA (vM 5) (kM (.int 0))) (seqM (exS (m1M appendA (vM 2) (opM modA (apM intA (saC (vM 5) saN)) (kM (.int 997))))) (setS 5 (opM fdivA (vM 5) (kM (.int 997))))) nxS))))) (rtS (opM addA (apM mkLst (saC (vM 1) saN)) (apM revA (vM 2)))))))
noncomputable def m__law_take (cx : Cxp) (fa : Fn → Addr) (g : Fn → List A → M A) : Lt.Env → M Fl :=
 (seqM (ifS (tsM gtA (apM lenA (saC (vM 0) saN)) (kM (.int 1))) (rtS (opM modA (apM intA (saC (m0M popA (vM 0)) saN)) (vM 1))) nxS) (seqM (asgS (subG (vM 0) (kM (.int 0))) (opM addA (opM ixA (vM 0) (kM (.int 0))) (kM (.int 1)))) (seqM (setS 2 (opM modA (apM intA (saC (opM addA (opM mulA (opM mulA (opM ixA (vM 0) (kM (.int 0))) (opM ixA (vM 0) (kM (.int 0)))) (opM ixA (vM 0) (kM (.int 0)))) (opM mulA (opM ixA (vM 0) (kM (.int 0))) (kM (.int 69621)))) saN)) (kM (.int 2147483647)))) (seqM (setS 2 (opM modA (apM intA (saC (opM addA (opM mulA (vM 2) (vM 2)) (opM fdivA (vM 2) (kM (.int 4093)))) saN)) (kM (.int 2147483629)))) (rtS (opM modA (apM intA (saC (opM fdivA (vM 2) (kM (.int 89))) saN)) (vM 1)))))))
noncomputable def m__law_word (cx : Cxp) (fa : Fn → Addr) (g : Fn → List A → M A) : Lt.Env → M Fl :=
 (rtS (joinLM (kM (.str ("" : Str))) (compM (apM range1M (saC (vM 2) saN)) (setG 3) yesT (opM ixA (vM 1) (apM (callM 2 (g ._law_take)) (saC (vM 0) (saC (apM lenA (saC (vM 1) saN)) saN)))) [3])))
noncomputable def m__law_unlike (cx : Cxp) (fa : Fn → Addr) (g : Fn → List A → M A) : Lt.Env → M Fl :=
 (seqM (setS 2 (kM (.str ("abcdefghijklmnopqrstuvwxyz" : Str)))) (seqM (ifS (tsM ninA (vM 0) (vM 1)) (rtS (vM 0)) nxS) (seqM (forS (apM range1M (saC (kM (.int 676)) saN)) (setG 3) (seqM (setS 4 (opM addA (opM addA (slM (vM 0) noP (apM partM (kM (.int 6)))) (opM ixA (vM 2) (opM fdivA (vM 3) (kM (.int 26))))) (opM ixA (vM 2) (opM modA (apM intA (saC (vM 3) saN)) (kM (.int 26)))))) (ifS (tsM ninA (vM 4) (vM 1)) (rtS (vM 4)) nxS))) (rtS (vM 0)))))
noncomputable def m__law_names (cx : Cxp) (fa : Fn → Addr) (g : Fn → List A → M A) : Lt.Env → M Fl :=
 (seqM (setS 3 (kM (.str ("abcdefghijklmnopqrstuvwxyz" : Str)))) (seqM (setS 4 (apM mkLst (saC (kM (.str ("data" : Str))) (saC (kM (.str ("let" : Str))) (saC (kM (.str ("in" : Str))) (saC (kM (.str ("case" : Str))) (saC (kM (.str ("of" : Str))) (saC (kM (.str ("num" : Str))) (saC (kM (.str ("main" : Str))) (saC (kM (.str ("Bool" : Str))) (saC (kM (.str ("False" : Str))) (saC (kM (.str ("True" : Str))) saN)))))))))))) (seqM (setS 5 (fun _ => alloc (.dic []))) (seqM (forS (apM iterM (vM 1)) (setG 6) (seqM (setS 7 (apM (callM 2 (g ._law_unlike)) (saC (apM (callM 3 (g ._law_word)) (saC (vM 0) (saC (vM 3) (saC (opM addA (kM (.int 1)) (apM (callM 2 (g ._law_take)) (saC (vM 0) (saC (kM (.int 8)) saN)))) saN)))) (saC (vM 4) saN)))) (seqM (exS (m1M appendA (vM 4) (vM 7))) (asgS (subG (vM 5) (vM 6)) (vM 7))))) (seqM (forS (apM iterM (vM 2)) (setG 6) (seqM (setS 7 (opM addA (apM upperA (opM ixA (vM 3) (apM (callM 2 (g ._law_take)) (saC (vM 0) (saC (kM (.int 26)) saN))))) (apM (callM 3 (g ._law_word)) (saC (vM 0) (saC (vM 3) (saC (apM (callM 2 (g ._law_take)) (saC (vM 0) (saC (kM (.int 8)) saN))) saN)))))) (seqM (setS 7 (apM (callM 2 (g ._law_unlike)) (saC (vM 7) (saC (vM 4) saN)))) (seqM (exS (m1M appendA (vM 4) (vM 7))) (asgS (subG (vM 5) (vM 6)) (vM 7)))))) (rtS (vM 5)))))))
noncomputable def m__law_renamed (cx : Cxp) (fa : Fn → Addr) (g : Fn → List A → M A) : Lt.Env → M Fl :=
 (seqM (ifS (apM truA (apM (isiA "str") (vM 0))) (rtS (getM (vM 1) (vM 0) (vM 0))) nxS) (seqM (ifS (apM truA (apM (isiA "tuple") (vM 0))) (rtS (apM tupF (compM (apM iterM (vM 0)) (setG 2) yesT (apM (callM 2 (g ._law_renamed)) (saC (vM 2) (saC (vM 1) saN))) [2]))) nxS) (rtS (vM 0))))
noncomputable def m__law_datas (cx : Cxp) (fa : Fn → Addr) (g : Fn → List A → M A) : Lt.Env → M Fl :=
 (seqM (asgS (tupG 3 (gsCons (setG 0) (gsCons (setG 1) (gsCons (setG 2) gsNil)))) (apM mkTup (saC (apM mkTup (saC (kM (.str ("num" : Str))) saN)) (saC (apM mkTup (saC (kM (.str ("data" : Str))) (saC (kM (.str ("Tri" : Str))) (saC (apM mkTup saN) saN)))) (saC (apM mkTup (saC (kM (.str ("data" : Str))) (saC (kM (.str ("Row" : Str))) (saC (apM mkTup saN) saN)))) saN))))) (seqM (setS 3 (apM mkTup (saC (kM (.str ("data" : Str))) (saC (kM (.str ("Duo" : Str))) (saC (apM mkTup (saC (vM 0) saN)) saN))))) (seqM (setS 4 (apM mkTup (saC (apM mkTup (saC (kM (.str ("In" : Str))) (saC (apM mkTup (saC (vM 0) saN)) saN))) (saC (apM mkTup (saC (kM (.str ("It" : Str))) (saC (apM mkTup (saC (vM 1) saN)) saN))) (saC (apM mkTup (saC (kM (.str ("Ir" : Str))) (saC (apM mkTup (saC (vM 2) saN)) saN))) (saC (apM mkTup (saC (kM (.str ("Id" : Str))) (saC (apM mkTup (saC (vM 3) saN)) saN))) (saC (apM mkTup (saC (kM (.str ("Ib" : Str))) (saC (apM mkTup (saC (apM mkTup (saC (kM (.str ("data" : Str))) (saC (kM (.str ("Bool" : Str))) (saC (apM mkTup saN) saN)))) saN)) saN))) saN))))))) (rtS (apM mkTup (saC (apM mkTup (saC (kM (.str ("Tri" : Str))) (saC (apM mkTup saN) (saC (apM mkTup (saC (apM mkTup (saC (kM (.str ("Lo" : Str))) (saC (apM mkTup saN) saN))) (saC (apM mkTup (saC (kM (.str ("Mi" : Str))) (saC (apM mkTup saN) saN))) (saC (apM mkTup (saC (kM (.str ("Hi" : Str))) (saC (apM mkTup saN) saN))) saN)))) saN)))) (saC (apM mkTup (saC (kM (.str ("Row" : Str))) (saC (apM mkTup saN) (saC (apM mkTup (saC (apM mkTup (saC (kM (.str ("End" : Str))) (saC (apM mkTup saN) saN))) (saC (apM mkTup (saC (kM (.str ("Cell" : Str))) (saC (apM mkTup (saC (vM 0) (saC (vM 2) saN))) saN))) saN))) saN)))) (saC (apM mkTup (saC (kM (.str ("Duo" : Str))) (saC (apM mkTup (saC (kM (.str ("a" : Str))) saN)) (saC (apM mkTup (saC (apM mkTup (saC (kM (.str ("Two" : Str))) (saC (apM mkTup (saC (apM mkTup (saC (kM (.str ("var" : Str))) (saC (kM (.str ("a" : Str))) saN))) (saC (vM 1) saN))) saN))) saN)) saN)))) (saC (apM mkTup (saC (kM (.str ("Item" : Str))) (saC (apM mkTup saN) (saC (vM 4) saN)))) (saC (apM mkTup (saC (kM (.str ("Many" : Str))) (saC (apM mkTup saN) (saC (apM mkTup (saC (apM mkTup (saC (kM (.str ("No" : Str))) (saC (apM mkTup saN) saN))) (saC (apM mkTup (saC (kM (.str ("Mo" : Str))) (saC (apM mkTup (saC (apM mkTup (saC (kM (.str ("data" : Str))) (saC (kM (.str ("Item" : Str))) (saC (apM mkTup saN) saN)))) (saC (apM mkTup (saC (kM (.str ("data" : Str))) (saC (kM (.str ("Many" : Str))) (saC (apM mkTup saN) saN)))) saN))) saN))) saN))) saN)))) saN))))))))))
noncomputable def m__law_makers (cx : Cxp) (fa : Fn → Addr) (g : Fn → List A → M A) : Lt.Env → M Fl :=
 (seqM (ifS (tsM eqA (vM 0) (kM (.str ("Tri" : Str)))) (rtS (apM mkLst (saC (apM mkTup (saC (kM (.str ("Lo" : Str))) (saC (apM mkTup saN) saN))) (saC (apM mkTup (saC (kM (.str ("Mi" : Str))) (saC (apM mkTup saN) saN))) (saC (apM mkTup (saC (kM (.str ("Hi" : Str))) (saC (apM mkTup saN) saN))) saN))))) nxS) (seqM (ifS (tsM eqA (vM 0) (kM (.str ("Row" : Str)))) (rtS (apM mkLst (saC (apM mkTup (saC (kM (.str ("End" : Str))) (saC (apM mkTup saN) saN))) (saC (apM mkTup (saC (kM (.str ("Cell" : Str))) (saC (apM mkTup (saC (kM (.str ("num" : Str))) (saC (kM (.str ("Row" : Str))) saN))) saN))) saN)))) nxS) (seqM (ifS (tsM eqA (vM 0) (kM (.str ("Duo" : Str)))) (rtS (apM mkLst (saC (apM mkTup (saC (kM (.str ("Two" : Str))) (saC (apM mkTup (saC (kM (.str ("num" : Str))) (saC (kM (.str ("Tri" : Str))) saN))) saN))) saN))) nxS) (rtS (apM mkLst (saC (apM mkTup (saC (kM (.str ("False" : Str))) (saC (apM mkTup saN) saN))) (saC (apM mkTup (saC (kM (.str ("True" : Str))) (saC (apM mkTup saN) saN))) saN)))))))
noncomputable def m__law_number (cx : Cxp) (fa : Fn → Addr) (g : Fn → List A → M A) : Lt.Env → M Fl :=
 (seqM (setS 1 (apM (callM 2 (g ._law_take)) (saC (vM 0) (saC (kM (.int 6)) saN)))) (seqM (ifS (tsM ltA (vM 1) (kM (.int 4))) (rtS (apM (callM 2 (g ._law_take)) (saC (vM 0) (saC (kM (.int 4)) saN)))) nxS) (seqM (ifS (tsM eqA (vM 1) (kM (.int 4))) (rtS (opM addA (opM powA (kM (.int 10)) (kM (.int 19))) (apM (callM 2 (g ._law_take)) (saC (vM 0) (saC (kM (.int 3)) saN))))) nxS) (rtS (opM addA (opM mulA (apM (callM 2 (g ._law_take)) (saC (vM 0) (saC (kM (.int 900)) saN))) (kM (.int 997))) (apM (callM 2 (g ._law_take)) (saC (vM 0) (saC (kM (.int 900)) saN))))))))
noncomputable def m__law_pattern (cx : Cxp) (fa : Fn → Addr) (g : Fn → List A → M A) : Lt.Env → M Fl :=
 (seqM (setS 4 (apM (callM 2 (g ._law_take)) (saC (vM 0) (saC (kM (.int 9)) saN)))) (seqM (setS 5 (opM addA (kM (.str ("x" : Str))) (opM ixA (kM (.str ("abcdef" : Str))) (apM lenA (saC (opM ixA (vM 3) (kM (.int 1))) saN))))) (seqM (ifS (andT (tsM ltA (vM 4) (kM (.int 3))) (tsM ltA (apM lenA (saC (opM ixA (vM 3) (kM (.int 1))) saN)) (kM (.int 5)))) (seqM (exS (m1M appendA (opM ixA (vM 3) (kM (.int 1))) (apM mkTup (saC (vM 5) (saC (vM 1) saN))))) (seqM (ifS (orT (tsM gtA (vM 4) (kM (.int 0))) (tsM eqA (vM 2) (kM (.int 0)))) (rtS (apM mkTup (saC (kM (.str ("name" : Str))) (saC (vM 5) saN)))) nxS) (rtS (apM mkTup (saC (kM (.str ("as" : Str))) (saC (vM 5) (saC (apM (callM 4 (g ._law_pattern)) (saC (vM 0) (saC (vM 1) (saC (opM subA (vM 2) (kM (.int 1))) (saC (vM 3) saN))))) saN))))))) nxS) (seqM (ifS (orT (tsM ltA (vM 4) (kM (.int 4))) (tsM leA (opM ixA (vM 3) (kM (.int 0))) (kM (.int 0)))) (rtS (apM mkTup (saC (kM (.str ("any" : Str))) saN))) nxS) (seqM (asgS (subG (vM 3) (kM (.int 0))) (opM subA (opM ixA (vM 3) (kM (.int 0))) (kM (.int 1)))) (seqM (ifS (tsM eqA (vM 1) (kM (.str ("num" : Str)))) (rtS (apM mkTup (saC (kM (.str ("num" : Str))) (saC (apM (callM 1 (g ._law_number)) (saC (vM 0) saN)) saN)))) nxS) (seqM (setS 6 (apM (callM 1 (g ._law_makers)) (saC (vM 1) saN))) (seqM (asgS (tupG 2 (gsCons (setG 7) (gsCons (setG 8) gsNil))) (opM ixA (vM 6) (apM (callM 2 (g ._law_take)) (saC (vM 0) (saC (apM lenA (saC (vM 6) saN)) saN))))) (seqM (ifS (tsM eqA (vM 2) (kM (.int 0))) (rtS (apM mkTup (saC (kM (.str ("make" : Str))) (saC (vM 7) (saC (apM tupF (compM (apM iterM (vM 8)) (setG 9) yesT (apM mkTup (saC (kM (.str ("any" : Str))) saN)) [9])) saN))))) nxS) (rtS (apM mkTup (saC (kM (.str ("make" : Str))) (saC (vM 7) (saC (apM tupF (compM (apM iterM (vM 8)) (setG 9) yesT (apM (callM 4 (g ._law_pattern)) (saC (vM 0) (saC (vM 9) (saC (opM subA (vM 2) (kM (.int 1))) (saC (vM 3) saN))))) [9])) saN))))))))))))))
noncomputable def m__law_guard (cx : Cxp) (fa : Fn → Addr) (g : Fn → List A → M A) : Lt.Env → M Fl :=
 (seqM (setS 2 (apM (callM 2 (g ._law_take)) (saC (vM 0) (saC (kM (.int 6)) saN)))) (seqM (setLS 3 (compM (apM iterM (vM 1)) (tupG 2 (gsCons (setG 4) (gsCons (setG 5) gsNil))) (tsM eqA (vM 5) (kM (.str ("num" : Str)))) (apM mkTup (saC (kM (.str ("name" : Str))) (saC (vM 4) saN))) [4, 5])) (seqM (ifS (tsM ltA (vM 2) (kM (.int 3))) (rtS (kM .non)) nxS) (seqM (ifS (tsM eqA (vM 2) (kM (.int 3))) (rtS (apM mkTup (saC (kM (.str ("make" : Str))) (saC (opM ixA (apM mkLst (saC (kM (.str ("False" : Str))) (saC (kM (.str ("True" : Str))) saN))) (apM (callM 2 (g ._law_take)) (saC (vM 0) (saC (kM (.int 2)) saN)))) saN)))) nxS) (seqM (setS 6 (apM mkTup (saC (kM (.str ("num" : Str))) (saC (apM (callM 1 (g ._law_number)) (saC (vM 0) saN)) saN)))) (seqM (setS 7 (apM mkTup (saC (kM (.str ("num" : Str))) (saC (apM (callM 2 (g ._law_take)) (saC (vM 0) (saC (kM (.int 4)) saN))) saN)))) (seqM (ifS (tsM gtA (apM lenA (saC (vM 3) saN)) (kM (.int 0))) (setS 6 (opM ixA (vM 3) (apM (callM 2 (g ._law_take)) (saC (vM 0) (saC (apM lenA (saC (vM 3) saN)) saN))))) nxS) (seqM (ifS (andT (tsM gtA (apM lenA (saC (vM 3) saN)) (kM (.int 1))) (tsM eqA (apM (callM 2 (g ._law_take)) (saC (vM 0) (saC (kM (.int 2)) saN))) (kM (.int 1)))) (setS 7 (opM ixA (vM 3) (apM (callM 2 (g ._law_take)) (saC (vM 0) (saC (apM lenA (saC (vM 3) saN)) saN))))) nxS) (rtS (apM mkTup (saC (kM (.str ("op" : Str))) (saC (opM ixA (apM mkLst (saC (kM (.str ("<" : Str))) (saC (kM (.str ("==" : Str))) saN))) (apM (callM 2 (g ._law_take)) (saC (vM 0) (saC (kM (.int 2)) saN)))) (saC (vM 6) (saC (vM 7) saN))))))))))))))
noncomputable def m__law_body (cx : Cxp) (fa : Fn → Addr) (g : Fn → List A → M A) : Lt.Env → M Fl :=
 (seqM (setS 2 (apM (dispM [.inr ("num" : Str), .inr ("Tri" : Str), .inr ("Row" : Str), .inr ("Duo" : Str), .inr ("Bool" : Str)]) (saC (kM (.str ("In" : Str))) (saC (kM (.str ("It" : Str))) (saC (kM (.str ("Ir" : Str))) (saC (kM (.str ("Id" : Str))) (saC (kM (.str ("Ib" : Str))) saN))))))) (seqM (setS 3 (apM mkTup (saC (kM (.str ("make" : Str))) (saC (kM (.str ("No" : Str))) saN)))) (seqM (forS (apM iterM (vM 1)) (tupG 2 (gsCons (setG 4) (gsCons (setG 5) gsNil))) (setS 3 (apM mkTup (saC (kM (.str ("app" : Str))) (saC (apM mkTup (saC (kM (.str ("app" : Str))) (saC (apM mkTup (saC (kM (.str ("make" : Str))) (saC (kM (.str ("Mo" : Str))) saN))) (saC (apM mkTup (saC (kM (.str ("app" : Str))) (saC (apM mkTup (saC (kM (.str ("make" : Str))) (saC (opM ixA (vM 2) (vM 5)) saN))) (saC (apM mkTup (saC (kM (.str ("name" : Str))) (saC (vM 4) saN))) saN)))) saN)))) (saC (vM 3) saN)))))) (rtS (apM mkTup (saC (kM (.str ("app" : Str))) (saC (apM mkTup (saC (kM (.str ("app" : Str))) (saC (apM mkTup (saC (kM (.str ("make" : Str))) (saC (kM (.str ("Mo" : Str))) saN))) (saC (apM mkTup (saC (kM (.str ("app" : Str))) (saC (apM mkTup (saC (kM (.str ("make" : Str))) (saC (kM (.str ("In" : Str))) saN))) (saC (apM mkTup (saC (kM (.str ("num" : Str))) (saC (vM 0) saN))) saN)))) saN)))) (saC (vM 3) saN))))))))
noncomputable def m__law_line (cx : Cxp) (fa : Fn → Addr) (g : Fn → List A → M A) : Lt.Env → M Fl :=
 (seqM (setS 4 (apM mkLst saN)) (seqM (setS 5 (apM mkLst (saC (vM 3) (saC (vM 4) saN)))) (seqM (setS 6 (apM tupF (compM (apM iterM (vM 1)) (setG 7) yesT (apM (callM 4 (g ._law_pattern)) (saC (vM 0) (saC (vM 7) (saC (kM (.int 2)) (saC (vM 5) saN))))) [7]))) (rtS (apM mkTup (saC (vM 6) (saC (apM (callM 2 (g ._law_guard)) (saC (vM 0) (saC (vM 4) saN))) (saC (apM (callM 2 (g ._law_body)) (saC (vM 2) (saC (vM 4) saN))) saN))))))))
noncomputable def m__law_ways (cx : Cxp) (fa : Fn → Addr) (g : Fn → List A → M A) : Lt.Env → M Fl :=
 (seqM (ifS (tsM eqA (opM ixA (vM 0) (kM (.int 0))) (kM (.str ("as" : Str)))) (rtS (apM (callM 1 (g ._law_ways)) (saC (opM ixA (vM 0) (kM (.int 2))) saN))) nxS) (seqM (ifS (tsM eqA (opM ixA (vM 0) (kM (.int 0))) (kM (.str ("num" : Str)))) (rtS (apM mkLst (saC (kM (.int 2)) saN))) nxS) (seqM (ifS (tsM neA (opM ixA (vM 0) (kM (.int 0))) (kM (.str ("make" : Str)))) (rtS (apM mkLst saN)) nxS) (seqM (setS 1 (apM mkLst (saC (ifE (tsM inA (opM ixA (vM 0) (kM (.int 1))) (apM mkTup (saC (kM (.str ("Lo" : Str))) (saC (kM (.str ("Mi" : Str))) (saC (kM (.str ("Hi" : Str))) saN))))) (kM (.int 3)) (kM (.int 2))) saN))) (seqM (forS (apM iterM (opM ixA (vM 0) (kM (.int 2)))) (setG 2) (exS (m1M extendA (vM 1) (apM (callM 1 (g ._law_ways)) (saC (vM 2) saN))))) (rtS (vM 1)))))))
noncomputable def m__law_nodes_at_most (cx : Cxp) (fa : Fn → Addr) (g : Fn → List A → M A) : Lt.Env → M Fl :=
 (seqM (setS 1 (kM (.int 1))) (seqM (forS (apM iterM (apM revA (vM 0))) (tupG 3 (gsCons (setG 2) (gsCons (setG 3) (gsCons (setG 4) gsNil)))) (seqM (setS 5 (apM mkLst saN)) (seqM (forS (apM iterM (vM 2)) (setG 6) (exS (m1M extendA (vM 5) (apM (callM 1 (g ._law_ways)) (saC (vM 6) saN))))) (seqM (setS 7 (opM addA (apM sumF (compM (apM iterM (vM 5)) (setG 8) yesT (opM subA (vM 8) (kM (.int 1))) [8])) (apM intA (saC (opM nisA (vM 3) (kM .non)) saN)))) (setS 1 (opM addA (opM addA (apM lenA (saC (vM 5) saN)) (kM (.int 1))) (opM mulA (vM 7) (vM 1)))))))) (rtS (vM 1))))
noncomputable def m__law_lines (cx : Cxp) (fa : Fn → Addr) (g : Fn → List A → M A) : Lt.Env → M Fl :=
 (seqM (setS 4 (apM mkLst saN)) (seqM (forS (apM range1M (saC (opM addA (kM (.int 1)) (apM (callM 2 (g ._law_take)) (saC (vM 0) (saC (vM 2) saN)))) saN)) (setG 5) (seqM (setS 6 (apM (callM 4 (g ._law_line)) (saC (vM 0) (saC (vM 1) (saC (vM 5) (saC (vM 3) saN)))))) (ifS (tsM leA (apM (callM 1 (g ._law_nodes_at_most)) (saC (opM addA (vM 4) (apM mkLst (saC (vM 6) saN))) saN)) (kM (.int 400))) (exS (m1M appendA (vM 4) (vM 6))) nxS))) (seqM (ifS (tsM eqEA (vM 4) (apM mkLst saN)) (exS (m1M appendA (vM 4) (apM mkTup (saC (apM tupF (compM (apM iterM (vM 1)) (setG 7) yesT (apM mkTup (saC (kM (.str ("any" : Str))) saN)) [7])) (saC (kM .non) (saC (apM (callM 2 (g ._law_body)) (saC (kM (.int 0)) (saC (apM mkLst saN) saN))) saN)))))) nxS) (rtS (apM tupleA (saC (vM 4) saN))))))
noncomputable def m__law_kinds (cx : Cxp) (fa : Fn → Addr) (g : Fn → List A → M A) : Lt.Env → M Fl :=
 (rtS (apM lstF (compM (apM range1M (saC (opM addA (kM (.int 1)) (apM (callM 2 (g ._law_take)) (saC (vM 0) (saC (kM (.int 3)) saN)))) saN)) (setG 1) yesT (opM ixA (apM mkLst (saC (kM (.str ("num" : Str))) (saC (kM (.str ("Tri" : Str))) (saC (kM (.str ("Row" : Str))) (saC (kM (.str ("Duo" : Str))) (saC (kM (.str ("Bool" : Str))) saN)))))) (apM (callM 2 (g ._law_take)) (saC (vM 0) (saC (kM (.int 5)) saN)))) [1])))
noncomputable def m__law_olds (cx : Cxp) (fa : Fn → Addr) (g : Fn → List A → M A) : Lt.Env → M Fl :=
 (seqM (setS 0 (apM mkLst (saC (kM (.str ("ff" : Str))) (saC (kM (.str ("gg" : Str))) (saC (kM (.str ("ll" : Str))) (saC (kM (.str ("xa" : Str))) (saC (kM (.str ("xb" : Str))) (saC (kM (.str ("xc" : Str))) (saC (kM (.str ("xd" : Str))) (saC (kM (.str ("xe" : Str))) (saC (kM (.str ("xf" : Str))) saN))))))))))) (seqM (setS 1 (apM mkLst (saC (kM (.str ("Tri" : Str))) (saC (kM (.str ("Lo" : Str))) (saC (kM (.str ("Mi" : Str))) (saC (kM (.str ("Hi" : Str))) (saC (kM (.str ("Row" : Str))) (saC (kM (.str ("End" : Str))) (saC (kM (.str ("Cell" : Str))) (saC (kM (.str ("Duo" : Str))) (saC (kM (.str ("Two" : Str))) (saC (kM (.str ("Item" : Str))) (saC (kM (.str ("In" : Str))) (saC (kM (.str ("It" : Str))) (saC (kM (.str ("Ir" : Str))) (saC (kM (.str ("Id" : Str))) (saC (kM (.str ("Ib" : Str))) saN))))))))))))))))) (rtS (apM mkTup (saC (vM 0) (saC (opM addA (vM 1) (apM mkLst (saC (kM (.str ("Many" : Str))) (saC (kM (.str ("No" : Str))) (saC (kM (.str ("Mo" : Str))) saN))))) saN))))))
noncomputable def m__law_named (cx : Cxp) (fa : Fn → Addr) (g : Fn → List A → M A) : Lt.Env → M Fl :=
 (seqM (asgS (tupG 2 (gsCons (setG 1) (gsCons (setG 2) gsNil))) (fun _ => callM 0 (g ._law_olds) [])) (rtS (apM (callM 3 (g ._law_names)) (saC (vM 0) (saC (vM 1) (saC (vM 2) saN))))))
noncomputable def m__law_two (cx : Cxp) (fa : Fn → Addr) (g : Fn → List A → M A) : Lt.Env → M Fl :=
 (rtS (apM mkTup (saC (fun _ => callM 0 (g ._law_datas) []) (saC (apM mkTup (saC (apM mkTup (saC (kM (.str ("ff" : Str))) (saC (vM 0) saN))) (saC (apM mkTup (saC (kM (.str ("gg" : Str))) (saC (vM 1) saN))) (saC (apM mkTup (saC (kM (.str ("ll" : Str))) (saC (apM mkTup (saC (apM mkTup (saC (apM mkTup saN) (saC (kM .non) (saC (apM mkTup (saC (kM (.str ("name" : Str))) (saC (kM (.str ("ll" : Str))) saN))) saN)))) saN)) saN))) saN)))) saN))))
noncomputable def m__law_fresh (cx : Cxp) (fa : Fn → Addr) (g : Fn → List A → M A) : Lt.Env → M Fl :=
 (seqM (setS 2 (kM (.str ("abcdefghijklmnopqrstuvwxyz" : Str)))) (seqM (setS 3 (opM addA (apM mkLst (saC (kM (.str ("data" : Str))) (saC (kM (.str ("let" : Str))) (saC (kM (.str ("in" : Str))) (saC (kM (.str ("case" : Str))) (saC (kM (.str ("of" : Str))) (saC (kM (.str ("num" : Str))) (saC (kM (.str ("main" : Str))) (saC (kM (.str ("Bool" : Str))) (saC (kM (.str ("False" : Str))) (saC (kM (.str ("True" : Str))) saN))))))))))) (apM lstF (dvalsM 1 4)))) (seqM (setS 5 (apM (callM 3 (g ._law_word)) (saC (vM 0) (saC (vM 2) (saC (opM addA (kM (.int 1)) (apM (callM 2 (g ._law_take)) (saC (vM 0) (saC (kM (.int 8)) saN)))) saN))))) (seqM (setS 6 (opM addA (apM upperA (opM ixA (vM 2) (apM (callM 2 (g ._law_take)) (saC (vM 0) (saC (kM (.int 26)) saN))))) (apM (callM 3 (g ._law_word)) (saC (vM 0) (saC (vM 2) (saC (apM (callM 2 (g ._law_take)) (saC (vM 0) (saC (kM (.int 8)) saN))) saN)))))) (rtS (apM mkTup (saC (apM (callM 2 (g ._law_unlike)) (saC (vM 5) (saC (vM 3) saN))) (saC (apM (callM 2 (g ._law_unlike)) (saC (vM 6) (saC (vM 3) saN))) saN))))))))
noncomputable def m__law_bad_pattern (cx : Cxp) (fa : Fn → Addr) (g : Fn → List A → M A) : Lt.Env → M Fl :=
 (seqM (setS 3 (apM mkLst (saC (apM mkTup (saC (kM (.str ("num" : Str))) (saC (apM negA (kM (.int 1))) saN))) (saC (apM mkTup (saC (kM (.str ("num" : Str))) (saC (kM (.bl true)) saN))) (saC (apM mkTup (saC (kM (.str ("num" : Str))) (saC (opM powA (kM (.int 10)) (kM (.int 20))) saN))) (saC (apM mkTup (saC (kM (.str ("name" : Str))) (saC (vM 2) saN))) (saC (apM mkTup (saC (kM (.str ("name" : Str))) (saC (kM (.str ("in" : Str))) saN))) (saC (apM mkTup (saC (kM (.str ("make" : Str))) (saC (vM 1) (saC (apM mkTup saN) saN)))) saN)))))))) (seqM (setS 3 (opM addA (vM 3) (apM mkLst (saC (apM mkTup (saC (kM (.str ("make" : Str))) (saC (vM 2) (saC (apM mkLst (saC (apM mkTup (saC (kM (.str ("any" : Str))) saN)) saN)) saN)))) (saC (apM mkTup (saC (kM (.str ("make" : Str))) (saC (vM 2) (saC (apM mkTup (saC (kM (.str ("any" : Str))) saN)) saN)))) (saC (apM mkTup (saC (kM (.str ("make" : Str))) (saC (vM 2) saN))) (saC (apM mkTup (saC (kM (.str ("as" : Str))) (saC (vM 1) saN))) (saC (apM mkTup saN) (saC (kM (.str ("any" : Str))) saN))))))))) (seqM (setS 3 (opM addA (vM 3) (apM mkLst (saC (apM mkTup (saC (kM (.str ("as" : Str))) (saC (vM 2) (saC (apM mkTup (saC (kM (.str ("any" : Str))) saN)) saN)))) (saC (apM mkTup (saC (kM (.str ("as" : Str))) (saC (vM 1) (saC (apM mkTup (saC (kM (.str ("any" : Str))) saN)) (saC (apM mkTup (saC (kM (.str ("any" : Str))) saN)) saN))))) (saC (apM mkTup (saC (kM (.str ("any" : Str))) (saC (vM 1) saN))) (saC (kM .non) (saC (apM mkLst (saC (kM (.str ("any" : Str))) saN)) (saC (apM mkTup (saC (kM (.str ("line" : Str))) (saC (kM (.int 0)) saN))) saN))))))))) (seqM (setS 3 (opM addA (vM 3) (apM mkLst (saC (apM mkTup (saC (kM (.str ("made" : Str))) (saC (vM 2) (saC (apM mkTup (saC (apM mkTup (saC (vM 1) (saC (apM mkTup (saC (kM (.str ("any" : Str))) saN)) saN))) saN)) saN)))) (saC (apM mkTup (saC (kM (.str ("name" : Str))) (saC (opM addA (vM 1) (kM (.str ("abcdefgh" : Str)))) saN))) (saC (apM mkTup (saC (kM (.str ("num" : Str))) (saC (kM (.str ("1" : Str))) saN))) (saC (apM mkTup (saC (kM (.str ("name" : Str))) (saC (kM (.str ("" : Str))) saN))) saN))))))) (rtS (opM ixA (vM 3) (apM (callM 2 (g ._law_take)) (saC (vM 0) (saC (apM lenA (saC (vM 3) saN)) saN)))))))))
noncomputable def m__law_bad_term (cx : Cxp) (fa : Fn → Addr) (g : Fn → List A → M A) : Lt.Env → M Fl :=
 (seqM (setS 3 (apM mkLst (saC (apM mkTup (saC (kM (.str ("num" : Str))) (saC (apM negA (kM (.int 1))) saN))) (saC (apM mkTup (saC (kM (.str ("num" : Str))) (saC (kM (.bl false)) saN))) (saC (apM mkTup (saC (kM (.str ("name" : Str))) (saC (vM 2) saN))) (saC (apM mkTup (saC (kM (.str ("app" : Str))) (saC (apM mkTup (saC (kM (.str ("num" : Str))) (saC (kM (.int 1)) saN))) saN))) (saC (apM mkTup (saC (kM (.str ("fun" : Str))) (saC (vM 2) (saC (apM mkTup (saC (kM (.str ("num" : Str))) (saC (kM (.int 1)) saN))) saN)))) (saC (apM mkTup saN) saN)))))))) (seqM (setS 3 (opM addA (vM 3) (apM mkLst (saC (apM mkTup (saC (kM (.str ("let" : Str))) (saC (apM mkTup saN) (saC (apM mkTup (saC (kM (.str ("num" : Str))) (saC (kM (.int 1)) saN))) saN)))) (saC (apM mkTup (saC (kM (.str ("case" : Str))) (saC (apM mkTup (saC (kM (.str ("num" : Str))) (saC (kM (.int 1)) saN))) (saC (apM mkTup saN) saN)))) (saC (apM mkTup (saC (kM (.str ("op" : Str))) (saC (kM (.str ("/" : Str))) (saC (apM mkTup (saC (kM (.str ("num" : Str))) (saC (kM (.int 1)) saN))) (saC (apM mkTup (saC (kM (.str ("num" : Str))) (saC (kM (.int 1)) saN))) saN))))) (saC (vM 1) saN))))))) (seqM (setS 3 (opM addA (vM 3) (apM mkLst (saC (apM mkTup (saC (kM (.str ("field" : Str))) (saC (apM mkTup (saC (kM (.str ("name" : Str))) (saC (vM 1) saN))) (saC (vM 1) saN)))) (saC (apM mkTup (saC (kM (.str ("made" : Str))) (saC (vM 2) (saC (apM mkTup (saC (apM mkTup (saC (vM 1) (saC (apM mkTup (saC (kM (.str ("num" : Str))) (saC (kM (.int 1)) saN))) saN))) saN)) saN)))) (saC (apM mkLst (saC (kM (.str ("num" : Str))) (saC (kM (.int 1)) saN))) (saC (apM mkTup (saC (kM (.str ("any" : Str))) saN)) saN))))))) (rtS (opM ixA (vM 3) (apM (callM 2 (g ._law_take)) (saC (vM 0) (saC (apM lenA (saC (vM 3) saN)) saN))))))))
noncomputable def m__law_bad_line (cx : Cxp) (fa : Fn → Addr) (g : Fn → List A → M A) : Lt.Env → M Fl :=
 (seqM (asgS (tupG 3 (gsCons (setG 4) (gsCons (setG 5) (gsCons (setG 6) gsNil)))) (vM 1)) (seqM (setS 7 (apM (callM 2 (g ._law_take)) (saC (vM 0) (saC (kM (.int 7)) saN)))) (seqM (ifS (tsM eqA (vM 7) (kM (.int 0))) (rtS (apM mkTup (saC (apM listA (saC (vM 4) saN)) (saC (vM 5) (saC (vM 6) saN))))) nxS) (seqM (ifS (tsM eqA (vM 7) (kM (.int 1))) (rtS (apM mkTup (saC (opM addA (vM 4) (apM mkTup (saC (apM (callM 3 (g ._law_bad_pattern)) (saC (vM 0) (saC (vM 2) (saC (vM 3) saN)))) saN))) (saC (vM 5) (saC (vM 6) saN))))) nxS) (seqM (ifS (tsM eqA (vM 7) (kM (.int 2))) (rtS (apM mkTup (saC (apM mkTup (saC (apM mkTup (saC (kM (.str ("make" : Str))) (saC (vM 3) (saC (apM mkTup (saC (apM mkTup (saC (kM (.str ("any" : Str))) saN)) (saC (apM (callM 3 (g ._law_bad_pattern)) (saC (vM 0) (saC (vM 2) (saC (vM 3) saN)))) saN))) saN)))) saN)) (saC (vM 5) (saC (vM 6) saN))))) nxS) (seqM (ifS (tsM eqA (vM 7) (kM (.int 3))) (rtS (apM mkTup (saC (vM 4) (saC (opM ixA (apM mkLst (saC (apM mkTup (saC (kM (.str ("num" : Str))) (saC (kM (.int 0)) saN))) (saC (kM (.bl false)) (saC (kM (.str ("" : Str))) (saC (kM (.str ("True" : Str))) saN))))) (opM addA (apM (callM 2 (g ._law_take)) (saC (vM 0) (saC (kM (.int 3)) saN))) (kM (.int 1)))) (saC (vM 6) saN))))) nxS) (seqM (ifS (tsM eqA (vM 7) (kM (.int 4))) (rtS (apM mkTup (saC (vM 4) (saC (vM 5) (saC (apM (callM 3 (g ._law_bad_term)) (saC (vM 0) (saC (vM 2) (saC (vM 3) saN)))) saN))))) nxS) (seqM (ifS (tsM eqA (vM 7) (kM (.int 5))) (rtS (apM mkTup (saC (vM 4) (saC (apM (callM 3 (g ._law_bad_term)) (saC (vM 0) (saC (vM 2) (saC (vM 3) saN)))) (saC (apM mkTup (saC (kM (.str ("num" : Str))) (saC (kM (.int 1)) saN))) saN))))) nxS) (rtS (opM ixA (apM mkLst (saC (apM mkTup (saC (vM 4) (saC (vM 6) saN))) (saC (apM mkTup (saC (vM 4) (saC (vM 5) (saC (vM 6) (saC (vM 6) saN))))) (saC (apM mkLst (saC (vM 4) (saC (vM 5) (saC (vM 6) saN)))) (saC (kM .non) saN))))) (apM (callM 2 (g ._law_take)) (saC (vM 0) (saC (kM (.int 4)) saN)))))))))))))
noncomputable def m__law_bad_def (cx : Cxp) (fa : Fn → Addr) (g : Fn → List A → M A) : Lt.Env → M Fl :=
 (seqM (asgS (tupG 2 (gsCons (setG 4) (gsCons (setG 5) gsNil))) (vM 1)) (seqM (setS 6 (apM (callM 2 (g ._law_take)) (saC (vM 0) (saC (kM (.int 6)) saN)))) (seqM (ifS (tsM eqA (vM 6) (kM (.int 0))) (rtS (apM mkTup (saC (vM 4) (saC (apM mkTup saN) saN)))) nxS) (seqM (ifS (tsM eqA (vM 6) (kM (.int 1))) (rtS (apM mkTup (saC (opM ixA (apM mkLst (saC (kM (.str ("of" : Str))) (saC (vM 3) (saC (opM addA (vM 2) (kM (.str ("abcdefgh" : Str)))) (saC (kM (.str ("" : Str))) (saC (opM addA (vM 2) (kM (.str ("1" : Str)))) (saC (kM (.int 3)) saN))))))) (apM (callM 2 (g ._law_take)) (saC (vM 0) (saC (kM (.int 6)) saN)))) (saC (vM 5) saN)))) nxS) (seqM (ifS (tsM eqA (vM 6) (kM (.int 2))) (rtS (opM ixA (apM mkLst (saC (apM mkTup (saC (vM 4) (saC (apM listA (saC (vM 5) saN)) saN))) (saC (apM mkTup (saC (vM 4) saN)) (saC (apM mkTup (saC (vM 4) (saC (apM mkTup saN) (saC (vM 5) saN)))) (saC (apM mkLst (saC (vM 4) (saC (vM 5) saN))) (saC (vM 5) saN)))))) (apM (callM 2 (g ._law_take)) (saC (vM 0) (saC (kM (.int 5)) saN))))) nxS) (seqM (setS 7 (apM (callM 2 (g ._law_take)) (saC (vM 0) (saC (apM lenA (saC (vM 5) saN)) saN)))) (rtS (apM mkTup (saC (vM 4) (saC (opM addA (opM addA (slM (vM 5) noP (apM partM (vM 7))) (apM mkTup (saC (apM (callM 4 (g ._law_bad_line)) (saC (vM 0) (saC (opM ixA (vM 5) (vM 7)) (saC (vM 2) (saC (vM 3) saN))))) saN))) (slM (vM 5) (apM partM (opM addA (vM 7) (kM (.int 1)))) noP)) saN))))))))))
noncomputable def m__law_other (cx : Cxp) (fa : Fn → Addr) (g : Fn → List A → M A) : Lt.Env → M Fl :=
 (seqM (asgS (tupG 2 (gsCons (setG 3) (gsCons (setG 4) gsNil))) (vM 1)) (seqM (setS 5 (apM mkLst (saC (kM .non) (saC (kM (.int 7)) (saC (vM 2) (saC (apM mkLst saN) (saC (apM mkTup saN) (saC (apM mkTup (saC (vM 3) saN)) (saC (apM mkTup (saC (vM 3) (saC (vM 4) (saC (vM 4) saN)))) (saC (apM mkLst (saC (vM 3) (saC (vM 4) saN))) (saC (apM mkTup (saC (apM listA (saC (vM 3) saN)) (saC (vM 4) saN))) saN))))))))))) (seqM (setS 5 (opM addA (vM 5) (apM mkLst (saC (apM mkTup (saC (vM 3) (saC (apM listA (saC (vM 4) saN)) saN))) (saC (apM mkTup (saC (vM 3) (saC (opM ixA (vM 4) (kM (.int 0))) saN))) (saC (apM mkTup (saC (opM addA (vM 3) (apM mkTup (saC (apM mkTup (saC (vM 2) (saC (apM mkTup saN) (saC (apM mkTup saN) saN)))) saN))) (saC (vM 4) saN))) (saC (apM mkTup (saC (vM 3) (saC (fun _ => alloc (.dic [])) saN))) (saC (kM (.bl true)) saN)))))))) (seqM (setS 5 (opM addA (vM 5) (apM mkLst (saC (apM mkTup (saC (opM addA (vM 3) (apM mkTup (saC (apM mkTup (saC (kM (.str ("Ab" : Str))) (saC (apM mkTup saN) (saC (apM mkTup saN) saN)))) saN))) (saC (vM 4) saN))) (saC (apM mkTup (saC (opM addA (vM 3) (apM mkTup (saC (apM mkTup (saC (kM (.str ("Ab" : Str))) (saC (apM mkTup (saC (vM 2) saN)) (saC (apM mkTup (saC (apM mkTup (saC (kM (.str ("Ab" : Str))) saN)) saN)) saN)))) saN))) (saC (vM 4) saN))) saN))))) (rtS (opM ixA (vM 5) (apM (callM 2 (g ._law_take)) (saC (vM 0) (saC (apM lenA (saC (vM 5) saN)) saN)))))))))
noncomputable def m__law_wide (cx : Cxp) (fa : Fn → Addr) (g : Fn → List A → M A) : Lt.Env → M Fl :=
 (seqM (asgS (tupG 2 (gsCons (setG 4) (gsCons (setG 5) gsNil))) (vM 1)) (seqM (setS 6 (apM mkTup (saC (kM (.str ("any" : Str))) saN))) (seqM (forS (apM range1M (saC (kM (.int 9)) saN)) (setG 7) (setS 6 (ifE (tsM ltA (vM 7) (kM (.int 4))) (apM mkTup (saC (kM (.str ("as" : Str))) (saC (vM 2) (saC (vM 6) saN)))) (apM mkTup (saC (kM (.str ("make" : Str))) (saC (vM 3) (saC (apM mkTup (saC (vM 6) (saC (apM mkTup (saC (kM (.str ("name" : Str))) (saC (vM 2) saN))) saN))) saN))))))) (seqM (setS 8 (apM mkTup (saC (apM mkTup (saC (vM 6) (saC (apM mkTup (saC (kM (.str ("make" : Str))) (saC (vM 3) (saC (apM mkTup saN) saN)))) (saC (apM mkTup (saC (kM (.str ("num" : Str))) (saC (kM (.int 3)) saN))) saN)))) (saC (apM mkTup (saC (kM (.str ("name" : Str))) (saC (vM 2) saN))) (saC (apM mkTup (saC (kM (.str ("case" : Str))) (saC (apM mkTup (saC (kM (.str ("name" : Str))) (saC (vM 2) saN))) (saC (apM mkTup (saC (apM mkTup (saC (vM 3) (saC (apM mkTup saN) (saC (apM mkTup (saC (kM (.str ("num" : Str))) (saC (kM (.int 0)) saN))) saN)))) saN)) saN)))) saN))))) (seqM (setS 9 (opM ixA (apM mkLst (saC (vM 8) (saC (apM mkTup (saC (apM mkTup saN) (saC (kM .non) (saC (apM mkTup (saC (kM (.str ("make" : Str))) (saC (vM 3) saN))) saN)))) saN))) (apM (callM 2 (g ._law_take)) (saC (vM 0) (saC (kM (.int 2)) saN))))) (rtS (apM mkTup (saC (opM addA (vM 4) (vM 4)) (saC (opM addA (opM addA (vM 5) (apM mkTup (saC (apM mkTup (saC (vM 2) (saC (opM addA (apM mkTup (saC (vM 8) (saC (vM 9) saN))) (opM repA (apM mkTup (saC (vM 9) saN)) (apM (callM 2 (g ._law_take)) (saC (vM 0) (saC (kM (.int 12)) saN))))) saN))) saN))) (vM 5)) saN)))))))))
noncomputable def m_law (cx : Cxp) (fa : Fn → Addr) (g : Fn → List A → M A) : Lt.Env → M Fl :=
 (seqM (setS 1 (apM (callM 1 (g ._law_feed)) (saC (vM 0) saN))) (seqM (setS 2 (apM (callM 4 (g ._law_lines)) (saC (vM 1) (saC (apM (callM 1 (g ._law_kinds)) (saC (vM 1) saN)) (saC (kM (.int 4)) (saC (kM (.int 5)) saN)))))) (seqM (setS 3 (apM (callM 4 (g ._law_lines)) (saC (vM 1) (saC (apM (callM 1 (g ._law_kinds)) (saC (vM 1) saN)) (saC (kM (.int 3)) (saC (kM (.int 4)) saN)))))) (seqM (setS 4 (apM (callM 1 (g ._law_named)) (saC (vM 1) saN))) (seqM (setS 5 (apM (callM 2 (g ._law_renamed)) (saC (apM (callM 2 (g ._law_two)) (saC (vM 2) (saC (vM 3) saN))) (saC (vM 4) saN)))) (seqM (asgS (tupG 2 (gsCons (setG 6) (gsCons (setG 7) gsNil))) (apM (callM 2 (g ._law_fresh)) (saC (vM 1) (saC (vM 4) saN)))) (seqM (ifS (orT (notT (apM truA (apM (isiA "bool") (apM (callM 1 (g .is_surface)) (saC (vM 5) saN))))) (notT (apM truA (apM (callM 1 (g .is_surface)) (saC (vM 5) saN))))) (rtS (kM (.bl false))) nxS) (seqM (setS 8 (apM (callM 2 (g ._law_take)) (saC (vM 1) (saC (kM (.int 6)) saN)))) (seqM (ifS (tsM eqA (vM 8) (kM (.int 0))) (rtS (opM isA (apM (callM 1 (g .is_surface)) (saC (apM (callM 4 (g ._law_wide)) (saC (vM 1) (saC (vM 5) (saC (vM 6) (saC (vM 7) saN))))) saN)) (kM (.bl true)))) nxS) (seqM (ifS (tsM eqA (vM 8) (kM (.int 1))) (rtS (opM isA (apM (callM 1 (g .is_surface)) (saC (apM (callM 3 (g ._law_other)) (saC (vM 1) (saC (vM 5) (saC (vM 6) saN)))) saN)) (kM (.bl false)))) nxS) (seqM (setS 9 (apM (callM 2 (g ._law_take)) (saC (vM 1) (saC (kM (.int 3)) saN)))) (seqM (asgS (tupG 2 (gsCons (setG 10) (gsCons (setG 11) gsNil))) (vM 5)) (seqM (setS 12 (apM mkTup (saC (vM 10) (saC (opM addA (opM addA (slM (vM 11) noP (apM partM (vM 9))) (apM mkTup (saC (apM (callM 4 (g ._law_bad_def)) (saC (vM 1) (saC (opM ixA (vM 11) (vM 9)) (saC (vM 6) (saC (vM 7) saN))))) saN))) (slM (vM 11) (apM partM (opM addA (vM 9) (kM (.int 1)))) noP)) saN)))) (rtS (andE (opM isA (apM (callM 1 (g .is_surface)) (saC (vM 12) saN)) (kM (.bl false))) (opM isA (apM (callM 1 (g .is_surface)) (saC (vM 5) saN)) (kM (.bl true))))))))))))))))))
noncomputable def fns (cx : Cxp) (fa : Fn → Addr) : Nat → Fn → List A → M A
  | 0, _ => fun _ => bad
  | d + 1, .is_all_small => runBody 2 (m_is_all_small cx fa (fns cx fa d))
  | d + 1, .is_small => runBody 1 (m_is_small cx fa (fns cx fa d))
  | d + 1, .is_great => runBody 1 (m_is_great cx fa (fns cx fa d))
  | d + 1, .are_small => runBody 2 (m_are_small cx fa (fns cx fa d))
  | d + 1, .are_unlike => runBody 1 (m_are_unlike cx fa (fns cx fa d))
  | d + 1, .is_count => runBody 1 (m_is_count cx fa (fns cx fa d))
  | d + 1, .is_part => runBody 1 (m_is_part cx fa (fns cx fa d))
  | d + 1, .are_parts => runBody 4 (m_are_parts cx fa (fns cx fa d))
  | d + 1, .is_way => runBody 1 (m_is_way cx fa (fns cx fa d))
  | d + 1, .are_ways => runBody 2 (m_are_ways cx fa (fns cx fa d))
  | d + 1, .is_op => runBody 1 (m_is_op cx fa (fns cx fa d))
  | d + 1, .fits => runBody 7 (m_fits cx fa (fns cx fa d))
  | d + 1, .is_term => runBody 1 (m_is_term cx fa (fns cx fa d))
  | d + 1, .are_kinds => runBody 2 (m_are_kinds cx fa (fns cx fa d))
  | d + 1, .is_kind => runBody 1 (m_is_kind cx fa (fns cx fa d))
  | d + 1, .is_maker => runBody 1 (m_is_maker cx fa (fns cx fa d))
  | d + 1, .is_data => runBody 2 (m_is_data cx fa (fns cx fa d))
  | d + 1, .is_pattern => runBody 1 (m_is_pattern cx fa (fns cx fa d))
  | d + 1, .are_patterns => runBody 2 (m_are_patterns cx fa (fns cx fa d))
  | d + 1, .is_line => runBody 1 (m_is_line cx fa (fns cx fa d))
  | d + 1, .is_surface_def => runBody 2 (m_is_surface_def cx fa (fns cx fa d))
  | d + 1, .is_surface => runBody 5 (m_is_surface cx fa (fns cx fa d))
  | d + 1, ._law_feed => runBody 7 (m__law_feed cx fa (fns cx fa d))
  | d + 1, ._law_take => runBody 3 (m__law_take cx fa (fns cx fa d))
  | d + 1, ._law_word => runBody 4 (m__law_word cx fa (fns cx fa d))
  | d + 1, ._law_unlike => runBody 5 (m__law_unlike cx fa (fns cx fa d))
  | d + 1, ._law_names => runBody 8 (m__law_names cx fa (fns cx fa d))
  | d + 1, ._law_renamed => runBody 3 (m__law_renamed cx fa (fns cx fa d))
  | d + 1, ._law_datas => runBody 5 (m__law_datas cx fa (fns cx fa d))
  | d + 1, ._law_makers => runBody 1 (m__law_makers cx fa (fns cx fa d))
  | d + 1, ._law_number => runBody 2 (m__law_number cx fa (fns cx fa d))
  | d + 1, ._law_pattern => runBody 10 (m__law_pattern cx fa (fns cx fa d))
  | d + 1, ._law_guard => runBody 8 (m__law_guard cx fa (fns cx fa d))
  | d + 1, ._law_body => runBody 6 (m__law_body cx fa (fns cx fa d))
  | d + 1, ._law_line => runBody 8 (m__law_line cx fa (fns cx fa d))
  | d + 1, ._law_ways => runBody 3 (m__law_ways cx fa (fns cx fa d))
  | d + 1, ._law_nodes_at_most => runBody 9 (m__law_nodes_at_most cx fa (fns cx fa d))
  | d + 1, ._law_lines => runBody 8 (m__law_lines cx fa (fns cx fa d))
  | d + 1, ._law_kinds => runBody 2 (m__law_kinds cx fa (fns cx fa d))
  | d + 1, ._law_olds => runBody 2 (m__law_olds cx fa (fns cx fa d))
  | d + 1, ._law_named => runBody 3 (m__law_named cx fa (fns cx fa d))
  | d + 1, ._law_two => runBody 2 (m__law_two cx fa (fns cx fa d))
  | d + 1, ._law_fresh => runBody 7 (m__law_fresh cx fa (fns cx fa d))
  | d + 1, ._law_bad_pattern => runBody 4 (m__law_bad_pattern cx fa (fns cx fa d))
  | d + 1, ._law_bad_term => runBody 4 (m__law_bad_term cx fa (fns cx fa d))
  | d + 1, ._law_bad_line => runBody 8 (m__law_bad_line cx fa (fns cx fa d))
  | d + 1, ._law_bad_def => runBody 8 (m__law_bad_def cx fa (fns cx fa d))
  | d + 1, ._law_other => runBody 6 (m__law_other cx fa (fns cx fa d))
  | d + 1, ._law_wide => runBody 10 (m__law_wide cx fa (fns cx fa d))
  | d + 1, .law => runBody 13 (m_law cx fa (fns cx fa d))
/-- the defs that stand as values are known -/
structure FoOk (cx : Cxp) (fa : Fn → Addr) : Prop where
  v_are_kinds : cx.fo (fa .are_kinds) = some .are_kinds
  v_are_parts : cx.fo (fa .are_parts) = some .are_parts
  v_are_patterns : cx.fo (fa .are_patterns) = some .are_patterns
  v_are_ways : cx.fo (fa .are_ways) = some .are_ways
  v_is_count : cx.fo (fa .is_count) = some .is_count
  v_is_great : cx.fo (fa .is_great) = some .is_great
  v_is_kind : cx.fo (fa .is_kind) = some .is_kind
  v_is_op : cx.fo (fa .is_op) = some .is_op
  v_is_pattern : cx.fo (fa .is_pattern) = some .is_pattern
  v_is_small : cx.fo (fa .is_small) = some .is_small
  v_is_term : cx.fo (fa .is_term) = some .is_term
/-! ### the derivations -/
variable {cx : Cxp} {fa : Fn → Addr}
structure Tok (P : Program) (w : World) (K : PySem.W.Frag) (mg : Str → Option Value) (base : Heap) (cx : Cxp) (fa : Fn → Addr) (fd : Fn → FuncData) : Prop where
  mg_ : ∀ i, mg (nm i) = some (.ref (fa i))
  kp : ∀ i, PySem.W.keepIn K (.ref (fa i)) = true
  bd : ∀ i, L2.Binds K (fd i) (ps i) []
  fn : ∀ i, Fun K (nm i) (nm i) (sf i) (fa i) (fd i)
  fo : ∀ a i, cx.fo a = some i → a = fa i
  k_BEYOND : KonstOk K mg "BEYOND" (.int 100000000000000000000)
  k_GREAT : KonstOk K mg "GREAT" (.str ("ABCDEFGHIJKLMNOPQRSTUVWXYZ" : Str))
  k_KEPT_WORDS : KonstOk K mg "KEPT_WORDS" (.tup [.str ("data" : Str), .str ("let" : Str), .str ("in" : Str), .str ("case" : Str), .str ("of" : Str), .str ("num" : Str)])
  k_LONGEST : KonstOk K mg "LONGEST" (.int 8)
  k_OPS : KonstOk K mg "OPS" (.tup [.str ("+" : Str), .str ("-" : Str), .str ("*" : Str), .str ("<" : Str), .str ("==" : Str)])
  k_SMALL : KonstOk K mg "SMALL" (.str ("abcdefghijklmnopqrstuvwxyz" : Str))
  b_all : mg "all" = none
  b_bool : mg "bool" = none
  b_enumerate : mg "enumerate" = none
  b_int : mg "int" = none
  b_isinstance : mg "isinstance" = none
  b_len : mg "len" = none
  b_list : mg "list" = none
  b_range : mg "range" = none
  b_set : mg "set" = none
  b_str : mg "str" = none
  b_sum : mg "sum" = none
  b_tuple : mg "tuple" = none
  b_zip : mg "zip" = none
section
variable {P : Program} {w : World} {K : PySem.W.Frag} {mg : Str → Option Value} {base : Heap} {fd : Fn → FuncData}
theorem hap_ok (T : Tok P w K mg base cx fa fd) {g : Fn → List Lt.A → M Lt.A} {k : Nat} (G : ∀ i, FnM P w K mg base k (fa i) (fd i) (ps i) (g i)) : ∀ f mf, apF cx g f = some mf → ∃ (fd : FuncData) (ps : List Str) (mf' : List Lt.A → M Lt.A), FnM P w K mg base k f fd ps mf' ∧ PySem.W.keepIn K (.ref f) = true ∧ L2.Binds K fd ps [] ∧ mf = callM ps.length mf' := fun f mf e => by
  unfold apF at e
  cases e2 : cx.fo f with
  | none => rw [e2] at e; cases e
  | some i =>
    rw [e2] at e
    cases e
    have ef := T.fo f i e2
    subst ef
    exact ⟨fd i, ps i, g i, G i, T.kp i, T.bd i, rfl⟩
end
end Tx

namespace Tx
open PySem PySem.Spec PyProof.Rows L2 Lt
variable {cx : Cxp} {fa : Fn → Addr}
section
variable {P : Program} {w : World} {K : PySem.W.Frag} {mg : Str → Option Value} {base : Heap} {fd : Fn → FuncData}
theorem S_is_all_small : FnScope ["text", "sign"] (ps .is_all_small) (defScope s_is_all_small) := ⟨rfl, rfl, rfl, by decide +kernel, rfl, by decide +kernel, by decide +kernel⟩
theorem d_is_all_small (T : Tok P w K mg base cx fa fd) {g : Fn → List A → M A} {k : Nat} (hk : 2 ≤ k) (G : ∀ i, FnM P w K mg base k (fa i) (fd i) (ps i) (g i)) : FnM P w K mg base (k + 1) (fa .is_all_small) (fd .is_all_small) (ps .is_all_small) (runBody 2 (m_is_all_small cx fa g)) := by
  have S := S_is_all_small
  refine fnM_of (T.fn .is_all_small) S fun cdv A outer s H E hr tk => ?_
  refine sb_one ?_
  · refine css_ret ?_
    · refine cse_callBL (cr_all rfl) slc_all T.b_all PyProof.Rows.Boot.«all» ?_
      · refine se_lc (own := [(("sign" : Str), 1)]) (T := [1]) rfl ?_ ?_ (blkOk_by rfl) (fun _ _ _ _ _ => ?_) (by decide) ?_ (fun _ _ _ _ _ => ?_)
        · exact S.nd
        · refine csi_str ?_
          · exact cse_var 0
        · refine sg_name 1 ?_
          · exact S.nd
        · exact csts_nil
        · refine cse_in hr ?_ ?_
          · exact cse_var 1
          · exact cse_konst T.k_SMALL
theorem S_is_part : FnScope ["thing"] (ps .is_part) (defScope s_is_part) := ⟨rfl, rfl, rfl, by decide +kernel, rfl, by decide +kernel, by decide +kernel⟩
theorem d_is_part (T : Tok P w K mg base cx fa fd) {g : Fn → List A → M A} {k : Nat} (hk : 2 ≤ k) (G : ∀ i, FnM P w K mg base k (fa i) (fd i) (ps i) (g i)) : FnM P w K mg base (k + 1) (fa .is_part) (fd .is_part) (ps .is_part) (runBody 1 (m_is_part cx fa g)) := by
  have S := S_is_part
  refine fnM_of (T.fn .is_part) S fun cdv A outer s H E hr tk => ?_
  refine sb_one ?_
  · refine css_ret ?_
    · refine cse_and ?_ ?_
      · refine cse_isi "tuple" T.b_isinstance T.b_tuple (by rfl) ?_
        · exact cse_var 0
      · refine cse_and ?_ ?_
        · refine cse_eq hr ?_ ?_
          · refine cse_len T.b_len ?_
            · refine csa_cons ?_ ?_
              · exact cse_var 0
              · exact csa_nil
          · exact cse_int
        · refine cse_and ?_ ?_
          · refine cse_call (ps := ps .is_small) (mf := g .is_small) (G .is_small) hr tk (T.mg_ .is_small) (T.kp .is_small) (T.bd .is_small) ?_
            · refine csa_cons ?_ ?_
              · refine cse_ix hr ?_ ?_
                · exact cse_var 0
                · exact cse_int
              · exact csa_nil
          · refine se_one ?_
            · refine cse_call (ps := ps .is_term) (mf := g .is_term) (G .is_term) hr tk (T.mg_ .is_term) (T.kp .is_term) (T.bd .is_term) ?_
              · refine csa_cons ?_ ?_
                · refine cse_ix hr ?_ ?_
                  · exact cse_var 0
                  · exact cse_int
                · exact csa_nil
theorem S_is_data : FnScope ["thing", "maker"] (ps .is_data) (defScope s_is_data) := ⟨rfl, rfl, rfl, by decide +kernel, rfl, by decide +kernel, by decide +kernel⟩
theorem d_is_data (T : Tok P w K mg base cx fa fd) {g : Fn → List A → M A} {k : Nat} (hk : 2 ≤ k) (G : ∀ i, FnM P w K mg base k (fa i) (fd i) (ps i) (g i)) : FnM P w K mg base (k + 1) (fa .is_data) (fd .is_data) (ps .is_data) (runBody 2 (m_is_data cx fa g)) := by
  have S := S_is_data
  refine fnM_of (T.fn .is_data) S fun cdv A outer s H E hr tk => ?_
  refine sb_cons ?_ ?_
  · refine css_if ?_ ?_ ?_
    · refine st_w ?_
      · refine csw_or ?_ ?_
        · refine cst_not ?_
          · refine cst_val ?_
            · refine cse_isi "tuple" T.b_isinstance T.b_tuple (by rfl) ?_
              · exact cse_var 0
        · refine csw_or ?_ ?_
          · refine cst_ne hr ?_ ?_
            · refine cse_len T.b_len ?_
              · refine csa_cons ?_ ?_
                · exact cse_var 0
                · exact csa_nil
            · exact cse_int
          · refine csw_or ?_ ?_
            · refine cst_not ?_
              · refine cst_val ?_
                · refine cse_call (ps := ps .is_great) (mf := g .is_great) (G .is_great) hr tk (T.mg_ .is_great) (T.kp .is_great) (T.bd .is_great) ?_
                  · refine csa_cons ?_ ?_
                    · refine cse_ix hr ?_ ?_
                      · exact cse_var 0
                      · exact cse_int
                    · exact csa_nil
            · refine sw_or1 ?_
              · refine cst_not ?_
                · refine cst_val ?_
                  · refine cse_call (ps := ps .are_small) (mf := g .are_small) (G .are_small) hr tk (T.mg_ .are_small) (T.kp .are_small) (T.bd .are_small) ?_
                    · refine csa_cons ?_ ?_
                      · refine cse_ix hr ?_ ?_
                        · exact cse_var 0
                        · exact cse_int
                      · exact csa_nil
    · refine sb_one ?_
      · refine css_ret ?_
        · exact cse_bl
    · exact csb_nil
  · refine sb_one ?_
    · refine css_ret ?_
      · refine cse_and ?_ ?_
        · refine cse_isi "tuple" T.b_isinstance T.b_tuple (by rfl) ?_
          · refine cse_ix hr ?_ ?_
            · exact cse_var 0
            · exact cse_int
        · refine cse_and ?_ ?_
          · refine cse_neE hr ?_ ?_
            · refine cse_ix hr ?_ ?_
              · exact cse_var 0
              · exact cse_int
            · refine cse_tup ?_
              · exact csa_nil
          · refine se_one ?_
            · refine cse_callBL (cr_all rfl) slc_all T.b_all PyProof.Rows.Boot.«all» ?_
              · refine se_lc (own := [(("maker" : Str), 1)]) (T := [1]) rfl ?_ ?_ (blkOk_by rfl) (fun _ _ _ _ _ => ?_) (by decide) ?_ (fun _ _ _ _ _ => ?_)
                · exact S.nd
                · refine csi_seq ?_
                  · refine cse_ix hr ?_ ?_
                    · exact cse_var 0
                    · exact cse_int
                · refine sg_name 1 ?_
                  · exact S.nd
                · exact csts_nil
                · refine cse_call (ps := ps .is_maker) (mf := g .is_maker) (G .is_maker) hr takes0 (T.mg_ .is_maker) (T.kp .is_maker) (T.bd .is_maker) ?_
                  · refine csa_cons ?_ ?_
                    · exact cse_var 1
                    · exact csa_nil
theorem S_is_line : FnScope ["thing"] (ps .is_line) (defScope s_is_line) := ⟨rfl, rfl, rfl, by decide +kernel, rfl, by decide +kernel, by decide +kernel⟩
theorem d_is_line (T : Tok P w K mg base cx fa fd) {g : Fn → List A → M A} {k : Nat} (hk : 2 ≤ k) (G : ∀ i, FnM P w K mg base k (fa i) (fd i) (ps i) (g i)) : FnM P w K mg base (k + 1) (fa .is_line) (fd .is_line) (ps .is_line) (runBody 1 (m_is_line cx fa g)) := by
  have S := S_is_line
  refine fnM_of (T.fn .is_line) S fun cdv A outer s H E hr tk => ?_
  refine sb_cons ?_ ?_
  · refine css_if ?_ ?_ ?_
    · refine st_w ?_
      · refine csw_or ?_ ?_
        · refine cst_not ?_
          · refine cst_val ?_
            · refine cse_isi "tuple" T.b_isinstance T.b_tuple (by rfl) ?_
              · exact cse_var 0
        · refine csw_or ?_ ?_
          · refine cst_ne hr ?_ ?_
            · refine cse_len T.b_len ?_
              · refine csa_cons ?_ ?_
                · exact cse_var 0
                · exact csa_nil
            · exact cse_int
          · refine sw_or1 ?_
            · refine cst_not ?_
              · refine cst_val ?_
                · refine cse_call (ps := ps .are_patterns) (mf := g .are_patterns) (G .are_patterns) hr tk (T.mg_ .are_patterns) (T.kp .are_patterns) (T.bd .are_patterns) ?_
                  · refine csa_cons ?_ ?_
                    · refine cse_ix hr ?_ ?_
                      · exact cse_var 0
                      · exact cse_int
                    · exact csa_nil
    · refine sb_one ?_
      · refine css_ret ?_
        · exact cse_bl
    · exact csb_nil
  · refine sb_one ?_
    · refine css_ret ?_
      · refine cse_and ?_ ?_
        · refine cse_or ?_ ?_
          · refine cse_is ?_ ?_
            · refine cse_ix hr ?_ ?_
              · exact cse_var 0
              · exact cse_int
            · exact cse_non
          · refine se_one ?_
            · refine cse_call (ps := ps .is_term) (mf := g .is_term) (G .is_term) hr tk (T.mg_ .is_term) (T.kp .is_term) (T.bd .is_term) ?_
              · refine csa_cons ?_ ?_
                · refine cse_ix hr ?_ ?_
                  · exact cse_var 0
                  · exact cse_int
                · exact csa_nil
        · refine se_one ?_
          · refine cse_call (ps := ps .is_term) (mf := g .is_term) (G .is_term) hr tk (T.mg_ .is_term) (T.kp .is_term) (T.bd .is_term) ?_
            · refine csa_cons ?_ ?_
              · refine cse_ix hr ?_ ?_
                · exact cse_var 0
                · exact cse_int
              · exact csa_nil
theorem S__law_feed : FnScope ["script", "state", "found", "at", "cell", "left", "turn"] (ps ._law_feed) (defScope s__law_feed) := ⟨rfl, rfl, rfl, by decide +kernel, rfl, by decide +kernel, by decide +kernel⟩
theorem d__law_feed (T : Tok P w K mg base cx fa fd) {g : Fn → List A → M A} {k : Nat} (hk : 2 ≤ k) (G : ∀ i, FnM P w K mg base k (fa i) (fd i) (ps i) (g i)) : FnM P w K mg base (k + 1) (fa ._law_feed) (fd ._law_feed) (ps ._law_feed) (runBody 7 (m__law_feed cx fa g)) := by
  have S := S__law_feed
  refine fnM_of (T.fn ._law_feed) S fun cdv A outer s H E hr tk => ?_
  refine sb_cons ?_ ?_
  · refine css_set 1 ?_ ?_
    · exact S.nd
    · exact cse_int
  · refine sb_cons ?_ ?_
    · refine css_set 2 ?_ ?_
      · exact S.nd
      · refine cse_lst ?_
        · exact csa_nil
    · refine sb_cons ?_ ?_
      · refine ss_for (T := ([3] ++ ([4] ++ []))) (passes_of rfl) rfl ?_ ?_ ?_
        · refine csi_enum T.b_enumerate ?_
          · refine csa_cons ?_ ?_
            · refine cse_slice ?_ ?_ ?_
              · exact cse_var 0
              · exact csp_none
              · refine csp_some ?_
                · exact cse_int
            · exact csa_nil
        · refine sg_tup rfl ?_
          · refine sgs_cons ?_ ?_
            · refine sg_name 3 ?_
              · exact S.nd
            · refine sgs_cons ?_ ?_
              · refine sg_name 4 ?_
                · exact S.nd
              · exact sgs_nil
        · refine sb_cons ?_ ?_
          · refine css_set 1 ?_ ?_
            · exact S.nd
            · refine cse_add ?_ ?_
              · exact cse_int
              · refine cse_mod ?_ ?_
                · refine cse_toint T.b_int ?_
                  · refine csa_cons ?_ ?_
                    · refine cse_add ?_ ?_
                      · refine cse_add ?_ ?_
                        · refine cse_mul ?_ ?_
                          · exact cse_var 1
                          · exact cse_int
                        · refine cse_mul ?_ ?_
                          · refine cse_mod ?_ ?_
                            · refine cse_toint T.b_int ?_
                              · refine csa_cons ?_ ?_
                                · exact cse_var 4
                                · exact csa_nil
                            · exact cse_int
                          · exact cse_int
                      · refine cse_mul ?_ ?_
                        · exact cse_var 3
                        · exact cse_int
                    · exact csa_nil
                · exact cse_int
          · refine sb_cons ?_ ?_
            · refine css_set 5 ?_ ?_
              · exact S.nd
              · refine cse_if ?_ ?_ ?_
                · refine cst_ge ?_ ?_
                  · exact cse_var 4
                  · refine cse_pow ?_ ?_
                    · exact cse_int
                    · exact cse_int
                · exact cse_var 4
                · exact cse_int
            · refine sb_one ?_
              · refine ss_for (T := [6]) (passes_of rfl) rfl ?_ ?_ ?_
                · refine csi_range1 T.b_range ?_
                  · refine csa_cons ?_ ?_
                    · exact cse_int
                    · exact csa_nil
                · refine sg_name 6 ?_
                  · exact S.nd
                · refine sb_one ?_
                  · refine css_if ?_ ?_ ?_
                    · refine cst_gt ?_ ?_
                      · exact cse_var 5
                      · exact cse_int
                    · refine sb_cons ?_ ?_
                      · refine css_expr ?_
                        · refine cse_append ?_ ?_
                          · exact cse_var 2
                          · refine cse_mod ?_ ?_
                            · refine cse_toint T.b_int ?_
                              · refine csa_cons ?_ ?_
                                · exact cse_var 5
                                · exact csa_nil
                            · exact cse_int
                      · refine sb_one ?_
                        · refine css_set 5 ?_ ?_
                          · exact S.nd
                          · refine cse_fdiv ?_ ?_
                            · exact cse_var 5
                            · exact cse_int
                    · exact csb_nil
      · refine sb_one ?_
        · refine css_ret ?_
          · refine cse_add ?_ ?_
            · refine cse_lst ?_
              · refine csa_cons ?_ ?_
                · exact cse_var 1
                · exact csa_nil
            · refine cse_rev ?_
              · exact cse_var 2
theorem S__law_datas : FnScope ["number", "tri", "row", "duo", "items"] (ps ._law_datas) (defScope s__law_datas) := ⟨rfl, rfl, rfl, by decide +kernel, rfl, by decide +kernel, by decide +kernel⟩
theorem d__law_datas (T : Tok P w K mg base cx fa fd) {g : Fn → List A → M A} {k : Nat} (hk : 2 ≤ k) (G : ∀ i, FnM P w K mg base k (fa i) (fd i) (ps i) (g i)) : FnM P w K mg base (k + 1) (fa ._law_datas) (fd ._law_datas) (ps ._law_datas) (runBody 5 (m__law_datas cx fa g)) := by
  have S := S__law_datas
  refine fnM_of (T.fn ._law_datas) S fun cdv A outer s H E hr tk => ?_
  refine sb_cons ?_ ?_
  · refine css_asg (T := ([0] ++ ([1] ++ ([2] ++ [])))) ?_ ?_
    · refine cse_tup ?_
      · refine csa_cons ?_ ?_
        · refine cse_tup ?_
          · refine csa_cons ?_ ?_
            · exact cse_str
            · exact csa_nil
        · refine csa_cons ?_ ?_
          · refine cse_tup ?_
            · refine csa_cons ?_ ?_
              · exact cse_str
              · refine csa_cons ?_ ?_
                · exact cse_str
                · refine csa_cons ?_ ?_
                  · refine cse_tup ?_
                    · exact csa_nil
                  · exact csa_nil
          · refine csa_cons ?_ ?_
            · refine cse_tup ?_
              · refine csa_cons ?_ ?_
                · exact cse_str
                · refine csa_cons ?_ ?_
                  · exact cse_str
                  · refine csa_cons ?_ ?_
                    · refine cse_tup ?_
                      · exact csa_nil
                    · exact csa_nil
            · exact csa_nil
    · refine sg_tup rfl ?_
      · refine sgs_cons ?_ ?_
        · refine sg_name 0 ?_
          · exact S.nd
        · refine sgs_cons ?_ ?_
          · refine sg_name 1 ?_
            · exact S.nd
          · refine sgs_cons ?_ ?_
            · refine sg_name 2 ?_
              · exact S.nd
            · exact sgs_nil
  · refine sb_cons ?_ ?_
    · refine css_set 3 ?_ ?_
      · exact S.nd
      · refine cse_tup ?_
        · refine csa_cons ?_ ?_
          · exact cse_str
          · refine csa_cons ?_ ?_
            · exact cse_str
            · refine csa_cons ?_ ?_
              · refine cse_tup ?_
                · refine csa_cons ?_ ?_
                  · exact cse_var 0
                  · exact csa_nil
              · exact csa_nil
    · refine sb_cons ?_ ?_
      · refine css_set 4 ?_ ?_
        · exact S.nd
        · refine cse_tup ?_
          · refine csa_cons ?_ ?_
            · refine cse_tup ?_
              · refine csa_cons ?_ ?_
                · exact cse_str
                · refine csa_cons ?_ ?_
                  · refine cse_tup ?_
                    · refine csa_cons ?_ ?_
                      · exact cse_var 0
                      · exact csa_nil
                  · exact csa_nil
            · refine csa_cons ?_ ?_
              · refine cse_tup ?_
                · refine csa_cons ?_ ?_
                  · exact cse_str
                  · refine csa_cons ?_ ?_
                    · refine cse_tup ?_
                      · refine csa_cons ?_ ?_
                        · exact cse_var 1
                        · exact csa_nil
                    · exact csa_nil
              · refine csa_cons ?_ ?_
                · refine cse_tup ?_
                  · refine csa_cons ?_ ?_
                    · exact cse_str
                    · refine csa_cons ?_ ?_
                      · refine cse_tup ?_
                        · refine csa_cons ?_ ?_
                          · exact cse_var 2
                          · exact csa_nil
                      · exact csa_nil
                · refine csa_cons ?_ ?_
                  · refine cse_tup ?_
                    · refine csa_cons ?_ ?_
                      · exact cse_str
                      · refine csa_cons ?_ ?_
                        · refine cse_tup ?_
                          · refine csa_cons ?_ ?_
                            · exact cse_var 3
                            · exact csa_nil
                        · exact csa_nil
                  · refine csa_cons ?_ ?_
                    · refine cse_tup ?_
                      · refine csa_cons ?_ ?_
                        · exact cse_str
                        · refine csa_cons ?_ ?_
                          · refine cse_tup ?_
                            · refine csa_cons ?_ ?_
                              · refine cse_tup ?_
                                · refine csa_cons ?_ ?_
                                  · exact cse_str
                                  · refine csa_cons ?_ ?_
                                    · exact cse_str
                                    · refine csa_cons ?_ ?_
                                      · refine cse_tup ?_
                                        · exact csa_nil
                                      · exact csa_nil
                              · exact csa_nil
                          · exact csa_nil
                    · exact csa_nil
      · refine sb_one ?_
        · refine css_ret ?_
          · refine cse_tup ?_
            · refine csa_cons ?_ ?_
              · refine cse_tup ?_
                · refine csa_cons ?_ ?_
                  · exact cse_str
                  · refine csa_cons ?_ ?_
                    · refine cse_tup ?_
                      · exact csa_nil
                    · refine csa_cons ?_ ?_
                      · refine cse_tup ?_
                        · refine csa_cons ?_ ?_
                          · refine cse_tup ?_
                            · refine csa_cons ?_ ?_
                              · exact cse_str
                              · refine csa_cons ?_ ?_
                                · refine cse_tup ?_
                                  · exact csa_nil
                                · exact csa_nil
                          · refine csa_cons ?_ ?_
                            · refine cse_tup ?_
                              · refine csa_cons ?_ ?_
                                · exact cse_str
                                · refine csa_cons ?_ ?_
                                  · refine cse_tup ?_
                                    · exact csa_nil
                                  · exact csa_nil
                            · refine csa_cons ?_ ?_
                              · refine cse_tup ?_
                                · refine csa_cons ?_ ?_
                                  · exact cse_str
                                  · refine csa_cons ?_ ?_
                                    · refine cse_tup ?_
                                      · exact csa_nil
                                    · exact csa_nil
                              · exact csa_nil
                      · exact csa_nil
              · refine csa_cons ?_ ?_
                · refine cse_tup ?_
                  · refine csa_cons ?_ ?_
                    · exact cse_str
                    · refine csa_cons ?_ ?_
                      · refine cse_tup ?_
                        · exact csa_nil
                      · refine csa_cons ?_ ?_
                        · refine cse_tup ?_
                          · refine csa_cons ?_ ?_
                            · refine cse_tup ?_
                              · refine csa_cons ?_ ?_
                                · exact cse_str
                                · refine csa_cons ?_ ?_
                                  · refine cse_tup ?_
                                    · exact csa_nil
                                  · exact csa_nil
                            · refine csa_cons ?_ ?_
                              · refine cse_tup ?_
                                · refine csa_cons ?_ ?_
                                  · exact cse_str
                                  · refine csa_cons ?_ ?_
                                    · refine cse_tup ?_
                                      · refine csa_cons ?_ ?_
                                        · exact cse_var 0
                                        · refine csa_cons ?_ ?_
                                          · exact cse_var 2
                                          · exact csa_nil
                                    · exact csa_nil
                              · exact csa_nil
                        · exact csa_nil
                · refine csa_cons ?_ ?_
                  · refine cse_tup ?_
                    · refine csa_cons ?_ ?_
                      · exact cse_str
                      · refine csa_cons ?_ ?_
                        · refine cse_tup ?_
                          · refine csa_cons ?_ ?_
                            · exact cse_str
                            · exact csa_nil
                        · refine csa_cons ?_ ?_
                          · refine cse_tup ?_
                            · refine csa_cons ?_ ?_
                              · refine cse_tup ?_
                                · refine csa_cons ?_ ?_
                                  · exact cse_str
                                  · refine csa_cons ?_ ?_
                                    · refine cse_tup ?_
                                      · refine csa_cons ?_ ?_
                                        · refine cse_tup ?_
                                          · refine csa_cons ?_ ?_
                                            · exact cse_str
                                            · refine csa_cons ?_ ?_
                                              · exact cse_str
                                              · exact csa_nil
                                        · refine csa_cons ?_ ?_
                                          · exact cse_var 1
                                          · exact csa_nil
                                    · exact csa_nil
                              · exact csa_nil
                          · exact csa_nil
                  · refine csa_cons ?_ ?_
                    · refine cse_tup ?_
                      · refine csa_cons ?_ ?_
                        · exact cse_str
                        · refine csa_cons ?_ ?_
                          · refine cse_tup ?_
                            · exact csa_nil
                          · refine csa_cons ?_ ?_
                            · exact cse_var 4
                            · exact csa_nil
                    · refine csa_cons ?_ ?_
                      · refine cse_tup ?_
                        · refine csa_cons ?_ ?_
                          · exact cse_str
                          · refine csa_cons ?_ ?_
                            · refine cse_tup ?_
                              · exact csa_nil
                            · refine csa_cons ?_ ?_
                              · refine cse_tup ?_
                                · refine csa_cons ?_ ?_
                                  · refine cse_tup ?_
                                    · refine csa_cons ?_ ?_
                                      · exact cse_str
                                      · refine csa_cons ?_ ?_
                                        · refine cse_tup ?_
                                          · exact csa_nil
                                        · exact csa_nil
                                  · refine csa_cons ?_ ?_
                                    · refine cse_tup ?_
                                      · refine csa_cons ?_ ?_
                                        · exact cse_str
                                        · refine csa_cons ?_ ?_
                                          · refine cse_tup ?_
                                            · refine csa_cons ?_ ?_
                                              · refine cse_tup ?_
                                                · refine csa_cons ?_ ?_
                                                  · exact cse_str
                                                  · refine csa_cons ?_ ?_
                                                    · exact cse_str
                                                    · refine csa_cons ?_ ?_
                                                      · refine cse_tup ?_
                                                        · exact csa_nil
                                                      · exact csa_nil
                                              · refine csa_cons ?_ ?_
                                                · refine cse_tup ?_
                                                  · refine csa_cons ?_ ?_
                                                    · exact cse_str
                                                    · refine csa_cons ?_ ?_
                                                      · exact cse_str
                                                      · refine csa_cons ?_ ?_
                                                        · refine cse_tup ?_
                                                          · exact csa_nil
                                                        · exact csa_nil
                                                · exact csa_nil
                                          · exact csa_nil
                                    · exact csa_nil
                              · exact csa_nil
                      · exact csa_nil
end
end Tx

namespace Tx
open PySem PySem.Spec PyProof.Rows L2 Lt
variable {cx : Cxp} {fa : Fn → Addr}
section
variable {P : Program} {w : World} {K : PySem.W.Frag} {mg : Str → Option Value} {base : Heap} {fd : Fn → FuncData}
theorem S_is_count : FnScope ["thing"] (ps .is_count) (defScope s_is_count) := ⟨rfl, rfl, rfl, by decide +kernel, rfl, by decide +kernel, by decide +kernel⟩
theorem d_is_count (T : Tok P w K mg base cx fa fd) {g : Fn → List A → M A} {k : Nat} (hk : 2 ≤ k) (G : ∀ i, FnM P w K mg base k (fa i) (fd i) (ps i) (g i)) : FnM P w K mg base (k + 1) (fa .is_count) (fd .is_count) (ps .is_count) (runBody 1 (m_is_count cx fa g)) := by
  have S := S_is_count
  refine fnM_of (T.fn .is_count) S fun cdv A outer s H E hr tk => ?_
  refine sb_one ?_
  · refine css_ret ?_
    · refine cse_and ?_ ?_
      · refine cse_isi "int" T.b_isinstance T.b_int (by rfl) ?_
        · exact cse_var 0
      · refine cse_and ?_ ?_
        · refine cse_not ?_
          · refine cse_isi "bool" T.b_isinstance T.b_bool (by rfl) ?_
            · exact cse_var 0
        · refine cse_and ?_ ?_
          · refine cse_le ?_ ?_
            · exact cse_int
            · exact cse_var 0
          · refine se_one ?_
            · refine cse_lt ?_ ?_
              · exact cse_var 0
              · exact cse_konst T.k_BEYOND
theorem S_is_op : FnScope ["thing"] (ps .is_op) (defScope s_is_op) := ⟨rfl, rfl, rfl, by decide +kernel, rfl, by decide +kernel, by decide +kernel⟩
theorem d_is_op (T : Tok P w K mg base cx fa fd) {g : Fn → List A → M A} {k : Nat} (hk : 2 ≤ k) (G : ∀ i, FnM P w K mg base k (fa i) (fd i) (ps i) (g i)) : FnM P w K mg base (k + 1) (fa .is_op) (fd .is_op) (ps .is_op) (runBody 1 (m_is_op cx fa g)) := by
  have S := S_is_op
  refine fnM_of (T.fn .is_op) S fun cdv A outer s H E hr tk => ?_
  refine sb_one ?_
  · refine css_ret ?_
    · refine cse_and ?_ ?_
      · refine cse_isi "str" T.b_isinstance T.b_str (by rfl) ?_
        · exact cse_var 0
      · refine se_one ?_
        · refine cse_in hr ?_ ?_
          · exact cse_var 0
          · exact cse_konst T.k_OPS
theorem S_is_maker : FnScope ["thing"] (ps .is_maker) (defScope s_is_maker) := ⟨rfl, rfl, rfl, by decide +kernel, rfl, by decide +kernel, by decide +kernel⟩
theorem d_is_maker (T : Tok P w K mg base cx fa fd) {g : Fn → List A → M A} {k : Nat} (hk : 2 ≤ k) (G : ∀ i, FnM P w K mg base k (fa i) (fd i) (ps i) (g i)) : FnM P w K mg base (k + 1) (fa .is_maker) (fd .is_maker) (ps .is_maker) (runBody 1 (m_is_maker cx fa g)) := by
  have S := S_is_maker
  refine fnM_of (T.fn .is_maker) S fun cdv A outer s H E hr tk => ?_
  refine sb_one ?_
  · refine css_ret ?_
    · refine cse_and ?_ ?_
      · refine cse_isi "tuple" T.b_isinstance T.b_tuple (by rfl) ?_
        · exact cse_var 0
      · refine cse_and ?_ ?_
        · refine cse_eq hr ?_ ?_
          · refine cse_len T.b_len ?_
            · refine csa_cons ?_ ?_
              · exact cse_var 0
              · exact csa_nil
          · exact cse_int
        · refine cse_and ?_ ?_
          · refine cse_call (ps := ps .is_great) (mf := g .is_great) (G .is_great) hr tk (T.mg_ .is_great) (T.kp .is_great) (T.bd .is_great) ?_
            · refine csa_cons ?_ ?_
              · refine cse_ix hr ?_ ?_
                · exact cse_var 0
                · exact cse_int
              · exact csa_nil
          · refine se_one ?_
            · refine cse_call (ps := ps .are_kinds) (mf := g .are_kinds) (G .are_kinds) hr tk (T.mg_ .are_kinds) (T.kp .are_kinds) (T.bd .are_kinds) ?_
              · refine csa_cons ?_ ?_
                · refine cse_ix hr ?_ ?_
                  · exact cse_var 0
                  · exact cse_int
                · exact csa_nil
theorem S__law_take : FnScope ["feed", "many", "mixed"] (ps ._law_take) (defScope s__law_take) := ⟨rfl, rfl, rfl, by decide +kernel, rfl, by decide +kernel, by decide +kernel⟩
theorem d__law_take (T : Tok P w K mg base cx fa fd) {g : Fn → List A → M A} {k : Nat} (hk : 2 ≤ k) (G : ∀ i, FnM P w K mg base k (fa i) (fd i) (ps i) (g i)) : FnM P w K mg base (k + 1) (fa ._law_take) (fd ._law_take) (ps ._law_take) (runBody 3 (m__law_take cx fa g)) := by
  have S := S__law_take
  refine fnM_of (T.fn ._law_take) S fun cdv A outer s H E hr tk => ?_
  refine sb_cons ?_ ?_
  · refine css_if ?_ ?_ ?_
    · refine cst_gt ?_ ?_
      · refine cse_len T.b_len ?_
        · refine csa_cons ?_ ?_
          · exact cse_var 0
          · exact csa_nil
      · exact cse_int
    · refine sb_one ?_
      · refine css_ret ?_
        · refine cse_mod ?_ ?_
          · refine cse_toint T.b_int ?_
            · refine csa_cons ?_ ?_
              · refine cse_pop0 ?_
                · exact cse_var 0
              · exact csa_nil
          · exact cse_var 1
    · exact csb_nil
  · refine sb_cons ?_ ?_
    · refine css_asg (T := []) ?_ ?_
      · refine cse_add ?_ ?_
        · refine cse_ix hr ?_ ?_
          · exact cse_var 0
          · exact cse_int
        · exact cse_int
      · refine sg_sub hr ?_ ?_
        · exact cse_var 0
        · exact cse_int
    · refine sb_cons ?_ ?_
      · refine css_set 2 ?_ ?_
        · exact S.nd
        · refine cse_mod ?_ ?_
          · refine cse_toint T.b_int ?_
            · refine csa_cons ?_ ?_
              · refine cse_add ?_ ?_
                · refine cse_mul ?_ ?_
                  · refine cse_mul ?_ ?_
                    · refine cse_ix hr ?_ ?_
                      · exact cse_var 0
                      · exact cse_int
                    · refine cse_ix hr ?_ ?_
                      · exact cse_var 0
                      · exact cse_int
                  · refine cse_ix hr ?_ ?_
                    · exact cse_var 0
                    · exact cse_int
                · refine cse_mul ?_ ?_
                  · refine cse_ix hr ?_ ?_
                    · exact cse_var 0
                    · exact cse_int
                  · exact cse_int
              · exact csa_nil
          · exact cse_int
      · refine sb_cons ?_ ?_
        · refine css_set 2 ?_ ?_
          · exact S.nd
          · refine cse_mod ?_ ?_
            · refine cse_toint T.b_int ?_
              · refine csa_cons ?_ ?_
                · refine cse_add ?_ ?_
                  · refine cse_mul ?_ ?_
                    · exact cse_var 2
                    · exact cse_var 2
                  · refine cse_fdiv ?_ ?_
                    · exact cse_var 2
                    · exact cse_int
                · exact csa_nil
            · exact cse_int
        · refine sb_one ?_
          · refine css_ret ?_
            · refine cse_mod ?_ ?_
              · refine cse_toint T.b_int ?_
                · refine csa_cons ?_ ?_
                  · refine cse_fdiv ?_ ?_
                    · exact cse_var 2
                    · exact cse_int
                  · exact csa_nil
              · exact cse_var 1
theorem S__law_lines : FnScope ["feed", "kinds", "most", "looks", "lines", "line", "one", "kind"] (ps ._law_lines) (defScope s__law_lines) := ⟨rfl, rfl, rfl, by decide +kernel, rfl, by decide +kernel, by decide +kernel⟩
theorem d__law_lines (T : Tok P w K mg base cx fa fd) {g : Fn → List A → M A} {k : Nat} (hk : 2 ≤ k) (G : ∀ i, FnM P w K mg base k (fa i) (fd i) (ps i) (g i)) : FnM P w K mg base (k + 1) (fa ._law_lines) (fd ._law_lines) (ps ._law_lines) (runBody 8 (m__law_lines cx fa g)) := by
  have S := S__law_lines
  refine fnM_of (T.fn ._law_lines) S fun cdv A outer s H E hr tk => ?_
  refine sb_cons ?_ ?_
  · refine css_set 4 ?_ ?_
    · exact S.nd
    · refine cse_lst ?_
      · exact csa_nil
  · refine sb_cons ?_ ?_
    · refine ss_for (T := [5]) (passes_of rfl) rfl ?_ ?_ ?_
      · refine csi_range1 T.b_range ?_
        · refine csa_cons ?_ ?_
          · refine cse_add ?_ ?_
            · exact cse_int
            · refine cse_call (ps := ps ._law_take) (mf := g ._law_take) (G ._law_take) hr tk (T.mg_ ._law_take) (T.kp ._law_take) (T.bd ._law_take) ?_
              · refine csa_cons ?_ ?_
                · exact cse_var 0
                · refine csa_cons ?_ ?_
                  · exact cse_var 2
                  · exact csa_nil
          · exact csa_nil
      · refine sg_name 5 ?_
        · exact S.nd
      · refine sb_cons ?_ ?_
        · refine css_set 6 ?_ ?_
          · exact S.nd
          · refine cse_call (ps := ps ._law_line) (mf := g ._law_line) (G ._law_line) hr tk (T.mg_ ._law_line) (T.kp ._law_line) (T.bd ._law_line) ?_
            · refine csa_cons ?_ ?_
              · exact cse_var 0
              · refine csa_cons ?_ ?_
                · exact cse_var 1
                · refine csa_cons ?_ ?_
                  · exact cse_var 5
                  · refine csa_cons ?_ ?_
                    · exact cse_var 3
                    · exact csa_nil
        · refine sb_one ?_
          · refine css_if ?_ ?_ ?_
            · refine cst_le ?_ ?_
              · refine cse_call (ps := ps ._law_nodes_at_most) (mf := g ._law_nodes_at_most) (G ._law_nodes_at_most) hr tk (T.mg_ ._law_nodes_at_most) (T.kp ._law_nodes_at_most) (T.bd ._law_nodes_at_most) ?_
                · refine csa_cons ?_ ?_
                  · refine cse_add ?_ ?_
                    · exact cse_var 4
                    · refine cse_lst ?_
                      · refine csa_cons ?_ ?_
                        · exact cse_var 6
                        · exact csa_nil
                  · exact csa_nil
              · exact cse_int
            · refine sb_one ?_
              · refine css_expr ?_
                · refine cse_append ?_ ?_
                  · exact cse_var 4
                  · exact cse_var 6
            · exact csb_nil
    · refine sb_cons ?_ ?_
      · refine css_if ?_ ?_ ?_
        · refine cst_eqE hr ?_ ?_
          · exact cse_var 4
          · refine cse_lst ?_
            · exact csa_nil
        · refine sb_one ?_
          · refine css_expr ?_
            · refine cse_append ?_ ?_
              · exact cse_var 4
              · refine cse_tup ?_
                · refine csa_cons ?_ ?_
                  · refine cse_tupleL T.b_tuple ?_
                    · refine se_lc (own := [(("kind" : Str), 7)]) (T := [7]) rfl ?_ ?_ (blkOk_by rfl) (fun _ _ _ _ _ => ?_) (by decide) ?_ (fun _ _ _ _ _ => ?_)
                      · exact S.nd
                      · refine csi_seq ?_
                        · exact cse_var 1
                      · refine sg_name 7 ?_
                        · exact S.nd
                      · exact csts_nil
                      · refine cse_tup ?_
                        · refine csa_cons ?_ ?_
                          · exact cse_str
                          · exact csa_nil
                  · refine csa_cons ?_ ?_
                    · exact cse_non
                    · refine csa_cons ?_ ?_
                      · refine cse_call (ps := ps ._law_body) (mf := g ._law_body) (G ._law_body) hr tk (T.mg_ ._law_body) (T.kp ._law_body) (T.bd ._law_body) ?_
                        · refine csa_cons ?_ ?_
                          · exact cse_int
                          · refine csa_cons ?_ ?_
                            · refine cse_lst ?_
                              · exact csa_nil
                            · exact csa_nil
                      · exact csa_nil
        · exact csb_nil
      · refine sb_one ?_
        · refine css_ret ?_
          · refine cse_tuple T.b_tuple ?_
            · refine csa_cons ?_ ?_
              · exact cse_var 4
              · exact csa_nil
theorem S__law_two : FnScope ["lines", "others"] (ps ._law_two) (defScope s__law_two) := ⟨rfl, rfl, rfl, by decide +kernel, rfl, by decide +kernel, by decide +kernel⟩
theorem d__law_two (T : Tok P w K mg base cx fa fd) {g : Fn → List A → M A} {k : Nat} (hk : 2 ≤ k) (G : ∀ i, FnM P w K mg base k (fa i) (fd i) (ps i) (g i)) : FnM P w K mg base (k + 1) (fa ._law_two) (fd ._law_two) (ps ._law_two) (runBody 2 (m__law_two cx fa g)) := by
  have S := S__law_two
  refine fnM_of (T.fn ._law_two) S fun cdv A outer s H E hr tk => ?_
  refine sb_one ?_
  · refine css_ret ?_
    · refine cse_tup ?_
      · refine csa_cons ?_ ?_
        · exact cse_call0 (ps := ps ._law_datas) (mf := g ._law_datas) (G ._law_datas) hr tk (T.mg_ ._law_datas) (T.kp ._law_datas) (T.bd ._law_datas)
        · refine csa_cons ?_ ?_
          · refine cse_tup ?_
            · refine csa_cons ?_ ?_
              · refine cse_tup ?_
                · refine csa_cons ?_ ?_
                  · exact cse_str
                  · refine csa_cons ?_ ?_
                    · exact cse_var 0
                    · exact csa_nil
              · refine csa_cons ?_ ?_
                · refine cse_tup ?_
                  · refine csa_cons ?_ ?_
                    · exact cse_str
                    · refine csa_cons ?_ ?_
                      · exact cse_var 1
                      · exact csa_nil
                · refine csa_cons ?_ ?_
                  · refine cse_tup ?_
                    · refine csa_cons ?_ ?_
                      · exact cse_str
                      · refine csa_cons ?_ ?_
                        · refine cse_tup ?_
                          · refine csa_cons ?_ ?_
                            · refine cse_tup ?_
                              · refine csa_cons ?_ ?_
                                · refine cse_tup ?_
                                  · exact csa_nil
                                · refine csa_cons ?_ ?_
                                  · exact cse_non
                                  · refine csa_cons ?_ ?_
                                    · refine cse_tup ?_
                                      · refine csa_cons ?_ ?_
                                        · exact cse_str
                                        · refine csa_cons ?_ ?_
                                          · exact cse_str
                                          · exact csa_nil
                                    · exact csa_nil
                            · exact csa_nil
                        · exact csa_nil
                  · exact csa_nil
          · exact csa_nil
theorem S_law : FnScope ["script", "feed", "lines", "others", "names", "surface", "small", "great", "choice", "at", "datas", "defs", "spoilt"] (ps .law) (defScope s_law) := ⟨rfl, rfl, rfl, by decide +kernel, rfl, by decide +kernel, by decide +kernel⟩
theorem d_law (T : Tok P w K mg base cx fa fd) {g : Fn → List A → M A} {k : Nat} (hk : 2 ≤ k) (G : ∀ i, FnM P w K mg base k (fa i) (fd i) (ps i) (g i)) : FnM P w K mg base (k + 1) (fa .law) (fd .law) (ps .law) (runBody 13 (m_law cx fa g)) := by
  have S := S_law
  refine fnM_of (T.fn .law) S fun cdv A outer s H E hr tk => ?_
  refine sb_cons ?_ ?_
  · refine css_set 1 ?_ ?_
    · exact S.nd
    · refine cse_call (ps := ps ._law_feed) (mf := g ._law_feed) (G ._law_feed) hr tk (T.mg_ ._law_feed) (T.kp ._law_feed) (T.bd ._law_feed) ?_
      · refine csa_cons ?_ ?_
        · exact cse_var 0
        · exact csa_nil
  · refine sb_cons ?_ ?_
    · refine css_set 2 ?_ ?_
      · exact S.nd
      · refine cse_call (ps := ps ._law_lines) (mf := g ._law_lines) (G ._law_lines) hr tk (T.mg_ ._law_lines) (T.kp ._law_lines) (T.bd ._law_lines) ?_
        · refine csa_cons ?_ ?_
          · exact cse_var 1
          · refine csa_cons ?_ ?_
            · refine cse_call (ps := ps ._law_kinds) (mf := g ._law_kinds) (G ._law_kinds) hr tk (T.mg_ ._law_kinds) (T.kp ._law_kinds) (T.bd ._law_kinds) ?_
              · refine csa_cons ?_ ?_
                · exact cse_var 1
                · exact csa_nil
            · refine csa_cons ?_ ?_
              · exact cse_int
              · refine csa_cons ?_ ?_
                · exact cse_int
                · exact csa_nil
    · refine sb_cons ?_ ?_
      · refine css_set 3 ?_ ?_
        · exact S.nd
        · refine cse_call (ps := ps ._law_lines) (mf := g ._law_lines) (G ._law_lines) hr tk (T.mg_ ._law_lines) (T.kp ._law_lines) (T.bd ._law_lines) ?_
          · refine csa_cons ?_ ?_
            · exact cse_var 1
            · refine csa_cons ?_ ?_
              · refine cse_call (ps := ps ._law_kinds) (mf := g ._law_kinds) (G ._law_kinds) hr tk (T.mg_ ._law_kinds) (T.kp ._law_kinds) (T.bd ._law_kinds) ?_
                · refine csa_cons ?_ ?_
                  · exact cse_var 1
                  · exact csa_nil
              · refine csa_cons ?_ ?_
                · exact cse_int
                · refine csa_cons ?_ ?_
                  · exact cse_int
                  · exact csa_nil
      · refine sb_cons ?_ ?_
        · refine css_set 4 ?_ ?_
          · exact S.nd
          · refine cse_call (ps := ps ._law_named) (mf := g ._law_named) (G ._law_named) hr tk (T.mg_ ._law_named) (T.kp ._law_named) (T.bd ._law_named) ?_
            · refine csa_cons ?_ ?_
              · exact cse_var 1
              · exact csa_nil
        · refine sb_cons ?_ ?_
          · refine css_set 5 ?_ ?_
            · exact S.nd
            · refine cse_call (ps := ps ._law_renamed) (mf := g ._law_renamed) (G ._law_renamed) hr tk (T.mg_ ._law_renamed) (T.kp ._law_renamed) (T.bd ._law_renamed) ?_
              · refine csa_cons ?_ ?_
                · refine cse_call (ps := ps ._law_two) (mf := g ._law_two) (G ._law_two) hr tk (T.mg_ ._law_two) (T.kp ._law_two) (T.bd ._law_two) ?_
                  · refine csa_cons ?_ ?_
                    · exact cse_var 2
                    · refine csa_cons ?_ ?_
                      · exact cse_var 3
                      · exact csa_nil
                · refine csa_cons ?_ ?_
                  · exact cse_var 4
                  · exact csa_nil
          · refine sb_cons ?_ ?_
            · refine css_asg (T := ([6] ++ ([7] ++ []))) ?_ ?_
              · refine cse_call (ps := ps ._law_fresh) (mf := g ._law_fresh) (G ._law_fresh) hr tk (T.mg_ ._law_fresh) (T.kp ._law_fresh) (T.bd ._law_fresh) ?_
                · refine csa_cons ?_ ?_
                  · exact cse_var 1
                  · refine csa_cons ?_ ?_
                    · exact cse_var 4
                    · exact csa_nil
              · refine sg_tup rfl ?_
                · refine sgs_cons ?_ ?_
                  · refine sg_name 6 ?_
                    · exact S.nd
                  · refine sgs_cons ?_ ?_
                    · refine sg_name 7 ?_
                      · exact S.nd
                    · exact sgs_nil
            · refine sb_cons ?_ ?_
              · refine css_if ?_ ?_ ?_
                · refine st_w ?_
                  · refine csw_or ?_ ?_
                    · refine cst_not ?_
                      · refine cst_val ?_
                        · refine cse_isi "bool" T.b_isinstance T.b_bool (by rfl) ?_
                          · refine cse_call (ps := ps .is_surface) (mf := g .is_surface) (G .is_surface) hr tk (T.mg_ .is_surface) (T.kp .is_surface) (T.bd .is_surface) ?_
                            · refine csa_cons ?_ ?_
                              · exact cse_var 5
                              · exact csa_nil
                    · refine sw_or1 ?_
                      · refine cst_not ?_
                        · refine cst_val ?_
                          · refine cse_call (ps := ps .is_surface) (mf := g .is_surface) (G .is_surface) hr tk (T.mg_ .is_surface) (T.kp .is_surface) (T.bd .is_surface) ?_
                            · refine csa_cons ?_ ?_
                              · exact cse_var 5
                              · exact csa_nil
                · refine sb_one ?_
                  · refine css_ret ?_
                    · exact cse_bl
                · exact csb_nil
              · refine sb_cons ?_ ?_
                · refine css_set 8 ?_ ?_
                  · exact S.nd
                  · refine cse_call (ps := ps ._law_take) (mf := g ._law_take) (G ._law_take) hr tk (T.mg_ ._law_take) (T.kp ._law_take) (T.bd ._law_take) ?_
                    · refine csa_cons ?_ ?_
                      · exact cse_var 1
                      · refine csa_cons ?_ ?_
                        · exact cse_int
                        · exact csa_nil
                · refine sb_cons ?_ ?_
                  · refine css_if ?_ ?_ ?_
                    · refine cst_eq hr ?_ ?_
                      · exact cse_var 8
                      · exact cse_int
                    · refine sb_one ?_
                      · refine css_ret ?_
                        · refine cse_is ?_ ?_
                          · refine cse_call (ps := ps .is_surface) (mf := g .is_surface) (G .is_surface) hr tk (T.mg_ .is_surface) (T.kp .is_surface) (T.bd .is_surface) ?_
                            · refine csa_cons ?_ ?_
                              · refine cse_call (ps := ps ._law_wide) (mf := g ._law_wide) (G ._law_wide) hr tk (T.mg_ ._law_wide) (T.kp ._law_wide) (T.bd ._law_wide) ?_
                                · refine csa_cons ?_ ?_
                                  · exact cse_var 1
                                  · refine csa_cons ?_ ?_
                                    · exact cse_var 5
                                    · refine csa_cons ?_ ?_
                                      · exact cse_var 6
                                      · refine csa_cons ?_ ?_
                                        · exact cse_var 7
                                        · exact csa_nil
                              · exact csa_nil
                          · exact cse_bl
                    · exact csb_nil
                  · refine sb_cons ?_ ?_
                    · refine css_if ?_ ?_ ?_
                      · refine cst_eq hr ?_ ?_
                        · exact cse_var 8
                        · exact cse_int
                      · refine sb_one ?_
                        · refine css_ret ?_
                          · refine cse_is ?_ ?_
                            · refine cse_call (ps := ps .is_surface) (mf := g .is_surface) (G .is_surface) hr tk (T.mg_ .is_surface) (T.kp .is_surface) (T.bd .is_surface) ?_
                              · refine csa_cons ?_ ?_
                                · refine cse_call (ps := ps ._law_other) (mf := g ._law_other) (G ._law_other) hr tk (T.mg_ ._law_other) (T.kp ._law_other) (T.bd ._law_other) ?_
                                  · refine csa_cons ?_ ?_
                                    · exact cse_var 1
                                    · refine csa_cons ?_ ?_
                                      · exact cse_var 5
                                      · refine csa_cons ?_ ?_
                                        · exact cse_var 6
                                        · exact csa_nil
                                · exact csa_nil
                            · exact cse_bl
                      · exact csb_nil
                    · refine sb_cons ?_ ?_
                      · refine css_set 9 ?_ ?_
                        · exact S.nd
                        · refine cse_call (ps := ps ._law_take) (mf := g ._law_take) (G ._law_take) hr tk (T.mg_ ._law_take) (T.kp ._law_take) (T.bd ._law_take) ?_
                          · refine csa_cons ?_ ?_
                            · exact cse_var 1
                            · refine csa_cons ?_ ?_
                              · exact cse_int
                              · exact csa_nil
                      · refine sb_cons ?_ ?_
                        · refine css_asg (T := ([10] ++ ([11] ++ []))) ?_ ?_
                          · exact cse_var 5
                          · refine sg_tup rfl ?_
                            · refine sgs_cons ?_ ?_
                              · refine sg_name 10 ?_
                                · exact S.nd
                              · refine sgs_cons ?_ ?_
                                · refine sg_name 11 ?_
                                  · exact S.nd
                                · exact sgs_nil
                        · refine sb_cons ?_ ?_
                          · refine css_set 12 ?_ ?_
                            · exact S.nd
                            · refine cse_tup ?_
                              · refine csa_cons ?_ ?_
                                · exact cse_var 10
                                · refine csa_cons ?_ ?_
                                  · refine cse_add ?_ ?_
                                    · refine cse_add ?_ ?_
                                      · refine cse_slice ?_ ?_ ?_
                                        · exact cse_var 11
                                        · exact csp_none
                                        · refine csp_some ?_
                                          · exact cse_var 9
                                      · refine cse_tup ?_
                                        · refine csa_cons ?_ ?_
                                          · refine cse_call (ps := ps ._law_bad_def) (mf := g ._law_bad_def) (G ._law_bad_def) hr tk (T.mg_ ._law_bad_def) (T.kp ._law_bad_def) (T.bd ._law_bad_def) ?_
                                            · refine csa_cons ?_ ?_
                                              · exact cse_var 1
                                              · refine csa_cons ?_ ?_
                                                · refine cse_ix hr ?_ ?_
                                                  · exact cse_var 11
                                                  · exact cse_var 9
                                                · refine csa_cons ?_ ?_
                                                  · exact cse_var 6
                                                  · refine csa_cons ?_ ?_
                                                    · exact cse_var 7
                                                    · exact csa_nil
                                          · exact csa_nil
                                    · refine cse_slice ?_ ?_ ?_
                                      · exact cse_var 11
                                      · refine csp_some ?_
                                        · refine cse_add ?_ ?_
                                          · exact cse_var 9
                                          · exact cse_int
                                      · exact csp_none
                                  · exact csa_nil
                          · refine sb_one ?_
                            · refine css_ret ?_
                              · refine cse_and ?_ ?_
                                · refine cse_is ?_ ?_
                                  · refine cse_call (ps := ps .is_surface) (mf := g .is_surface) (G .is_surface) hr tk (T.mg_ .is_surface) (T.kp .is_surface) (T.bd .is_surface) ?_
                                    · refine csa_cons ?_ ?_
                                      · exact cse_var 12
                                      · exact csa_nil
                                  · exact cse_bl
                                · refine se_one ?_
                                  · refine cse_is ?_ ?_
                                    · refine cse_call (ps := ps .is_surface) (mf := g .is_surface) (G .is_surface) hr tk (T.mg_ .is_surface) (T.kp .is_surface) (T.bd .is_surface) ?_
                                      · refine csa_cons ?_ ?_
                                        · exact cse_var 5
                                        · exact csa_nil
                                    · exact cse_bl
end
end Tx

namespace Tx
open PySem PySem.Spec PyProof.Rows L2 Lt
variable {cx : Cxp} {fa : Fn → Addr}
section
variable {P : Program} {w : World} {K : PySem.W.Frag} {mg : Str → Option Value} {base : Heap} {fd : Fn → FuncData}
theorem S_is_great : FnScope ["thing"] (ps .is_great) (defScope s_is_great) := ⟨rfl, rfl, rfl, by decide +kernel, rfl, by decide +kernel, by decide +kernel⟩
theorem d_is_great (T : Tok P w K mg base cx fa fd) {g : Fn → List A → M A} {k : Nat} (hk : 2 ≤ k) (G : ∀ i, FnM P w K mg base k (fa i) (fd i) (ps i) (g i)) : FnM P w K mg base (k + 1) (fa .is_great) (fd .is_great) (ps .is_great) (runBody 1 (m_is_great cx fa g)) := by
  have S := S_is_great
  refine fnM_of (T.fn .is_great) S fun cdv A outer s H E hr tk => ?_
  refine sb_cons ?_ ?_
  · refine css_if ?_ ?_ ?_
    · refine st_w ?_
      · refine csw_or ?_ ?_
        · refine cst_not ?_
          · refine cst_val ?_
            · refine cse_isi "str" T.b_isinstance T.b_str (by rfl) ?_
              · exact cse_var 0
        · refine csw_or ?_ ?_
          · refine cst_lt ?_ ?_
            · refine cse_len T.b_len ?_
              · refine csa_cons ?_ ?_
                · exact cse_var 0
                · exact csa_nil
            · exact cse_int
          · refine sw_or1 ?_
            · refine cst_gt ?_ ?_
              · refine cse_len T.b_len ?_
                · refine csa_cons ?_ ?_
                  · exact cse_var 0
                  · exact csa_nil
              · exact cse_konst T.k_LONGEST
    · refine sb_one ?_
      · refine css_ret ?_
        · exact cse_bl
    · exact csb_nil
  · refine sb_one ?_
    · refine css_ret ?_
      · refine cse_and ?_ ?_
        · refine cse_in hr ?_ ?_
          · refine cse_ix hr ?_ ?_
            · exact cse_var 0
            · exact cse_int
          · exact cse_konst T.k_GREAT
        · refine se_one ?_
          · refine cse_call (ps := ps .is_all_small) (mf := g .is_all_small) (G .is_all_small) hr tk (T.mg_ .is_all_small) (T.kp .is_all_small) (T.bd .is_all_small) ?_
            · refine csa_cons ?_ ?_
              · refine cse_slice ?_ ?_ ?_
                · exact cse_var 0
                · refine csp_some ?_
                  · exact cse_int
                · exact csp_none
              · exact csa_nil
theorem S_is_way : FnScope ["thing"] (ps .is_way) (defScope s_is_way) := ⟨rfl, rfl, rfl, by decide +kernel, rfl, by decide +kernel, by decide +kernel⟩
theorem d_is_way (T : Tok P w K mg base cx fa fd) {g : Fn → List A → M A} {k : Nat} (hk : 2 ≤ k) (G : ∀ i, FnM P w K mg base k (fa i) (fd i) (ps i) (g i)) : FnM P w K mg base (k + 1) (fa .is_way) (fd .is_way) (ps .is_way) (runBody 1 (m_is_way cx fa g)) := by
  have S := S_is_way
  refine fnM_of (T.fn .is_way) S fun cdv A outer s H E hr tk => ?_
  refine sb_cons ?_ ?_
  · refine css_if ?_ ?_ ?_
    · refine st_w ?_
      · refine csw_or ?_ ?_
        · refine cst_not ?_
          · refine cst_val ?_
            · refine cse_isi "tuple" T.b_isinstance T.b_tuple (by rfl) ?_
              · exact cse_var 0
        · refine csw_or ?_ ?_
          · refine cst_ne hr ?_ ?_
            · refine cse_len T.b_len ?_
              · refine csa_cons ?_ ?_
                · exact cse_var 0
                · exact csa_nil
            · exact cse_int
          · refine csw_or ?_ ?_
            · refine cst_not ?_
              · refine cst_val ?_
                · refine cse_call (ps := ps .is_great) (mf := g .is_great) (G .is_great) hr tk (T.mg_ .is_great) (T.kp .is_great) (T.bd .is_great) ?_
                  · refine csa_cons ?_ ?_
                    · refine cse_ix hr ?_ ?_
                      · exact cse_var 0
                      · exact cse_int
                    · exact csa_nil
            · refine sw_or1 ?_
              · refine cst_not ?_
                · refine cst_val ?_
                  · refine cse_call (ps := ps .are_small) (mf := g .are_small) (G .are_small) hr tk (T.mg_ .are_small) (T.kp .are_small) (T.bd .are_small) ?_
                    · refine csa_cons ?_ ?_
                      · refine cse_ix hr ?_ ?_
                        · exact cse_var 0
                        · exact cse_int
                      · exact csa_nil
    · refine sb_one ?_
      · refine css_ret ?_
        · exact cse_bl
    · exact csb_nil
  · refine sb_one ?_
    · refine css_ret ?_
      · refine cse_and ?_ ?_
        · refine cse_call (ps := ps .are_unlike) (mf := g .are_unlike) (G .are_unlike) hr tk (T.mg_ .are_unlike) (T.kp .are_unlike) (T.bd .are_unlike) ?_
          · refine csa_cons ?_ ?_
            · refine cse_ix hr ?_ ?_
              · exact cse_var 0
              · exact cse_int
            · exact csa_nil
        · refine se_one ?_
          · refine cse_call (ps := ps .is_term) (mf := g .is_term) (G .is_term) hr tk (T.mg_ .is_term) (T.kp .is_term) (T.bd .is_term) ?_
            · refine csa_cons ?_ ?_
              · refine cse_ix hr ?_ ?_
                · exact cse_var 0
                · exact cse_int
              · exact csa_nil
theorem S_is_term : FnScope ["thing"] (ps .is_term) (defScope s_is_term) := ⟨rfl, rfl, rfl, by decide +kernel, rfl, by decide +kernel, by decide +kernel⟩
theorem d_is_term (T : Tok P w K mg base cx fa fd) {g : Fn → List A → M A} {k : Nat} (hk : 2 ≤ k) (G : ∀ i, FnM P w K mg base k (fa i) (fd i) (ps i) (g i)) : FnM P w K mg base (k + 1) (fa .is_term) (fd .is_term) (ps .is_term) (runBody 1 (m_is_term cx fa g)) := by
  have S := S_is_term
  refine fnM_of (T.fn .is_term) S fun cdv A outer s H E hr tk => ?_
  refine sb_one ?_
  · refine css_ret ?_
    · refine cse_call (ps := ps .fits) (mf := g .fits) (G .fits) hr tk (T.mg_ .fits) (T.kp .fits) (T.bd .fits) ?_
      · refine csa_cons ?_ ?_
        · exact cse_var 0
        · refine csa_cons ?_ ?_
          · refine cse_disp (kk := [.inr ("num" : Str), .inr ("name" : Str), .inr ("make" : Str), .inr ("app" : Str), .inr ("fun" : Str), .inr ("let" : Str), .inr ("case" : Str), .inr ("op" : Str)]) ?_
            · refine csds_cons (key := .inr ("num" : Str)) pe_str ?_ ?_
              · refine cse_lst ?_
                · refine csa_cons ?_ ?_
                  · exact cse_glob (v := .ref (fa .is_count)) rfl (T.mg_ .is_count) rfl (fun _ _ => .fn)
                  · exact csa_nil
              · refine csds_cons (key := .inr ("name" : Str)) pe_str ?_ ?_
                · refine cse_lst ?_
                  · refine csa_cons ?_ ?_
                    · exact cse_glob (v := .ref (fa .is_small)) rfl (T.mg_ .is_small) rfl (fun _ _ => .fn)
                    · exact csa_nil
                · refine csds_cons (key := .inr ("make" : Str)) pe_str ?_ ?_
                  · refine cse_lst ?_
                    · refine csa_cons ?_ ?_
                      · exact cse_glob (v := .ref (fa .is_great)) rfl (T.mg_ .is_great) rfl (fun _ _ => .fn)
                      · exact csa_nil
                  · refine csds_cons (key := .inr ("app" : Str)) pe_str ?_ ?_
                    · refine cse_lst ?_
                      · refine csa_cons ?_ ?_
                        · exact cse_glob (v := .ref (fa .is_term)) rfl (T.mg_ .is_term) rfl (fun _ _ => .fn)
                        · refine csa_cons ?_ ?_
                          · exact cse_glob (v := .ref (fa .is_term)) rfl (T.mg_ .is_term) rfl (fun _ _ => .fn)
                          · exact csa_nil
                    · refine csds_cons (key := .inr ("fun" : Str)) pe_str ?_ ?_
                      · refine cse_lst ?_
                        · refine csa_cons ?_ ?_
                          · exact cse_glob (v := .ref (fa .is_small)) rfl (T.mg_ .is_small) rfl (fun _ _ => .fn)
                          · refine csa_cons ?_ ?_
                            · exact cse_glob (v := .ref (fa .is_term)) rfl (T.mg_ .is_term) rfl (fun _ _ => .fn)
                            · exact csa_nil
                      · refine csds_cons (key := .inr ("let" : Str)) pe_str ?_ ?_
                        · refine cse_lst ?_
                          · refine csa_cons ?_ ?_
                            · exact cse_glob (v := .ref (fa .are_parts)) rfl (T.mg_ .are_parts) rfl (fun _ _ => .fn)
                            · refine csa_cons ?_ ?_
                              · exact cse_glob (v := .ref (fa .is_term)) rfl (T.mg_ .is_term) rfl (fun _ _ => .fn)
                              · exact csa_nil
                        · refine csds_cons (key := .inr ("case" : Str)) pe_str ?_ ?_
                          · refine cse_lst ?_
                            · refine csa_cons ?_ ?_
                              · exact cse_glob (v := .ref (fa .is_term)) rfl (T.mg_ .is_term) rfl (fun _ _ => .fn)
                              · refine csa_cons ?_ ?_
                                · exact cse_glob (v := .ref (fa .are_ways)) rfl (T.mg_ .are_ways) rfl (fun _ _ => .fn)
                                · exact csa_nil
                          · refine csds_cons (key := .inr ("op" : Str)) pe_str ?_ ?_
                            · refine cse_lst ?_
                              · refine csa_cons ?_ ?_
                                · exact cse_glob (v := .ref (fa .is_op)) rfl (T.mg_ .is_op) rfl (fun _ _ => .fn)
                                · refine csa_cons ?_ ?_
                                  · exact cse_glob (v := .ref (fa .is_term)) rfl (T.mg_ .is_term) rfl (fun _ _ => .fn)
                                  · refine csa_cons ?_ ?_
                                    · exact cse_glob (v := .ref (fa .is_term)) rfl (T.mg_ .is_term) rfl (fun _ _ => .fn)
                                    · exact csa_nil
                            · exact csds_nil
          · exact csa_nil
theorem S_are_kinds : FnScope ["thing", "one"] (ps .are_kinds) (defScope s_are_kinds) := ⟨rfl, rfl, rfl, by decide +kernel, rfl, by decide +kernel, by decide +kernel⟩
theorem d_are_kinds (T : Tok P w K mg base cx fa fd) {g : Fn → List A → M A} {k : Nat} (hk : 2 ≤ k) (G : ∀ i, FnM P w K mg base k (fa i) (fd i) (ps i) (g i)) : FnM P w K mg base (k + 1) (fa .are_kinds) (fd .are_kinds) (ps .are_kinds) (runBody 2 (m_are_kinds cx fa g)) := by
  have S := S_are_kinds
  refine fnM_of (T.fn .are_kinds) S fun cdv A outer s H E hr tk => ?_
  refine sb_one ?_
  · refine css_ret ?_
    · refine cse_and ?_ ?_
      · refine cse_isi "tuple" T.b_isinstance T.b_tuple (by rfl) ?_
        · exact cse_var 0
      · refine se_one ?_
        · refine cse_callBL (cr_all rfl) slc_all T.b_all PyProof.Rows.Boot.«all» ?_
          · refine se_lc (own := [(("one" : Str), 1)]) (T := [1]) rfl ?_ ?_ (blkOk_by rfl) (fun _ _ _ _ _ => ?_) (by decide) ?_ (fun _ _ _ _ _ => ?_)
            · exact S.nd
            · refine csi_seq ?_
              · exact cse_var 0
            · refine sg_name 1 ?_
              · exact S.nd
            · exact csts_nil
            · refine cse_call (ps := ps .is_kind) (mf := g .is_kind) (G .is_kind) hr takes0 (T.mg_ .is_kind) (T.kp .is_kind) (T.bd .is_kind) ?_
              · refine csa_cons ?_ ?_
                · exact cse_var 1
                · exact csa_nil
theorem S__law_ways : FnScope ["pattern", "found", "inner"] (ps ._law_ways) (defScope s__law_ways) := ⟨rfl, rfl, rfl, by decide +kernel, rfl, by decide +kernel, by decide +kernel⟩
theorem d__law_ways (T : Tok P w K mg base cx fa fd) {g : Fn → List A → M A} {k : Nat} (hk : 2 ≤ k) (G : ∀ i, FnM P w K mg base k (fa i) (fd i) (ps i) (g i)) : FnM P w K mg base (k + 1) (fa ._law_ways) (fd ._law_ways) (ps ._law_ways) (runBody 3 (m__law_ways cx fa g)) := by
  have S := S__law_ways
  refine fnM_of (T.fn ._law_ways) S fun cdv A outer s H E hr tk => ?_
  refine sb_cons ?_ ?_
  · refine css_if ?_ ?_ ?_
    · refine cst_eq hr ?_ ?_
      · refine cse_ix hr ?_ ?_
        · exact cse_var 0
        · exact cse_int
      · exact cse_str
    · refine sb_one ?_
      · refine css_ret ?_
        · refine cse_call (ps := ps ._law_ways) (mf := g ._law_ways) (G ._law_ways) hr tk (T.mg_ ._law_ways) (T.kp ._law_ways) (T.bd ._law_ways) ?_
          · refine csa_cons ?_ ?_
            · refine cse_ix hr ?_ ?_
              · exact cse_var 0
              · exact cse_int
            · exact csa_nil
    · exact csb_nil
  · refine sb_cons ?_ ?_
    · refine css_if ?_ ?_ ?_
      · refine cst_eq hr ?_ ?_
        · refine cse_ix hr ?_ ?_
          · exact cse_var 0
          · exact cse_int
        · exact cse_str
      · refine sb_one ?_
        · refine css_ret ?_
          · refine cse_lst ?_
            · refine csa_cons ?_ ?_
              · exact cse_int
              · exact csa_nil
      · exact csb_nil
    · refine sb_cons ?_ ?_
      · refine css_if ?_ ?_ ?_
        · refine cst_ne hr ?_ ?_
          · refine cse_ix hr ?_ ?_
            · exact cse_var 0
            · exact cse_int
          · exact cse_str
        · refine sb_one ?_
          · refine css_ret ?_
            · refine cse_lst ?_
              · exact csa_nil
        · exact csb_nil
      · refine sb_cons ?_ ?_
        · refine css_set 1 ?_ ?_
          · exact S.nd
          · refine cse_lst ?_
            · refine csa_cons ?_ ?_
              · refine cse_if ?_ ?_ ?_
                · refine cst_in hr ?_ ?_
                  · refine cse_ix hr ?_ ?_
                    · exact cse_var 0
                    · exact cse_int
                  · refine cse_tup ?_
                    · refine csa_cons ?_ ?_
                      · exact cse_str
                      · refine csa_cons ?_ ?_
                        · exact cse_str
                        · refine csa_cons ?_ ?_
                          · exact cse_str
                          · exact csa_nil
                · exact cse_int
                · exact cse_int
              · exact csa_nil
        · refine sb_cons ?_ ?_
          · refine ss_for (T := [2]) (passes_of rfl) rfl ?_ ?_ ?_
            · refine csi_seq ?_
              · refine cse_ix hr ?_ ?_
                · exact cse_var 0
                · exact cse_int
            · refine sg_name 2 ?_
              · exact S.nd
            · refine sb_one ?_
              · refine css_expr ?_
                · refine cse_extend ?_ ?_
                  · exact cse_var 1
                  · refine cse_call (ps := ps ._law_ways) (mf := g ._law_ways) (G ._law_ways) hr tk (T.mg_ ._law_ways) (T.kp ._law_ways) (T.bd ._law_ways) ?_
                    · refine csa_cons ?_ ?_
                      · exact cse_var 2
                      · exact csa_nil
          · refine sb_one ?_
            · refine css_ret ?_
              · exact cse_var 1
theorem S__law_bad_line : FnScope ["feed", "line", "small", "great", "patterns", "guard", "body", "choice"] (ps ._law_bad_line) (defScope s__law_bad_line) := ⟨rfl, rfl, rfl, by decide +kernel, rfl, by decide +kernel, by decide +kernel⟩
theorem d__law_bad_line (T : Tok P w K mg base cx fa fd) {g : Fn → List A → M A} {k : Nat} (hk : 2 ≤ k) (G : ∀ i, FnM P w K mg base k (fa i) (fd i) (ps i) (g i)) : FnM P w K mg base (k + 1) (fa ._law_bad_line) (fd ._law_bad_line) (ps ._law_bad_line) (runBody 8 (m__law_bad_line cx fa g)) := by
  have S := S__law_bad_line
  refine fnM_of (T.fn ._law_bad_line) S fun cdv A outer s H E hr tk => ?_
  refine sb_cons ?_ ?_
  · refine css_asg (T := ([4] ++ ([5] ++ ([6] ++ [])))) ?_ ?_
    · exact cse_var 1
    · refine sg_tup rfl ?_
      · refine sgs_cons ?_ ?_
        · refine sg_name 4 ?_
          · exact S.nd
        · refine sgs_cons ?_ ?_
          · refine sg_name 5 ?_
            · exact S.nd
          · refine sgs_cons ?_ ?_
            · refine sg_name 6 ?_
              · exact S.nd
            · exact sgs_nil
  · refine sb_cons ?_ ?_
    · refine css_set 7 ?_ ?_
      · exact S.nd
      · refine cse_call (ps := ps ._law_take) (mf := g ._law_take) (G ._law_take) hr tk (T.mg_ ._law_take) (T.kp ._law_take) (T.bd ._law_take) ?_
        · refine csa_cons ?_ ?_
          · exact cse_var 0
          · refine csa_cons ?_ ?_
            · exact cse_int
            · exact csa_nil
    · refine sb_cons ?_ ?_
      · refine css_if ?_ ?_ ?_
        · refine cst_eq hr ?_ ?_
          · exact cse_var 7
          · exact cse_int
        · refine sb_one ?_
          · refine css_ret ?_
            · refine cse_tup ?_
              · refine csa_cons ?_ ?_
                · refine cse_list T.b_list ?_
                  · refine csa_cons ?_ ?_
                    · exact cse_var 4
                    · exact csa_nil
                · refine csa_cons ?_ ?_
                  · exact cse_var 5
                  · refine csa_cons ?_ ?_
                    · exact cse_var 6
                    · exact csa_nil
        · exact csb_nil
      · refine sb_cons ?_ ?_
        · refine css_if ?_ ?_ ?_
          · refine cst_eq hr ?_ ?_
            · exact cse_var 7
            · exact cse_int
          · refine sb_one ?_
            · refine css_ret ?_
              · refine cse_tup ?_
                · refine csa_cons ?_ ?_
                  · refine cse_add ?_ ?_
                    · exact cse_var 4
                    · refine cse_tup ?_
                      · refine csa_cons ?_ ?_
                        · refine cse_call (ps := ps ._law_bad_pattern) (mf := g ._law_bad_pattern) (G ._law_bad_pattern) hr tk (T.mg_ ._law_bad_pattern) (T.kp ._law_bad_pattern) (T.bd ._law_bad_pattern) ?_
                          · refine csa_cons ?_ ?_
                            · exact cse_var 0
                            · refine csa_cons ?_ ?_
                              · exact cse_var 2
                              · refine csa_cons ?_ ?_
                                · exact cse_var 3
                                · exact csa_nil
                        · exact csa_nil
                  · refine csa_cons ?_ ?_
                    · exact cse_var 5
                    · refine csa_cons ?_ ?_
                      · exact cse_var 6
                      · exact csa_nil
          · exact csb_nil
        · refine sb_cons ?_ ?_
          · refine css_if ?_ ?_ ?_
            · refine cst_eq hr ?_ ?_
              · exact cse_var 7
              · exact cse_int
            · refine sb_one ?_
              · refine css_ret ?_
                · refine cse_tup ?_
                  · refine csa_cons ?_ ?_
                    · refine cse_tup ?_
                      · refine csa_cons ?_ ?_
                        · refine cse_tup ?_
                          · refine csa_cons ?_ ?_
                            · exact cse_str
                            · refine csa_cons ?_ ?_
                              · exact cse_var 3
                              · refine csa_cons ?_ ?_
                                · refine cse_tup ?_
                                  · refine csa_cons ?_ ?_
                                    · refine cse_tup ?_
                                      · refine csa_cons ?_ ?_
                                        · exact cse_str
                                        · exact csa_nil
                                    · refine csa_cons ?_ ?_
                                      · refine cse_call (ps := ps ._law_bad_pattern) (mf := g ._law_bad_pattern) (G ._law_bad_pattern) hr tk (T.mg_ ._law_bad_pattern) (T.kp ._law_bad_pattern) (T.bd ._law_bad_pattern) ?_
                                        · refine csa_cons ?_ ?_
                                          · exact cse_var 0
                                          · refine csa_cons ?_ ?_
                                            · exact cse_var 2
                                            · refine csa_cons ?_ ?_
                                              · exact cse_var 3
                                              · exact csa_nil
                                      · exact csa_nil
                                · exact csa_nil
                        · exact csa_nil
                    · refine csa_cons ?_ ?_
                      · exact cse_var 5
                      · refine csa_cons ?_ ?_
                        · exact cse_var 6
                        · exact csa_nil
            · exact csb_nil
          · refine sb_cons ?_ ?_
            · refine css_if ?_ ?_ ?_
              · refine cst_eq hr ?_ ?_
                · exact cse_var 7
                · exact cse_int
              · refine sb_one ?_
                · refine css_ret ?_
                  · refine cse_tup ?_
                    · refine csa_cons ?_ ?_
                      · exact cse_var 4
                      · refine csa_cons ?_ ?_
                        · refine cse_ix hr ?_ ?_
                          · refine cse_lst ?_
                            · refine csa_cons ?_ ?_
                              · refine cse_tup ?_
                                · refine csa_cons ?_ ?_
                                  · exact cse_str
                                  · refine csa_cons ?_ ?_
                                    · exact cse_int
                                    · exact csa_nil
                              · refine csa_cons ?_ ?_
                                · exact cse_bl
                                · refine csa_cons ?_ ?_
                                  · exact cse_str
                                  · refine csa_cons ?_ ?_
                                    · exact cse_str
                                    · exact csa_nil
                          · refine cse_add ?_ ?_
                            · refine cse_call (ps := ps ._law_take) (mf := g ._law_take) (G ._law_take) hr tk (T.mg_ ._law_take) (T.kp ._law_take) (T.bd ._law_take) ?_
                              · refine csa_cons ?_ ?_
                                · exact cse_var 0
                                · refine csa_cons ?_ ?_
                                  · exact cse_int
                                  · exact csa_nil
                            · exact cse_int
                        · refine csa_cons ?_ ?_
                          · exact cse_var 6
                          · exact csa_nil
              · exact csb_nil
            · refine sb_cons ?_ ?_
              · refine css_if ?_ ?_ ?_
                · refine cst_eq hr ?_ ?_
                  · exact cse_var 7
                  · exact cse_int
                · refine sb_one ?_
                  · refine css_ret ?_
                    · refine cse_tup ?_
                      · refine csa_cons ?_ ?_
                        · exact cse_var 4
                        · refine csa_cons ?_ ?_
                          · exact cse_var 5
                          · refine csa_cons ?_ ?_
                            · refine cse_call (ps := ps ._law_bad_term) (mf := g ._law_bad_term) (G ._law_bad_term) hr tk (T.mg_ ._law_bad_term) (T.kp ._law_bad_term) (T.bd ._law_bad_term) ?_
                              · refine csa_cons ?_ ?_
                                · exact cse_var 0
                                · refine csa_cons ?_ ?_
                                  · exact cse_var 2
                                  · refine csa_cons ?_ ?_
                                    · exact cse_var 3
                                    · exact csa_nil
                            · exact csa_nil
                · exact csb_nil
              · refine sb_cons ?_ ?_
                · refine css_if ?_ ?_ ?_
                  · refine cst_eq hr ?_ ?_
                    · exact cse_var 7
                    · exact cse_int
                  · refine sb_one ?_
                    · refine css_ret ?_
                      · refine cse_tup ?_
                        · refine csa_cons ?_ ?_
                          · exact cse_var 4
                          · refine csa_cons ?_ ?_
                            · refine cse_call (ps := ps ._law_bad_term) (mf := g ._law_bad_term) (G ._law_bad_term) hr tk (T.mg_ ._law_bad_term) (T.kp ._law_bad_term) (T.bd ._law_bad_term) ?_
                              · refine csa_cons ?_ ?_
                                · exact cse_var 0
                                · refine csa_cons ?_ ?_
                                  · exact cse_var 2
                                  · refine csa_cons ?_ ?_
                                    · exact cse_var 3
                                    · exact csa_nil
                            · refine csa_cons ?_ ?_
                              · refine cse_tup ?_
                                · refine csa_cons ?_ ?_
                                  · exact cse_str
                                  · refine csa_cons ?_ ?_
                                    · exact cse_int
                                    · exact csa_nil
                              · exact csa_nil
                  · exact csb_nil
                · refine sb_one ?_
                  · refine css_ret ?_
                    · refine cse_ix hr ?_ ?_
                      · refine cse_lst ?_
                        · refine csa_cons ?_ ?_
                          · refine cse_tup ?_
                            · refine csa_cons ?_ ?_
                              · exact cse_var 4
                              · refine csa_cons ?_ ?_
                                · exact cse_var 6
                                · exact csa_nil
                          · refine csa_cons ?_ ?_
                            · refine cse_tup ?_
                              · refine csa_cons ?_ ?_
                                · exact cse_var 4
                                · refine csa_cons ?_ ?_
                                  · exact cse_var 5
                                  · refine csa_cons ?_ ?_
                                    · exact cse_var 6
                                    · refine csa_cons ?_ ?_
                                      · exact cse_var 6
                                      · exact csa_nil
                            · refine csa_cons ?_ ?_
                              · refine cse_lst ?_
                                · refine csa_cons ?_ ?_
                                  · exact cse_var 4
                                  · refine csa_cons ?_ ?_
                                    · exact cse_var 5
                                    · refine csa_cons ?_ ?_
                                      · exact cse_var 6
                                      · exact csa_nil
                              · refine csa_cons ?_ ?_
                                · exact cse_non
                                · exact csa_nil
                      · refine cse_call (ps := ps ._law_take) (mf := g ._law_take) (G ._law_take) hr tk (T.mg_ ._law_take) (T.kp ._law_take) (T.bd ._law_take) ?_
                        · refine csa_cons ?_ ?_
                          · exact cse_var 0
                          · refine csa_cons ?_ ?_
                            · exact cse_int
                            · exact csa_nil
end
end Tx

namespace Tx
open PySem PySem.Spec PyProof.Rows L2 Lt
variable {cx : Cxp} {fa : Fn → Addr}
section
variable {P : Program} {w : World} {K : PySem.W.Frag} {mg : Str → Option Value} {base : Heap} {fd : Fn → FuncData}
theorem S_is_surface_def : FnScope ["thing", "line"] (ps .is_surface_def) (defScope s_is_surface_def) := ⟨rfl, rfl, rfl, by decide +kernel, rfl, by decide +kernel, by decide +kernel⟩
theorem d_is_surface_def (T : Tok P w K mg base cx fa fd) {g : Fn → List A → M A} {k : Nat} (hk : 2 ≤ k) (G : ∀ i, FnM P w K mg base k (fa i) (fd i) (ps i) (g i)) : FnM P w K mg base (k + 1) (fa .is_surface_def) (fd .is_surface_def) (ps .is_surface_def) (runBody 2 (m_is_surface_def cx fa g)) := by
  have S := S_is_surface_def
  refine fnM_of (T.fn .is_surface_def) S fun cdv A outer s H E hr tk => ?_
  refine sb_cons ?_ ?_
  · refine css_if ?_ ?_ ?_
    · refine st_w ?_
      · refine csw_or ?_ ?_
        · refine cst_not ?_
          · refine cst_val ?_
            · refine cse_isi "tuple" T.b_isinstance T.b_tuple (by rfl) ?_
              · exact cse_var 0
        · refine csw_or ?_ ?_
          · refine cst_ne hr ?_ ?_
            · refine cse_len T.b_len ?_
              · refine csa_cons ?_ ?_
                · exact cse_var 0
                · exact csa_nil
            · exact cse_int
          · refine sw_or1 ?_
            · refine cst_not ?_
              · refine cst_val ?_
                · refine cse_call (ps := ps .is_small) (mf := g .is_small) (G .is_small) hr tk (T.mg_ .is_small) (T.kp .is_small) (T.bd .is_small) ?_
                  · refine csa_cons ?_ ?_
                    · refine cse_ix hr ?_ ?_
                      · exact cse_var 0
                      · exact cse_int
                    · exact csa_nil
    · refine sb_one ?_
      · refine css_ret ?_
        · exact cse_bl
    · exact csb_nil
  · refine sb_one ?_
    · refine css_ret ?_
      · refine cse_and ?_ ?_
        · refine cse_isi "tuple" T.b_isinstance T.b_tuple (by rfl) ?_
          · refine cse_ix hr ?_ ?_
            · exact cse_var 0
            · exact cse_int
        · refine cse_and ?_ ?_
          · refine cse_neE hr ?_ ?_
            · refine cse_ix hr ?_ ?_
              · exact cse_var 0
              · exact cse_int
            · refine cse_tup ?_
              · exact csa_nil
          · refine se_one ?_
            · refine cse_callBL (cr_all rfl) slc_all T.b_all PyProof.Rows.Boot.«all» ?_
              · refine se_lc (own := [(("line" : Str), 1)]) (T := [1]) rfl ?_ ?_ (blkOk_by rfl) (fun _ _ _ _ _ => ?_) (by decide) ?_ (fun _ _ _ _ _ => ?_)
                · exact S.nd
                · refine csi_seq ?_
                  · refine cse_ix hr ?_ ?_
                    · exact cse_var 0
                    · exact cse_int
                · refine sg_name 1 ?_
                  · exact S.nd
                · exact csts_nil
                · refine cse_call (ps := ps .is_line) (mf := g .is_line) (G .is_line) hr takes0 (T.mg_ .is_line) (T.kp .is_line) (T.bd .is_line) ?_
                  · refine csa_cons ?_ ?_
                    · exact cse_var 1
                    · exact csa_nil
theorem S_is_surface : FnScope ["value", "datas", "defs", "data", "one"] (ps .is_surface) (defScope s_is_surface) := ⟨rfl, rfl, rfl, by decide +kernel, rfl, by decide +kernel, by decide +kernel⟩
theorem d_is_surface (T : Tok P w K mg base cx fa fd) {g : Fn → List A → M A} {k : Nat} (hk : 2 ≤ k) (G : ∀ i, FnM P w K mg base k (fa i) (fd i) (ps i) (g i)) : FnM P w K mg base (k + 1) (fa .is_surface) (fd .is_surface) (ps .is_surface) (runBody 5 (m_is_surface cx fa g)) := by
  have S := S_is_surface
  refine fnM_of (T.fn .is_surface) S fun cdv A outer s H E hr tk => ?_
  refine sb_cons ?_ ?_
  · refine css_if ?_ ?_ ?_
    · refine st_w ?_
      · refine csw_or ?_ ?_
        · refine cst_not ?_
          · refine cst_val ?_
            · refine cse_isi "tuple" T.b_isinstance T.b_tuple (by rfl) ?_
              · exact cse_var 0
        · refine sw_or1 ?_
          · refine cst_ne hr ?_ ?_
            · refine cse_len T.b_len ?_
              · refine csa_cons ?_ ?_
                · exact cse_var 0
                · exact csa_nil
            · exact cse_int
    · refine sb_one ?_
      · refine css_ret ?_
        · exact cse_bl
    · exact csb_nil
  · refine sb_cons ?_ ?_
    · refine css_asg (T := ([1] ++ ([2] ++ []))) ?_ ?_
      · exact cse_var 0
      · refine sg_tup rfl ?_
        · refine sgs_cons ?_ ?_
          · refine sg_name 1 ?_
            · exact S.nd
          · refine sgs_cons ?_ ?_
            · refine sg_name 2 ?_
              · exact S.nd
            · exact sgs_nil
    · refine sb_cons ?_ ?_
      · refine css_if ?_ ?_ ?_
        · refine st_w ?_
          · refine csw_or ?_ ?_
            · refine cst_not ?_
              · refine cst_val ?_
                · refine cse_isi "tuple" T.b_isinstance T.b_tuple (by rfl) ?_
                  · exact cse_var 1
            · refine sw_or1 ?_
              · refine cst_not ?_
                · refine cst_val ?_
                  · refine cse_isi "tuple" T.b_isinstance T.b_tuple (by rfl) ?_
                    · exact cse_var 2
        · refine sb_one ?_
          · refine css_ret ?_
            · exact cse_bl
        · exact csb_nil
      · refine sb_one ?_
        · refine css_ret ?_
          · refine cse_and ?_ ?_
            · refine cse_callBL (cr_all rfl) slc_all T.b_all PyProof.Rows.Boot.«all» ?_
              · refine se_lc (own := [(("data" : Str), 3)]) (T := [3]) rfl ?_ ?_ (blkOk_by rfl) (fun _ _ _ _ _ => ?_) (by decide) ?_ (fun _ _ _ _ _ => ?_)
                · exact S.nd
                · refine csi_seq ?_
                  · exact cse_var 1
                · refine sg_name 3 ?_
                  · exact S.nd
                · exact csts_nil
                · refine cse_call (ps := ps .is_data) (mf := g .is_data) (G .is_data) hr takes0 (T.mg_ .is_data) (T.kp .is_data) (T.bd .is_data) ?_
                  · refine csa_cons ?_ ?_
                    · exact cse_var 3
                    · exact csa_nil
            · refine se_one ?_
              · refine cse_callBL (cr_all rfl) slc_all T.b_all PyProof.Rows.Boot.«all» ?_
                · refine se_lc (own := [(("one" : Str), 4)]) (T := [4]) rfl ?_ ?_ (blkOk_by rfl) (fun _ _ _ _ _ => ?_) (by decide) ?_ (fun _ _ _ _ _ => ?_)
                  · exact S.nd
                  · refine csi_seq ?_
                    · exact cse_var 2
                  · refine sg_name 4 ?_
                    · exact S.nd
                  · exact csts_nil
                  · refine cse_call (ps := ps .is_surface_def) (mf := g .is_surface_def) (G .is_surface_def) hr takes0 (T.mg_ .is_surface_def) (T.kp .is_surface_def) (T.bd .is_surface_def) ?_
                    · refine csa_cons ?_ ?_
                      · exact cse_var 4
                      · exact csa_nil
theorem S__law_pattern : FnScope ["feed", "kind", "deep", "room", "choice", "name", "makers", "maker", "kinds", "one"] (ps ._law_pattern) (defScope s__law_pattern) := ⟨rfl, rfl, rfl, by decide +kernel, rfl, by decide +kernel, by decide +kernel⟩
theorem d__law_pattern (T : Tok P w K mg base cx fa fd) {g : Fn → List A → M A} {k : Nat} (hk : 2 ≤ k) (G : ∀ i, FnM P w K mg base k (fa i) (fd i) (ps i) (g i)) : FnM P w K mg base (k + 1) (fa ._law_pattern) (fd ._law_pattern) (ps ._law_pattern) (runBody 10 (m__law_pattern cx fa g)) := by
  have S := S__law_pattern
  refine fnM_of (T.fn ._law_pattern) S fun cdv A outer s H E hr tk => ?_
  refine sb_cons ?_ ?_
  · refine css_set 4 ?_ ?_
    · exact S.nd
    · refine cse_call (ps := ps ._law_take) (mf := g ._law_take) (G ._law_take) hr tk (T.mg_ ._law_take) (T.kp ._law_take) (T.bd ._law_take) ?_
      · refine csa_cons ?_ ?_
        · exact cse_var 0
        · refine csa_cons ?_ ?_
          · exact cse_int
          · exact csa_nil
  · refine sb_cons ?_ ?_
    · refine css_set 5 ?_ ?_
      · exact S.nd
      · refine cse_add ?_ ?_
        · exact cse_str
        · refine cse_ix hr ?_ ?_
          · exact cse_str
          · refine cse_len T.b_len ?_
            · refine csa_cons ?_ ?_
              · refine cse_ix hr ?_ ?_
                · exact cse_var 3
                · exact cse_int
              · exact csa_nil
    · refine sb_cons ?_ ?_
      · refine css_if ?_ ?_ ?_
        · refine st_w ?_
          · refine csw_and ?_ ?_
            · refine cst_lt ?_ ?_
              · exact cse_var 4
              · exact cse_int
            · refine sw_and1 ?_
              · refine cst_lt ?_ ?_
                · refine cse_len T.b_len ?_
                  · refine csa_cons ?_ ?_
                    · refine cse_ix hr ?_ ?_
                      · exact cse_var 3
                      · exact cse_int
                    · exact csa_nil
                · exact cse_int
        · refine sb_cons ?_ ?_
          · refine css_expr ?_
            · refine cse_append ?_ ?_
              · refine cse_ix hr ?_ ?_
                · exact cse_var 3
                · exact cse_int
              · refine cse_tup ?_
                · refine csa_cons ?_ ?_
                  · exact cse_var 5
                  · refine csa_cons ?_ ?_
                    · exact cse_var 1
                    · exact csa_nil
          · refine sb_cons ?_ ?_
            · refine css_if ?_ ?_ ?_
              · refine st_w ?_
                · refine csw_or ?_ ?_
                  · refine cst_gt ?_ ?_
                    · exact cse_var 4
                    · exact cse_int
                  · refine sw_or1 ?_
                    · refine cst_eq hr ?_ ?_
                      · exact cse_var 2
                      · exact cse_int
              · refine sb_one ?_
                · refine css_ret ?_
                  · refine cse_tup ?_
                    · refine csa_cons ?_ ?_
                      · exact cse_str
                      · refine csa_cons ?_ ?_
                        · exact cse_var 5
                        · exact csa_nil
              · exact csb_nil
            · refine sb_one ?_
              · refine css_ret ?_
                · refine cse_tup ?_
                  · refine csa_cons ?_ ?_
                    · exact cse_str
                    · refine csa_cons ?_ ?_
                      · exact cse_var 5
                      · refine csa_cons ?_ ?_
                        · refine cse_call (ps := ps ._law_pattern) (mf := g ._law_pattern) (G ._law_pattern) hr tk (T.mg_ ._law_pattern) (T.kp ._law_pattern) (T.bd ._law_pattern) ?_
                          · refine csa_cons ?_ ?_
                            · exact cse_var 0
                            · refine csa_cons ?_ ?_
                              · exact cse_var 1
                              · refine csa_cons ?_ ?_
                                · refine cse_sub ?_ ?_
                                  · exact cse_var 2
                                  · exact cse_int
                                · refine csa_cons ?_ ?_
                                  · exact cse_var 3
                                  · exact csa_nil
                        · exact csa_nil
        · exact csb_nil
      · refine sb_cons ?_ ?_
        · refine css_if ?_ ?_ ?_
          · refine st_w ?_
            · refine csw_or ?_ ?_
              · refine cst_lt ?_ ?_
                · exact cse_var 4
                · exact cse_int
              · refine sw_or1 ?_
                · refine cst_le ?_ ?_
                  · refine cse_ix hr ?_ ?_
                    · exact cse_var 3
                    · exact cse_int
                  · exact cse_int
          · refine sb_one ?_
            · refine css_ret ?_
              · refine cse_tup ?_
                · refine csa_cons ?_ ?_
                  · exact cse_str
                  · exact csa_nil
          · exact csb_nil
        · refine sb_cons ?_ ?_
          · refine css_asg (T := []) ?_ ?_
            · refine cse_sub ?_ ?_
              · refine cse_ix hr ?_ ?_
                · exact cse_var 3
                · exact cse_int
              · exact cse_int
            · refine sg_sub hr ?_ ?_
              · exact cse_var 3
              · exact cse_int
          · refine sb_cons ?_ ?_
            · refine css_if ?_ ?_ ?_
              · refine cst_eq hr ?_ ?_
                · exact cse_var 1
                · exact cse_str
              · refine sb_one ?_
                · refine css_ret ?_
                  · refine cse_tup ?_
                    · refine csa_cons ?_ ?_
                      · exact cse_str
                      · refine csa_cons ?_ ?_
                        · refine cse_call (ps := ps ._law_number) (mf := g ._law_number) (G ._law_number) hr tk (T.mg_ ._law_number) (T.kp ._law_number) (T.bd ._law_number) ?_
                          · refine csa_cons ?_ ?_
                            · exact cse_var 0
                            · exact csa_nil
                        · exact csa_nil
              · exact csb_nil
            · refine sb_cons ?_ ?_
              · refine css_set 6 ?_ ?_
                · exact S.nd
                · refine cse_call (ps := ps ._law_makers) (mf := g ._law_makers) (G ._law_makers) hr tk (T.mg_ ._law_makers) (T.kp ._law_makers) (T.bd ._law_makers) ?_
                  · refine csa_cons ?_ ?_
                    · exact cse_var 1
                    · exact csa_nil
              · refine sb_cons ?_ ?_
                · refine css_asg (T := ([7] ++ ([8] ++ []))) ?_ ?_
                  · refine cse_ix hr ?_ ?_
                    · exact cse_var 6
                    · refine cse_call (ps := ps ._law_take) (mf := g ._law_take) (G ._law_take) hr tk (T.mg_ ._law_take) (T.kp ._law_take) (T.bd ._law_take) ?_
                      · refine csa_cons ?_ ?_
                        · exact cse_var 0
                        · refine csa_cons ?_ ?_
                          · refine cse_len T.b_len ?_
                            · refine csa_cons ?_ ?_
                              · exact cse_var 6
                              · exact csa_nil
                          · exact csa_nil
                  · refine sg_tup rfl ?_
                    · refine sgs_cons ?_ ?_
                      · refine sg_name 7 ?_
                        · exact S.nd
                      · refine sgs_cons ?_ ?_
                        · refine sg_name 8 ?_
                          · exact S.nd
                        · exact sgs_nil
                · refine sb_cons ?_ ?_
                  · refine css_if ?_ ?_ ?_
                    · refine cst_eq hr ?_ ?_
                      · exact cse_var 2
                      · exact cse_int
                    · refine sb_one ?_
                      · refine css_ret ?_
                        · refine cse_tup ?_
                          · refine csa_cons ?_ ?_
                            · exact cse_str
                            · refine csa_cons ?_ ?_
                              · exact cse_var 7
                              · refine csa_cons ?_ ?_
                                · refine cse_tupleL T.b_tuple ?_
                                  · refine se_lc (own := [(("one" : Str), 9)]) (T := [9]) rfl ?_ ?_ (blkOk_by rfl) (fun _ _ _ _ _ => ?_) (by decide) ?_ (fun _ _ _ _ _ => ?_)
                                    · exact S.nd
                                    · refine csi_seq ?_
                                      · exact cse_var 8
                                    · refine sg_name 9 ?_
                                      · exact S.nd
                                    · exact csts_nil
                                    · refine cse_tup ?_
                                      · refine csa_cons ?_ ?_
                                        · exact cse_str
                                        · exact csa_nil
                                · exact csa_nil
                    · exact csb_nil
                  · refine sb_one ?_
                    · refine css_ret ?_
                      · refine cse_tup ?_
                        · refine csa_cons ?_ ?_
                          · exact cse_str
                          · refine csa_cons ?_ ?_
                            · exact cse_var 7
                            · refine csa_cons ?_ ?_
                              · refine cse_tupleL T.b_tuple ?_
                                · refine se_lc (own := [(("one" : Str), 9)]) (T := [9]) rfl ?_ ?_ (blkOk_by rfl) (fun _ _ _ _ _ => ?_) (by decide) ?_ (fun _ _ _ _ _ => ?_)
                                  · exact S.nd
                                  · refine csi_seq ?_
                                    · exact cse_var 8
                                  · refine sg_name 9 ?_
                                    · exact S.nd
                                  · exact csts_nil
                                  · refine cse_call (ps := ps ._law_pattern) (mf := g ._law_pattern) (G ._law_pattern) hr takes0 (T.mg_ ._law_pattern) (T.kp ._law_pattern) (T.bd ._law_pattern) ?_
                                    · refine csa_cons ?_ ?_
                                      · exact cse_var 0
                                      · refine csa_cons ?_ ?_
                                        · exact cse_var 9
                                        · refine csa_cons ?_ ?_
                                          · refine cse_sub ?_ ?_
                                            · exact cse_var 2
                                            · exact cse_int
                                          · refine csa_cons ?_ ?_
                                            · exact cse_var 3
                                            · exact csa_nil
                              · exact csa_nil
theorem S__law_kinds : FnScope ["feed", "k"] (ps ._law_kinds) (defScope s__law_kinds) := ⟨rfl, rfl, rfl, by decide +kernel, rfl, by decide +kernel, by decide +kernel⟩
theorem d__law_kinds (T : Tok P w K mg base cx fa fd) {g : Fn → List A → M A} {k : Nat} (hk : 2 ≤ k) (G : ∀ i, FnM P w K mg base k (fa i) (fd i) (ps i) (g i)) : FnM P w K mg base (k + 1) (fa ._law_kinds) (fd ._law_kinds) (ps ._law_kinds) (runBody 2 (m__law_kinds cx fa g)) := by
  have S := S__law_kinds
  refine fnM_of (T.fn ._law_kinds) S fun cdv A outer s H E hr tk => ?_
  refine sb_one ?_
  · refine css_ret ?_
    · refine cse_ofL ?_
      · refine se_lc (own := [(("k" : Str), 1)]) (T := [1]) rfl ?_ ?_ (blkOk_by rfl) (fun _ _ _ _ _ => ?_) (by decide) ?_ (fun _ _ _ _ _ => ?_)
        · exact S.nd
        · refine csi_range1 T.b_range ?_
          · refine csa_cons ?_ ?_
            · refine cse_add ?_ ?_
              · exact cse_int
              · refine cse_call (ps := ps ._law_take) (mf := g ._law_take) (G ._law_take) hr tk (T.mg_ ._law_take) (T.kp ._law_take) (T.bd ._law_take) ?_
                · refine csa_cons ?_ ?_
                  · exact cse_var 0
                  · refine csa_cons ?_ ?_
                    · exact cse_int
                    · exact csa_nil
            · exact csa_nil
        · refine sg_name 1 ?_
          · exact S.nd
        · exact csts_nil
        · refine cse_ix hr ?_ ?_
          · refine cse_lst ?_
            · refine csa_cons ?_ ?_
              · exact cse_str
              · refine csa_cons ?_ ?_
                · exact cse_str
                · refine csa_cons ?_ ?_
                  · exact cse_str
                  · refine csa_cons ?_ ?_
                    · exact cse_str
                    · refine csa_cons ?_ ?_
                      · exact cse_str
                      · exact csa_nil
          · refine cse_call (ps := ps ._law_take) (mf := g ._law_take) (G ._law_take) hr takes0 (T.mg_ ._law_take) (T.kp ._law_take) (T.bd ._law_take) ?_
            · refine csa_cons ?_ ?_
              · exact cse_var 0
              · refine csa_cons ?_ ?_
                · exact cse_int
                · exact csa_nil
theorem S__law_named : FnScope ["feed", "smalls", "greats"] (ps ._law_named) (defScope s__law_named) := ⟨rfl, rfl, rfl, by decide +kernel, rfl, by decide +kernel, by decide +kernel⟩
theorem d__law_named (T : Tok P w K mg base cx fa fd) {g : Fn → List A → M A} {k : Nat} (hk : 2 ≤ k) (G : ∀ i, FnM P w K mg base k (fa i) (fd i) (ps i) (g i)) : FnM P w K mg base (k + 1) (fa ._law_named) (fd ._law_named) (ps ._law_named) (runBody 3 (m__law_named cx fa g)) := by
  have S := S__law_named
  refine fnM_of (T.fn ._law_named) S fun cdv A outer s H E hr tk => ?_
  refine sb_cons ?_ ?_
  · refine css_asg (T := ([1] ++ ([2] ++ []))) ?_ ?_
    · exact cse_call0 (ps := ps ._law_olds) (mf := g ._law_olds) (G ._law_olds) hr tk (T.mg_ ._law_olds) (T.kp ._law_olds) (T.bd ._law_olds)
    · refine sg_tup rfl ?_
      · refine sgs_cons ?_ ?_
        · refine sg_name 1 ?_
          · exact S.nd
        · refine sgs_cons ?_ ?_
          · refine sg_name 2 ?_
            · exact S.nd
          · exact sgs_nil
  · refine sb_one ?_
    · refine css_ret ?_
      · refine cse_call (ps := ps ._law_names) (mf := g ._law_names) (G ._law_names) hr tk (T.mg_ ._law_names) (T.kp ._law_names) (T.bd ._law_names) ?_
        · refine csa_cons ?_ ?_
          · exact cse_var 0
          · refine csa_cons ?_ ?_
            · exact cse_var 1
            · refine csa_cons ?_ ?_
              · exact cse_var 2
              · exact csa_nil
theorem S__law_fresh : FnScope ["feed", "names", "letters", "taken", "old", "word", "other"] (ps ._law_fresh) (defScope s__law_fresh) := ⟨rfl, rfl, rfl, by decide +kernel, rfl, by decide +kernel, by decide +kernel⟩
theorem d__law_fresh (T : Tok P w K mg base cx fa fd) {g : Fn → List A → M A} {k : Nat} (hk : 2 ≤ k) (G : ∀ i, FnM P w K mg base k (fa i) (fd i) (ps i) (g i)) : FnM P w K mg base (k + 1) (fa ._law_fresh) (fd ._law_fresh) (ps ._law_fresh) (runBody 7 (m__law_fresh cx fa g)) := by
  have S := S__law_fresh
  refine fnM_of (T.fn ._law_fresh) S fun cdv A outer s H E hr tk => ?_
  refine sb_cons ?_ ?_
  · refine css_set 2 ?_ ?_
    · exact S.nd
    · exact cse_str
  · refine sb_cons ?_ ?_
    · refine css_set 3 ?_ ?_
      · exact S.nd
      · refine cse_add ?_ ?_
        · refine cse_lst ?_
          · refine csa_cons ?_ ?_
            · exact cse_str
            · refine csa_cons ?_ ?_
              · exact cse_str
              · refine csa_cons ?_ ?_
                · exact cse_str
                · refine csa_cons ?_ ?_
                  · exact cse_str
                  · refine csa_cons ?_ ?_
                    · exact cse_str
                    · refine csa_cons ?_ ?_
                      · exact cse_str
                      · refine csa_cons ?_ ?_
                        · exact cse_str
                        · refine csa_cons ?_ ?_
                          · exact cse_str
                          · refine csa_cons ?_ ?_
                            · exact cse_str
                            · refine csa_cons ?_ ?_
                              · exact cse_str
                              · exact csa_nil
        · refine cse_ofL ?_
          · refine cse_dvals 1 4 rfl ?_ (blkOk_by rfl) (by decide) hr (pe_var rfl (by first | exact Or.inl rfl | exact Or.inr (Or.inl rfl) | exact Or.inr (Or.inr rfl))) (fun _ _ _ _ _ => pg_name S.nd rfl (by first | exact Or.inl rfl | exact Or.inr rfl)) (fun _ _ _ _ _ => pe_dget (hu_of hr) (pe_var rfl (by first | exact Or.inl rfl | exact Or.inr (Or.inl rfl) | exact Or.inr (Or.inr rfl))) (pe_var rfl (by first | exact Or.inl rfl | exact Or.inr (Or.inl rfl) | exact Or.inr (Or.inr rfl))) (fun _ _ => rfl))
            · exact S.nd
    · refine sb_cons ?_ ?_
      · refine css_set 5 ?_ ?_
        · exact S.nd
        · refine cse_call (ps := ps ._law_word) (mf := g ._law_word) (G ._law_word) hr tk (T.mg_ ._law_word) (T.kp ._law_word) (T.bd ._law_word) ?_
          · refine csa_cons ?_ ?_
            · exact cse_var 0
            · refine csa_cons ?_ ?_
              · exact cse_var 2
              · refine csa_cons ?_ ?_
                · refine cse_add ?_ ?_
                  · exact cse_int
                  · refine cse_call (ps := ps ._law_take) (mf := g ._law_take) (G ._law_take) hr tk (T.mg_ ._law_take) (T.kp ._law_take) (T.bd ._law_take) ?_
                    · refine csa_cons ?_ ?_
                      · exact cse_var 0
                      · refine csa_cons ?_ ?_
                        · exact cse_int
                        · exact csa_nil
                · exact csa_nil
      · refine sb_cons ?_ ?_
        · refine css_set 6 ?_ ?_
          · exact S.nd
          · refine cse_add ?_ ?_
            · refine cse_upper ?_
              · refine cse_ix hr ?_ ?_
                · exact cse_var 2
                · refine cse_call (ps := ps ._law_take) (mf := g ._law_take) (G ._law_take) hr tk (T.mg_ ._law_take) (T.kp ._law_take) (T.bd ._law_take) ?_
                  · refine csa_cons ?_ ?_
                    · exact cse_var 0
                    · refine csa_cons ?_ ?_
                      · exact cse_int
                      · exact csa_nil
            · refine cse_call (ps := ps ._law_word) (mf := g ._law_word) (G ._law_word) hr tk (T.mg_ ._law_word) (T.kp ._law_word) (T.bd ._law_word) ?_
              · refine csa_cons ?_ ?_
                · exact cse_var 0
                · refine csa_cons ?_ ?_
                  · exact cse_var 2
                  · refine csa_cons ?_ ?_
                    · refine cse_call (ps := ps ._law_take) (mf := g ._law_take) (G ._law_take) hr tk (T.mg_ ._law_take) (T.kp ._law_take) (T.bd ._law_take) ?_
                      · refine csa_cons ?_ ?_
                        · exact cse_var 0
                        · refine csa_cons ?_ ?_
                          · exact cse_int
                          · exact csa_nil
                    · exact csa_nil
        · refine sb_one ?_
          · refine css_ret ?_
            · refine cse_tup ?_
              · refine csa_cons ?_ ?_
                · refine cse_call (ps := ps ._law_unlike) (mf := g ._law_unlike) (G ._law_unlike) hr tk (T.mg_ ._law_unlike) (T.kp ._law_unlike) (T.bd ._law_unlike) ?_
                  · refine csa_cons ?_ ?_
                    · exact cse_var 5
                    · refine csa_cons ?_ ?_
                      · exact cse_var 3
                      · exact csa_nil
                · refine csa_cons ?_ ?_
                  · refine cse_call (ps := ps ._law_unlike) (mf := g ._law_unlike) (G ._law_unlike) hr tk (T.mg_ ._law_unlike) (T.kp ._law_unlike) (T.bd ._law_unlike) ?_
                    · refine csa_cons ?_ ?_
                      · exact cse_var 6
                      · refine csa_cons ?_ ?_
                        · exact cse_var 3
                        · exact csa_nil
                  · exact csa_nil
end
end Tx

namespace Tx
open PySem PySem.Spec PyProof.Rows L2 Lt
variable {cx : Cxp} {fa : Fn → Addr}
section
variable {P : Program} {w : World} {K : PySem.W.Frag} {mg : Str → Option Value} {base : Heap} {fd : Fn → FuncData}
theorem S_is_kind : FnScope ["thing"] (ps .is_kind) (defScope s_is_kind) := ⟨rfl, rfl, rfl, by decide +kernel, rfl, by decide +kernel, by decide +kernel⟩
theorem d_is_kind (T : Tok P w K mg base cx fa fd) {g : Fn → List A → M A} {k : Nat} (hk : 2 ≤ k) (G : ∀ i, FnM P w K mg base k (fa i) (fd i) (ps i) (g i)) : FnM P w K mg base (k + 1) (fa .is_kind) (fd .is_kind) (ps .is_kind) (runBody 1 (m_is_kind cx fa g)) := by
  have S := S_is_kind
  refine fnM_of (T.fn .is_kind) S fun cdv A outer s H E hr tk => ?_
  refine sb_one ?_
  · refine css_ret ?_
    · refine cse_call (ps := ps .fits) (mf := g .fits) (G .fits) hr tk (T.mg_ .fits) (T.kp .fits) (T.bd .fits) ?_
      · refine csa_cons ?_ ?_
        · exact cse_var 0
        · refine csa_cons ?_ ?_
          · refine cse_disp (kk := [.inr ("num" : Str), .inr ("var" : Str), .inr ("fun" : Str), .inr ("data" : Str)]) ?_
            · refine csds_cons (key := .inr ("num" : Str)) pe_str ?_ ?_
              · refine cse_lst ?_
                · exact csa_nil
              · refine csds_cons (key := .inr ("var" : Str)) pe_str ?_ ?_
                · refine cse_lst ?_
                  · refine csa_cons ?_ ?_
                    · exact cse_glob (v := .ref (fa .is_small)) rfl (T.mg_ .is_small) rfl (fun _ _ => .fn)
                    · exact csa_nil
                · refine csds_cons (key := .inr ("fun" : Str)) pe_str ?_ ?_
                  · refine cse_lst ?_
                    · refine csa_cons ?_ ?_
                      · exact cse_glob (v := .ref (fa .is_kind)) rfl (T.mg_ .is_kind) rfl (fun _ _ => .fn)
                      · refine csa_cons ?_ ?_
                        · exact cse_glob (v := .ref (fa .is_kind)) rfl (T.mg_ .is_kind) rfl (fun _ _ => .fn)
                        · exact csa_nil
                  · refine csds_cons (key := .inr ("data" : Str)) pe_str ?_ ?_
                    · refine cse_lst ?_
                      · refine csa_cons ?_ ?_
                        · exact cse_glob (v := .ref (fa .is_great)) rfl (T.mg_ .is_great) rfl (fun _ _ => .fn)
                        · refine csa_cons ?_ ?_
                          · exact cse_glob (v := .ref (fa .are_kinds)) rfl (T.mg_ .are_kinds) rfl (fun _ _ => .fn)
                          · exact csa_nil
                    · exact csds_nil
          · exact csa_nil
theorem S__law_word : FnScope ["feed", "letters", "size", "k"] (ps ._law_word) (defScope s__law_word) := ⟨rfl, rfl, rfl, by decide +kernel, rfl, by decide +kernel, by decide +kernel⟩
theorem d__law_word (T : Tok P w K mg base cx fa fd) {g : Fn → List A → M A} {k : Nat} (hk : 2 ≤ k) (G : ∀ i, FnM P w K mg base k (fa i) (fd i) (ps i) (g i)) : FnM P w K mg base (k + 1) (fa ._law_word) (fd ._law_word) (ps ._law_word) (runBody 4 (m__law_word cx fa g)) := by
  have S := S__law_word
  refine fnM_of (T.fn ._law_word) S fun cdv A outer s H E hr tk => ?_
  refine sb_one ?_
  · refine css_ret ?_
    · refine cse_joinL ?_ ?_
      · exact cse_str
      · refine se_lc (own := [(("k" : Str), 3)]) (T := [3]) rfl ?_ ?_ (blkOk_by rfl) (fun _ _ _ _ _ => ?_) (by decide) ?_ (fun _ _ _ _ _ => ?_)
        · exact S.nd
        · refine csi_range1 T.b_range ?_
          · refine csa_cons ?_ ?_
            · exact cse_var 2
            · exact csa_nil
        · refine sg_name 3 ?_
          · exact S.nd
        · exact csts_nil
        · refine cse_ix hr ?_ ?_
          · exact cse_var 1
          · refine cse_call (ps := ps ._law_take) (mf := g ._law_take) (G ._law_take) hr takes0 (T.mg_ ._law_take) (T.kp ._law_take) (T.bd ._law_take) ?_
            · refine csa_cons ?_ ?_
              · exact cse_var 0
              · refine csa_cons ?_ ?_
                · refine cse_len T.b_len ?_
                  · refine csa_cons ?_ ?_
                    · exact cse_var 1
                    · exact csa_nil
                · exact csa_nil
theorem S__law_makers : FnScope ["kind"] (ps ._law_makers) (defScope s__law_makers) := ⟨rfl, rfl, rfl, by decide +kernel, rfl, by decide +kernel, by decide +kernel⟩
theorem d__law_makers (T : Tok P w K mg base cx fa fd) {g : Fn → List A → M A} {k : Nat} (hk : 2 ≤ k) (G : ∀ i, FnM P w K mg base k (fa i) (fd i) (ps i) (g i)) : FnM P w K mg base (k + 1) (fa ._law_makers) (fd ._law_makers) (ps ._law_makers) (runBody 1 (m__law_makers cx fa g)) := by
  have S := S__law_makers
  refine fnM_of (T.fn ._law_makers) S fun cdv A outer s H E hr tk => ?_
  refine sb_cons ?_ ?_
  · refine css_if ?_ ?_ ?_
    · refine cst_eq hr ?_ ?_
      · exact cse_var 0
      · exact cse_str
    · refine sb_one ?_
      · refine css_ret ?_
        · refine cse_lst ?_
          · refine csa_cons ?_ ?_
            · refine cse_tup ?_
              · refine csa_cons ?_ ?_
                · exact cse_str
                · refine csa_cons ?_ ?_
                  · refine cse_tup ?_
                    · exact csa_nil
                  · exact csa_nil
            · refine csa_cons ?_ ?_
              · refine cse_tup ?_
                · refine csa_cons ?_ ?_
                  · exact cse_str
                  · refine csa_cons ?_ ?_
                    · refine cse_tup ?_
                      · exact csa_nil
                    · exact csa_nil
              · refine csa_cons ?_ ?_
                · refine cse_tup ?_
                  · refine csa_cons ?_ ?_
                    · exact cse_str
                    · refine csa_cons ?_ ?_
                      · refine cse_tup ?_
                        · exact csa_nil
                      · exact csa_nil
                · exact csa_nil
    · exact csb_nil
  · refine sb_cons ?_ ?_
    · refine css_if ?_ ?_ ?_
      · refine cst_eq hr ?_ ?_
        · exact cse_var 0
        · exact cse_str
      · refine sb_one ?_
        · refine css_ret ?_
          · refine cse_lst ?_
            · refine csa_cons ?_ ?_
              · refine cse_tup ?_
                · refine csa_cons ?_ ?_
                  · exact cse_str
                  · refine csa_cons ?_ ?_
                    · refine cse_tup ?_
                      · exact csa_nil
                    · exact csa_nil
              · refine csa_cons ?_ ?_
                · refine cse_tup ?_
                  · refine csa_cons ?_ ?_
                    · exact cse_str
                    · refine csa_cons ?_ ?_
                      · refine cse_tup ?_
                        · refine csa_cons ?_ ?_
                          · exact cse_str
                          · refine csa_cons ?_ ?_
                            · exact cse_str
                            · exact csa_nil
                      · exact csa_nil
                · exact csa_nil
      · exact csb_nil
    · refine sb_cons ?_ ?_
      · refine css_if ?_ ?_ ?_
        · refine cst_eq hr ?_ ?_
          · exact cse_var 0
          · exact cse_str
        · refine sb_one ?_
          · refine css_ret ?_
            · refine cse_lst ?_
              · refine csa_cons ?_ ?_
                · refine cse_tup ?_
                  · refine csa_cons ?_ ?_
                    · exact cse_str
                    · refine csa_cons ?_ ?_
                      · refine cse_tup ?_
                        · refine csa_cons ?_ ?_
                          · exact cse_str
                          · refine csa_cons ?_ ?_
                            · exact cse_str
                            · exact csa_nil
                      · exact csa_nil
                · exact csa_nil
        · exact csb_nil
      · refine sb_one ?_
        · refine css_ret ?_
          · refine cse_lst ?_
            · refine csa_cons ?_ ?_
              · refine cse_tup ?_
                · refine csa_cons ?_ ?_
                  · exact cse_str
                  · refine csa_cons ?_ ?_
                    · refine cse_tup ?_
                      · exact csa_nil
                    · exact csa_nil
              · refine csa_cons ?_ ?_
                · refine cse_tup ?_
                  · refine csa_cons ?_ ?_
                    · exact cse_str
                    · refine csa_cons ?_ ?_
                      · refine cse_tup ?_
                        · exact csa_nil
                      · exact csa_nil
                · exact csa_nil
theorem S__law_body : FnScope ["line", "names", "boxes", "body", "name", "kind"] (ps ._law_body) (defScope s__law_body) := ⟨rfl, rfl, rfl, by decide +kernel, rfl, by decide +kernel, by decide +kernel⟩
theorem d__law_body (T : Tok P w K mg base cx fa fd) {g : Fn → List A → M A} {k : Nat} (hk : 2 ≤ k) (G : ∀ i, FnM P w K mg base k (fa i) (fd i) (ps i) (g i)) : FnM P w K mg base (k + 1) (fa ._law_body) (fd ._law_body) (ps ._law_body) (runBody 6 (m__law_body cx fa g)) := by
  have S := S__law_body
  refine fnM_of (T.fn ._law_body) S fun cdv A outer s H E hr tk => ?_
  refine sb_cons ?_ ?_
  · refine css_set 2 ?_ ?_
    · exact S.nd
    · refine cse_disp (kk := [.inr ("num" : Str), .inr ("Tri" : Str), .inr ("Row" : Str), .inr ("Duo" : Str), .inr ("Bool" : Str)]) ?_
      · refine csds_cons (key := .inr ("num" : Str)) pe_str ?_ ?_
        · exact cse_str
        · refine csds_cons (key := .inr ("Tri" : Str)) pe_str ?_ ?_
          · exact cse_str
          · refine csds_cons (key := .inr ("Row" : Str)) pe_str ?_ ?_
            · exact cse_str
            · refine csds_cons (key := .inr ("Duo" : Str)) pe_str ?_ ?_
              · exact cse_str
              · refine csds_cons (key := .inr ("Bool" : Str)) pe_str ?_ ?_
                · exact cse_str
                · exact csds_nil
  · refine sb_cons ?_ ?_
    · refine css_set 3 ?_ ?_
      · exact S.nd
      · refine cse_tup ?_
        · refine csa_cons ?_ ?_
          · exact cse_str
          · refine csa_cons ?_ ?_
            · exact cse_str
            · exact csa_nil
    · refine sb_cons ?_ ?_
      · refine ss_for (T := ([4] ++ ([5] ++ []))) (passes_of rfl) rfl ?_ ?_ ?_
        · refine csi_seq ?_
          · exact cse_var 1
        · refine sg_tup rfl ?_
          · refine sgs_cons ?_ ?_
            · refine sg_name 4 ?_
              · exact S.nd
            · refine sgs_cons ?_ ?_
              · refine sg_name 5 ?_
                · exact S.nd
              · exact sgs_nil
        · refine sb_one ?_
          · refine css_set 3 ?_ ?_
            · exact S.nd
            · refine cse_tup ?_
              · refine csa_cons ?_ ?_
                · exact cse_str
                · refine csa_cons ?_ ?_
                  · refine cse_tup ?_
                    · refine csa_cons ?_ ?_
                      · exact cse_str
                      · refine csa_cons ?_ ?_
                        · refine cse_tup ?_
                          · refine csa_cons ?_ ?_
                            · exact cse_str
                            · refine csa_cons ?_ ?_
                              · exact cse_str
                              · exact csa_nil
                        · refine csa_cons ?_ ?_
                          · refine cse_tup ?_
                            · refine csa_cons ?_ ?_
                              · exact cse_str
                              · refine csa_cons ?_ ?_
                                · refine cse_tup ?_
                                  · refine csa_cons ?_ ?_
                                    · exact cse_str
                                    · refine csa_cons ?_ ?_
                                      · refine cse_ix hr ?_ ?_
                                        · exact cse_var 2
                                        · exact cse_var 5
                                      · exact csa_nil
                                · refine csa_cons ?_ ?_
                                  · refine cse_tup ?_
                                    · refine csa_cons ?_ ?_
                                      · exact cse_str
                                      · refine csa_cons ?_ ?_
                                        · exact cse_var 4
                                        · exact csa_nil
                                  · exact csa_nil
                          · exact csa_nil
                  · refine csa_cons ?_ ?_
                    · exact cse_var 3
                    · exact csa_nil
      · refine sb_one ?_
        · refine css_ret ?_
          · refine cse_tup ?_
            · refine csa_cons ?_ ?_
              · exact cse_str
              · refine csa_cons ?_ ?_
                · refine cse_tup ?_
                  · refine csa_cons ?_ ?_
                    · exact cse_str
                    · refine csa_cons ?_ ?_
                      · refine cse_tup ?_
                        · refine csa_cons ?_ ?_
                          · exact cse_str
                          · refine csa_cons ?_ ?_
                            · exact cse_str
                            · exact csa_nil
                      · refine csa_cons ?_ ?_
                        · refine cse_tup ?_
                          · refine csa_cons ?_ ?_
                            · exact cse_str
                            · refine csa_cons ?_ ?_
                              · refine cse_tup ?_
                                · refine csa_cons ?_ ?_
                                  · exact cse_str
                                  · refine csa_cons ?_ ?_
                                    · exact cse_str
                                    · exact csa_nil
                              · refine csa_cons ?_ ?_
                                · refine cse_tup ?_
                                  · refine csa_cons ?_ ?_
                                    · exact cse_str
                                    · refine csa_cons ?_ ?_
                                      · exact cse_var 0
                                      · exact csa_nil
                                · exact csa_nil
                        · exact csa_nil
                · refine csa_cons ?_ ?_
                  · exact cse_var 3
                  · exact csa_nil
theorem S__law_line : FnScope ["feed", "kinds", "line", "looks", "names", "room", "patterns", "kind"] (ps ._law_line) (defScope s__law_line) := ⟨rfl, rfl, rfl, by decide +kernel, rfl, by decide +kernel, by decide +kernel⟩
theorem d__law_line (T : Tok P w K mg base cx fa fd) {g : Fn → List A → M A} {k : Nat} (hk : 2 ≤ k) (G : ∀ i, FnM P w K mg base k (fa i) (fd i) (ps i) (g i)) : FnM P w K mg base (k + 1) (fa ._law_line) (fd ._law_line) (ps ._law_line) (runBody 8 (m__law_line cx fa g)) := by
  have S := S__law_line
  refine fnM_of (T.fn ._law_line) S fun cdv A outer s H E hr tk => ?_
  refine sb_cons ?_ ?_
  · refine css_set 4 ?_ ?_
    · exact S.nd
    · refine cse_lst ?_
      · exact csa_nil
  · refine sb_cons ?_ ?_
    · refine css_set 5 ?_ ?_
      · exact S.nd
      · refine cse_lst ?_
        · refine csa_cons ?_ ?_
          · exact cse_var 3
          · refine csa_cons ?_ ?_
            · exact cse_var 4
            · exact csa_nil
    · refine sb_cons ?_ ?_
      · refine css_set 6 ?_ ?_
        · exact S.nd
        · refine cse_tupleL T.b_tuple ?_
          · refine se_lc (own := [(("kind" : Str), 7)]) (T := [7]) rfl ?_ ?_ (blkOk_by rfl) (fun _ _ _ _ _ => ?_) (by decide) ?_ (fun _ _ _ _ _ => ?_)
            · exact S.nd
            · refine csi_seq ?_
              · exact cse_var 1
            · refine sg_name 7 ?_
              · exact S.nd
            · exact csts_nil
            · refine cse_call (ps := ps ._law_pattern) (mf := g ._law_pattern) (G ._law_pattern) hr takes0 (T.mg_ ._law_pattern) (T.kp ._law_pattern) (T.bd ._law_pattern) ?_
              · refine csa_cons ?_ ?_
                · exact cse_var 0
                · refine csa_cons ?_ ?_
                  · exact cse_var 7
                  · refine csa_cons ?_ ?_
                    · exact cse_int
                    · refine csa_cons ?_ ?_
                      · exact cse_var 5
                      · exact csa_nil
      · refine sb_one ?_
        · refine css_ret ?_
          · refine cse_tup ?_
            · refine csa_cons ?_ ?_
              · exact cse_var 6
              · refine csa_cons ?_ ?_
                · refine cse_call (ps := ps ._law_guard) (mf := g ._law_guard) (G ._law_guard) hr tk (T.mg_ ._law_guard) (T.kp ._law_guard) (T.bd ._law_guard) ?_
                  · refine csa_cons ?_ ?_
                    · exact cse_var 0
                    · refine csa_cons ?_ ?_
                      · exact cse_var 4
                      · exact csa_nil
                · refine csa_cons ?_ ?_
                  · refine cse_call (ps := ps ._law_body) (mf := g ._law_body) (G ._law_body) hr tk (T.mg_ ._law_body) (T.kp ._law_body) (T.bd ._law_body) ?_
                    · refine csa_cons ?_ ?_
                      · exact cse_var 2
                      · refine csa_cons ?_ ?_
                        · exact cse_var 4
                        · exact csa_nil
                  · exact csa_nil
theorem S__law_bad_pattern : FnScope ["feed", "small", "great", "found"] (ps ._law_bad_pattern) (defScope s__law_bad_pattern) := ⟨rfl, rfl, rfl, by decide +kernel, rfl, by decide +kernel, by decide +kernel⟩
theorem d__law_bad_pattern (T : Tok P w K mg base cx fa fd) {g : Fn → List A → M A} {k : Nat} (hk : 2 ≤ k) (G : ∀ i, FnM P w K mg base k (fa i) (fd i) (ps i) (g i)) : FnM P w K mg base (k + 1) (fa ._law_bad_pattern) (fd ._law_bad_pattern) (ps ._law_bad_pattern) (runBody 4 (m__law_bad_pattern cx fa g)) := by
  have S := S__law_bad_pattern
  refine fnM_of (T.fn ._law_bad_pattern) S fun cdv A outer s H E hr tk => ?_
  refine sb_cons ?_ ?_
  · refine css_set 3 ?_ ?_
    · exact S.nd
    · refine cse_lst ?_
      · refine csa_cons ?_ ?_
        · refine cse_tup ?_
          · refine csa_cons ?_ ?_
            · exact cse_str
            · refine csa_cons ?_ ?_
              · refine cse_neg ?_
                · exact cse_int
              · exact csa_nil
        · refine csa_cons ?_ ?_
          · refine cse_tup ?_
            · refine csa_cons ?_ ?_
              · exact cse_str
              · refine csa_cons ?_ ?_
                · exact cse_bl
                · exact csa_nil
          · refine csa_cons ?_ ?_
            · refine cse_tup ?_
              · refine csa_cons ?_ ?_
                · exact cse_str
                · refine csa_cons ?_ ?_
                  · refine cse_pow ?_ ?_
                    · exact cse_int
                    · exact cse_int
                  · exact csa_nil
            · refine csa_cons ?_ ?_
              · refine cse_tup ?_
                · refine csa_cons ?_ ?_
                  · exact cse_str
                  · refine csa_cons ?_ ?_
                    · exact cse_var 2
                    · exact csa_nil
              · refine csa_cons ?_ ?_
                · refine cse_tup ?_
                  · refine csa_cons ?_ ?_
                    · exact cse_str
                    · refine csa_cons ?_ ?_
                      · exact cse_str
                      · exact csa_nil
                · refine csa_cons ?_ ?_
                  · refine cse_tup ?_
                    · refine csa_cons ?_ ?_
                      · exact cse_str
                      · refine csa_cons ?_ ?_
                        · exact cse_var 1
                        · refine csa_cons ?_ ?_
                          · refine cse_tup ?_
                            · exact csa_nil
                          · exact csa_nil
                  · exact csa_nil
  · refine sb_cons ?_ ?_
    · refine css_set 3 ?_ ?_
      · exact S.nd
      · refine cse_add ?_ ?_
        · exact cse_var 3
        · refine cse_lst ?_
          · refine csa_cons ?_ ?_
            · refine cse_tup ?_
              · refine csa_cons ?_ ?_
                · exact cse_str
                · refine csa_cons ?_ ?_
                  · exact cse_var 2
                  · refine csa_cons ?_ ?_
                    · refine cse_lst ?_
                      · refine csa_cons ?_ ?_
                        · refine cse_tup ?_
                          · refine csa_cons ?_ ?_
                            · exact cse_str
                            · exact csa_nil
                        · exact csa_nil
                    · exact csa_nil
            · refine csa_cons ?_ ?_
              · refine cse_tup ?_
                · refine csa_cons ?_ ?_
                  · exact cse_str
                  · refine csa_cons ?_ ?_
                    · exact cse_var 2
                    · refine csa_cons ?_ ?_
                      · refine cse_tup ?_
                        · refine csa_cons ?_ ?_
                          · exact cse_str
                          · exact csa_nil
                      · exact csa_nil
              · refine csa_cons ?_ ?_
                · refine cse_tup ?_
                  · refine csa_cons ?_ ?_
                    · exact cse_str
                    · refine csa_cons ?_ ?_
                      · exact cse_var 2
                      · exact csa_nil
                · refine csa_cons ?_ ?_
                  · refine cse_tup ?_
                    · refine csa_cons ?_ ?_
                      · exact cse_str
                      · refine csa_cons ?_ ?_
                        · exact cse_var 1
                        · exact csa_nil
                  · refine csa_cons ?_ ?_
                    · refine cse_tup ?_
                      · exact csa_nil
                    · refine csa_cons ?_ ?_
                      · exact cse_str
                      · exact csa_nil
    · refine sb_cons ?_ ?_
      · refine css_set 3 ?_ ?_
        · exact S.nd
        · refine cse_add ?_ ?_
          · exact cse_var 3
          · refine cse_lst ?_
            · refine csa_cons ?_ ?_
              · refine cse_tup ?_
                · refine csa_cons ?_ ?_
                  · exact cse_str
                  · refine csa_cons ?_ ?_
                    · exact cse_var 2
                    · refine csa_cons ?_ ?_
                      · refine cse_tup ?_
                        · refine csa_cons ?_ ?_
                          · exact cse_str
                          · exact csa_nil
                      · exact csa_nil
              · refine csa_cons ?_ ?_
                · refine cse_tup ?_
                  · refine csa_cons ?_ ?_
                    · exact cse_str
                    · refine csa_cons ?_ ?_
                      · exact cse_var 1
                      · refine csa_cons ?_ ?_
                        · refine cse_tup ?_
                          · refine csa_cons ?_ ?_
                            · exact cse_str
                            · exact csa_nil
                        · refine csa_cons ?_ ?_
                          · refine cse_tup ?_
                            · refine csa_cons ?_ ?_
                              · exact cse_str
                              · exact csa_nil
                          · exact csa_nil
                · refine csa_cons ?_ ?_
                  · refine cse_tup ?_
                    · refine csa_cons ?_ ?_
                      · exact cse_str
                      · refine csa_cons ?_ ?_
                        · exact cse_var 1
                        · exact csa_nil
                  · refine csa_cons ?_ ?_
                    · exact cse_non
                    · refine csa_cons ?_ ?_
                      · refine cse_lst ?_
                        · refine csa_cons ?_ ?_
                          · exact cse_str
                          · exact csa_nil
                      · refine csa_cons ?_ ?_
                        · refine cse_tup ?_
                          · refine csa_cons ?_ ?_
                            · exact cse_str
                            · refine csa_cons ?_ ?_
                              · exact cse_int
                              · exact csa_nil
                        · exact csa_nil
      · refine sb_cons ?_ ?_
        · refine css_set 3 ?_ ?_
          · exact S.nd
          · refine cse_add ?_ ?_
            · exact cse_var 3
            · refine cse_lst ?_
              · refine csa_cons ?_ ?_
                · refine cse_tup ?_
                  · refine csa_cons ?_ ?_
                    · exact cse_str
                    · refine csa_cons ?_ ?_
                      · exact cse_var 2
                      · refine csa_cons ?_ ?_
                        · refine cse_tup ?_
                          · refine csa_cons ?_ ?_
                            · refine cse_tup ?_
                              · refine csa_cons ?_ ?_
                                · exact cse_var 1
                                · refine csa_cons ?_ ?_
                                  · refine cse_tup ?_
                                    · refine csa_cons ?_ ?_
                                      · exact cse_str
                                      · exact csa_nil
                                  · exact csa_nil
                            · exact csa_nil
                        · exact csa_nil
                · refine csa_cons ?_ ?_
                  · refine cse_tup ?_
                    · refine csa_cons ?_ ?_
                      · exact cse_str
                      · refine csa_cons ?_ ?_
                        · refine cse_add ?_ ?_
                          · exact cse_var 1
                          · exact cse_str
                        · exact csa_nil
                  · refine csa_cons ?_ ?_
                    · refine cse_tup ?_
                      · refine csa_cons ?_ ?_
                        · exact cse_str
                        · refine csa_cons ?_ ?_
                          · exact cse_str
                          · exact csa_nil
                    · refine csa_cons ?_ ?_
                      · refine cse_tup ?_
                        · refine csa_cons ?_ ?_
                          · exact cse_str
                          · refine csa_cons ?_ ?_
                            · exact cse_str
                            · exact csa_nil
                      · exact csa_nil
        · refine sb_one ?_
          · refine css_ret ?_
            · refine cse_ix hr ?_ ?_
              · exact cse_var 3
              · refine cse_call (ps := ps ._law_take) (mf := g ._law_take) (G ._law_take) hr tk (T.mg_ ._law_take) (T.kp ._law_take) (T.bd ._law_take) ?_
                · refine csa_cons ?_ ?_
                  · exact cse_var 0
                  · refine csa_cons ?_ ?_
                    · refine cse_len T.b_len ?_
                      · refine csa_cons ?_ ?_
                        · exact cse_var 3
                        · exact csa_nil
                    · exact csa_nil
end
end Tx

namespace Tx
open PySem PySem.Spec PyProof.Rows L2 Lt
variable {cx : Cxp} {fa : Fn → Addr}
section
variable {P : Program} {w : World} {K : PySem.W.Frag} {mg : Str → Option Value} {base : Heap} {fd : Fn → FuncData}
theorem S_are_unlike : FnScope ["names"] (ps .are_unlike) (defScope s_are_unlike) := ⟨rfl, rfl, rfl, by decide +kernel, rfl, by decide +kernel, by decide +kernel⟩
theorem d_are_unlike (T : Tok P w K mg base cx fa fd) {g : Fn → List A → M A} {k : Nat} (hk : 2 ≤ k) (G : ∀ i, FnM P w K mg base k (fa i) (fd i) (ps i) (g i)) : FnM P w K mg base (k + 1) (fa .are_unlike) (fd .are_unlike) (ps .are_unlike) (runBody 1 (m_are_unlike cx fa g)) := by
  have S := S_are_unlike
  refine fnM_of (T.fn .are_unlike) S fun cdv A outer s H E hr tk => ?_
  refine sb_one ?_
  · refine css_ret ?_
    · refine cse_eq hr ?_ ?_
      · refine cse_lenSet T.b_len T.b_set ?_
        · exact cse_var 0
      · refine cse_len T.b_len ?_
        · refine csa_cons ?_ ?_
          · exact cse_var 0
          · exact csa_nil
theorem S_are_ways : FnScope ["thing", "way"] (ps .are_ways) (defScope s_are_ways) := ⟨rfl, rfl, rfl, by decide +kernel, rfl, by decide +kernel, by decide +kernel⟩
theorem d_are_ways (T : Tok P w K mg base cx fa fd) {g : Fn → List A → M A} {k : Nat} (hk : 2 ≤ k) (G : ∀ i, FnM P w K mg base k (fa i) (fd i) (ps i) (g i)) : FnM P w K mg base (k + 1) (fa .are_ways) (fd .are_ways) (ps .are_ways) (runBody 2 (m_are_ways cx fa g)) := by
  have S := S_are_ways
  refine fnM_of (T.fn .are_ways) S fun cdv A outer s H E hr tk => ?_
  refine sb_one ?_
  · refine css_ret ?_
    · refine cse_and ?_ ?_
      · refine cse_isi "tuple" T.b_isinstance T.b_tuple (by rfl) ?_
        · exact cse_var 0
      · refine cse_and ?_ ?_
        · refine cse_neE hr ?_ ?_
          · exact cse_var 0
          · refine cse_tup ?_
            · exact csa_nil
        · refine se_one ?_
          · refine cse_callBL (cr_all rfl) slc_all T.b_all PyProof.Rows.Boot.«all» ?_
            · refine se_lc (own := [(("way" : Str), 1)]) (T := [1]) rfl ?_ ?_ (blkOk_by rfl) (fun _ _ _ _ _ => ?_) (by decide) ?_ (fun _ _ _ _ _ => ?_)
              · exact S.nd
              · refine csi_seq ?_
                · exact cse_var 0
              · refine sg_name 1 ?_
                · exact S.nd
              · exact csts_nil
              · refine cse_call (ps := ps .is_way) (mf := g .is_way) (G .is_way) hr takes0 (T.mg_ .is_way) (T.kp .is_way) (T.bd .is_way) ?_
                · refine csa_cons ?_ ?_
                  · exact cse_var 1
                  · exact csa_nil
theorem S_fits : FnScope ["thing", "forms", "first", "rest", "form", "is_such", "part"] (ps .fits) (defScope s_fits) := ⟨rfl, rfl, rfl, by decide +kernel, rfl, by decide +kernel, by decide +kernel⟩
theorem d_fits (T : Tok P w K mg base cx fa fd) {g : Fn → List A → M A} {k : Nat} (hk : 2 ≤ k) (G : ∀ i, FnM P w K mg base k (fa i) (fd i) (ps i) (g i)) : FnM P w K mg base (k + 1) (fa .fits) (fd .fits) (ps .fits) (runBody 7 (m_fits cx fa g)) := by
  have S := S_fits
  refine fnM_of (T.fn .fits) S fun cdv A outer s H E hr tk => ?_
  refine sb_cons ?_ ?_
  · refine css_if ?_ ?_ ?_
    · refine st_w ?_
      · refine csw_or ?_ ?_
        · refine cst_not ?_
          · refine cst_val ?_
            · refine cse_isi "tuple" T.b_isinstance T.b_tuple (by rfl) ?_
              · exact cse_var 0
        · refine csw_or ?_ ?_
          · refine cst_eqE hr ?_ ?_
            · exact cse_var 0
            · refine cse_tup ?_
              · exact csa_nil
          · refine csw_or ?_ ?_
            · refine cst_not ?_
              · refine cst_val ?_
                · refine cse_isi "str" T.b_isinstance T.b_str (by rfl) ?_
                  · refine cse_ix hr ?_ ?_
                    · exact cse_var 0
                    · exact cse_int
            · refine sw_or1 ?_
              · refine cst_nin hr ?_ ?_
                · refine cse_ix hr ?_ ?_
                  · exact cse_var 0
                  · exact cse_int
                · exact cse_var 1
    · refine sb_one ?_
      · refine css_ret ?_
        · exact cse_bl
    · exact csb_nil
  · refine sb_cons ?_ ?_
    · refine css_asg (T := ([2] ++ ([3] ++ []))) ?_ ?_
      · exact cse_var 0
      · refine sg_star1 rfl ?_
        · refine sgs_cons ?_ ?_
          · refine sg_name 2 ?_
            · exact S.nd
          · refine sgs_cons ?_ ?_
            · refine sg_name 3 ?_
              · exact S.nd
            · exact sgs_nil
    · refine sb_cons ?_ ?_
      · refine css_set 4 ?_ ?_
        · exact S.nd
        · refine cse_ix hr ?_ ?_
          · exact cse_var 1
          · exact cse_var 2
      · refine sb_cons ?_ ?_
        · refine css_if ?_ ?_ ?_
          · refine cst_ne hr ?_ ?_
            · refine cse_len T.b_len ?_
              · refine csa_cons ?_ ?_
                · exact cse_var 3
                · exact csa_nil
            · refine cse_len T.b_len ?_
              · refine csa_cons ?_ ?_
                · exact cse_var 4
                · exact csa_nil
          · refine sb_one ?_
            · refine css_ret ?_
              · exact cse_bl
          · exact csb_nil
        · refine sb_cons ?_ ?_
          · refine ss_for (T := ([5] ++ ([6] ++ []))) (passes_of rfl) rfl ?_ ?_ ?_
            · refine csi_zip T.b_zip ?_
              · refine csa_cons ?_ ?_
                · exact cse_var 4
                · refine csa_cons ?_ ?_
                  · exact cse_var 3
                  · exact csa_nil
            · refine sg_tup rfl ?_
              · refine sgs_cons ?_ ?_
                · refine sg_name 5 ?_
                  · exact S.nd
                · refine sgs_cons ?_ ?_
                  · refine sg_name 6 ?_
                    · exact S.nd
                  · exact sgs_nil
            · refine sb_one ?_
              · refine css_if ?_ ?_ ?_
                · refine cst_not ?_
                  · refine cst_val ?_
                    · refine cse_callV (apF cx g) 5 (hap_ok T G) hr tk ?_
                      · refine csa_cons ?_ ?_
                        · exact cse_var 6
                        · exact csa_nil
                · refine sb_one ?_
                  · refine css_ret ?_
                    · exact cse_bl
                · exact csb_nil
          · refine sb_one ?_
            · refine css_ret ?_
              · exact cse_bl
theorem S__law_unlike : FnScope ["name", "taken", "letters", "at", "longer"] (ps ._law_unlike) (defScope s__law_unlike) := ⟨rfl, rfl, rfl, by decide +kernel, rfl, by decide +kernel, by decide +kernel⟩
theorem d__law_unlike (T : Tok P w K mg base cx fa fd) {g : Fn → List A → M A} {k : Nat} (hk : 2 ≤ k) (G : ∀ i, FnM P w K mg base k (fa i) (fd i) (ps i) (g i)) : FnM P w K mg base (k + 1) (fa ._law_unlike) (fd ._law_unlike) (ps ._law_unlike) (runBody 5 (m__law_unlike cx fa g)) := by
  have S := S__law_unlike
  refine fnM_of (T.fn ._law_unlike) S fun cdv A outer s H E hr tk => ?_
  refine sb_cons ?_ ?_
  · refine css_set 2 ?_ ?_
    · exact S.nd
    · exact cse_str
  · refine sb_cons ?_ ?_
    · refine css_if ?_ ?_ ?_
      · refine cst_nin hr ?_ ?_
        · exact cse_var 0
        · exact cse_var 1
      · refine sb_one ?_
        · refine css_ret ?_
          · exact cse_var 0
      · exact csb_nil
    · refine sb_cons ?_ ?_
      · refine ss_for (T := [3]) (passes_of rfl) rfl ?_ ?_ ?_
        · refine csi_range1 T.b_range ?_
          · refine csa_cons ?_ ?_
            · exact cse_int
            · exact csa_nil
        · refine sg_name 3 ?_
          · exact S.nd
        · refine sb_cons ?_ ?_
          · refine css_set 4 ?_ ?_
            · exact S.nd
            · refine cse_add ?_ ?_
              · refine cse_add ?_ ?_
                · refine cse_slice ?_ ?_ ?_
                  · exact cse_var 0
                  · exact csp_none
                  · refine csp_some ?_
                    · exact cse_int
                · refine cse_ix hr ?_ ?_
                  · exact cse_var 2
                  · refine cse_fdiv ?_ ?_
                    · exact cse_var 3
                    · exact cse_int
              · refine cse_ix hr ?_ ?_
                · exact cse_var 2
                · refine cse_mod ?_ ?_
                  · refine cse_toint T.b_int ?_
                    · refine csa_cons ?_ ?_
                      · exact cse_var 3
                      · exact csa_nil
                  · exact cse_int
          · refine sb_one ?_
            · refine css_if ?_ ?_ ?_
              · refine cst_nin hr ?_ ?_
                · exact cse_var 4
                · exact cse_var 1
              · refine sb_one ?_
                · refine css_ret ?_
                  · exact cse_var 4
              · exact csb_nil
      · refine sb_one ?_
        · refine css_ret ?_
          · exact cse_var 0
theorem S__law_names : FnScope ["feed", "smalls", "greats", "letters", "taken", "found", "old", "name"] (ps ._law_names) (defScope s__law_names) := ⟨rfl, rfl, rfl, by decide +kernel, rfl, by decide +kernel, by decide +kernel⟩
theorem d__law_names (T : Tok P w K mg base cx fa fd) {g : Fn → List A → M A} {k : Nat} (hk : 2 ≤ k) (G : ∀ i, FnM P w K mg base k (fa i) (fd i) (ps i) (g i)) : FnM P w K mg base (k + 1) (fa ._law_names) (fd ._law_names) (ps ._law_names) (runBody 8 (m__law_names cx fa g)) := by
  have S := S__law_names
  refine fnM_of (T.fn ._law_names) S fun cdv A outer s H E hr tk => ?_
  refine sb_cons ?_ ?_
  · refine css_set 3 ?_ ?_
    · exact S.nd
    · exact cse_str
  · refine sb_cons ?_ ?_
    · refine css_set 4 ?_ ?_
      · exact S.nd
      · refine cse_lst ?_
        · refine csa_cons ?_ ?_
          · exact cse_str
          · refine csa_cons ?_ ?_
            · exact cse_str
            · refine csa_cons ?_ ?_
              · exact cse_str
              · refine csa_cons ?_ ?_
                · exact cse_str
                · refine csa_cons ?_ ?_
                  · exact cse_str
                  · refine csa_cons ?_ ?_
                    · exact cse_str
                    · refine csa_cons ?_ ?_
                      · exact cse_str
                      · refine csa_cons ?_ ?_
                        · exact cse_str
                        · refine csa_cons ?_ ?_
                          · exact cse_str
                          · refine csa_cons ?_ ?_
                            · exact cse_str
                            · exact csa_nil
    · refine sb_cons ?_ ?_
      · refine css_set 5 ?_ ?_
        · exact S.nd
        · exact cse_dnew
      · refine sb_cons ?_ ?_
        · refine ss_for (T := [6]) (passes_of rfl) rfl ?_ ?_ ?_
          · refine csi_seq ?_
            · exact cse_var 1
          · refine sg_name 6 ?_
            · exact S.nd
          · refine sb_cons ?_ ?_
            · refine css_set 7 ?_ ?_
              · exact S.nd
              · refine cse_call (ps := ps ._law_unlike) (mf := g ._law_unlike) (G ._law_unlike) hr tk (T.mg_ ._law_unlike) (T.kp ._law_unlike) (T.bd ._law_unlike) ?_
                · refine csa_cons ?_ ?_
                  · refine cse_call (ps := ps ._law_word) (mf := g ._law_word) (G ._law_word) hr tk (T.mg_ ._law_word) (T.kp ._law_word) (T.bd ._law_word) ?_
                    · refine csa_cons ?_ ?_
                      · exact cse_var 0
                      · refine csa_cons ?_ ?_
                        · exact cse_var 3
                        · refine csa_cons ?_ ?_
                          · refine cse_add ?_ ?_
                            · exact cse_int
                            · refine cse_call (ps := ps ._law_take) (mf := g ._law_take) (G ._law_take) hr tk (T.mg_ ._law_take) (T.kp ._law_take) (T.bd ._law_take) ?_
                              · refine csa_cons ?_ ?_
                                · exact cse_var 0
                                · refine csa_cons ?_ ?_
                                  · exact cse_int
                                  · exact csa_nil
                          · exact csa_nil
                  · refine csa_cons ?_ ?_
                    · exact cse_var 4
                    · exact csa_nil
            · refine sb_cons ?_ ?_
              · refine css_expr ?_
                · refine cse_append ?_ ?_
                  · exact cse_var 4
                  · exact cse_var 7
              · refine sb_one ?_
                · refine css_asg (T := []) ?_ ?_
                  · exact cse_var 7
                  · refine sg_sub hr ?_ ?_
                    · exact cse_var 5
                    · exact cse_var 6
        · refine sb_cons ?_ ?_
          · refine ss_for (T := [6]) (passes_of rfl) rfl ?_ ?_ ?_
            · refine csi_seq ?_
              · exact cse_var 2
            · refine sg_name 6 ?_
              · exact S.nd
            · refine sb_cons ?_ ?_
              · refine css_set 7 ?_ ?_
                · exact S.nd
                · refine cse_add ?_ ?_
                  · refine cse_upper ?_
                    · refine cse_ix hr ?_ ?_
                      · exact cse_var 3
                      · refine cse_call (ps := ps ._law_take) (mf := g ._law_take) (G ._law_take) hr tk (T.mg_ ._law_take) (T.kp ._law_take) (T.bd ._law_take) ?_
                        · refine csa_cons ?_ ?_
                          · exact cse_var 0
                          · refine csa_cons ?_ ?_
                            · exact cse_int
                            · exact csa_nil
                  · refine cse_call (ps := ps ._law_word) (mf := g ._law_word) (G ._law_word) hr tk (T.mg_ ._law_word) (T.kp ._law_word) (T.bd ._law_word) ?_
                    · refine csa_cons ?_ ?_
                      · exact cse_var 0
                      · refine csa_cons ?_ ?_
                        · exact cse_var 3
                        · refine csa_cons ?_ ?_
                          · refine cse_call (ps := ps ._law_take) (mf := g ._law_take) (G ._law_take) hr tk (T.mg_ ._law_take) (T.kp ._law_take) (T.bd ._law_take) ?_
                            · refine csa_cons ?_ ?_
                              · exact cse_var 0
                              · refine csa_cons ?_ ?_
                                · exact cse_int
                                · exact csa_nil
                          · exact csa_nil
              · refine sb_cons ?_ ?_
                · refine css_set 7 ?_ ?_
                  · exact S.nd
                  · refine cse_call (ps := ps ._law_unlike) (mf := g ._law_unlike) (G ._law_unlike) hr tk (T.mg_ ._law_unlike) (T.kp ._law_unlike) (T.bd ._law_unlike) ?_
                    · refine csa_cons ?_ ?_
                      · exact cse_var 7
                      · refine csa_cons ?_ ?_
                        · exact cse_var 4
                        · exact csa_nil
                · refine sb_cons ?_ ?_
                  · refine css_expr ?_
                    · refine cse_append ?_ ?_
                      · exact cse_var 4
                      · exact cse_var 7
                  · refine sb_one ?_
                    · refine css_asg (T := []) ?_ ?_
                      · exact cse_var 7
                      · refine sg_sub hr ?_ ?_
                        · exact cse_var 5
                        · exact cse_var 6
          · refine sb_one ?_
            · refine css_ret ?_
              · exact cse_var 5
theorem S__law_number : FnScope ["feed", "size"] (ps ._law_number) (defScope s__law_number) := ⟨rfl, rfl, rfl, by decide +kernel, rfl, by decide +kernel, by decide +kernel⟩
theorem d__law_number (T : Tok P w K mg base cx fa fd) {g : Fn → List A → M A} {k : Nat} (hk : 2 ≤ k) (G : ∀ i, FnM P w K mg base k (fa i) (fd i) (ps i) (g i)) : FnM P w K mg base (k + 1) (fa ._law_number) (fd ._law_number) (ps ._law_number) (runBody 2 (m__law_number cx fa g)) := by
  have S := S__law_number
  refine fnM_of (T.fn ._law_number) S fun cdv A outer s H E hr tk => ?_
  refine sb_cons ?_ ?_
  · refine css_set 1 ?_ ?_
    · exact S.nd
    · refine cse_call (ps := ps ._law_take) (mf := g ._law_take) (G ._law_take) hr tk (T.mg_ ._law_take) (T.kp ._law_take) (T.bd ._law_take) ?_
      · refine csa_cons ?_ ?_
        · exact cse_var 0
        · refine csa_cons ?_ ?_
          · exact cse_int
          · exact csa_nil
  · refine sb_cons ?_ ?_
    · refine css_if ?_ ?_ ?_
      · refine cst_lt ?_ ?_
        · exact cse_var 1
        · exact cse_int
      · refine sb_one ?_
        · refine css_ret ?_
          · refine cse_call (ps := ps ._law_take) (mf := g ._law_take) (G ._law_take) hr tk (T.mg_ ._law_take) (T.kp ._law_take) (T.bd ._law_take) ?_
            · refine csa_cons ?_ ?_
              · exact cse_var 0
              · refine csa_cons ?_ ?_
                · exact cse_int
                · exact csa_nil
      · exact csb_nil
    · refine sb_cons ?_ ?_
      · refine css_if ?_ ?_ ?_
        · refine cst_eq hr ?_ ?_
          · exact cse_var 1
          · exact cse_int
        · refine sb_one ?_
          · refine css_ret ?_
            · refine cse_add ?_ ?_
              · refine cse_pow ?_ ?_
                · exact cse_int
                · exact cse_int
              · refine cse_call (ps := ps ._law_take) (mf := g ._law_take) (G ._law_take) hr tk (T.mg_ ._law_take) (T.kp ._law_take) (T.bd ._law_take) ?_
                · refine csa_cons ?_ ?_
                  · exact cse_var 0
                  · refine csa_cons ?_ ?_
                    · exact cse_int
                    · exact csa_nil
        · exact csb_nil
      · refine sb_one ?_
        · refine css_ret ?_
          · refine cse_add ?_ ?_
            · refine cse_mul ?_ ?_
              · refine cse_call (ps := ps ._law_take) (mf := g ._law_take) (G ._law_take) hr tk (T.mg_ ._law_take) (T.kp ._law_take) (T.bd ._law_take) ?_
                · refine csa_cons ?_ ?_
                  · exact cse_var 0
                  · refine csa_cons ?_ ?_
                    · exact cse_int
                    · exact csa_nil
              · exact cse_int
            · refine cse_call (ps := ps ._law_take) (mf := g ._law_take) (G ._law_take) hr tk (T.mg_ ._law_take) (T.kp ._law_take) (T.bd ._law_take) ?_
              · refine csa_cons ?_ ?_
                · exact cse_var 0
                · refine csa_cons ?_ ?_
                  · exact cse_int
                  · exact csa_nil
theorem S__law_wide : FnScope ["feed", "surface", "small", "great", "datas", "defs", "deep", "k", "line", "many"] (ps ._law_wide) (defScope s__law_wide) := ⟨rfl, rfl, rfl, by decide +kernel, rfl, by decide +kernel, by decide +kernel⟩
theorem d__law_wide (T : Tok P w K mg base cx fa fd) {g : Fn → List A → M A} {k : Nat} (hk : 2 ≤ k) (G : ∀ i, FnM P w K mg base k (fa i) (fd i) (ps i) (g i)) : FnM P w K mg base (k + 1) (fa ._law_wide) (fd ._law_wide) (ps ._law_wide) (runBody 10 (m__law_wide cx fa g)) := by
  have S := S__law_wide
  refine fnM_of (T.fn ._law_wide) S fun cdv A outer s H E hr tk => ?_
  refine sb_cons ?_ ?_
  · refine css_asg (T := ([4] ++ ([5] ++ []))) ?_ ?_
    · exact cse_var 1
    · refine sg_tup rfl ?_
      · refine sgs_cons ?_ ?_
        · refine sg_name 4 ?_
          · exact S.nd
        · refine sgs_cons ?_ ?_
          · refine sg_name 5 ?_
            · exact S.nd
          · exact sgs_nil
  · refine sb_cons ?_ ?_
    · refine css_set 6 ?_ ?_
      · exact S.nd
      · refine cse_tup ?_
        · refine csa_cons ?_ ?_
          · exact cse_str
          · exact csa_nil
    · refine sb_cons ?_ ?_
      · refine ss_for (T := [7]) (passes_of rfl) rfl ?_ ?_ ?_
        · refine csi_range1 T.b_range ?_
          · refine csa_cons ?_ ?_
            · exact cse_int
            · exact csa_nil
        · refine sg_name 7 ?_
          · exact S.nd
        · refine sb_one ?_
          · refine css_set 6 ?_ ?_
            · exact S.nd
            · refine cse_if ?_ ?_ ?_
              · refine cst_lt ?_ ?_
                · exact cse_var 7
                · exact cse_int
              · refine cse_tup ?_
                · refine csa_cons ?_ ?_
                  · exact cse_str
                  · refine csa_cons ?_ ?_
                    · exact cse_var 2
                    · refine csa_cons ?_ ?_
                      · exact cse_var 6
                      · exact csa_nil
              · refine cse_tup ?_
                · refine csa_cons ?_ ?_
                  · exact cse_str
                  · refine csa_cons ?_ ?_
                    · exact cse_var 3
                    · refine csa_cons ?_ ?_
                      · refine cse_tup ?_
                        · refine csa_cons ?_ ?_
                          · exact cse_var 6
                          · refine csa_cons ?_ ?_
                            · refine cse_tup ?_
                              · refine csa_cons ?_ ?_
                                · exact cse_str
                                · refine csa_cons ?_ ?_
                                  · exact cse_var 2
                                  · exact csa_nil
                            · exact csa_nil
                      · exact csa_nil
      · refine sb_cons ?_ ?_
        · refine css_set 8 ?_ ?_
          · exact S.nd
          · refine cse_tup ?_
            · refine csa_cons ?_ ?_
              · refine cse_tup ?_
                · refine csa_cons ?_ ?_
                  · exact cse_var 6
                  · refine csa_cons ?_ ?_
                    · refine cse_tup ?_
                      · refine csa_cons ?_ ?_
                        · exact cse_str
                        · refine csa_cons ?_ ?_
                          · exact cse_var 3
                          · refine csa_cons ?_ ?_
                            · refine cse_tup ?_
                              · exact csa_nil
                            · exact csa_nil
                    · refine csa_cons ?_ ?_
                      · refine cse_tup ?_
                        · refine csa_cons ?_ ?_
                          · exact cse_str
                          · refine csa_cons ?_ ?_
                            · exact cse_int
                            · exact csa_nil
                      · exact csa_nil
              · refine csa_cons ?_ ?_
                · refine cse_tup ?_
                  · refine csa_cons ?_ ?_
                    · exact cse_str
                    · refine csa_cons ?_ ?_
                      · exact cse_var 2
                      · exact csa_nil
                · refine csa_cons ?_ ?_
                  · refine cse_tup ?_
                    · refine csa_cons ?_ ?_
                      · exact cse_str
                      · refine csa_cons ?_ ?_
                        · refine cse_tup ?_
                          · refine csa_cons ?_ ?_
                            · exact cse_str
                            · refine csa_cons ?_ ?_
                              · exact cse_var 2
                              · exact csa_nil
                        · refine csa_cons ?_ ?_
                          · refine cse_tup ?_
                            · refine csa_cons ?_ ?_
                              · refine cse_tup ?_
                                · refine csa_cons ?_ ?_
                                  · exact cse_var 3
                                  · refine csa_cons ?_ ?_
                                    · refine cse_tup ?_
                                      · exact csa_nil
                                    · refine csa_cons ?_ ?_
                                      · refine cse_tup ?_
                                        · refine csa_cons ?_ ?_
                                          · exact cse_str
                                          · refine csa_cons ?_ ?_
                                            · exact cse_int
                                            · exact csa_nil
                                      · exact csa_nil
                              · exact csa_nil
                          · exact csa_nil
                  · exact csa_nil
        · refine sb_cons ?_ ?_
          · refine css_set 9 ?_ ?_
            · exact S.nd
            · refine cse_ix hr ?_ ?_
              · refine cse_lst ?_
                · refine csa_cons ?_ ?_
                  · exact cse_var 8
                  · refine csa_cons ?_ ?_
                    · refine cse_tup ?_
                      · refine csa_cons ?_ ?_
                        · refine cse_tup ?_
                          · exact csa_nil
                        · refine csa_cons ?_ ?_
                          · exact cse_non
                          · refine csa_cons ?_ ?_
                            · refine cse_tup ?_
                              · refine csa_cons ?_ ?_
                                · exact cse_str
                                · refine csa_cons ?_ ?_
                                  · exact cse_var 3
                                  · exact csa_nil
                            · exact csa_nil
                    · exact csa_nil
              · refine cse_call (ps := ps ._law_take) (mf := g ._law_take) (G ._law_take) hr tk (T.mg_ ._law_take) (T.kp ._law_take) (T.bd ._law_take) ?_
                · refine csa_cons ?_ ?_
                  · exact cse_var 0
                  · refine csa_cons ?_ ?_
                    · exact cse_int
                    · exact csa_nil
          · refine sb_one ?_
            · refine css_ret ?_
              · refine cse_tup ?_
                · refine csa_cons ?_ ?_
                  · refine cse_add ?_ ?_
                    · exact cse_var 4
                    · exact cse_var 4
                  · refine csa_cons ?_ ?_
                    · refine cse_add ?_ ?_
                      · refine cse_add ?_ ?_
                        · exact cse_var 5
                        · refine cse_tup ?_
                          · refine csa_cons ?_ ?_
                            · refine cse_tup ?_
                              · refine csa_cons ?_ ?_
                                · exact cse_var 2
                                · refine csa_cons ?_ ?_
                                  · refine cse_add ?_ ?_
                                    · refine cse_tup ?_
                                      · refine csa_cons ?_ ?_
                                        · exact cse_var 8
                                        · refine csa_cons ?_ ?_
                                          · exact cse_var 9
                                          · exact csa_nil
                                    · refine cse_rep ?_ ?_
                                      · refine cse_tup ?_
                                        · refine csa_cons ?_ ?_
                                          · exact cse_var 9
                                          · exact csa_nil
                                      · refine cse_call (ps := ps ._law_take) (mf := g ._law_take) (G ._law_take) hr tk (T.mg_ ._law_take) (T.kp ._law_take) (T.bd ._law_take) ?_
                                        · refine csa_cons ?_ ?_
                                          · exact cse_var 0
                                          · refine csa_cons ?_ ?_
                                            · exact cse_int
                                            · exact csa_nil
                                  · exact csa_nil
                            · exact csa_nil
                      · exact cse_var 5
                    · exact csa_nil
end
end Tx

namespace Tx
open PySem PySem.Spec PyProof.Rows L2 Lt
variable {cx : Cxp} {fa : Fn → Addr}
section
variable {P : Program} {w : World} {K : PySem.W.Frag} {mg : Str → Option Value} {base : Heap} {fd : Fn → FuncData}
theorem S_is_small : FnScope ["thing"] (ps .is_small) (defScope s_is_small) := ⟨rfl, rfl, rfl, by decide +kernel, rfl, by decide +kernel, by decide +kernel⟩
theorem d_is_small (T : Tok P w K mg base cx fa fd) {g : Fn → List A → M A} {k : Nat} (hk : 2 ≤ k) (G : ∀ i, FnM P w K mg base k (fa i) (fd i) (ps i) (g i)) : FnM P w K mg base (k + 1) (fa .is_small) (fd .is_small) (ps .is_small) (runBody 1 (m_is_small cx fa g)) := by
  have S := S_is_small
  refine fnM_of (T.fn .is_small) S fun cdv A outer s H E hr tk => ?_
  refine sb_cons ?_ ?_
  · refine css_if ?_ ?_ ?_
    · refine st_w ?_
      · refine csw_or ?_ ?_
        · refine cst_not ?_
          · refine cst_val ?_
            · refine cse_isi "str" T.b_isinstance T.b_str (by rfl) ?_
              · exact cse_var 0
        · refine csw_or ?_ ?_
          · refine cst_lt ?_ ?_
            · refine cse_len T.b_len ?_
              · refine csa_cons ?_ ?_
                · exact cse_var 0
                · exact csa_nil
            · exact cse_int
          · refine sw_or1 ?_
            · refine cst_gt ?_ ?_
              · refine cse_len T.b_len ?_
                · refine csa_cons ?_ ?_
                  · exact cse_var 0
                  · exact csa_nil
              · exact cse_konst T.k_LONGEST
    · refine sb_one ?_
      · refine css_ret ?_
        · exact cse_bl
    · exact csb_nil
  · refine sb_one ?_
    · refine css_ret ?_
      · refine cse_and ?_ ?_
        · refine cse_call (ps := ps .is_all_small) (mf := g .is_all_small) (G .is_all_small) hr tk (T.mg_ .is_all_small) (T.kp .is_all_small) (T.bd .is_all_small) ?_
          · refine csa_cons ?_ ?_
            · exact cse_var 0
            · exact csa_nil
        · refine se_one ?_
          · refine cse_nin hr ?_ ?_
            · exact cse_var 0
            · exact cse_konst T.k_KEPT_WORDS
theorem S_are_parts : FnScope ["thing", "part", "name", "term"] (ps .are_parts) (defScope s_are_parts) := ⟨rfl, rfl, rfl, by decide +kernel, rfl, by decide +kernel, by decide +kernel⟩
theorem d_are_parts (T : Tok P w K mg base cx fa fd) {g : Fn → List A → M A} {k : Nat} (hk : 2 ≤ k) (G : ∀ i, FnM P w K mg base k (fa i) (fd i) (ps i) (g i)) : FnM P w K mg base (k + 1) (fa .are_parts) (fd .are_parts) (ps .are_parts) (runBody 4 (m_are_parts cx fa g)) := by
  have S := S_are_parts
  refine fnM_of (T.fn .are_parts) S fun cdv A outer s H E hr tk => ?_
  refine sb_cons ?_ ?_
  · refine css_if ?_ ?_ ?_
    · refine st_w ?_
      · refine csw_or ?_ ?_
        · refine cst_not ?_
          · refine cst_val ?_
            · refine cse_isi "tuple" T.b_isinstance T.b_tuple (by rfl) ?_
              · exact cse_var 0
        · refine csw_or ?_ ?_
          · refine cst_eqE hr ?_ ?_
            · exact cse_var 0
            · refine cse_tup ?_
              · exact csa_nil
          · refine sw_or1 ?_
            · refine cst_not ?_
              · refine cst_val ?_
                · refine cse_callBL (cr_all rfl) slc_all T.b_all PyProof.Rows.Boot.«all» ?_
                  · refine se_lc (own := [(("part" : Str), 1)]) (T := [1]) rfl ?_ ?_ (blkOk_by rfl) (fun _ _ _ _ _ => ?_) (by decide) ?_ (fun _ _ _ _ _ => ?_)
                    · exact S.nd
                    · refine csi_seq ?_
                      · exact cse_var 0
                    · refine sg_name 1 ?_
                      · exact S.nd
                    · exact csts_nil
                    · refine cse_call (ps := ps .is_part) (mf := g .is_part) (G .is_part) hr takes0 (T.mg_ .is_part) (T.kp .is_part) (T.bd .is_part) ?_
                      · refine csa_cons ?_ ?_
                        · exact cse_var 1
                        · exact csa_nil
    · refine sb_one ?_
      · refine css_ret ?_
        · exact cse_bl
    · exact csb_nil
  · refine sb_one ?_
    · refine css_ret ?_
      · refine cse_call (ps := ps .are_unlike) (mf := g .are_unlike) (G .are_unlike) hr tk (T.mg_ .are_unlike) (T.kp .are_unlike) (T.bd .are_unlike) ?_
        · refine csa_cons ?_ ?_
          · refine cse_ofL ?_
            · refine se_lc (own := [(("name" : Str), 2), (("term" : Str), 3)]) (T := ([2] ++ ([3] ++ []))) rfl ?_ ?_ (blkOk_by rfl) (fun _ _ _ _ _ => ?_) (by decide) ?_ (fun _ _ _ _ _ => ?_)
              · exact S.nd
              · refine csi_seq ?_
                · exact cse_var 0
              · refine sg_tup rfl ?_
                · refine sgs_cons ?_ ?_
                  · refine sg_name 2 ?_
                    · exact S.nd
                  · refine sgs_cons ?_ ?_
                    · refine sg_name 3 ?_
                      · exact S.nd
                    · exact sgs_nil
              · exact csts_nil
              · exact cse_var 2
          · exact csa_nil
theorem S_are_patterns : FnScope ["thing", "one"] (ps .are_patterns) (defScope s_are_patterns) := ⟨rfl, rfl, rfl, by decide +kernel, rfl, by decide +kernel, by decide +kernel⟩
theorem d_are_patterns (T : Tok P w K mg base cx fa fd) {g : Fn → List A → M A} {k : Nat} (hk : 2 ≤ k) (G : ∀ i, FnM P w K mg base k (fa i) (fd i) (ps i) (g i)) : FnM P w K mg base (k + 1) (fa .are_patterns) (fd .are_patterns) (ps .are_patterns) (runBody 2 (m_are_patterns cx fa g)) := by
  have S := S_are_patterns
  refine fnM_of (T.fn .are_patterns) S fun cdv A outer s H E hr tk => ?_
  refine sb_one ?_
  · refine css_ret ?_
    · refine cse_and ?_ ?_
      · refine cse_isi "tuple" T.b_isinstance T.b_tuple (by rfl) ?_
        · exact cse_var 0
      · refine se_one ?_
        · refine cse_callBL (cr_all rfl) slc_all T.b_all PyProof.Rows.Boot.«all» ?_
          · refine se_lc (own := [(("one" : Str), 1)]) (T := [1]) rfl ?_ ?_ (blkOk_by rfl) (fun _ _ _ _ _ => ?_) (by decide) ?_ (fun _ _ _ _ _ => ?_)
            · exact S.nd
            · refine csi_seq ?_
              · exact cse_var 0
            · refine sg_name 1 ?_
              · exact S.nd
            · exact csts_nil
            · refine cse_call (ps := ps .is_pattern) (mf := g .is_pattern) (G .is_pattern) hr takes0 (T.mg_ .is_pattern) (T.kp .is_pattern) (T.bd .is_pattern) ?_
              · refine csa_cons ?_ ?_
                · exact cse_var 1
                · exact csa_nil
theorem S__law_guard : FnScope ["feed", "names", "sort", "numbers", "name", "kind", "one", "other"] (ps ._law_guard) (defScope s__law_guard) := ⟨rfl, rfl, rfl, by decide +kernel, rfl, by decide +kernel, by decide +kernel⟩
theorem d__law_guard (T : Tok P w K mg base cx fa fd) {g : Fn → List A → M A} {k : Nat} (hk : 2 ≤ k) (G : ∀ i, FnM P w K mg base k (fa i) (fd i) (ps i) (g i)) : FnM P w K mg base (k + 1) (fa ._law_guard) (fd ._law_guard) (ps ._law_guard) (runBody 8 (m__law_guard cx fa g)) := by
  have S := S__law_guard
  refine fnM_of (T.fn ._law_guard) S fun cdv A outer s H E hr tk => ?_
  refine sb_cons ?_ ?_
  · refine css_set 2 ?_ ?_
    · exact S.nd
    · refine cse_call (ps := ps ._law_take) (mf := g ._law_take) (G ._law_take) hr tk (T.mg_ ._law_take) (T.kp ._law_take) (T.bd ._law_take) ?_
      · refine csa_cons ?_ ?_
        · exact cse_var 0
        · refine csa_cons ?_ ?_
          · exact cse_int
          · exact csa_nil
  · refine sb_cons ?_ ?_
    · refine css_setLc 3 (own := [(("name" : Str), 4), (("kind" : Str), 5)]) (T := ([4] ++ ([5] ++ []))) rfl ?_ ?_ (blkOk_by rfl) (fun _ _ _ _ _ => ?_) (by decide) ?_ (fun _ _ _ _ _ => ?_) (hsw := sw_true rfl rfl rfl (by decide +kernel))
      · exact S.nd
      · refine csi_seq ?_
        · exact cse_var 1
      · refine sg_tup rfl ?_
        · refine sgs_cons ?_ ?_
          · refine sg_name 4 ?_
            · exact S.nd
          · refine sgs_cons ?_ ?_
            · refine sg_name 5 ?_
              · exact S.nd
            · exact sgs_nil
      · refine sts_one fun _ _ _ _ _ => ?_
        · refine cst_eq hr ?_ ?_
          · exact cse_var 5
          · exact cse_str
      · refine cse_tup ?_
        · refine csa_cons ?_ ?_
          · exact cse_str
          · refine csa_cons ?_ ?_
            · exact cse_var 4
            · exact csa_nil
    · refine sb_cons ?_ ?_
      · refine css_if ?_ ?_ ?_
        · refine cst_lt ?_ ?_
          · exact cse_var 2
          · exact cse_int
        · refine sb_one ?_
          · refine css_ret ?_
            · exact cse_non
        · exact csb_nil
      · refine sb_cons ?_ ?_
        · refine css_if ?_ ?_ ?_
          · refine cst_eq hr ?_ ?_
            · exact cse_var 2
            · exact cse_int
          · refine sb_one ?_
            · refine css_ret ?_
              · refine cse_tup ?_
                · refine csa_cons ?_ ?_
                  · exact cse_str
                  · refine csa_cons ?_ ?_
                    · refine cse_ix hr ?_ ?_
                      · refine cse_lst ?_
                        · refine csa_cons ?_ ?_
                          · exact cse_str
                          · refine csa_cons ?_ ?_
                            · exact cse_str
                            · exact csa_nil
                      · refine cse_call (ps := ps ._law_take) (mf := g ._law_take) (G ._law_take) hr tk (T.mg_ ._law_take) (T.kp ._law_take) (T.bd ._law_take) ?_
                        · refine csa_cons ?_ ?_
                          · exact cse_var 0
                          · refine csa_cons ?_ ?_
                            · exact cse_int
                            · exact csa_nil
                    · exact csa_nil
          · exact csb_nil
        · refine sb_cons ?_ ?_
          · refine css_set 6 ?_ ?_
            · exact S.nd
            · refine cse_tup ?_
              · refine csa_cons ?_ ?_
                · exact cse_str
                · refine csa_cons ?_ ?_
                  · refine cse_call (ps := ps ._law_number) (mf := g ._law_number) (G ._law_number) hr tk (T.mg_ ._law_number) (T.kp ._law_number) (T.bd ._law_number) ?_
                    · refine csa_cons ?_ ?_
                      · exact cse_var 0
                      · exact csa_nil
                  · exact csa_nil
          · refine sb_cons ?_ ?_
            · refine css_set 7 ?_ ?_
              · exact S.nd
              · refine cse_tup ?_
                · refine csa_cons ?_ ?_
                  · exact cse_str
                  · refine csa_cons ?_ ?_
                    · refine cse_call (ps := ps ._law_take) (mf := g ._law_take) (G ._law_take) hr tk (T.mg_ ._law_take) (T.kp ._law_take) (T.bd ._law_take) ?_
                      · refine csa_cons ?_ ?_
                        · exact cse_var 0
                        · refine csa_cons ?_ ?_
                          · exact cse_int
                          · exact csa_nil
                    · exact csa_nil
            · refine sb_cons ?_ ?_
              · refine css_if ?_ ?_ ?_
                · refine cst_gt ?_ ?_
                  · refine cse_len T.b_len ?_
                    · refine csa_cons ?_ ?_
                      · exact cse_var 3
                      · exact csa_nil
                  · exact cse_int
                · refine sb_one ?_
                  · refine css_set 6 ?_ ?_
                    · exact S.nd
                    · refine cse_ix hr ?_ ?_
                      · exact cse_var 3
                      · refine cse_call (ps := ps ._law_take) (mf := g ._law_take) (G ._law_take) hr tk (T.mg_ ._law_take) (T.kp ._law_take) (T.bd ._law_take) ?_
                        · refine csa_cons ?_ ?_
                          · exact cse_var 0
                          · refine csa_cons ?_ ?_
                            · refine cse_len T.b_len ?_
                              · refine csa_cons ?_ ?_
                                · exact cse_var 3
                                · exact csa_nil
                            · exact csa_nil
                · exact csb_nil
              · refine sb_cons ?_ ?_
                · refine css_if ?_ ?_ ?_
                  · refine st_w ?_
                    · refine csw_and ?_ ?_
                      · refine cst_gt ?_ ?_
                        · refine cse_len T.b_len ?_
                          · refine csa_cons ?_ ?_
                            · exact cse_var 3
                            · exact csa_nil
                        · exact cse_int
                      · refine sw_and1 ?_
                        · refine cst_eq hr ?_ ?_
                          · refine cse_call (ps := ps ._law_take) (mf := g ._law_take) (G ._law_take) hr tk (T.mg_ ._law_take) (T.kp ._law_take) (T.bd ._law_take) ?_
                            · refine csa_cons ?_ ?_
                              · exact cse_var 0
                              · refine csa_cons ?_ ?_
                                · exact cse_int
                                · exact csa_nil
                          · exact cse_int
                  · refine sb_one ?_
                    · refine css_set 7 ?_ ?_
                      · exact S.nd
                      · refine cse_ix hr ?_ ?_
                        · exact cse_var 3
                        · refine cse_call (ps := ps ._law_take) (mf := g ._law_take) (G ._law_take) hr tk (T.mg_ ._law_take) (T.kp ._law_take) (T.bd ._law_take) ?_
                          · refine csa_cons ?_ ?_
                            · exact cse_var 0
                            · refine csa_cons ?_ ?_
                              · refine cse_len T.b_len ?_
                                · refine csa_cons ?_ ?_
                                  · exact cse_var 3
                                  · exact csa_nil
                              · exact csa_nil
                  · exact csb_nil
                · refine sb_one ?_
                  · refine css_ret ?_
                    · refine cse_tup ?_
                      · refine csa_cons ?_ ?_
                        · exact cse_str
                        · refine csa_cons ?_ ?_
                          · refine cse_ix hr ?_ ?_
                            · refine cse_lst ?_
                              · refine csa_cons ?_ ?_
                                · exact cse_str
                                · refine csa_cons ?_ ?_
                                  · exact cse_str
                                  · exact csa_nil
                            · refine cse_call (ps := ps ._law_take) (mf := g ._law_take) (G ._law_take) hr tk (T.mg_ ._law_take) (T.kp ._law_take) (T.bd ._law_take) ?_
                              · refine csa_cons ?_ ?_
                                · exact cse_var 0
                                · refine csa_cons ?_ ?_
                                  · exact cse_int
                                  · exact csa_nil
                          · refine csa_cons ?_ ?_
                            · exact cse_var 6
                            · refine csa_cons ?_ ?_
                              · exact cse_var 7
                              · exact csa_nil
theorem S__law_nodes_at_most : FnScope ["lines", "many", "patterns", "guard", "body", "ways", "pattern", "exits", "way"] (ps ._law_nodes_at_most) (defScope s__law_nodes_at_most) := ⟨rfl, rfl, rfl, by decide +kernel, rfl, by decide +kernel, by decide +kernel⟩
theorem d__law_nodes_at_most (T : Tok P w K mg base cx fa fd) {g : Fn → List A → M A} {k : Nat} (hk : 2 ≤ k) (G : ∀ i, FnM P w K mg base k (fa i) (fd i) (ps i) (g i)) : FnM P w K mg base (k + 1) (fa ._law_nodes_at_most) (fd ._law_nodes_at_most) (ps ._law_nodes_at_most) (runBody 9 (m__law_nodes_at_most cx fa g)) := by
  have S := S__law_nodes_at_most
  refine fnM_of (T.fn ._law_nodes_at_most) S fun cdv A outer s H E hr tk => ?_
  refine sb_cons ?_ ?_
  · refine css_set 1 ?_ ?_
    · exact S.nd
    · exact cse_int
  · refine sb_cons ?_ ?_
    · refine ss_for (T := ([2] ++ ([3] ++ ([4] ++ [])))) (passes_of rfl) rfl ?_ ?_ ?_
      · refine csi_seq ?_
        · refine cse_rev ?_
          · exact cse_var 0
      · refine sg_tup rfl ?_
        · refine sgs_cons ?_ ?_
          · refine sg_name 2 ?_
            · exact S.nd
          · refine sgs_cons ?_ ?_
            · refine sg_name 3 ?_
              · exact S.nd
            · refine sgs_cons ?_ ?_
              · refine sg_name 4 ?_
                · exact S.nd
              · exact sgs_nil
      · refine sb_cons ?_ ?_
        · refine css_set 5 ?_ ?_
          · exact S.nd
          · refine cse_lst ?_
            · exact csa_nil
        · refine sb_cons ?_ ?_
          · refine ss_for (T := [6]) (passes_of rfl) rfl ?_ ?_ ?_
            · refine csi_seq ?_
              · exact cse_var 2
            · refine sg_name 6 ?_
              · exact S.nd
            · refine sb_one ?_
              · refine css_expr ?_
                · refine cse_extend ?_ ?_
                  · exact cse_var 5
                  · refine cse_call (ps := ps ._law_ways) (mf := g ._law_ways) (G ._law_ways) hr tk (T.mg_ ._law_ways) (T.kp ._law_ways) (T.bd ._law_ways) ?_
                    · refine csa_cons ?_ ?_
                      · exact cse_var 6
                      · exact csa_nil
          · refine sb_cons ?_ ?_
            · refine css_set 7 ?_ ?_
              · exact S.nd
              · refine cse_add ?_ ?_
                · refine cse_callBL (cr_sum rfl) slc_sum T.b_sum PyProof.Rows.Boot.«sum» ?_
                  · refine se_lc (own := [(("way" : Str), 8)]) (T := [8]) rfl ?_ ?_ (blkOk_by rfl) (fun _ _ _ _ _ => ?_) (by decide) ?_ (fun _ _ _ _ _ => ?_)
                    · exact S.nd
                    · refine csi_seq ?_
                      · exact cse_var 5
                    · refine sg_name 8 ?_
                      · exact S.nd
                    · exact csts_nil
                    · refine cse_sub ?_ ?_
                      · exact cse_var 8
                      · exact cse_int
                · refine cse_toint T.b_int ?_
                  · refine csa_cons ?_ ?_
                    · refine cse_nis ?_ ?_
                      · exact cse_var 3
                      · exact cse_non
                    · exact csa_nil
            · refine sb_one ?_
              · refine css_set 1 ?_ ?_
                · exact S.nd
                · refine cse_add ?_ ?_
                  · refine cse_add ?_ ?_
                    · refine cse_len T.b_len ?_
                      · refine csa_cons ?_ ?_
                        · exact cse_var 5
                        · exact csa_nil
                    · exact cse_int
                  · refine cse_mul ?_ ?_
                    · exact cse_var 7
                    · exact cse_var 1
    · refine sb_one ?_
      · refine css_ret ?_
        · exact cse_var 1
theorem S__law_bad_term : FnScope ["feed", "small", "great", "found"] (ps ._law_bad_term) (defScope s__law_bad_term) := ⟨rfl, rfl, rfl, by decide +kernel, rfl, by decide +kernel, by decide +kernel⟩
theorem d__law_bad_term (T : Tok P w K mg base cx fa fd) {g : Fn → List A → M A} {k : Nat} (hk : 2 ≤ k) (G : ∀ i, FnM P w K mg base k (fa i) (fd i) (ps i) (g i)) : FnM P w K mg base (k + 1) (fa ._law_bad_term) (fd ._law_bad_term) (ps ._law_bad_term) (runBody 4 (m__law_bad_term cx fa g)) := by
  have S := S__law_bad_term
  refine fnM_of (T.fn ._law_bad_term) S fun cdv A outer s H E hr tk => ?_
  refine sb_cons ?_ ?_
  · refine css_set 3 ?_ ?_
    · exact S.nd
    · refine cse_lst ?_
      · refine csa_cons ?_ ?_
        · refine cse_tup ?_
          · refine csa_cons ?_ ?_
            · exact cse_str
            · refine csa_cons ?_ ?_
              · refine cse_neg ?_
                · exact cse_int
              · exact csa_nil
        · refine csa_cons ?_ ?_
          · refine cse_tup ?_
            · refine csa_cons ?_ ?_
              · exact cse_str
              · refine csa_cons ?_ ?_
                · exact cse_bl
                · exact csa_nil
          · refine csa_cons ?_ ?_
            · refine cse_tup ?_
              · refine csa_cons ?_ ?_
                · exact cse_str
                · refine csa_cons ?_ ?_
                  · exact cse_var 2
                  · exact csa_nil
            · refine csa_cons ?_ ?_
              · refine cse_tup ?_
                · refine csa_cons ?_ ?_
                  · exact cse_str
                  · refine csa_cons ?_ ?_
                    · refine cse_tup ?_
                      · refine csa_cons ?_ ?_
                        · exact cse_str
                        · refine csa_cons ?_ ?_
                          · exact cse_int
                          · exact csa_nil
                    · exact csa_nil
              · refine csa_cons ?_ ?_
                · refine cse_tup ?_
                  · refine csa_cons ?_ ?_
                    · exact cse_str
                    · refine csa_cons ?_ ?_
                      · exact cse_var 2
                      · refine csa_cons ?_ ?_
                        · refine cse_tup ?_
                          · refine csa_cons ?_ ?_
                            · exact cse_str
                            · refine csa_cons ?_ ?_
                              · exact cse_int
                              · exact csa_nil
                        · exact csa_nil
                · refine csa_cons ?_ ?_
                  · refine cse_tup ?_
                    · exact csa_nil
                  · exact csa_nil
  · refine sb_cons ?_ ?_
    · refine css_set 3 ?_ ?_
      · exact S.nd
      · refine cse_add ?_ ?_
        · exact cse_var 3
        · refine cse_lst ?_
          · refine csa_cons ?_ ?_
            · refine cse_tup ?_
              · refine csa_cons ?_ ?_
                · exact cse_str
                · refine csa_cons ?_ ?_
                  · refine cse_tup ?_
                    · exact csa_nil
                  · refine csa_cons ?_ ?_
                    · refine cse_tup ?_
                      · refine csa_cons ?_ ?_
                        · exact cse_str
                        · refine csa_cons ?_ ?_
                          · exact cse_int
                          · exact csa_nil
                    · exact csa_nil
            · refine csa_cons ?_ ?_
              · refine cse_tup ?_
                · refine csa_cons ?_ ?_
                  · exact cse_str
                  · refine csa_cons ?_ ?_
                    · refine cse_tup ?_
                      · refine csa_cons ?_ ?_
                        · exact cse_str
                        · refine csa_cons ?_ ?_
                          · exact cse_int
                          · exact csa_nil
                    · refine csa_cons ?_ ?_
                      · refine cse_tup ?_
                        · exact csa_nil
                      · exact csa_nil
              · refine csa_cons ?_ ?_
                · refine cse_tup ?_
                  · refine csa_cons ?_ ?_
                    · exact cse_str
                    · refine csa_cons ?_ ?_
                      · exact cse_str
                      · refine csa_cons ?_ ?_
                        · refine cse_tup ?_
                          · refine csa_cons ?_ ?_
                            · exact cse_str
                            · refine csa_cons ?_ ?_
                              · exact cse_int
                              · exact csa_nil
                        · refine csa_cons ?_ ?_
                          · refine cse_tup ?_
                            · refine csa_cons ?_ ?_
                              · exact cse_str
                              · refine csa_cons ?_ ?_
                                · exact cse_int
                                · exact csa_nil
                          · exact csa_nil
                · refine csa_cons ?_ ?_
                  · exact cse_var 1
                  · exact csa_nil
    · refine sb_cons ?_ ?_
      · refine css_set 3 ?_ ?_
        · exact S.nd
        · refine cse_add ?_ ?_
          · exact cse_var 3
          · refine cse_lst ?_
            · refine csa_cons ?_ ?_
              · refine cse_tup ?_
                · refine csa_cons ?_ ?_
                  · exact cse_str
                  · refine csa_cons ?_ ?_
                    · refine cse_tup ?_
                      · refine csa_cons ?_ ?_
                        · exact cse_str
                        · refine csa_cons ?_ ?_
                          · exact cse_var 1
                          · exact csa_nil
                    · refine csa_cons ?_ ?_
                      · exact cse_var 1
                      · exact csa_nil
              · refine csa_cons ?_ ?_
                · refine cse_tup ?_
                  · refine csa_cons ?_ ?_
                    · exact cse_str
                    · refine csa_cons ?_ ?_
                      · exact cse_var 2
                      · refine csa_cons ?_ ?_
                        · refine cse_tup ?_
                          · refine csa_cons ?_ ?_
                            · refine cse_tup ?_
                              · refine csa_cons ?_ ?_
                                · exact cse_var 1
                                · refine csa_cons ?_ ?_
                                  · refine cse_tup ?_
                                    · refine csa_cons ?_ ?_
                                      · exact cse_str
                                      · refine csa_cons ?_ ?_
                                        · exact cse_int
                                        · exact csa_nil
                                  · exact csa_nil
                            · exact csa_nil
                        · exact csa_nil
                · refine csa_cons ?_ ?_
                  · refine cse_lst ?_
                    · refine csa_cons ?_ ?_
                      · exact cse_str
                      · refine csa_cons ?_ ?_
                        · exact cse_int
                        · exact csa_nil
                  · refine csa_cons ?_ ?_
                    · refine cse_tup ?_
                      · refine csa_cons ?_ ?_
                        · exact cse_str
                        · exact csa_nil
                    · exact csa_nil
      · refine sb_one ?_
        · refine css_ret ?_
          · refine cse_ix hr ?_ ?_
            · exact cse_var 3
            · refine cse_call (ps := ps ._law_take) (mf := g ._law_take) (G ._law_take) hr tk (T.mg_ ._law_take) (T.kp ._law_take) (T.bd ._law_take) ?_
              · refine csa_cons ?_ ?_
                · exact cse_var 0
                · refine csa_cons ?_ ?_
                  · refine cse_len T.b_len ?_
                    · refine csa_cons ?_ ?_
                      · exact cse_var 3
                      · exact csa_nil
                  · exact csa_nil
end
end Tx

namespace Tx
open PySem PySem.Spec PyProof.Rows L2 Lt
variable {cx : Cxp} {fa : Fn → Addr}
section
variable {P : Program} {w : World} {K : PySem.W.Frag} {mg : Str → Option Value} {base : Heap} {fd : Fn → FuncData}
theorem S_are_small : FnScope ["thing", "name"] (ps .are_small) (defScope s_are_small) := ⟨rfl, rfl, rfl, by decide +kernel, rfl, by decide +kernel, by decide +kernel⟩
theorem d_are_small (T : Tok P w K mg base cx fa fd) {g : Fn → List A → M A} {k : Nat} (hk : 2 ≤ k) (G : ∀ i, FnM P w K mg base k (fa i) (fd i) (ps i) (g i)) : FnM P w K mg base (k + 1) (fa .are_small) (fd .are_small) (ps .are_small) (runBody 2 (m_are_small cx fa g)) := by
  have S := S_are_small
  refine fnM_of (T.fn .are_small) S fun cdv A outer s H E hr tk => ?_
  refine sb_one ?_
  · refine css_ret ?_
    · refine cse_and ?_ ?_
      · refine cse_isi "tuple" T.b_isinstance T.b_tuple (by rfl) ?_
        · exact cse_var 0
      · refine se_one ?_
        · refine cse_callBL (cr_all rfl) slc_all T.b_all PyProof.Rows.Boot.«all» ?_
          · refine se_lc (own := [(("name" : Str), 1)]) (T := [1]) rfl ?_ ?_ (blkOk_by rfl) (fun _ _ _ _ _ => ?_) (by decide) ?_ (fun _ _ _ _ _ => ?_)
            · exact S.nd
            · refine csi_seq ?_
              · exact cse_var 0
            · refine sg_name 1 ?_
              · exact S.nd
            · exact csts_nil
            · refine cse_call (ps := ps .is_small) (mf := g .is_small) (G .is_small) hr takes0 (T.mg_ .is_small) (T.kp .is_small) (T.bd .is_small) ?_
              · refine csa_cons ?_ ?_
                · exact cse_var 1
                · exact csa_nil
theorem S_is_pattern : FnScope ["thing"] (ps .is_pattern) (defScope s_is_pattern) := ⟨rfl, rfl, rfl, by decide +kernel, rfl, by decide +kernel, by decide +kernel⟩
theorem d_is_pattern (T : Tok P w K mg base cx fa fd) {g : Fn → List A → M A} {k : Nat} (hk : 2 ≤ k) (G : ∀ i, FnM P w K mg base k (fa i) (fd i) (ps i) (g i)) : FnM P w K mg base (k + 1) (fa .is_pattern) (fd .is_pattern) (ps .is_pattern) (runBody 1 (m_is_pattern cx fa g)) := by
  have S := S_is_pattern
  refine fnM_of (T.fn .is_pattern) S fun cdv A outer s H E hr tk => ?_
  refine sb_one ?_
  · refine css_ret ?_
    · refine cse_call (ps := ps .fits) (mf := g .fits) (G .fits) hr tk (T.mg_ .fits) (T.kp .fits) (T.bd .fits) ?_
      · refine csa_cons ?_ ?_
        · exact cse_var 0
        · refine csa_cons ?_ ?_
          · refine cse_disp (kk := [.inr ("any" : Str), .inr ("name" : Str), .inr ("num" : Str), .inr ("make" : Str), .inr ("as" : Str)]) ?_
            · refine csds_cons (key := .inr ("any" : Str)) pe_str ?_ ?_
              · refine cse_lst ?_
                · exact csa_nil
              · refine csds_cons (key := .inr ("name" : Str)) pe_str ?_ ?_
                · refine cse_lst ?_
                  · refine csa_cons ?_ ?_
                    · exact cse_glob (v := .ref (fa .is_small)) rfl (T.mg_ .is_small) rfl (fun _ _ => .fn)
                    · exact csa_nil
                · refine csds_cons (key := .inr ("num" : Str)) pe_str ?_ ?_
                  · refine cse_lst ?_
                    · refine csa_cons ?_ ?_
                      · exact cse_glob (v := .ref (fa .is_count)) rfl (T.mg_ .is_count) rfl (fun _ _ => .fn)
                      · exact csa_nil
                  · refine csds_cons (key := .inr ("make" : Str)) pe_str ?_ ?_
                    · refine cse_lst ?_
                      · refine csa_cons ?_ ?_
                        · exact cse_glob (v := .ref (fa .is_great)) rfl (T.mg_ .is_great) rfl (fun _ _ => .fn)
                        · refine csa_cons ?_ ?_
                          · exact cse_glob (v := .ref (fa .are_patterns)) rfl (T.mg_ .are_patterns) rfl (fun _ _ => .fn)
                          · exact csa_nil
                    · refine csds_cons (key := .inr ("as" : Str)) pe_str ?_ ?_
                      · refine cse_lst ?_
                        · refine csa_cons ?_ ?_
                          · exact cse_glob (v := .ref (fa .is_small)) rfl (T.mg_ .is_small) rfl (fun _ _ => .fn)
                          · refine csa_cons ?_ ?_
                            · exact cse_glob (v := .ref (fa .is_pattern)) rfl (T.mg_ .is_pattern) rfl (fun _ _ => .fn)
                            · exact csa_nil
                      · exact csds_nil
          · exact csa_nil
theorem S__law_renamed : FnScope ["thing", "names", "one"] (ps ._law_renamed) (defScope s__law_renamed) := ⟨rfl, rfl, rfl, by decide +kernel, rfl, by decide +kernel, by decide +kernel⟩
theorem d__law_renamed (T : Tok P w K mg base cx fa fd) {g : Fn → List A → M A} {k : Nat} (hk : 2 ≤ k) (G : ∀ i, FnM P w K mg base k (fa i) (fd i) (ps i) (g i)) : FnM P w K mg base (k + 1) (fa ._law_renamed) (fd ._law_renamed) (ps ._law_renamed) (runBody 3 (m__law_renamed cx fa g)) := by
  have S := S__law_renamed
  refine fnM_of (T.fn ._law_renamed) S fun cdv A outer s H E hr tk => ?_
  refine sb_cons ?_ ?_
  · refine css_if ?_ ?_ ?_
    · refine cst_val ?_
      · refine cse_isi "str" T.b_isinstance T.b_str (by rfl) ?_
        · exact cse_var 0
    · refine sb_one ?_
      · refine css_ret ?_
        · refine cse_get2 hr ?_ ?_ ?_
          · exact cse_var 1
          · exact cse_var 0
          · exact cse_var 0
    · exact csb_nil
  · refine sb_cons ?_ ?_
    · refine css_if ?_ ?_ ?_
      · refine cst_val ?_
        · refine cse_isi "tuple" T.b_isinstance T.b_tuple (by rfl) ?_
          · exact cse_var 0
      · refine sb_one ?_
        · refine css_ret ?_
          · refine cse_tupleL T.b_tuple ?_
            · refine se_lc (own := [(("one" : Str), 2)]) (T := [2]) rfl ?_ ?_ (blkOk_by rfl) (fun _ _ _ _ _ => ?_) (by decide) ?_ (fun _ _ _ _ _ => ?_)
              · exact S.nd
              · refine csi_seq ?_
                · exact cse_var 0
              · refine sg_name 2 ?_
                · exact S.nd
              · exact csts_nil
              · refine cse_call (ps := ps ._law_renamed) (mf := g ._law_renamed) (G ._law_renamed) hr takes0 (T.mg_ ._law_renamed) (T.kp ._law_renamed) (T.bd ._law_renamed) ?_
                · refine csa_cons ?_ ?_
                  · exact cse_var 2
                  · refine csa_cons ?_ ?_
                    · exact cse_var 1
                    · exact csa_nil
      · exact csb_nil
    · refine sb_one ?_
      · refine css_ret ?_
        · exact cse_var 0
theorem S__law_olds : FnScope ["smalls", "greats"] (ps ._law_olds) (defScope s__law_olds) := ⟨rfl, rfl, rfl, by decide +kernel, rfl, by decide +kernel, by decide +kernel⟩
theorem d__law_olds (T : Tok P w K mg base cx fa fd) {g : Fn → List A → M A} {k : Nat} (hk : 2 ≤ k) (G : ∀ i, FnM P w K mg base k (fa i) (fd i) (ps i) (g i)) : FnM P w K mg base (k + 1) (fa ._law_olds) (fd ._law_olds) (ps ._law_olds) (runBody 2 (m__law_olds cx fa g)) := by
  have S := S__law_olds
  refine fnM_of (T.fn ._law_olds) S fun cdv A outer s H E hr tk => ?_
  refine sb_cons ?_ ?_
  · refine css_set 0 ?_ ?_
    · exact S.nd
    · refine cse_lst ?_
      · refine csa_cons ?_ ?_
        · exact cse_str
        · refine csa_cons ?_ ?_
          · exact cse_str
          · refine csa_cons ?_ ?_
            · exact cse_str
            · refine csa_cons ?_ ?_
              · exact cse_str
              · refine csa_cons ?_ ?_
                · exact cse_str
                · refine csa_cons ?_ ?_
                  · exact cse_str
                  · refine csa_cons ?_ ?_
                    · exact cse_str
                    · refine csa_cons ?_ ?_
                      · exact cse_str
                      · refine csa_cons ?_ ?_
                        · exact cse_str
                        · exact csa_nil
  · refine sb_cons ?_ ?_
    · refine css_set 1 ?_ ?_
      · exact S.nd
      · refine cse_lst ?_
        · refine csa_cons ?_ ?_
          · exact cse_str
          · refine csa_cons ?_ ?_
            · exact cse_str
            · refine csa_cons ?_ ?_
              · exact cse_str
              · refine csa_cons ?_ ?_
                · exact cse_str
                · refine csa_cons ?_ ?_
                  · exact cse_str
                  · refine csa_cons ?_ ?_
                    · exact cse_str
                    · refine csa_cons ?_ ?_
                      · exact cse_str
                      · refine csa_cons ?_ ?_
                        · exact cse_str
                        · refine csa_cons ?_ ?_
                          · exact cse_str
                          · refine csa_cons ?_ ?_
                            · exact cse_str
                            · refine csa_cons ?_ ?_
                              · exact cse_str
                              · refine csa_cons ?_ ?_
                                · exact cse_str
                                · refine csa_cons ?_ ?_
                                  · exact cse_str
                                  · refine csa_cons ?_ ?_
                                    · exact cse_str
                                    · refine csa_cons ?_ ?_
                                      · exact cse_str
                                      · exact csa_nil
    · refine sb_one ?_
      · refine css_ret ?_
        · refine cse_tup ?_
          · refine csa_cons ?_ ?_
            · exact cse_var 0
            · refine csa_cons ?_ ?_
              · refine cse_add ?_ ?_
                · exact cse_var 1
                · refine cse_lst ?_
                  · refine csa_cons ?_ ?_
                    · exact cse_str
                    · refine csa_cons ?_ ?_
                      · exact cse_str
                      · refine csa_cons ?_ ?_
                        · exact cse_str
                        · exact csa_nil
              · exact csa_nil
theorem S__law_bad_def : FnScope ["feed", "one", "small", "great", "f", "lines", "choice", "at"] (ps ._law_bad_def) (defScope s__law_bad_def) := ⟨rfl, rfl, rfl, by decide +kernel, rfl, by decide +kernel, by decide +kernel⟩
theorem d__law_bad_def (T : Tok P w K mg base cx fa fd) {g : Fn → List A → M A} {k : Nat} (hk : 2 ≤ k) (G : ∀ i, FnM P w K mg base k (fa i) (fd i) (ps i) (g i)) : FnM P w K mg base (k + 1) (fa ._law_bad_def) (fd ._law_bad_def) (ps ._law_bad_def) (runBody 8 (m__law_bad_def cx fa g)) := by
  have S := S__law_bad_def
  refine fnM_of (T.fn ._law_bad_def) S fun cdv A outer s H E hr tk => ?_
  refine sb_cons ?_ ?_
  · refine css_asg (T := ([4] ++ ([5] ++ []))) ?_ ?_
    · exact cse_var 1
    · refine sg_tup rfl ?_
      · refine sgs_cons ?_ ?_
        · refine sg_name 4 ?_
          · exact S.nd
        · refine sgs_cons ?_ ?_
          · refine sg_name 5 ?_
            · exact S.nd
          · exact sgs_nil
  · refine sb_cons ?_ ?_
    · refine css_set 6 ?_ ?_
      · exact S.nd
      · refine cse_call (ps := ps ._law_take) (mf := g ._law_take) (G ._law_take) hr tk (T.mg_ ._law_take) (T.kp ._law_take) (T.bd ._law_take) ?_
        · refine csa_cons ?_ ?_
          · exact cse_var 0
          · refine csa_cons ?_ ?_
            · exact cse_int
            · exact csa_nil
    · refine sb_cons ?_ ?_
      · refine css_if ?_ ?_ ?_
        · refine cst_eq hr ?_ ?_
          · exact cse_var 6
          · exact cse_int
        · refine sb_one ?_
          · refine css_ret ?_
            · refine cse_tup ?_
              · refine csa_cons ?_ ?_
                · exact cse_var 4
                · refine csa_cons ?_ ?_
                  · refine cse_tup ?_
                    · exact csa_nil
                  · exact csa_nil
        · exact csb_nil
      · refine sb_cons ?_ ?_
        · refine css_if ?_ ?_ ?_
          · refine cst_eq hr ?_ ?_
            · exact cse_var 6
            · exact cse_int
          · refine sb_one ?_
            · refine css_ret ?_
              · refine cse_tup ?_
                · refine csa_cons ?_ ?_
                  · refine cse_ix hr ?_ ?_
                    · refine cse_lst ?_
                      · refine csa_cons ?_ ?_
                        · exact cse_str
                        · refine csa_cons ?_ ?_
                          · exact cse_var 3
                          · refine csa_cons ?_ ?_
                            · refine cse_add ?_ ?_
                              · exact cse_var 2
                              · exact cse_str
                            · refine csa_cons ?_ ?_
                              · exact cse_str
                              · refine csa_cons ?_ ?_
                                · refine cse_add ?_ ?_
                                  · exact cse_var 2
                                  · exact cse_str
                                · refine csa_cons ?_ ?_
                                  · exact cse_int
                                  · exact csa_nil
                    · refine cse_call (ps := ps ._law_take) (mf := g ._law_take) (G ._law_take) hr tk (T.mg_ ._law_take) (T.kp ._law_take) (T.bd ._law_take) ?_
                      · refine csa_cons ?_ ?_
                        · exact cse_var 0
                        · refine csa_cons ?_ ?_
                          · exact cse_int
                          · exact csa_nil
                  · refine csa_cons ?_ ?_
                    · exact cse_var 5
                    · exact csa_nil
          · exact csb_nil
        · refine sb_cons ?_ ?_
          · refine css_if ?_ ?_ ?_
            · refine cst_eq hr ?_ ?_
              · exact cse_var 6
              · exact cse_int
            · refine sb_one ?_
              · refine css_ret ?_
                · refine cse_ix hr ?_ ?_
                  · refine cse_lst ?_
                    · refine csa_cons ?_ ?_
                      · refine cse_tup ?_
                        · refine csa_cons ?_ ?_
                          · exact cse_var 4
                          · refine csa_cons ?_ ?_
                            · refine cse_list T.b_list ?_
                              · refine csa_cons ?_ ?_
                                · exact cse_var 5
                                · exact csa_nil
                            · exact csa_nil
                      · refine csa_cons ?_ ?_
                        · refine cse_tup ?_
                          · refine csa_cons ?_ ?_
                            · exact cse_var 4
                            · exact csa_nil
                        · refine csa_cons ?_ ?_
                          · refine cse_tup ?_
                            · refine csa_cons ?_ ?_
                              · exact cse_var 4
                              · refine csa_cons ?_ ?_
                                · refine cse_tup ?_
                                  · exact csa_nil
                                · refine csa_cons ?_ ?_
                                  · exact cse_var 5
                                  · exact csa_nil
                          · refine csa_cons ?_ ?_
                            · refine cse_lst ?_
                              · refine csa_cons ?_ ?_
                                · exact cse_var 4
                                · refine csa_cons ?_ ?_
                                  · exact cse_var 5
                                  · exact csa_nil
                            · refine csa_cons ?_ ?_
                              · exact cse_var 5
                              · exact csa_nil
                  · refine cse_call (ps := ps ._law_take) (mf := g ._law_take) (G ._law_take) hr tk (T.mg_ ._law_take) (T.kp ._law_take) (T.bd ._law_take) ?_
                    · refine csa_cons ?_ ?_
                      · exact cse_var 0
                      · refine csa_cons ?_ ?_
                        · exact cse_int
                        · exact csa_nil
            · exact csb_nil
          · refine sb_cons ?_ ?_
            · refine css_set 7 ?_ ?_
              · exact S.nd
              · refine cse_call (ps := ps ._law_take) (mf := g ._law_take) (G ._law_take) hr tk (T.mg_ ._law_take) (T.kp ._law_take) (T.bd ._law_take) ?_
                · refine csa_cons ?_ ?_
                  · exact cse_var 0
                  · refine csa_cons ?_ ?_
                    · refine cse_len T.b_len ?_
                      · refine csa_cons ?_ ?_
                        · exact cse_var 5
                        · exact csa_nil
                    · exact csa_nil
            · refine sb_one ?_
              · refine css_ret ?_
                · refine cse_tup ?_
                  · refine csa_cons ?_ ?_
                    · exact cse_var 4
                    · refine csa_cons ?_ ?_
                      · refine cse_add ?_ ?_
                        · refine cse_add ?_ ?_
                          · refine cse_slice ?_ ?_ ?_
                            · exact cse_var 5
                            · exact csp_none
                            · refine csp_some ?_
                              · exact cse_var 7
                          · refine cse_tup ?_
                            · refine csa_cons ?_ ?_
                              · refine cse_call (ps := ps ._law_bad_line) (mf := g ._law_bad_line) (G ._law_bad_line) hr tk (T.mg_ ._law_bad_line) (T.kp ._law_bad_line) (T.bd ._law_bad_line) ?_
                                · refine csa_cons ?_ ?_
                                  · exact cse_var 0
                                  · refine csa_cons ?_ ?_
                                    · refine cse_ix hr ?_ ?_
                                      · exact cse_var 5
                                      · exact cse_var 7
                                    · refine csa_cons ?_ ?_
                                      · exact cse_var 2
                                      · refine csa_cons ?_ ?_
                                        · exact cse_var 3
                                        · exact csa_nil
                              · exact csa_nil
                        · refine cse_slice ?_ ?_ ?_
                          · exact cse_var 5
                          · refine csp_some ?_
                            · refine cse_add ?_ ?_
                              · exact cse_var 7
                              · exact cse_int
                          · exact csp_none
                      · exact csa_nil
theorem S__law_other : FnScope ["feed", "surface", "small", "datas", "defs", "found"] (ps ._law_other) (defScope s__law_other) := ⟨rfl, rfl, rfl, by decide +kernel, rfl, by decide +kernel, by decide +kernel⟩
theorem d__law_other (T : Tok P w K mg base cx fa fd) {g : Fn → List A → M A} {k : Nat} (hk : 2 ≤ k) (G : ∀ i, FnM P w K mg base k (fa i) (fd i) (ps i) (g i)) : FnM P w K mg base (k + 1) (fa ._law_other) (fd ._law_other) (ps ._law_other) (runBody 6 (m__law_other cx fa g)) := by
  have S := S__law_other
  refine fnM_of (T.fn ._law_other) S fun cdv A outer s H E hr tk => ?_
  refine sb_cons ?_ ?_
  · refine css_asg (T := ([3] ++ ([4] ++ []))) ?_ ?_
    · exact cse_var 1
    · refine sg_tup rfl ?_
      · refine sgs_cons ?_ ?_
        · refine sg_name 3 ?_
          · exact S.nd
        · refine sgs_cons ?_ ?_
          · refine sg_name 4 ?_
            · exact S.nd
          · exact sgs_nil
  · refine sb_cons ?_ ?_
    · refine css_set 5 ?_ ?_
      · exact S.nd
      · refine cse_lst ?_
        · refine csa_cons ?_ ?_
          · exact cse_non
          · refine csa_cons ?_ ?_
            · exact cse_int
            · refine csa_cons ?_ ?_
              · exact cse_var 2
              · refine csa_cons ?_ ?_
                · refine cse_lst ?_
                  · exact csa_nil
                · refine csa_cons ?_ ?_
                  · refine cse_tup ?_
                    · exact csa_nil
                  · refine csa_cons ?_ ?_
                    · refine cse_tup ?_
                      · refine csa_cons ?_ ?_
                        · exact cse_var 3
                        · exact csa_nil
                    · refine csa_cons ?_ ?_
                      · refine cse_tup ?_
                        · refine csa_cons ?_ ?_
                          · exact cse_var 3
                          · refine csa_cons ?_ ?_
                            · exact cse_var 4
                            · refine csa_cons ?_ ?_
                              · exact cse_var 4
                              · exact csa_nil
                      · refine csa_cons ?_ ?_
                        · refine cse_lst ?_
                          · refine csa_cons ?_ ?_
                            · exact cse_var 3
                            · refine csa_cons ?_ ?_
                              · exact cse_var 4
                              · exact csa_nil
                        · refine csa_cons ?_ ?_
                          · refine cse_tup ?_
                            · refine csa_cons ?_ ?_
                              · refine cse_list T.b_list ?_
                                · refine csa_cons ?_ ?_
                                  · exact cse_var 3
                                  · exact csa_nil
                              · refine csa_cons ?_ ?_
                                · exact cse_var 4
                                · exact csa_nil
                          · exact csa_nil
    · refine sb_cons ?_ ?_
      · refine css_set 5 ?_ ?_
        · exact S.nd
        · refine cse_add ?_ ?_
          · exact cse_var 5
          · refine cse_lst ?_
            · refine csa_cons ?_ ?_
              · refine cse_tup ?_
                · refine csa_cons ?_ ?_
                  · exact cse_var 3
                  · refine csa_cons ?_ ?_
                    · refine cse_list T.b_list ?_
                      · refine csa_cons ?_ ?_
                        · exact cse_var 4
                        · exact csa_nil
                    · exact csa_nil
              · refine csa_cons ?_ ?_
                · refine cse_tup ?_
                  · refine csa_cons ?_ ?_
                    · exact cse_var 3
                    · refine csa_cons ?_ ?_
                      · refine cse_ix hr ?_ ?_
                        · exact cse_var 4
                        · exact cse_int
                      · exact csa_nil
                · refine csa_cons ?_ ?_
                  · refine cse_tup ?_
                    · refine csa_cons ?_ ?_
                      · refine cse_add ?_ ?_
                        · exact cse_var 3
                        · refine cse_tup ?_
                          · refine csa_cons ?_ ?_
                            · refine cse_tup ?_
                              · refine csa_cons ?_ ?_
                                · exact cse_var 2
                                · refine csa_cons ?_ ?_
                                  · refine cse_tup ?_
                                    · exact csa_nil
                                  · refine csa_cons ?_ ?_
                                    · refine cse_tup ?_
                                      · exact csa_nil
                                    · exact csa_nil
                            · exact csa_nil
                      · refine csa_cons ?_ ?_
                        · exact cse_var 4
                        · exact csa_nil
                  · refine csa_cons ?_ ?_
                    · refine cse_tup ?_
                      · refine csa_cons ?_ ?_
                        · exact cse_var 3
                        · refine csa_cons ?_ ?_
                          · exact cse_dnew
                          · exact csa_nil
                    · refine csa_cons ?_ ?_
                      · exact cse_bl
                      · exact csa_nil
      · refine sb_cons ?_ ?_
        · refine css_set 5 ?_ ?_
          · exact S.nd
          · refine cse_add ?_ ?_
            · exact cse_var 5
            · refine cse_lst ?_
              · refine csa_cons ?_ ?_
                · refine cse_tup ?_
                  · refine csa_cons ?_ ?_
                    · refine cse_add ?_ ?_
                      · exact cse_var 3
                      · refine cse_tup ?_
                        · refine csa_cons ?_ ?_
                          · refine cse_tup ?_
                            · refine csa_cons ?_ ?_
                              · exact cse_str
                              · refine csa_cons ?_ ?_
                                · refine cse_tup ?_
                                  · exact csa_nil
                                · refine csa_cons ?_ ?_
                                  · refine cse_tup ?_
                                    · exact csa_nil
                                  · exact csa_nil
                          · exact csa_nil
                    · refine csa_cons ?_ ?_
                      · exact cse_var 4
                      · exact csa_nil
                · refine csa_cons ?_ ?_
                  · refine cse_tup ?_
                    · refine csa_cons ?_ ?_
                      · refine cse_add ?_ ?_
                        · exact cse_var 3
                        · refine cse_tup ?_
                          · refine csa_cons ?_ ?_
                            · refine cse_tup ?_
                              · refine csa_cons ?_ ?_
                                · exact cse_str
                                · refine csa_cons ?_ ?_
                                  · refine cse_tup ?_
                                    · refine csa_cons ?_ ?_
                                      · exact cse_var 2
                                      · exact csa_nil
                                  · refine csa_cons ?_ ?_
                                    · refine cse_tup ?_
                                      · refine csa_cons ?_ ?_
                                        · refine cse_tup ?_
                                          · refine csa_cons ?_ ?_
                                            · exact cse_str
                                            · exact csa_nil
                                        · exact csa_nil
                                    · exact csa_nil
                            · exact csa_nil
                      · refine csa_cons ?_ ?_
                        · exact cse_var 4
                        · exact csa_nil
                  · exact csa_nil
        · refine sb_one ?_
          · refine css_ret ?_
            · refine cse_ix hr ?_ ?_
              · exact cse_var 5
              · refine cse_call (ps := ps ._law_take) (mf := g ._law_take) (G ._law_take) hr tk (T.mg_ ._law_take) (T.kp ._law_take) (T.bd ._law_take) ?_
                · refine csa_cons ?_ ?_
                  · exact cse_var 0
                  · refine csa_cons ?_ ?_
                    · refine cse_len T.b_len ?_
                      · refine csa_cons ?_ ?_
                        · exact cse_var 5
                        · exact csa_nil
                    · exact csa_nil
end
end Tx

namespace Tx
open PySem PySem.Spec PyProof.Rows L2 Lt
variable {cx : Cxp} {fa : Fn → Addr}
section
variable {P : Program} {w : World} {K : PySem.W.Frag} {mg : Str → Option Value} {base : Heap} {fd : Fn → FuncData}
theorem all (T : Tok P w K mg base cx fa fd) : ∀ (d : Nat) (i : Fn), FnM P w K mg base (d + 2) (fa i) (fd i) (ps i) (fns cx fa d i)
  | 0, i => fnM_bad
  | d + 1, .is_all_small => d_is_all_small T (Nat.le_add_left 2 d) (all T d)
  | d + 1, .is_small => d_is_small T (Nat.le_add_left 2 d) (all T d)
  | d + 1, .is_great => d_is_great T (Nat.le_add_left 2 d) (all T d)
  | d + 1, .are_small => d_are_small T (Nat.le_add_left 2 d) (all T d)
  | d + 1, .are_unlike => d_are_unlike T (Nat.le_add_left 2 d) (all T d)
  | d + 1, .is_count => d_is_count T (Nat.le_add_left 2 d) (all T d)
  | d + 1, .is_part => d_is_part T (Nat.le_add_left 2 d) (all T d)
  | d + 1, .are_parts => d_are_parts T (Nat.le_add_left 2 d) (all T d)
  | d + 1, .is_way => d_is_way T (Nat.le_add_left 2 d) (all T d)
  | d + 1, .are_ways => d_are_ways T (Nat.le_add_left 2 d) (all T d)
  | d + 1, .is_op => d_is_op T (Nat.le_add_left 2 d) (all T d)
  | d + 1, .fits => d_fits T (Nat.le_add_left 2 d) (all T d)
  | d + 1, .is_term => d_is_term T (Nat.le_add_left 2 d) (all T d)
  | d + 1, .are_kinds => d_are_kinds T (Nat.le_add_left 2 d) (all T d)
  | d + 1, .is_kind => d_is_kind T (Nat.le_add_left 2 d) (all T d)
  | d + 1, .is_maker => d_is_maker T (Nat.le_add_left 2 d) (all T d)
  | d + 1, .is_data => d_is_data T (Nat.le_add_left 2 d) (all T d)
  | d + 1, .is_pattern => d_is_pattern T (Nat.le_add_left 2 d) (all T d)
  | d + 1, .are_patterns => d_are_patterns T (Nat.le_add_left 2 d) (all T d)
  | d + 1, .is_line => d_is_line T (Nat.le_add_left 2 d) (all T d)
  | d + 1, .is_surface_def => d_is_surface_def T (Nat.le_add_left 2 d) (all T d)
  | d + 1, .is_surface => d_is_surface T (Nat.le_add_left 2 d) (all T d)
  | d + 1, ._law_feed => d__law_feed T (Nat.le_add_left 2 d) (all T d)
  | d + 1, ._law_take => d__law_take T (Nat.le_add_left 2 d) (all T d)
  | d + 1, ._law_word => d__law_word T (Nat.le_add_left 2 d) (all T d)
  | d + 1, ._law_unlike => d__law_unlike T (Nat.le_add_left 2 d) (all T d)
  | d + 1, ._law_names => d__law_names T (Nat.le_add_left 2 d) (all T d)
  | d + 1, ._law_renamed => d__law_renamed T (Nat.le_add_left 2 d) (all T d)
  | d + 1, ._law_datas => d__law_datas T (Nat.le_add_left 2 d) (all T d)
  | d + 1, ._law_makers => d__law_makers T (Nat.le_add_left 2 d) (all T d)
  | d + 1, ._law_number => d__law_number T (Nat.le_add_left 2 d) (all T d)
  | d + 1, ._law_pattern => d__law_pattern T (Nat.le_add_left 2 d) (all T d)
  | d + 1, ._law_guard => d__law_guard T (Nat.le_add_left 2 d) (all T d)
  | d + 1, ._law_body => d__law_body T (Nat.le_add_left 2 d) (all T d)
  | d + 1, ._law_line => d__law_line T (Nat.le_add_left 2 d) (all T d)
  | d + 1, ._law_ways => d__law_ways T (Nat.le_add_left 2 d) (all T d)
  | d + 1, ._law_nodes_at_most => d__law_nodes_at_most T (Nat.le_add_left 2 d) (all T d)
  | d + 1, ._law_lines => d__law_lines T (Nat.le_add_left 2 d) (all T d)
  | d + 1, ._law_kinds => d__law_kinds T (Nat.le_add_left 2 d) (all T d)
  | d + 1, ._law_olds => d__law_olds T (Nat.le_add_left 2 d) (all T d)
  | d + 1, ._law_named => d__law_named T (Nat.le_add_left 2 d) (all T d)
  | d + 1, ._law_two => d__law_two T (Nat.le_add_left 2 d) (all T d)
  | d + 1, ._law_fresh => d__law_fresh T (Nat.le_add_left 2 d) (all T d)
  | d + 1, ._law_bad_pattern => d__law_bad_pattern T (Nat.le_add_left 2 d) (all T d)
  | d + 1, ._law_bad_term => d__law_bad_term T (Nat.le_add_left 2 d) (all T d)
  | d + 1, ._law_bad_line => d__law_bad_line T (Nat.le_add_left 2 d) (all T d)
  | d + 1, ._law_bad_def => d__law_bad_def T (Nat.le_add_left 2 d) (all T d)
  | d + 1, ._law_other => d__law_other T (Nat.le_add_left 2 d) (all T d)
  | d + 1, ._law_wide => d__law_wide T (Nat.le_add_left 2 d) (all T d)
  | d + 1, .law => d_law T (Nat.le_add_left 2 d) (all T d)
end
end Tx


namespace Tx
open PySem PySem.Spec PyProof.Rows L2 Lt TL
/-! ### the draws -/
/-- the feed stands at h -/
def FeedOk (h : Nat) (b : Int) (μ : Sto) : Prop := ∃ (s : Int) (rest : List Int), μ[h]? = some (.lst (.int s :: rest.map Lt.A.int)) ∧ 0 ≤ s ∧ s ≤ b
/-- all but hs stays -/
def Ext (hs : List Nat) (μ μ' : Sto) : Prop := μ.length ≤ μ'.length ∧ ∀ i, i < μ.length → i ∉ hs → μ'[i]? = μ[i]?
theorem Ext.refl {hs : List Nat} {μ : Sto} : Ext hs μ μ := ⟨Nat.le_refl _, fun _ _ _ => rfl⟩
theorem Ext.trans {hs : List Nat} {μ μ1 μ2 : Sto} (a : Ext hs μ μ1) (b : Ext hs μ1 μ2) : Ext hs μ μ2 := ⟨Nat.le_trans a.1 b.1, fun i h n => (b.2 i (Nat.lt_of_lt_of_le h a.1) n).trans (a.2 i h n)⟩
theorem Ext.set {hs : List Nat} {h : Nat} {μ : Sto} {m : Mu} (hh : h ∈ hs) : Ext hs μ (μ.set h m) := ⟨by rw [List.length_set]; exact Nat.le_refl _, fun i _ n => List.getElem?_set_ne fun e => n (by rw [← e]; exact hh)⟩
theorem Ext.app {hs : List Nat} {μ more : Sto} : Ext hs μ (μ ++ more) := ⟨by rw [List.length_append]; exact Nat.le_add_right _ _, fun i h _ => List.getElem?_append_left h⟩
theorem Ext.get {hs : List Nat} {μ μ' : Sto} {i : Nat} {m : Mu} (e : Ext hs μ μ') (h : μ[i]? = some m) (n : i ∉ hs) : μ'[i]? = some m := (e.2 i (List.getElem?_eq_some_iff.mp h).1 n).trans h
theorem FeedOk.lt {h : Nat} {b : Int} {μ : Sto} (f : FeedOk h b μ) : h < μ.length := by
  obtain ⟨s, rest, e, _⟩ := f
  exact (List.getElem?_eq_some_iff.mp e).1
theorem FeedOk.mono {h : Nat} {b c : Int} {μ : Sto} (f : FeedOk h b μ) (l : b ≤ c) : FeedOk h c μ := by
  obtain ⟨s, rest, e, h0, h1⟩ := f
  exact ⟨s, rest, e, h0, Int.le_trans h1 l⟩
theorem FeedOk.app {h : Nat} {b : Int} {μ more : Sto} (f : FeedOk h b μ) : FeedOk h b (μ ++ more) := by
  obtain ⟨s, rest, e, h0, h1⟩ := f
  exact ⟨s, rest, (List.getElem?_append_left (List.getElem?_eq_some_iff.mp e).1).trans e, h0, h1⟩
theorem FeedOk.of {h : Nat} {b : Int} {μ μ' : Sto} {hs : List Nat} (f : FeedOk h b μ) (e : Ext hs μ μ') (n : h ∉ hs) : FeedOk h b μ' := by
  obtain ⟨s, rest, e', h0, h1⟩ := f
  exact ⟨s, rest, e.get e' n, h0, h1⟩
section
variable {cx : Cxp} {fa : Fn → Addr} {g : Fn → List Lt.A → M Lt.A}
theorem take_ok {h : Nat} {b m : Int} {μ : Sto} (hf : FeedOk h b μ) (hb : b < 2 ^ 62) (hm : 0 < m) :
    gives (runBody 3 (m__law_take cx fa g) [.hd h, .int m] μ) fun r μ' => ∃ k : Int, r = .int k ∧ 0 ≤ k ∧ k < m ∧ FeedOk h (b + 1) μ' ∧ Ext [h] μ μ' := by
  obtain ⟨s, rest, e, h0, h1⟩ := hf
  have e0 : startE 3 [Lt.A.hd h, .int m] = [some (.hd h), some (.int m), none] := rfl
  rw [w_run, e0]
  unfold m__law_take
  by_cases hr : rest = []
  · subst hr
    have e1 : (μ.set h (.lst [.int (s + 1)]))[h]? = some (.lst [.int (s + 1)]) := List.getElem?_set_self (List.getElem?_eq_some_iff.mp e).1
    have m1 : ∀ i : Int, 0 ≤ i → i < 2 ^ 63 → ∀ j : Int, CMul i j := fun i a c j => .inl ⟨by omega, by omega⟩
    have hx := e1
    simp only [List.map_nil] at e
    simp [w_lenH e, w_ixH e, w_setL e, w_ixH e1]
    have b1 : 0 ≤ ((s + 1) * (s + 1) * (s + 1) + (s + 1) * 69621) % 2147483647 := Int.emod_nonneg _ (by decide)
    have b2 : ((s + 1) * (s + 1) * (s + 1) + (s + 1) * 69621) % 2147483647 < 2147483647 := Int.emod_lt_of_pos _ (by decide)
    refine ⟨m1 _ (by omega) (by omega) _, .inr ⟨by omega, by omega⟩, m1 _ (by omega) (by omega) _, m1 _ b1 (by omega) _, ⟨by decide, by decide⟩, ⟨by decide, by decide⟩, hm, Int.emod_nonneg _ (by omega), Int.emod_lt_of_pos _ hm, ⟨s + 1, [], e1, by omega, by omega⟩, Ext.set (List.mem_singleton_self h)⟩
  · obtain ⟨ys, y, rfl⟩ : ∃ ys y, rest = ys ++ [y] := ⟨_, _, (List.dropLast_concat_getLast hr).symm⟩
    have e' : μ[h]? = some (.lst ((.int s :: ys.map Lt.A.int) ++ [.int y])) := by rw [e]; simp
    have hl : (1 : Int) < ys.length + 1 + 1 := by omega
    simp [w_lenH e, w_itemsL e, w_pop e', hl]
    exact ⟨hm, Int.emod_nonneg _ (by omega), Int.emod_lt_of_pos _ hm, ⟨s, ys, List.getElem?_set_self (List.getElem?_eq_some_iff.mp e).1, h0, by omega⟩, Ext.set (List.mem_singleton_self h)⟩
theorem take_fns {fa : Fn → Addr} {d h : Nat} {b m : Int} {μ : Sto} (hf : FeedOk h b μ) (hb : b < 2 ^ 62) (hm : 0 < m) :
    gives (fns cx fa (d + 1) ._law_take [.hd h, .int m] μ) fun r μ' => ∃ k : Int, r = .int k ∧ 0 ≤ k ∧ k < m ∧ FeedOk h (b + 1) μ' ∧ Ext [h] μ μ' := take_ok hf hb hm
/-- letters, so many -/
def chr (c : Nat) : Lt.A := .str ⟨#[c]⟩
theorem strs_chr : ∀ cs : List Nat, strsOf (cs.map chr) = some (cs.map fun c => ⟨#[c]⟩)
  | [] => rfl
  | c :: cs => by
    show (strsOf (cs.map chr)).map (_ :: ·) = _
    rw [strs_chr cs]
    rfl
theorem join_chr (cs : List Nat) : Txt.join ("" : Str) (cs.map fun c => (⟨#[c]⟩ : Str)) = ⟨cs.toArray⟩ := by
  have key : ∀ cs : List Nat, joinL [] (cs.map fun c => [c]) = cs := by
    intro cs
    induction cs with
    | nil => rfl
    | cons c cs ih =>
      cases cs with
      | nil => rfl
      | cons d ds =>
        show c :: joinL [] ((d :: ds).map fun c => [c]) = _
        rw [ih]
  have h := tl_join ("" : Str) (cs.map fun c => (⟨#[c]⟩ : Str))
  rw [join_eq]
  have e : (cs.map fun c => (⟨#[c]⟩ : Str)).map tl = cs.map fun c => [c] := by
    rw [List.map_map]
    rfl
  have e0 : tl ("" : Str) = [] := rfl
  rw [e, e0, key] at h
  have h2 : (Str.join ("" : Str) (cs.map fun c => (⟨#[c]⟩ : Str))).cps.toList = cs := h
  cases hj : Str.join ("" : Str) (cs.map fun c => (⟨#[c]⟩ : Str)) with
  | mk a =>
    rw [hj] at h2
    congr 1
    rw [← h2]
theorem word_ok {fa : Fn → Addr} {d h : Nat} {b n : Int} {L : Str} {μ : Sto} (hf : FeedOk h b μ) (hb : b < 2 ^ 61) (h0 : 0 ≤ n) (hn : n < 1000) (hL : 0 < L.length) (hL2 : L.length < 1000) :
    gives (fns cx fa (d + 2) ._law_word [.hd h, .str L, .int n] μ) fun r μ' => ∃ s : Str, r = .str s ∧ (s.length : Int) = n ∧ (∀ c ∈ s.cps.toList, c ∈ L.cps.toList) ∧ FeedOk h (b + 1000) μ' ∧ Ext [h] μ μ' := by
  have e0 : startE 4 [Lt.A.hd h, .str L, .int n] = [some (.hd h), some (.str L), some (.int n), none] := rfl
  show gives (runBody 4 (m__law_word cx fa (fns cx fa (d + 1))) _ μ) _
  rw [w_run, e0]
  unfold m__law_word
  have hz : L.length ≤ sizeLine := by rw [sizeLine_eq]; omega
  simp [w_strM]
  refine ⟨by omega, by rw [sizeLine_eq]; omega, ?_⟩
  refine gm (w_lc (I := fun as ys μ' => ∃ cs : List Nat, ys = cs.map chr ∧ cs.length + as.length = n.toNat ∧ (∀ c ∈ cs, c ∈ L.cps.toList) ∧ FeedOk h (b + cs.length) μ' ∧ Ext [h] μ μ') (KL := fun ys μ' => ∃ cs : List Nat, ys = cs.map chr ∧ cs.length = n.toNat ∧ (∀ c ∈ cs, c ∈ L.cps.toList) ∧ FeedOk h (b + cs.length) μ' ∧ Ext [h] μ μ') ?_ ?_ _ [] μ ⟨[], rfl, by simp, by simp, by simpa using hf, Ext.refl⟩) ?_
  · rintro a as ys μ1 ⟨cs, rfl, hc, hm, f1, x1⟩
    refine ⟨still_nil, ?_⟩
    simp
    refine ⟨hz, ?_⟩
    rw [List.length_cons] at hc
    refine gm (take_fns f1 (by omega) (by omega)) ?_
    rintro r μ2 ⟨k, rfl, k0, k1, f2, x2⟩
    simp
    refine ⟨hz, ?_⟩
    obtain ⟨c, hc1, hc2⟩ := atI_in (xs := L.cps.toList) k0 (by simpa [Str.length] using k1)
    refine ⟨c, hc1, cs ++ [c], by simp [chr], by simp; omega, ?_, ?_, x1.trans x2⟩
    · intro x hx
      rcases List.mem_append.mp hx with q | q
      · simpa using hm x q
      · rw [List.mem_singleton.mp q]; simpa using hc2
    · refine f2.mono ?_
      simp
      omega
  · rintro ys μ1 ⟨cs, rfl, hc, hm, f1, x1⟩
    exact ⟨still_nil, cs, rfl, by simpa using hc, hm, f1, x1⟩
  · rintro ys μ1 ⟨cs, e, hc, hm, f1, x1⟩
    rw [List.nil_append] at e
    subst e
    have hs : ((cs.map fun c => (⟨#[c]⟩ : Str)).map (·.length)).sum + (cs.map fun c => (⟨#[c]⟩ : Str)).length * ("" : Str).length ≤ 16777216 := by
      have e1 : ((cs.map fun c => (⟨#[c]⟩ : Str)).map (·.length)).sum = cs.length := by
        rw [List.map_map]
        clear hc hm f1 x1
        induction cs with
        | nil => rfl
        | cons c cs ih => simp at ih ⊢; rw [ih]; show 1 + _ = _; omega
      have e2 : ("" : Str).length = 0 := rfl
      rw [e1, e2]
      omega
    unfold joinF
    rw [w_bnd, strs_chr, w_optS, if_pos hs, join_chr, w_ret]
    exact ⟨⟨cs.toArray⟩, rfl, by simp [Str.length]; omega, by simpa using hm, f1.mono (by omega), x1⟩
/-- the numbers of a script, as pairs with their places -/
theorem pairs_mem : ∀ (ns : List Int) (k : Nat) (x : Lt.A), x ∈ pairsFrom k (ns.map Lt.A.int) → ∃ (i : Nat) (z : Int), x = .tup [.int (i : Nat), .int z] ∧ i < k + ns.length
  | [], _, x, h => by cases h
  | n :: ns, k, x, h => by
    rcases List.mem_cons.mp h with h | h
    · exact ⟨k, n, h, by simp⟩
    · obtain ⟨i, z, e, l⟩ := pairs_mem ns (k + 1) x h
      exact ⟨i, z, e, by simp; omega⟩
theorem cut63 (ns : List Int) (h : ns.length ≤ 63) : cutA (ns.map Lt.A.int) none (some 63) = ns.map Lt.A.int := by
  unfold cutA
  have e0 : HT.sIx (ns.map Lt.A.int).length 0 none = 0 := rfl
  have e1 : ns.length ≤ HT.sIx (ns.map Lt.A.int).length (ns.map Lt.A.int).length (some 63) := by
    rw [List.length_map]
    unfold HT.sIx
    simp
    omega
  rw [e0, List.drop_zero, Nat.sub_zero, List.take_of_length_le (Nat.le_trans (Nat.le_of_eq (List.length_map _)) e1)]
theorem feed_ok {fa : Fn → Addr} {d : Nat} {a : Lt.A} {ns : List Int} {μ : Sto} (hs : Scr a μ ns) (hn : ns.length ≤ 63) :
    gives (fns cx fa (d + 1) ._law_feed [a] μ) fun r μ' => ∃ h : Nat, r = .hd h ∧ FeedOk h (2 ^ 31) μ' := by
  have e0 : startE 7 [a] = [some a, none, none, none, none, none, none] := rfl
  show gives (runBody 7 (m__law_feed cx fa (fns cx fa d)) _ μ) _
  rw [w_run, e0]
  unfold m__law_feed
  simp
  have hsl : ∀ (μ1 : Sto) (K : Lt.A → Sto → Prop), (∃ more, μ1 = μ ++ more) → K (.hd μ1.length) (μ1 ++ [.lst (ns.map Lt.A.int)]) → gives (sliceA a none (some 63) μ1) K := by
    rintro μ1 K ⟨more, rfl⟩ k
    rcases hs with ⟨rfl, rfl⟩ | ⟨rfl, rfl⟩
    · show gives (alloc (.lst (cutA _ _ _)) _) _
      rw [cut63 ns hn]
      exact k
    · show gives (alloc (.lst (cutA _ _ _)) _) _
      rw [cut63 ns hn]
      exact k
  refine hsl _ _ ⟨_, rfl⟩ ?_
  have hf : (μ ++ [Mu.lst []] ++ [.lst (ns.map Lt.A.int)])[μ.length]? = some (.lst []) := by simp
  have hn1 : (μ ++ [Mu.lst []] ++ [.lst (ns.map Lt.A.int)])[(μ ++ [Mu.lst []]).length]? = some (.lst (ns.map Lt.A.int)) := by simp
  have en : (μ ++ [Mu.lst []]).length = μ.length + 1 := by simp
  rw [en] at hn1 ⊢
  generalize μ ++ [Mu.lst []] ++ [.lst (ns.map Lt.A.int)] = μ1 at hf hn1 ⊢
  generalize μ.length = f at hf hn1 ⊢
  rw [w_enumH hn1]
  refine f_for (I := fun as δ μ' => ∃ (st : Int) (o3 o4 o5 o6 : Option Lt.A) (xs : List Int) (k : Nat), δ = [some a, some (.int st), some (.hd f), o3, o4, o5, o6] ∧ 0 ≤ st ∧ st < 2 ^ 31 ∧ μ'[f]? = some (.lst (xs.map Lt.A.int)) ∧
    μ'[f + 1]? = some (.lst (ns.map Lt.A.int)) ∧ xs.length ≤ 60 * k ∧ k + as.length = ns.length ∧ ∀ x ∈ as, x ∈ pairsFrom 0 (ns.map Lt.A.int)) ?_ ?_ _ _ _ ⟨7, none, none, none, none, [], 0, rfl, by decide, by decide, hf, hn1, by simp, ?_, fun _ h => h⟩
  · rintro x as δ μ2 ⟨st, o3, o4, o5, o6, xs, k, rfl, s0, s1, e1, e2, hk, hl, hm⟩
    refine ⟨still_one e2, ?_⟩
    obtain ⟨i, z, rfl, hi⟩ := pairs_mem ns 0 x (hm x (List.mem_cons_self ..))
    have c1 : (0 : Int) ≤ (st * 69621 + z % 1000003 * 48271 + i * 40009) % 2147483645 := Int.emod_nonneg _ (by decide)
    have c2 : (st * 69621 + z % 1000003 * 48271 + i * 40009) % 2147483645 < 2147483645 := Int.emod_lt_of_pos _ (by decide)
    have c3 : (0 : Int) ≤ z % 1000003 := Int.emod_nonneg _ (by decide)
    have c4 : z % 1000003 < 1000003 := Int.emod_lt_of_pos _ (by decide)
    simp
    refine ⟨cmulL (by omega) (by omega), cmulL (by omega) (by omega), cmulL (by omega) (by omega), ⟨by decide, by decide, by decide⟩, ?_⟩
    refine ⟨fun _ => ?_, fun _ => ?_⟩
    all_goals
      refine f_for (I := fun as δ μ' => ∃ (left : Int) (o6 : Option Lt.A) (xs : List Int), δ = [some a, some (.int (1 + (st * 69621 + z % 1000003 * 48271 + i * 40009) % 2147483645)), some (.hd f), some (.int i), some (.int z), some (.int left), o6] ∧
        μ'[f]? = some (.lst (xs.map Lt.A.int)) ∧ μ'[f + 1]? = some (.lst (ns.map Lt.A.int)) ∧ xs.length + as.length ≤ 60 * (k + 1)) ?_ ?_ _ _ _ ⟨_, o6, xs, rfl, e1, e2, by simp; omega⟩
      · rintro x as' δ μ3 ⟨left, o6, xs, rfl, e1, e2, hk⟩
        refine ⟨still_nil, ?_⟩
        have hx : xs.length < sizeLine := by rw [sizeLine_eq]; rw [List.length_cons] at hl hk; omega
        by_cases h0 : 0 < left
        · have ef : (μ3.set f (.lst (xs.map Lt.A.int ++ [.int (left % 997)])))[f]? = some (.lst (xs.map Lt.A.int ++ [.int (left % 997)])) := List.getElem?_set_self (List.getElem?_eq_some_iff.mp e1).1
          simp [w_itemsL e1, w_append e1, hx, h0]
          refine ⟨⟨by decide, by decide⟩, xs ++ [left % 997], by rw [ef]; simp, ?_, ?_⟩
          · exact e2
          · rw [List.length_cons] at hk; simp; omega
        · simp [h0]
          refine ⟨xs, e1, e2, ?_⟩
          rw [List.length_cons] at hk; omega
      · rintro δ μ3 ⟨left, o6, xs, rfl, e1, e2, hk⟩
        refine ⟨still_nil, ?_⟩
        rw [List.length_cons] at hl
        exact ⟨_, ⟨_, _, _, _, rfl⟩, by omega, by omega, xs, e1, e2, k + 1, by simpa using hk, by omega, fun y hy => hm y (List.mem_cons_of_mem _ hy)⟩
  · rintro δ μ2 ⟨st, o3, o4, o5, o6, xs, k, rfl, s0, s1, e1, e2, hk, hl, _⟩
    refine ⟨still_one e2, ?_⟩
    have hx : 1 + xs.length ≤ sizeLine := by rw [sizeLine_eq]; rw [List.length_nil] at hl; omega
    have f1 : (μ2 ++ [Mu.lst [.int st]])[f]? = some (.lst (xs.map Lt.A.int)) := by rw [List.getElem?_append_left (List.getElem?_eq_some_iff.mp e1).1]; exact e1
    have f2 : (μ2 ++ [Mu.lst [.int st]] ++ [.lst (xs.map Lt.A.int).reverse])[μ2.length]? = some (.lst [.int st]) := by simp
    have f3 : (μ2 ++ [Mu.lst [.int st]] ++ [.lst (xs.map Lt.A.int).reverse])[(μ2 ++ [Mu.lst [Lt.A.int st]]).length]? = some (.lst (xs.map Lt.A.int).reverse) := by simp
    simp [-List.append_assoc, -List.length_append]
    refine ⟨by rw [sizeLine_eq]; decide, ?_⟩
    rw [w_rev f1, w_addH f2 f3]
    refine ⟨by simpa using hx, _, rfl, st, xs.reverse, ?_, s0, by omega⟩
    simp
  · simp [pairsFrom_len]
end
end Tx

namespace Tx
open PySem PySem.Spec PyProof.Rows L2 Lt TL
/-! ### general rules of runs -/
inductive F2 {α β : Type} (Q : α → β → Prop) : List α → List β → Prop
  | nil : F2 Q [] []
  | cons {a : α} {b : β} {as : List α} {bs : List β} : Q a b → F2 Q as bs → F2 Q (a :: as) (b :: bs)
theorem boolsOf_bl : ∀ bs : List Bool, boolsOf (bs.map Lt.A.bl) = some bs
  | [] => rfl
  | b :: bs => by
    show (boolsOf (bs.map Lt.A.bl)).map (b :: ·) = _
    rw [boolsOf_bl bs]
    rfl
theorem w_allF {bs : List Bool} {μ : Sto} {K : Lt.A → Sto → Prop} : gives (allF (bs.map Lt.A.bl) μ) K ↔ K (.bl (bs.all id)) μ := by
  unfold allF
  rw [w_bnd, boolsOf_bl, w_optS]
  exact Iff.rfl
/-- a comprehension, item by item: what each gives, what holds of the store behind so many -/
theorem lc_all {g : Lt.A → Lt.Env → M Lt.Env} {elt : Lt.Env → M Lt.A} {its : List Lt.A} {src : List (Nat × List Lt.A)} {δ : Lt.Env} (P : Nat → Sto → Prop) (Q : Lt.A → Lt.A → Prop) (hs : ∀ k μ, P k μ → (MIt.mk its src).still μ) {as : List Lt.A}
    (h : ∀ a ∈ as, ∀ k μ, P k μ → gives (g a δ μ) fun δ1 μ1 => gives (elt δ1 μ1) fun y μ2 => Q a y ∧ P (k + 1) μ2) :
    ∀ k μ, P k μ → gives (lcM g yesT elt ⟨its, src⟩ δ as μ) fun ys μ' => F2 Q as ys ∧ P (k + as.length) μ' := by
  induction as with
  | nil =>
    intro k μ p
    simp only [lcM, if_pos (hs k μ p)]
    exact ⟨.nil, p⟩
  | cons a as ih =>
    intro k μ p
    simp only [lcM, if_pos (hs k μ p)]
    rw [w_bnd, w_noX]
    refine gm (h a (List.mem_cons_self ..) k μ p) fun δ1 μ1 z => ?_
    rw [w_bnd, w_noX, w_yesT]
    show gives (bnd _ _ μ1) _
    rw [w_bnd, w_noX]
    refine gm z ?_
    rintro y μ2 ⟨q, p2⟩
    rw [w_bnd, w_noX]
    refine gm (ih (fun b hb => h b (List.mem_cons_of_mem _ hb)) (k + 1) μ2 p2) ?_
    rintro ys μ3 ⟨q2, p3⟩
    rw [w_ret]
    refine ⟨.cons q q2, ?_⟩
    rw [List.length_cons]
    have e : k + (as.length + 1) = k + 1 + as.length := by omega
    rw [e]
    exact p3
theorem f2_map {α β : Type} {f : α → β} : ∀ {as : List α} {ys : List β}, F2 (fun a y => y = f a) as ys → ys = as.map f
  | _, _, .nil => rfl
  | _, _, .cons e t => by rw [e, f2_map t]; rfl
theorem f2_len {α β : Type} {Q : α → β → Prop} : ∀ {as : List α} {ys : List β}, F2 Q as ys → ys.length = as.length
  | _, _, .nil => rfl
  | _, _, .cons _ t => by rw [List.length_cons, List.length_cons, f2_len t]
theorem f2_right {α β : Type} {Q : β → Prop} : ∀ {as : List α} {ys : List β}, F2 (fun _ y => Q y) as ys → ∀ y ∈ ys, Q y
  | _, _, .nil, y, h => by cases h
  | _, _, .cons q t, y, h => by
    rcases List.mem_cons.mp h with e | h
    · rw [e]; exact q
    · exact f2_right t y h
end Tx

namespace Tx
open PySem PySem.Spec PyProof.Rows L2 Lt TL
theorem lc_allN {g : Lt.A → Lt.Env → M Lt.Env} {elt : Lt.Env → M Lt.A} {its : List Lt.A} {src : List (Nat × List Lt.A)} {δ : Lt.Env} {N : Nat} (P : Nat → Sto → Prop) (Q : Lt.A → Lt.A → Prop) (hs : ∀ k μ, P k μ → (MIt.mk its src).still μ) {as : List Lt.A}
    (h : ∀ a ∈ as, ∀ k μ, k < N → P k μ → gives (g a δ μ) fun δ1 μ1 => gives (elt δ1 μ1) fun y μ2 => Q a y ∧ P (k + 1) μ2) :
    ∀ k μ, k + as.length ≤ N → P k μ → gives (lcM g yesT elt ⟨its, src⟩ δ as μ) fun ys μ' => F2 Q as ys ∧ P (k + as.length) μ' := by
  induction as with
  | nil =>
    intro k μ _ p
    simp only [lcM, if_pos (hs k μ p)]
    exact ⟨.nil, p⟩
  | cons a as ih =>
    intro k μ hk p
    rw [List.length_cons] at hk
    simp only [lcM, if_pos (hs k μ p)]
    rw [w_bnd, w_noX]
    refine gm (h a (List.mem_cons_self ..) k μ (by omega) p) fun δ1 μ1 z => ?_
    rw [w_bnd, w_noX, w_yesT]
    show gives (bnd _ _ μ1) _
    rw [w_bnd, w_noX]
    refine gm z ?_
    rintro y μ2 ⟨q, p2⟩
    rw [w_bnd, w_noX]
    refine gm (ih (fun b hb => h b (List.mem_cons_of_mem _ hb)) (k + 1) μ2 (by omega) p2) ?_
    rintro ys μ3 ⟨q2, p3⟩
    rw [w_ret]
    refine ⟨.cons q q2, ?_⟩
    rw [List.length_cons]
    have e : k + (as.length + 1) = k + 1 + as.length := by omega
    rw [e]
    exact p3
theorem sz {n : Nat} (h : n ≤ 100000) : n ≤ sizeLine := by rw [sizeLine_eq]; omega
@[simp] theorem w_iterT {xs : List Lt.A} {μ : Sto} {K : MIt → Sto → Prop} : gives (iterM (.tup xs) μ) K ↔ K ⟨xs, []⟩ μ := Iff.rfl
theorem w_iterH {n : Nat} {xs : List Lt.A} {μ : Sto} {K : MIt → Sto → Prop} (h : μ[n]? = some (.lst xs)) : gives (iterM (.hd n) μ) K ↔ K ⟨xs, [(n, xs)]⟩ μ := by
  unfold iterM
  rw [w_bnd, w_itemsH h]
  exact Iff.rfl
theorem w_ninD {μ : Sto} {h : Nat} {kvs : List (Key × Lt.A)} {s : Str} {K : Lt.A → Sto → Prop} (e : μ[h]? = some (.dic kvs)) : gives (ninA (.str s) (.hd h) μ) K ↔ K (.bl (!(lookA kvs (.inr s)).isSome)) μ := by
  unfold ninA inB
  simp only [e]
  exact Iff.rfl
theorem w_ixD {μ : Sto} {h : Nat} {kvs : List (Key × Lt.A)} {s : Str} {K : Lt.A → Sto → Prop} (e : μ[h]? = some (.dic kvs)) : gives (ixA (.hd h) (.str s) μ) K ↔ ∃ a, lookA kvs (.inr s) = some a ∧ K a μ := by
  unfold ixA
  simp only [e]
  exact w_opt
theorem w_alloc {m : Mu} {μ : Sto} {K : Lt.A → Sto → Prop} : gives (Lt.alloc m μ) K ↔ K (.hd μ.length) (μ ++ [m]) := Iff.rfl
theorem w_eqEt {μ : Sto} {xs : List Lt.A} {K : Lt.A → Sto → Prop} : gives (eqEA (.tup xs) (.tup []) μ) K ↔ K (.bl xs.isEmpty) μ := Iff.rfl
theorem w_neEt {μ : Sto} {xs : List Lt.A} {K : Lt.A → Sto → Prop} : gives (neEA (.tup xs) (.tup []) μ) K ↔ K (.bl (!xs.isEmpty)) μ := Iff.rfl
theorem Ext.sub {hs hs' : List Nat} {μ μ' : Sto} (e : Ext hs μ μ') (h : ∀ x ∈ hs, x ∈ hs') : Ext hs' μ μ' := ⟨e.1, fun i h1 h2 => e.2 i h1 fun z => h2 (h i z)⟩
theorem Ext.old {hs hs' : List Nat} {μ μ1 μ2 : Sto} (x : Ext hs' μ μ1) (e : Ext hs μ1 μ2) (h : ∀ i ∈ hs, i ∈ hs' ∨ μ.length ≤ i) : Ext hs' μ μ2 := by
  refine ⟨Nat.le_trans x.1 e.1, fun i h1 h2 => (e.2 i (Nat.lt_of_lt_of_le h1 x.1) fun z => ?_).trans (x.2 i h1 h2)⟩
  rcases h i z with q | q
  · exact h2 q
  · omega
theorem Ext.setNew {μ μ' : Sto} {i : Nat} {m : Mu} (x : Ext [] μ μ') (h : μ.length ≤ i) : Ext [] μ (μ'.set i m) := ⟨by rw [List.length_set]; exact x.1, fun j h1 h2 => (List.getElem?_set_ne (by omega)).trans (x.2 j h1 h2)⟩
/-! ### what is drawn -/
def KS : List Str := ["num", "Tri", "Row", "Duo", "Bool"]
def MK (k : Str) : List (Str × List Str) := if k = "Tri" then [("Lo", []), ("Mi", []), ("Hi", [])] else if k = "Row" then [("End", []), ("Cell", ["num", "Row"])] else if k = "Duo" then [("Two", ["num", "Tri"])] else [("False", []), ("True", [])]
def mkA (p : Str × List Str) : Lt.A := .tup [.str p.1, .tup (p.2.map Lt.A.str)]
def XS : List Str := ["xa", "xb", "xc", "xd", "xe", "xf"]
def BIG : Int := 100000000000000000000
theorem mk_ks {k : Str} {p : Str × List Str} (h : p ∈ MK k) : (∀ s ∈ p.2, s ∈ KS) ∧ p.2.length ≤ 2 := by
  unfold MK at h
  split at h
  · simp at h; rcases h with rfl | rfl | rfl <;> simp
  · split at h
    · simp at h; rcases h with rfl | rfl <;> simp [KS]
    · split at h
      · simp at h; subst h; simp [KS]
      · simp at h; rcases h with rfl | rfl <;> simp
theorem mk_pos {k : Str} : 0 < (MK k).length ∧ (MK k).length ≤ 3 := by
  unfold MK
  split
  · simp
  · split
    · simp
    · split <;> simp
def DPat : Nat → Str → Lt.A → Prop
  | 0, k, a => (∃ x ∈ XS, a = .tup [.str "name", .str x]) ∨ a = .tup [.str "any"] ∨ (k = "num" ∧ ∃ i : Int, 0 ≤ i ∧ i < BIG ∧ a = .tup [.str "num", .int i])
  | n + 1, k, a => ((∃ x ∈ XS, a = .tup [.str "name", .str x]) ∨ a = .tup [.str "any"] ∨ (k = "num" ∧ ∃ i : Int, 0 ≤ i ∧ i < BIG ∧ a = .tup [.str "num", .int i])) ∨
    (∃ x ∈ XS, ∃ p, DPat n k p ∧ a = .tup [.str "as", .str x, p]) ∨ ∃ (mk : Str × List Str) (ps : List Lt.A), k ≠ "num" ∧ mk ∈ MK k ∧ F2 (DPat n) mk.2 ps ∧ a = .tup [.str "make", .str mk.1, .tup ps]
section
variable {cx : Cxp} {fa : Fn → Addr}
theorem makers_ok {d : Nat} {k : Str} {μ : Sto} : gives (fns cx fa (d + 1) ._law_makers [.str k] μ) fun r μ' => r = .hd μ.length ∧ μ'[μ.length]? = some (.lst ((MK k).map mkA)) ∧ Ext [] μ μ' := by
  have e0 : startE 1 [Lt.A.str k] = [some (.str k)] := rfl
  show gives (runBody 1 (m__law_makers cx fa (fns cx fa d)) _ μ) _
  rw [w_run, e0]
  unfold m__law_makers
  have z0 : 0 ≤ sizeLine := sz (by decide)
  have z1 : 1 ≤ sizeLine := sz (by decide)
  have z2 : 2 ≤ sizeLine := sz (by decide)
  have z3 : 3 ≤ sizeLine := sz (by decide)
  by_cases h1 : k = "Tri"
  · simp [h1, z2, z3, z1]
    first | exact Ext.app | exact ⟨by simp [MK, mkA], Ext.app⟩ | exact ⟨_, rfl, by simp [MK, mkA], Ext.app⟩
  · by_cases h2 : k = "Row"
    · simp [h1, h2, z2, z3, z1]
      have h3 : ¬ (("Row" : Str) = "Tri") := by decide +kernel
      simp [h3]
      first | exact Ext.app | exact ⟨by simp [MK, mkA, h3], Ext.app⟩ | exact ⟨_, rfl, by simp [MK, mkA, h3], Ext.app⟩
    · by_cases h3 : k = "Duo"
      · have h4 : ¬ (("Duo" : Str) = "Tri") := by decide +kernel
        have h5 : ¬ (("Duo" : Str) = "Row") := by decide +kernel
        simp [h3, z2, z3, z1, h4, h5]
        first | exact Ext.app | exact ⟨by simp [MK, mkA, h4, h5], Ext.app⟩ | exact ⟨_, rfl, by simp [MK, mkA, h4, h5], Ext.app⟩
      · simp [h1, h2, h3, z2, z3, z1]
        first | exact Ext.app | exact ⟨by simp [MK, mkA, h1, h2, h3], Ext.app⟩ | exact ⟨_, rfl, by simp [MK, mkA, h1, h2, h3], Ext.app⟩
theorem number_ok {d h : Nat} {b : Int} {μ : Sto} (hf : FeedOk h b μ) (hb : b < 2 ^ 61) : gives (fns cx fa (d + 2) ._law_number [.hd h] μ) fun r μ' => ∃ i : Int, r = .int i ∧ 0 ≤ i ∧ i < BIG ∧ FeedOk h (b + 3) μ' ∧ Ext [h] μ μ' := by
  have e0 : startE 2 [Lt.A.hd h] = [some (.hd h), none] := rfl
  show gives (runBody 2 (m__law_number cx fa (fns cx fa (d + 1))) _ μ) _
  rw [w_run, e0]
  unfold m__law_number
  simp
  refine gm (take_fns hf (by omega) (by decide)) ?_
  rintro _ μ1 ⟨s, rfl, s0, s1, f1, x1⟩
  by_cases h1 : s < 4
  · simp [h1]
    refine gm (take_fns f1 (by omega) (by decide)) ?_
    rintro _ μ2 ⟨k, rfl, k0, k1, f2, x2⟩
    exact ⟨k, rfl, k0, by unfold BIG; omega, f2.mono (by omega), x1.trans x2⟩
  · by_cases h2 : s = 4
    · have p1 : CPow 10 19 := ⟨by decide, by decide, by decide⟩
      simp [h2, p1]
      refine gm (take_fns f1 (by omega) (by decide)) ?_
      rintro _ μ2 ⟨k, rfl, k0, k1, f2, x2⟩
      simp
      exact ⟨by omega, by unfold BIG; omega, f2.mono (by omega), x1.trans x2⟩
    · simp [h1, h2]
      refine gm (take_fns f1 (by omega) (by decide)) ?_
      rintro _ μ2 ⟨k, rfl, k0, k1, f2, x2⟩
      simp
      refine ⟨cmulL (by omega) (by omega), ?_⟩
      refine gm (take_fns f2 (by omega) (by decide)) ?_
      rintro _ μ3 ⟨j, rfl, j0, j1, f3, x3⟩
      simp
      exact ⟨by omega, by unfold BIG; omega, f3.mono (by omega), x1.trans (x2.trans x3)⟩
end
end Tx

namespace Tx
open PySem PySem.Spec PyProof.Rows L2 Lt TL
/-! ### names -/
def LOW : Str := "abcdefghijklmnopqrstuvwxyz"
def UPP : Str := "ABCDEFGHIJKLMNOPQRSTUVWXYZ"
def KEPT : List Str := ["data", "let", "in", "case", "of", "num"]
def lowB (cs : List Nat) : Bool := cs.all fun c => decide (c ∈ LOW.cps.toList)
def smallB (s : Str) : Bool := decide (1 ≤ s.length) && (decide (s.length ≤ 8) && (lowB s.cps.toList && !(KEPT.any fun t => t == s)))
def greatB (s : Str) : Bool := decide (1 ≤ s.length) && (decide (s.length ≤ 8) && ((s.cps.toList.take 1).all (fun c => decide (c ∈ UPP.cps.toList)) && lowB (s.cps.toList.drop 1)))
section
variable {cx : Cxp} {fa : Fn → Addr}
theorem low_run {d : Nat} {s : Str} {μ : Sto} (hs : s.length ≤ 1000) : gives (fns cx fa (d + 1) .is_all_small [.str s] μ) fun r μ' => r = .bl (lowB s.cps.toList) ∧ μ' = μ := by
  have e0 : startE 2 [Lt.A.str s] = [some (.str s), none] := rfl
  show gives (runBody 2 (m_is_all_small cx fa (fns cx fa d)) _ μ) _
  rw [w_run, e0]
  unfold m_is_all_small
  simp
  show gives (strIterM (.str s) μ) _
  unfold strIterM
  simp
  refine ⟨by unfold Lt.signs; rw [List.length_map]; exact sz (by unfold Str.length at hs; simpa using Nat.le_trans hs (by decide)), ?_⟩
  refine gm (lc_all (P := fun _ μ' => μ' = μ) (Q := fun a y => y = .bl (match a with | .str t => lowB t.cps.toList | _ => false)) (fun _ _ _ => still_nil) ?_ 0 μ rfl) ?_
  · intro a ha k μ1 e
    subst e
    unfold Lt.signs at ha
    obtain ⟨c, hc, rfl⟩ := List.mem_map.mp ha
    simp
    show gives (inA (.str ⟨#[c]⟩) (.str LOW) μ1) _
    show gives (Res.ok (Lt.A.bl (decide (c ∈ LOW.cps.toList))) μ1) _
    rw [w_ok]
    exact ⟨by simp [lowB], rfl⟩
  · rintro ys μ1 ⟨h, rfl⟩
    rw [f2_map h]
    have e : (Lt.signs s).map (fun a => Lt.A.bl (match a with | .str t => lowB t.cps.toList | _ => false)) = ((s.cps.toList.map fun c => decide (c ∈ LOW.cps.toList)).map Lt.A.bl) := by
      unfold Lt.signs
      rw [List.map_map, List.map_map]
      refine List.map_congr_left fun c _ => ?_
      simp [lowB]
    rw [e, w_allF]
    refine ⟨?_, rfl⟩
    unfold lowB
    rw [List.all_map]
    rfl
theorem str_of {s : Str} {c : Nat} (h : s.cps.toList = [c]) : s = ⟨#[c]⟩ := by
  cases s with
  | mk a =>
    congr 1
    exact Array.toList_inj.mp h
theorem small_run {d : Nat} {s : Str} {μ : Sto} (hs : s.length ≤ 1000) : gives (fns cx fa (d + 2) .is_small [.str s] μ) fun r μ' => r = .bl (smallB s) ∧ μ' = μ := by
  have e0 : startE 1 [Lt.A.str s] = [some (.str s)] := rfl
  show gives (runBody 1 (m_is_small cx fa (fns cx fa (d + 1))) _ μ) _
  rw [w_run, e0]
  unfold m_is_small
  have hz : s.length ≤ sizeLine := sz (by omega)
  simp [hz]
  refine ⟨fun h => ?_, fun h => ⟨fun h2 => ?_, fun h2 => ?_⟩⟩
  · have e : s.length = 0 := by omega
    unfold smallB
    simp [e]
  · unfold smallB
    have : ¬ s.length ≤ 8 := by omega
    simp [this]
  · refine gm (low_run (d := d) hs) ?_
    rintro r μ1 ⟨rfl, rfl⟩
    simp
    have h3 : 1 ≤ s.length := by omega
    have h4 : s.length ≤ 8 := by omega
    refine ⟨fun h5 => ?_, fun h5 => ?_⟩
    · unfold smallB
      show gives (ninA (.str s) (.tup [.str "data", .str "let", .str "in", .str "case", .str "of", .str "num"]) μ1) _
      unfold ninA
      show gives (Res.ok (Lt.A.bl (!([Lt.A.str "data", .str "let", .str "in", .str "case", .str "of", .str "num"].any fun y => eqF y (.str s)))) μ1) _
      rw [w_ok]
      refine ⟨?_, rfl⟩
      simp [h3, h4, h5, KEPT, eqF]
    · unfold smallB
      simp [h3, h4, h5]
theorem cutS_list (s : Str) (lo hi : Option Int) : (cutS s lo hi).cps.toList = (s.cps.toList.drop (HT.sIx s.length 0 lo)).take (HT.sIx s.length s.length hi - HT.sIx s.length 0 lo) := by
  unfold cutS
  simp [Array.toList_extract, Str.length, List.extract_eq_drop_take]
theorem great_run {d : Nat} {s : Str} {μ : Sto} (hs : s.length ≤ 1000) : gives (fns cx fa (d + 2) .is_great [.str s] μ) fun r μ' => r = .bl (greatB s) ∧ μ' = μ := by
  have e0 : startE 1 [Lt.A.str s] = [some (.str s)] := rfl
  show gives (runBody 1 (m_is_great cx fa (fns cx fa (d + 1))) _ μ) _
  rw [w_run, e0]
  unfold m_is_great
  have hz : s.length ≤ sizeLine := sz (by omega)
  simp [hz]
  refine ⟨fun h => ?_, fun h => ⟨fun h2 => ?_, fun h2 => ?_⟩⟩
  · have e : s.length = 0 := by omega
    unfold greatB
    simp [e]
  · unfold greatB
    have : ¬ s.length ≤ 8 := by omega
    simp [this]
  · have h3 : 1 ≤ s.length := by omega
    have h4 : s.length ≤ 8 := by omega
    cases hc : s.cps.toList with
    | nil =>
      have : s.length = 0 := by
        have := congrArg List.length hc
        simpa [Str.length] using this
      omega
    | cons c cs =>
      simp
      show gives (Res.ok (Lt.A.bl (decide (c ∈ UPP.cps.toList))) μ) _
      rw [w_ok]
      simp
      have hsl : sliceA (.str s) (some 1) none μ = .ok (.str (cutS s (some 1) none)) μ := by
        unfold sliceA
        simp [hz]
      have hcut : (cutS s (some 1) none).cps.toList = cs := by
        have h1 : HT.sIx s.length 0 (some 1) = 1 := by
          have e : HT.sIx s.length 0 (some ((1 : Nat) : Int)) = min 1 s.length := HT.sIx_nat _ _ 1
          exact e.trans (by omega)
        have h2 : HT.sIx s.length s.length none = s.length := rfl
        have h6 : cs.length + 1 = s.length := by
          have := congrArg List.length hc
          simpa [Str.length] using this.symm
        rw [cutS_list, h1, h2, hc, List.drop_succ_cons, List.drop_zero, List.take_of_length_le (by omega)]
      have hcl : (cutS s (some 1) none).length ≤ 1000 := by
        have e1 : cs.length + 1 = s.length := by
          have := congrArg List.length hc
          simpa [Str.length] using this.symm
        have : (cutS s (some 1) none).length = cs.length := by
          rw [← hcut]
          simp [Str.length]
        omega
      refine ⟨fun h5 => ?_, fun h5 => ?_⟩
      · rw [hsl, w_ok]
        refine gm (low_run (d := d) hcl) ?_
        rintro r μ1 ⟨rfl, rfl⟩
        refine ⟨?_, rfl⟩
        rw [hcut]
        unfold greatB
        simp [h3, h4, h5, hc]
      · unfold greatB
        simp [h3, h4, h5, hc]
end
end Tx

namespace Tx
open PySem PySem.Spec PyProof.Rows L2 Lt TL
section
variable {cx : Cxp} {fa : Fn → Addr}
/-- whatever the store grew to, a def says b of a value -/
def Chk (cx : Cxp) (fa : Fn → Addr) (μ0 : Sto) (d : Nat) (f : Fn) (a : Lt.A) (b : Bool) : Prop := ∀ (e : Nat) (μ : Sto), d ≤ e → Ext [] μ0 μ → gives (fns cx fa e f [a] μ) fun r μ' => r = .bl b ∧ Ext [] μ μ'
/-- its type -/
def Typ (μ0 : Sto) (a : Lt.A) (t : String) : Prop := ∀ μ, Ext [] μ0 μ → typA μ a = some t
theorem Chk.mono {μ0 : Sto} {d e : Nat} {f : Fn} {a : Lt.A} {b : Bool} (h : Chk cx fa μ0 d f a b) (l : d ≤ e) : Chk cx fa μ0 e f a b := fun n μ q x => h n μ (Nat.le_trans l q) x
theorem Chk.ext {μ0 μ1 : Sto} {d : Nat} {f : Fn} {a : Lt.A} {b : Bool} (h : Chk cx fa μ0 d f a b) (x : Ext [] μ0 μ1) : Chk cx fa μ1 d f a b := fun n μ q y => h n μ q (x.trans y)
theorem Typ.ext {μ0 μ1 : Sto} {a : Lt.A} {t : String} (h : Typ μ0 a t) (x : Ext [] μ0 μ1) : Typ μ1 a t := fun μ y => h μ (x.trans y)
theorem typ_tup {μ0 : Sto} {xs : List Lt.A} : Typ μ0 (.tup xs) "tuple" := fun _ _ => rfl
theorem typ_str {μ0 : Sto} {s : Str} : Typ μ0 (.str s) "str" := fun _ _ => rfl
theorem typ_int {μ0 : Sto} {i : Int} : Typ μ0 (.int i) "int" := fun _ _ => rfl
theorem typ_bl {μ0 : Sto} {i : Bool} : Typ μ0 (.bl i) "bool" := fun _ _ => rfl
theorem typ_non {μ0 : Sto} : Typ μ0 .non "NoneType" := fun _ _ => rfl
theorem typ_lst {μ0 : Sto} {n : Nat} {xs : List Lt.A} (h : μ0[n]? = some (.lst xs)) : Typ μ0 (.hd n) "list" := fun μ x => by
  unfold typA
  simp only [x.get h (List.not_mem_nil)]
theorem typ_dic {μ0 : Sto} {n : Nat} {xs : List (Key × Lt.A)} (h : μ0[n]? = some (.dic xs)) : Typ μ0 (.hd n) "dict" := fun μ x => by
  unfold typA
  simp only [x.get h (List.not_mem_nil)]
theorem Typ.isi {μ0 μ : Sto} {a : Lt.A} {t T : String} {b : Bool} {K : Lt.A → Sto → Prop} (h : Typ μ0 a t) (x : Ext [] μ0 μ) (k : kitB t T = some b) : gives (isiA T a μ) K ↔ K (.bl b) μ := w_isi (h μ x) k
/-! ### small things -/
theorem chk_small {μ0 : Sto} {s : Str} (hs : s.length ≤ 1000) : Chk cx fa μ0 2 .is_small (.str s) (smallB s) := fun e μ q _ => by
  obtain ⟨d, rfl⟩ : ∃ d, e = d + 2 := ⟨e - 2, by omega⟩
  refine gm (small_run hs) ?_
  rintro r μ' ⟨rfl, rfl⟩
  exact ⟨rfl, Ext.refl⟩
theorem chk_great {μ0 : Sto} {s : Str} (hs : s.length ≤ 1000) : Chk cx fa μ0 2 .is_great (.str s) (greatB s) := fun e μ q _ => by
  obtain ⟨d, rfl⟩ : ∃ d, e = d + 2 := ⟨e - 2, by omega⟩
  refine gm (great_run hs) ?_
  rintro r μ' ⟨rfl, rfl⟩
  exact ⟨rfl, Ext.refl⟩
theorem chk_small_no {μ0 : Sto} {a : Lt.A} {t : String} (h : Typ μ0 a t) (k : kitB t "str" = some false) : Chk cx fa μ0 1 .is_small a false := fun e μ q x => by
  obtain ⟨d, rfl⟩ : ∃ d, e = d + 1 := ⟨e - 1, by omega⟩
  have e0 : startE 1 [a] = [some a] := rfl
  show gives (runBody 1 (m_is_small cx fa (fns cx fa d)) _ μ) _
  rw [w_run, e0]
  unfold m_is_small
  simp [h.isi x k]
  exact Ext.refl
theorem chk_great_no {μ0 : Sto} {a : Lt.A} {t : String} (h : Typ μ0 a t) (k : kitB t "str" = some false) : Chk cx fa μ0 1 .is_great a false := fun e μ q x => by
  obtain ⟨d, rfl⟩ : ∃ d, e = d + 1 := ⟨e - 1, by omega⟩
  have e0 : startE 1 [a] = [some a] := rfl
  show gives (runBody 1 (m_is_great cx fa (fns cx fa d)) _ μ) _
  rw [w_run, e0]
  unfold m_is_great
  simp [h.isi x k]
  exact Ext.refl
theorem chk_count {μ0 : Sto} {i : Int} : Chk cx fa μ0 1 .is_count (.int i) (decide (0 ≤ i) && decide (i < 100000000000000000000)) := fun e μ q x => by
  obtain ⟨d, rfl⟩ : ∃ d, e = d + 1 := ⟨e - 1, by omega⟩
  have e0 : startE 1 [Lt.A.int i] = [some (.int i)] := rfl
  show gives (runBody 1 (m_is_count cx fa (fns cx fa d)) _ μ) _
  rw [w_run, e0]
  unfold m_is_count
  simp
  refine ⟨fun h => ⟨by simp [h], Ext.refl⟩, fun h => ⟨fun h2 => by omega, Ext.refl⟩⟩
theorem chk_count_bl {μ0 : Sto} {i : Bool} : Chk cx fa μ0 1 .is_count (.bl i) false := fun e μ q x => by
  obtain ⟨d, rfl⟩ : ∃ d, e = d + 1 := ⟨e - 1, by omega⟩
  have e0 : startE 1 [Lt.A.bl i] = [some (.bl i)] := rfl
  show gives (runBody 1 (m_is_count cx fa (fns cx fa d)) _ μ) _
  rw [w_run, e0]
  unfold m_is_count
  simp
  rw [(typ_bl (μ0 := μ)).isi Ext.refl (b := true) (by decide +kernel)]
  simp
  rw [(typ_bl (μ0 := μ)).isi Ext.refl (b := true) (by decide +kernel)]
  simp
  exact Ext.refl
theorem chk_count_no {μ0 : Sto} {a : Lt.A} {t : String} (h : Typ μ0 a t) (k : kitB t "int" = some false) : Chk cx fa μ0 1 .is_count a false := fun e μ q x => by
  obtain ⟨d, rfl⟩ : ∃ d, e = d + 1 := ⟨e - 1, by omega⟩
  have e0 : startE 1 [a] = [some a] := rfl
  show gives (runBody 1 (m_is_count cx fa (fns cx fa d)) _ μ) _
  rw [w_run, e0]
  unfold m_is_count
  simp [h.isi x k]
  exact Ext.refl
def OPL : List Str := ["+", "-", "*", "<", "=="]
theorem chk_op {μ0 : Sto} {s : Str} : Chk cx fa μ0 1 .is_op (.str s) (OPL.any fun t => t == s) := fun e μ q x => by
  obtain ⟨d, rfl⟩ : ∃ d, e = d + 1 := ⟨e - 1, by omega⟩
  have e0 : startE 1 [Lt.A.str s] = [some (.str s)] := rfl
  show gives (runBody 1 (m_is_op cx fa (fns cx fa d)) _ μ) _
  rw [w_run, e0]
  unfold m_is_op
  simp
  unfold inA
  show gives (Res.ok (Lt.A.bl ([Lt.A.str "+", .str "-", .str "*", .str "<", .str "=="].any fun y => eqF y (.str s))) μ) _
  rw [w_ok]
  exact ⟨by simp [OPL, eqF], Ext.refl⟩
/-! ### forms -/
abbrev Tab := List (Str × List Fn)
def tabM (fa : Fn → Addr) (t : Tab) : List Mu := t.map fun p => .lst (p.2.map fun f => Lt.A.fn (fa f))
def tabK : Tab → Nat → List (Key × Lt.A)
  | [], _ => []
  | p :: t, n => (.inr p.1, .hd n) :: tabK t (n + 1)
/-- a dict of forms stands at h -/
def FormsAt (fa : Fn → Addr) (μ : Sto) (h : Nat) (t : Tab) : Prop := ∃ kvs, μ[h]? = some (.dic kvs) ∧ ∀ s, match t.lookup s with
  | none => lookA kvs (.inr s) = none
  | some fs => ∃ n, lookA kvs (.inr s) = some (.hd n) ∧ μ[n]? = some (.lst (fs.map fun f => Lt.A.fn (fa f)))
theorem look_tab {μ : Sto} {s : Str} : ∀ (t : Tab) (n : Nat), (∀ i m, (tabM fa t)[i]? = some m → μ[n + i]? = some m) → match t.lookup s with
    | none => lookA (tabK t n) (.inr s) = none
    | some fs => ∃ n', lookA (tabK t n) (.inr s) = some (.hd n') ∧ μ[n']? = some (.lst (fs.map fun f => Lt.A.fn (fa f)))
  | [], n, _ => rfl
  | p :: t, n, h => by
    have ih := look_tab t (n + 1) (s := s) (μ := μ) (fun i m q => by
      have := h (i + 1) m (by simpa [tabM] using q)
      have e : n + 1 + i = n + (i + 1) := by omega
      rw [e]
      exact this)
    by_cases e : s = p.1
    · subst e
      have h0 := h 0 _ (by simp [tabM]; rfl)
      simp [List.lookup, lookA, tabK]
      simpa using h0
    · have e2 : (s == p.1) = false := by simp [e]
      have e3 : ¬ ((Sum.inr p.1 : Key) = .inr s) := fun z => e (Sum.inr.inj z).symm
      simp only [List.lookup, e2, lookA, tabK, List.find?_cons, e3, decide_false]
      exact ih
theorem forms_at {μ : Sto} {t : Tab} : FormsAt fa (μ ++ (tabM fa t ++ [.dic (tabK t μ.length)])) (μ.length + t.length) t := by
  have hl : (tabM fa t).length = t.length := by simp [tabM]
  refine ⟨tabK t μ.length, ?_, fun s => look_tab t μ.length fun i m q => ?_⟩
  · rw [List.getElem?_append_right (by omega), Nat.add_sub_cancel_left, List.getElem?_append_right (by omega), hl, Nat.sub_self]
    rfl
  · rw [List.getElem?_append_right (by omega), Nat.add_sub_cancel_left]
    exact get_app q
theorem FormsAt.ext {μ μ1 : Sto} {h : Nat} {t : Tab} (F : FormsAt fa μ h t) (x : Ext [] μ μ1) : FormsAt fa μ1 h t := by
  obtain ⟨kvs, h1, h2⟩ := F
  refine ⟨kvs, x.get h1 List.not_mem_nil, fun s => ?_⟩
  have q := h2 s
  cases e : t.lookup s with
  | none => rw [e] at q; exact q
  | some fs =>
    rw [e] at q
    obtain ⟨n, q1, q2⟩ := q
    exact ⟨n, q1, x.get q2 List.not_mem_nil⟩
/-- parts, one after the other -/
inductive ChkL (cx : Cxp) (fa : Fn → Addr) (μ0 : Sto) (d : Nat) : List Fn → List Lt.A → Bool → Prop
  | nil : ChkL cx fa μ0 d [] [] true
  | yes {f : Fn} {fs : List Fn} {a : Lt.A} {as : List Lt.A} {b : Bool} : Chk cx fa μ0 d f a true → ChkL cx fa μ0 d fs as b → ChkL cx fa μ0 d (f :: fs) (a :: as) b
  | no {f : Fn} {fs : List Fn} {a : Lt.A} {as : List Lt.A} : Chk cx fa μ0 d f a false → ChkL cx fa μ0 d (f :: fs) (a :: as) false
inductive FitB (cx : Cxp) (fa : Fn → Addr) (μ0 : Sto) (d : Nat) (t : Tab) : Lt.A → Bool → Prop
  | notTup {a : Lt.A} {ty : String} : Typ μ0 a ty → kitB ty "tuple" = some false → FitB cx fa μ0 d t a false
  | empty : FitB cx fa μ0 d t (.tup []) false
  | notStr {a : Lt.A} {xs : List Lt.A} {ty : String} : Typ μ0 a ty → kitB ty "str" = some false → FitB cx fa μ0 d t (.tup (a :: xs)) false
  | notIn {s : Str} {xs : List Lt.A} : t.lookup s = none → FitB cx fa μ0 d t (.tup (.str s :: xs)) false
  | len {s : Str} {xs : List Lt.A} {fs : List Fn} : t.lookup s = some fs → xs.length ≠ fs.length → FitB cx fa μ0 d t (.tup (.str s :: xs)) false
  | go {s : Str} {xs : List Lt.A} {fs : List Fn} {b : Bool} : t.lookup s = some fs → xs.length = fs.length → ChkL cx fa μ0 d fs xs b → FitB cx fa μ0 d t (.tup (.str s :: xs)) b
def Known (cx : Cxp) (fa : Fn → Addr) (f : Fn) : Prop := cx.fo (fa f) = some f ∧ (ps f).length = 1
end
end Tx

namespace Tx
open PySem PySem.Spec PyProof.Rows L2 Lt TL
section
variable {cx : Cxp} {fa : Fn → Addr}
theorem zipL_len : ∀ xs ys : List Lt.A, xs.length = ys.length → (zipL xs ys).length = xs.length
  | [], [], _ => rfl
  | [], _ :: _, h => by cases h
  | _ :: _, [], h => by cases h
  | x :: xs, y :: ys, h => by
    show (zipL xs ys).length + 1 = xs.length + 1
    rw [zipL_len xs ys (by simpa using h)]
theorem fits_ok {μ0 μ : Sto} {d e h : Nat} {t : Tab} {a : Lt.A} {b : Bool} (hk : ∀ s fs, t.lookup s = some fs → ∀ f ∈ fs, Known cx fa f) (c : FitB cx fa μ0 d t a b) (x : Ext [] μ0 μ) (F : FormsAt fa μ h t) (q : d + 1 ≤ e) :
    gives (fns cx fa e .fits [a, .hd h] μ) fun r μ' => r = .bl b ∧ Ext [] μ μ' := by
  obtain ⟨e, rfl⟩ : ∃ n, e = n + 1 := ⟨e - 1, by omega⟩
  have e0 : startE 7 [a, .hd h] = [some a, some (.hd h), none, none, none, none, none] := rfl
  show gives (runBody 7 (m_fits cx fa (fns cx fa e)) _ μ) _
  rw [w_run, e0]
  obtain ⟨kvs, hd, hl⟩ := F
  have z0 : 0 ≤ sizeLine := sz (by decide)
  cases c with
  | notTup h1 h2 =>
    unfold m_fits
    simp [h1.isi x h2]
    exact Ext.refl
  | empty =>
    unfold m_fits
    simp [w_eqEt]
    exact Ext.refl
  | notStr h1 h2 =>
    unfold m_fits
    simp [w_eqEt, h1.isi x h2]
    exact Ext.refl
  | @notIn s xs h1 =>
    have q := hl s
    rw [h1] at q
    unfold m_fits
    simp [w_eqEt, w_ninD hd, q]
    exact Ext.refl
  | @len s xs fs h1 h2 =>
    have q := hl s
    rw [h1] at q
    obtain ⟨n, q1, q2⟩ := q
    have l1 : (μ ++ [Mu.lst xs])[μ.length]? = some (.lst xs) := get_0
    have l2 : (μ ++ [Mu.lst xs])[n]? = some (.lst (fs.map fun f => Lt.A.fn (fa f))) := get_app q2
    have l3 : (μ ++ [Mu.lst xs])[h]? = some (.dic kvs) := get_app hd
    unfold m_fits
    simp [w_eqEt, w_ninD hd, q1]
    unfold starG Lt.alloc
    simp [w_ixD l3, q1, w_lenH l1, w_lenH l2]
    refine ⟨fun _ => Ext.app, fun h3 => absurd (by omega) h2⟩
  | @go s xs fs _ h1 h2 h3 =>
    have q := hl s
    rw [h1] at q
    obtain ⟨n, q1, q2⟩ := q
    have l1 : (μ ++ [Mu.lst xs])[μ.length]? = some (.lst xs) := get_0
    have l2 : (μ ++ [Mu.lst xs])[n]? = some (.lst (fs.map fun f => Lt.A.fn (fa f))) := get_app q2
    have l3 : (μ ++ [Mu.lst xs])[h]? = some (.dic kvs) := get_app hd
    unfold m_fits
    simp [w_eqEt, w_ninD hd, q1]
    unfold starG Lt.alloc
    simp [w_ixD l3, q1, w_lenH l1, w_lenH l2, h2]
    have hz : gives (zipM [.hd n, .hd μ.length] (μ ++ [Mu.lst xs])) fun mi μ' => mi = ⟨zipL (fs.map fun f => Lt.A.fn (fa f)) xs, [(n, fs.map fun f => Lt.A.fn (fa f)), (μ.length, xs)]⟩ ∧ μ' = μ ++ [Mu.lst xs] := by
      show gives (bnd _ _ _) _
      rw [w_bnd, w_itemsL l2]
      show gives (bnd _ _ _) _
      rw [w_bnd, w_itemsL l1]
      exact ⟨rfl, rfl⟩
    refine gm hz ?_
    rintro mi μ1 ⟨rfl, rfl⟩
    have hks := hk s fs h1
    generalize hμ1 : μ ++ [Mu.lst xs] = μ1 at l1 l2 l3 ⊢
    have x1 : Ext [] μ μ1 := by rw [← hμ1]; exact Ext.app
    refine f_for (I := fun as δ μ' => ∃ (fs' : List Fn) (xs' : List Lt.A) (o5 o6 : Option Lt.A), as = zipL (fs'.map fun f => Lt.A.fn (fa f)) xs' ∧ xs'.length = fs'.length ∧ ChkL cx fa μ0 d fs' xs' b ∧ (∀ f ∈ fs', Known cx fa f) ∧ Ext [] μ1 μ' ∧
      ∃ o2 o3 o4, δ = [some (.tup (.str s :: xs)), some (.hd h), o2, o3, o4, o5, o6]) ?_ ?_ _ _ _ ⟨fs, xs, none, none, rfl, h2, h3, hks, Ext.refl, _, _, _, rfl⟩
    · rintro a as δ μ2 ⟨fs', xs', o5, o6, ea, el, cl, hk', x2, o2, o3, o4, rfl⟩
      refine ⟨?_, ?_⟩
      · intro p hp
        rcases List.mem_cons.mp hp with rfl | hp
        · exact x2.get l2 List.not_mem_nil
        · rw [List.mem_singleton.mp hp]
          exact x2.get l1 List.not_mem_nil
      · cases cl with
        | nil => cases ea
        | @yes f fs' y xs' _ c1 c2 =>
          obtain ⟨rfl, rfl⟩ := List.cons.inj ea
          simp
          have kf := hk' f (List.mem_cons_self ..)
          show gives (optM (apF cx (fns cx fa e) (fa f)) μ2) _
          unfold apF
          rw [kf.1]
          show gives (optM (some _) μ2) _
          rw [w_optS]
          show gives (callM (ps f).length (fns cx fa e f) [y] μ2) _
          rw [kf.2]
          simp
          refine gm (c1 e μ2 (by omega) (x.trans (x1.trans x2))) ?_
          rintro r μ3 ⟨rfl, x3⟩
          simp
          exact ⟨fs', xs', rfl, by simpa using el, c2, fun f hf => hk' f (List.mem_cons_of_mem _ hf), x2.trans x3⟩
        | @no f fs' y xs' c1 =>
          obtain ⟨rfl, rfl⟩ := List.cons.inj ea
          simp
          have kf := hk' f (List.mem_cons_self ..)
          show gives (optM (apF cx (fns cx fa e) (fa f)) μ2) _
          unfold apF
          rw [kf.1]
          show gives (optM (some _) μ2) _
          rw [w_optS]
          show gives (callM (ps f).length (fns cx fa e f) [y] μ2) _
          rw [kf.2]
          simp
          refine gm (c1 e μ2 (by omega) (x.trans (x1.trans x2))) ?_
          rintro r μ3 ⟨rfl, x3⟩
          simp
          exact x1.trans (x2.trans x3)
    · rintro δ μ2 ⟨fs', xs', o5, o6, ea, el, cl, hk', x2, o2, o3, o4, rfl⟩
      refine ⟨?_, ?_⟩
      · intro p hp
        rcases List.mem_cons.mp hp with rfl | hp
        · exact x2.get l2 List.not_mem_nil
        · rw [List.mem_singleton.mp hp]
          exact x2.get l1 List.not_mem_nil
      · cases cl with
        | nil =>
          simp
          exact x1.trans x2
        | yes c1 c2 => cases ea
        | no c1 => cases ea
def termT : Tab := [("num", [.is_count]), ("name", [.is_small]), ("make", [.is_great]), ("app", [.is_term, .is_term]), ("fun", [.is_small, .is_term]), ("let", [.are_parts, .is_term]), ("case", [.is_term, .are_ways]), ("op", [.is_op, .is_term, .is_term])]
def kindT : Tab := [("num", []), ("var", [.is_small]), ("fun", [.is_kind, .is_kind]), ("data", [.is_great, .are_kinds])]
def patT : Tab := [("any", []), ("name", [.is_small]), ("num", [.is_count]), ("make", [.is_great, .are_patterns]), ("as", [.is_small, .is_pattern])]
theorem lookup_mem {s : Str} {fs : List Fn} : ∀ {t : Tab}, t.lookup s = some fs → ∃ p ∈ t, p.2 = fs
  | [], h => by cases h
  | p :: t, h => by
    simp only [List.lookup] at h
    split at h
    · cases h
      exact ⟨p, List.mem_cons_self .., rfl⟩
    · obtain ⟨q, h1, h2⟩ := lookup_mem h
      exact ⟨q, List.mem_cons_of_mem _ h1, h2⟩
theorem known (hF : FoOk cx fa) {f : Fn} (h : f = .is_count ∨ f = .is_small ∨ f = .is_great ∨ f = .is_term ∨ f = .are_parts ∨ f = .are_ways ∨ f = .is_op ∨ f = .is_kind ∨ f = .are_kinds ∨ f = .is_pattern ∨ f = .are_patterns) : Known cx fa f := by
  rcases h with rfl | rfl | rfl | rfl | rfl | rfl | rfl | rfl | rfl | rfl | rfl
  · exact ⟨hF.v_is_count, rfl⟩
  · exact ⟨hF.v_is_small, rfl⟩
  · exact ⟨hF.v_is_great, rfl⟩
  · exact ⟨hF.v_is_term, rfl⟩
  · exact ⟨hF.v_are_parts, rfl⟩
  · exact ⟨hF.v_are_ways, rfl⟩
  · exact ⟨hF.v_is_op, rfl⟩
  · exact ⟨hF.v_is_kind, rfl⟩
  · exact ⟨hF.v_are_kinds, rfl⟩
  · exact ⟨hF.v_is_pattern, rfl⟩
  · exact ⟨hF.v_are_patterns, rfl⟩
theorem known_tab (hF : FoOk cx fa) {t : Tab} (h : ∀ p ∈ t, ∀ f ∈ p.2, f = .is_count ∨ f = .is_small ∨ f = .is_great ∨ f = .is_term ∨ f = .are_parts ∨ f = .are_ways ∨ f = .is_op ∨ f = .is_kind ∨ f = .are_kinds ∨ f = .is_pattern ∨ f = .are_patterns) (s : Str) (fs : List Fn) (e : t.lookup s = some fs) : ∀ f ∈ fs, Known cx fa f := fun f hf => by
  obtain ⟨p, h1, h2⟩ := lookup_mem e
  subst h2
  exact known hF (h p h1 f hf)
theorem chk_pat (hF : FoOk cx fa) {μ0 : Sto} {d : Nat} {a : Lt.A} {b : Bool} (c : FitB cx fa μ0 d patT a b) : Chk cx fa μ0 (d + 2) .is_pattern a b := fun e μ q x => by
  obtain ⟨e, rfl⟩ : ∃ n, e = n + 1 := ⟨e - 1, by omega⟩
  have e0 : startE 1 [a] = [some a] := rfl
  show gives (runBody 1 (m_is_pattern cx fa (fns cx fa e)) _ μ) _
  rw [w_run, e0]
  unfold m_is_pattern
  have z0 : 0 ≤ sizeLine := sz (by decide)
  have z1 : 1 ≤ sizeLine := sz (by decide)
  have z2 : 2 ≤ sizeLine := sz (by decide)
  have z3 : 3 ≤ sizeLine := sz (by decide)
  simp [z0, z1, z2, z3]
  unfold dispM
  simp
  have F := forms_at (fa := fa) (μ := μ) (t := patT)
  simp only [tabM, tabK, patT, List.map_cons, List.map_nil, List.cons_append, List.nil_append, List.length_cons, List.length_nil] at F
  have hm : ∀ m : Nat, mergeA [] [((.inr "any" : Key), Lt.A.hd (m)), ((.inr "name" : Key), Lt.A.hd (m + 1)), ((.inr "num" : Key), Lt.A.hd (m + 1 + 1)), ((.inr "make" : Key), Lt.A.hd (m + 1 + 1 + 1)), ((.inr "as" : Key), Lt.A.hd (m + 1 + 1 + 1 + 1))] = [((.inr "any" : Key), Lt.A.hd (m)), ((.inr "name" : Key), Lt.A.hd (m + 1)), ((.inr "num" : Key), Lt.A.hd (m + 1 + 1)), ((.inr "make" : Key), Lt.A.hd (m + 1 + 1 + 1)), ((.inr "as" : Key), Lt.A.hd (m + 1 + 1 + 1 + 1))] := fun m => rfl
  rw [hm, w_alloc]
  simp only [List.append_assoc, List.cons_append, List.nil_append, List.length_append, List.length_cons, List.length_nil]
  refine gm (fits_ok (t := patT) (known_tab hF (by simp [patT])) c (x.trans Ext.app) F (by omega)) ?_
  rintro r μ1 ⟨rfl, x1⟩
  exact ⟨rfl, Ext.app.trans x1⟩
theorem chk_kind (hF : FoOk cx fa) {μ0 : Sto} {d : Nat} {a : Lt.A} {b : Bool} (c : FitB cx fa μ0 d kindT a b) : Chk cx fa μ0 (d + 2) .is_kind a b := fun e μ q x => by
  obtain ⟨e, rfl⟩ : ∃ n, e = n + 1 := ⟨e - 1, by omega⟩
  have e0 : startE 1 [a] = [some a] := rfl
  show gives (runBody 1 (m_is_kind cx fa (fns cx fa e)) _ μ) _
  rw [w_run, e0]
  unfold m_is_kind
  have z0 : 0 ≤ sizeLine := sz (by decide)
  have z1 : 1 ≤ sizeLine := sz (by decide)
  have z2 : 2 ≤ sizeLine := sz (by decide)
  have z3 : 3 ≤ sizeLine := sz (by decide)
  simp [z0, z1, z2, z3]
  unfold dispM
  simp
  have F := forms_at (fa := fa) (μ := μ) (t := kindT)
  simp only [tabM, tabK, kindT, List.map_cons, List.map_nil, List.cons_append, List.nil_append, List.length_cons, List.length_nil] at F
  have hm : ∀ m : Nat, mergeA [] [((.inr "num" : Key), Lt.A.hd (m)), ((.inr "var" : Key), Lt.A.hd (m + 1)), ((.inr "fun" : Key), Lt.A.hd (m + 1 + 1)), ((.inr "data" : Key), Lt.A.hd (m + 1 + 1 + 1))] = [((.inr "num" : Key), Lt.A.hd (m)), ((.inr "var" : Key), Lt.A.hd (m + 1)), ((.inr "fun" : Key), Lt.A.hd (m + 1 + 1)), ((.inr "data" : Key), Lt.A.hd (m + 1 + 1 + 1))] := fun m => rfl
  rw [hm, w_alloc]
  simp only [List.append_assoc, List.cons_append, List.nil_append, List.length_append, List.length_cons, List.length_nil]
  refine gm (fits_ok (t := kindT) (known_tab hF (by simp [kindT])) c (x.trans Ext.app) F (by omega)) ?_
  rintro r μ1 ⟨rfl, x1⟩
  exact ⟨rfl, Ext.app.trans x1⟩
theorem chk_term (hF : FoOk cx fa) {μ0 : Sto} {d : Nat} {a : Lt.A} {b : Bool} (c : FitB cx fa μ0 d termT a b) : Chk cx fa μ0 (d + 2) .is_term a b := fun e μ q x => by
  obtain ⟨e, rfl⟩ : ∃ n, e = n + 1 := ⟨e - 1, by omega⟩
  have e0 : startE 1 [a] = [some a] := rfl
  show gives (runBody 1 (m_is_term cx fa (fns cx fa e)) _ μ) _
  rw [w_run, e0]
  unfold m_is_term
  have z0 : 0 ≤ sizeLine := sz (by decide)
  have z1 : 1 ≤ sizeLine := sz (by decide)
  have z2 : 2 ≤ sizeLine := sz (by decide)
  have z3 : 3 ≤ sizeLine := sz (by decide)
  simp [z0, z1, z2, z3]
  unfold dispM
  simp
  have F := forms_at (fa := fa) (μ := μ) (t := termT)
  simp only [tabM, tabK, termT, List.map_cons, List.map_nil, List.cons_append, List.nil_append, List.length_cons, List.length_nil] at F
  have hm : ∀ m : Nat, mergeA [] [((.inr "num" : Key), Lt.A.hd (m)), ((.inr "name" : Key), Lt.A.hd (m + 1)), ((.inr "make" : Key), Lt.A.hd (m + 1 + 1)), ((.inr "app" : Key), Lt.A.hd (m + 1 + 1 + 1)), ((.inr "fun" : Key), Lt.A.hd (m + 1 + 1 + 1 + 1)), ((.inr "let" : Key), Lt.A.hd (m + 1 + 1 + 1 + 1 + 1)), ((.inr "case" : Key), Lt.A.hd (m + 1 + 1 + 1 + 1 + 1 + 1)), ((.inr "op" : Key), Lt.A.hd (m + 1 + 1 + 1 + 1 + 1 + 1 + 1))] = [((.inr "num" : Key), Lt.A.hd (m)), ((.inr "name" : Key), Lt.A.hd (m + 1)), ((.inr "make" : Key), Lt.A.hd (m + 1 + 1)), ((.inr "app" : Key), Lt.A.hd (m + 1 + 1 + 1)), ((.inr "fun" : Key), Lt.A.hd (m + 1 + 1 + 1 + 1)), ((.inr "let" : Key), Lt.A.hd (m + 1 + 1 + 1 + 1 + 1)), ((.inr "case" : Key), Lt.A.hd (m + 1 + 1 + 1 + 1 + 1 + 1)), ((.inr "op" : Key), Lt.A.hd (m + 1 + 1 + 1 + 1 + 1 + 1 + 1))] := fun m => rfl
  rw [hm, w_alloc]
  simp only [List.append_assoc, List.cons_append, List.nil_append, List.length_append, List.length_cons, List.length_nil]
  refine gm (fits_ok (t := termT) (known_tab hF (by simp [termT])) c (x.trans Ext.app) F (by omega)) ?_
  rintro r μ1 ⟨rfl, x1⟩
  exact ⟨rfl, Ext.app.trans x1⟩
end
end Tx

namespace Tx
open PySem PySem.Spec PyProof.Rows L2 Lt TL
section
variable {cx : Cxp} {fa : Fn → Addr}
theorem g_set {δ : Lt.Env} {j : Nat} {a : Lt.A} {μ : Sto} {K : Lt.A → Sto → Prop} (h : j < δ.length) : gives (getv (δ.set j (some a)) j μ) K ↔ K a μ := by
  unfold getv
  rw [List.getElem?_set_self h]
  exact Iff.rfl
theorem f2_mono {α β : Type} {Q R : α → β → Prop} (h : ∀ a b, Q a b → R a b) : ∀ {as : List α} {ys : List β}, F2 Q as ys → F2 R as ys
  | _, _, .nil => .nil
  | _, _, .cons q t => .cons (h _ _ q) (f2_mono h t)
/-- all([f(x) for x in ..]) -/
theorem lc_chk {f : Fn} {e d j : Nat} {μ0 : Sto} {δ : Lt.Env} {its : List Lt.A} (hj : j < δ.length) (hd : d ≤ e) : ∀ {xs : List Lt.A} {bs : List Bool}, F2 (Chk cx fa μ0 d f) xs bs → ∀ μ, Ext [] μ0 μ →
    gives (lcM (setG j) yesT (apM (callM 1 (fns cx fa e f)) (saC (vM j) saN)) ⟨its, []⟩ δ xs μ) fun ys μ' => ys = bs.map Lt.A.bl ∧ Ext [] μ μ'
  | _, _, .nil, μ, x => by
    simp
    exact Ext.refl
  | a :: xs, b :: bs, .cons h t, μ, x => by
    simp [g_set hj]
    refine gm (h e μ hd x) ?_
    rintro r μ1 ⟨rfl, x1⟩
    refine gm (lc_chk hj hd t μ1 (x.trans x1)) ?_
    rintro ys μ2 ⟨rfl, x2⟩
    exact ⟨by simp, x1.trans x2⟩
theorem chk_tupno {f : Fn} {μ0 : Sto} {a : Lt.A} {t : String} (hf : f = .are_small ∨ f = .are_kinds ∨ f = .are_patterns) (h : Typ μ0 a t) (k : kitB t "tuple" = some false) : Chk cx fa μ0 1 f a false := fun e μ q x => by
  obtain ⟨e, rfl⟩ : ∃ n, e = n + 1 := ⟨e - 1, by omega⟩
  have e0 : startE 2 [a] = [some a, none] := rfl
  rcases hf with rfl | rfl | rfl
  · show gives (runBody 2 (m_are_small cx fa (fns cx fa e)) _ μ) _
    rw [w_run, e0]
    unfold m_are_small
    simp [h.isi x k]
    exact Ext.refl
  · show gives (runBody 2 (m_are_kinds cx fa (fns cx fa e)) _ μ) _
    rw [w_run, e0]
    unfold m_are_kinds
    simp [h.isi x k]
    exact Ext.refl
  · show gives (runBody 2 (m_are_patterns cx fa (fns cx fa e)) _ μ) _
    rw [w_run, e0]
    unfold m_are_patterns
    simp [h.isi x k]
    exact Ext.refl
theorem chk_arepat {μ0 : Sto} {d : Nat} {xs : List Lt.A} {bs : List Bool} (hl : xs.length ≤ 1000) (h : F2 (Chk cx fa μ0 d .is_pattern) xs bs) : Chk cx fa μ0 (d + 1) .are_patterns (.tup xs) (bs.all id) := fun e μ q x => by
  obtain ⟨e, rfl⟩ : ∃ n, e = n + 1 := ⟨e - 1, by omega⟩
  have e0 : startE 2 [Lt.A.tup xs] = [some (.tup xs), none] := rfl
  show gives (runBody 2 (m_are_patterns cx fa (fns cx fa e)) _ μ) _
  rw [w_run, e0]
  unfold m_are_patterns
  simp
  refine ⟨sz (by omega), gm (lc_chk (by simp) (by omega) h μ x) ?_⟩
  rintro ys μ1 ⟨rfl, x1⟩
  rw [w_allF]
  exact ⟨rfl, x1⟩
theorem chk_arekind {μ0 : Sto} {d : Nat} {xs : List Lt.A} {bs : List Bool} (hl : xs.length ≤ 1000) (h : F2 (Chk cx fa μ0 d .is_kind) xs bs) : Chk cx fa μ0 (d + 1) .are_kinds (.tup xs) (bs.all id) := fun e μ q x => by
  obtain ⟨e, rfl⟩ : ∃ n, e = n + 1 := ⟨e - 1, by omega⟩
  have e0 : startE 2 [Lt.A.tup xs] = [some (.tup xs), none] := rfl
  show gives (runBody 2 (m_are_kinds cx fa (fns cx fa e)) _ μ) _
  rw [w_run, e0]
  unfold m_are_kinds
  simp
  refine ⟨sz (by omega), gm (lc_chk (by simp) (by omega) h μ x) ?_⟩
  rintro ys μ1 ⟨rfl, x1⟩
  rw [w_allF]
  exact ⟨rfl, x1⟩
theorem chk_aresmall {μ0 : Sto} {d : Nat} {xs : List Lt.A} {bs : List Bool} (hl : xs.length ≤ 1000) (h : F2 (Chk cx fa μ0 d .is_small) xs bs) : Chk cx fa μ0 (d + 1) .are_small (.tup xs) (bs.all id) := fun e μ q x => by
  obtain ⟨e, rfl⟩ : ∃ n, e = n + 1 := ⟨e - 1, by omega⟩
  have e0 : startE 2 [Lt.A.tup xs] = [some (.tup xs), none] := rfl
  show gives (runBody 2 (m_are_small cx fa (fns cx fa e)) _ μ) _
  rw [w_run, e0]
  unfold m_are_small
  simp
  refine ⟨sz (by omega), gm (lc_chk (by simp) (by omega) h μ x) ?_⟩
  rintro ys μ1 ⟨rfl, x1⟩
  rw [w_allF]
  exact ⟨rfl, x1⟩
/-- a maker of a data -/
theorem chk_maker {μ0 : Sto} {d : Nat} {a k : Lt.A} {p q : Bool} (ha : Chk cx fa μ0 d .is_great a p) (hk : Chk cx fa μ0 d .are_kinds k q) : Chk cx fa μ0 (d + 1) .is_maker (.tup [a, k]) (p && q) := fun e μ l x => by
  obtain ⟨e, rfl⟩ : ∃ n, e = n + 1 := ⟨e - 1, by omega⟩
  have e0 : startE 1 [Lt.A.tup [a, k]] = [some (.tup [a, k])] := rfl
  show gives (runBody 1 (m_is_maker cx fa (fns cx fa e)) _ μ) _
  rw [w_run, e0]
  unfold m_is_maker
  simp
  refine gm (ha e μ (by omega) x) ?_
  rintro r μ1 ⟨rfl, x1⟩
  simp
  refine ⟨fun h => ?_, fun h => ⟨by simp [h], x1⟩⟩
  refine gm (hk e μ1 (by omega) (x.trans x1)) ?_
  rintro r μ2 ⟨rfl, x2⟩
  exact ⟨by simp [h], x1.trans x2⟩
theorem chk_maker_len {μ0 : Sto} {xs : List Lt.A} (h : xs.length ≠ 2) : Chk cx fa μ0 1 .is_maker (.tup xs) false := fun e μ l x => by
  obtain ⟨e, rfl⟩ : ∃ n, e = n + 1 := ⟨e - 1, by omega⟩
  have e0 : startE 1 [Lt.A.tup xs] = [some (.tup xs)] := rfl
  show gives (runBody 1 (m_is_maker cx fa (fns cx fa e)) _ μ) _
  rw [w_run, e0]
  unfold m_is_maker
  simp
  exact ⟨fun h2 => absurd (by omega) h, fun _ => Ext.refl⟩
/-- a data -/
theorem chk_data {μ0 : Sto} {d : Nat} {a : Lt.A} {ns ms : List Lt.A} {p q : Bool} {bs : List Bool} (ha : Chk cx fa μ0 d .is_great a p) (hn : Chk cx fa μ0 d .are_small (.tup ns) q) (hl : ms.length ≤ 1000) (hm : F2 (Chk cx fa μ0 d .is_maker) ms bs) :
    Chk cx fa μ0 (d + 1) .is_data (.tup [a, .tup ns, .tup ms]) (p && (q && (!ms.isEmpty && bs.all id))) := fun e μ l x => by
  obtain ⟨e, rfl⟩ : ∃ n, e = n + 1 := ⟨e - 1, by omega⟩
  have e0 : startE 2 [Lt.A.tup [a, .tup ns, .tup ms]] = [some (.tup [a, .tup ns, .tup ms]), none] := rfl
  show gives (runBody 2 (m_is_data cx fa (fns cx fa e)) _ μ) _
  rw [w_run, e0]
  unfold m_is_data
  have z0 : 0 ≤ sizeLine := sz (by decide)
  simp
  refine gm (ha e μ (by omega) x) ?_
  rintro r μ1 ⟨rfl, x1⟩
  simp
  refine ⟨fun h => ⟨by simp [h], x1⟩, fun h => ?_⟩
  refine gm (hn e μ1 (by omega) (x.trans x1)) ?_
  rintro r μ2 ⟨rfl, x2⟩
  simp
  refine ⟨fun h2 => ⟨by simp [h2], x1.trans x2⟩, fun h2 => ⟨fun h3 => ⟨sz (by omega), ?_⟩, fun h3 => ⟨by simp at h3; simp [h3], x1.trans x2⟩⟩⟩
  refine gm (lc_chk (by simp) (by omega) hm μ2 (x.trans (x1.trans x2))) ?_
  rintro ys μ3 ⟨rfl, x3⟩
  rw [w_allF]
  refine ⟨?_, x1.trans (x2.trans x3)⟩
  have : ms.isEmpty = false := by simpa using h3
  simp [h, h2, this]
theorem chk_data_no {μ0 : Sto} {a : Lt.A} {t : String} (h : Typ μ0 a t) (k : kitB t "tuple" = some false) : Chk cx fa μ0 1 .is_data a false := fun e μ q x => by
  obtain ⟨e, rfl⟩ : ∃ n, e = n + 1 := ⟨e - 1, by omega⟩
  have e0 : startE 2 [a] = [some a, none] := rfl
  show gives (runBody 2 (m_is_data cx fa (fns cx fa e)) _ μ) _
  rw [w_run, e0]
  unfold m_is_data
  simp [h.isi x k]
  exact Ext.refl
/-- a way without names -/
theorem chk_way0 {μ0 : Sto} {d : Nat} {a t : Lt.A} {p q : Bool} (ha : Chk cx fa μ0 d .is_great a p) (ht : Chk cx fa μ0 d .is_term t q) (hd : 2 ≤ d) : Chk cx fa μ0 (d + 1) .is_way (.tup [a, .tup [], t]) (p && q) := fun e μ l x => by
  obtain ⟨e, rfl⟩ : ∃ n, e = n + 1 := ⟨e - 1, by omega⟩
  have e0 : startE 1 [Lt.A.tup [a, .tup [], t]] = [some (.tup [a, .tup [], t])] := rfl
  show gives (runBody 1 (m_is_way cx fa (fns cx fa e)) _ μ) _
  rw [w_run, e0]
  unfold m_is_way
  simp
  refine gm (ha e μ (by omega) x) ?_
  rintro r μ1 ⟨rfl, x1⟩
  simp
  refine ⟨fun h => ⟨by simp [h], x1⟩, fun h => ?_⟩
  refine gm (chk_aresmall (bs := []) (d := 1) (by simp) .nil e μ1 (by omega) (x.trans x1)) ?_
  rintro r μ2 ⟨rfl, x2⟩
  simp
  have hu : gives (fns cx fa e .are_unlike [.tup []] μ2) fun r μ' => r = .bl true ∧ μ' = μ2 := by
    obtain ⟨e, rfl⟩ : ∃ n, e = n + 1 := ⟨e - 1, by omega⟩
    have e0 : startE 1 [Lt.A.tup []] = [some (.tup [])] := rfl
    show gives (runBody 1 (m_are_unlike cx fa (fns cx fa e)) _ μ2) _
    rw [w_run, e0]
    unfold m_are_unlike
    simp
    show gives (Res.ok (Lt.A.int 0) μ2) _
    simp
  refine gm hu ?_
  rintro r μ3 ⟨rfl, rfl⟩
  simp
  refine gm (ht e μ3 (by omega) (x.trans (x1.trans x2))) ?_
  rintro r μ4 ⟨rfl, x4⟩
  exact ⟨by simp [h], x1.trans (x2.trans x4)⟩
theorem chk_ways {μ0 : Sto} {d : Nat} {xs : List Lt.A} {bs : List Bool} (hl : xs.length ≤ 1000) (h : F2 (Chk cx fa μ0 d .is_way) xs bs) : Chk cx fa μ0 (d + 1) .are_ways (.tup xs) (!xs.isEmpty && bs.all id) := fun e μ q x => by
  obtain ⟨e, rfl⟩ : ∃ n, e = n + 1 := ⟨e - 1, by omega⟩
  have e0 : startE 2 [Lt.A.tup xs] = [some (.tup xs), none] := rfl
  show gives (runBody 2 (m_are_ways cx fa (fns cx fa e)) _ μ) _
  rw [w_run, e0]
  unfold m_are_ways
  have z0 : 0 ≤ sizeLine := sz (by decide)
  simp [w_neEt, z0]
  refine ⟨fun h3 => ⟨sz (by omega), ?_⟩, fun h3 => ⟨by simp [h3], Ext.refl⟩⟩
  refine gm (lc_chk (by simp) (by omega) h μ x) ?_
  rintro ys μ1 ⟨rfl, x1⟩
  rw [w_allF]
  have : xs.isEmpty = false := by cases xs with | nil => exact absurd rfl h3 | cons _ _ => rfl
  exact ⟨by simp [this], x1⟩
theorem chk_parts0 {μ0 : Sto} : Chk cx fa μ0 1 .are_parts (.tup []) false := fun e μ q x => by
  obtain ⟨e, rfl⟩ : ∃ n, e = n + 1 := ⟨e - 1, by omega⟩
  have e0 : startE 4 [Lt.A.tup []] = [some (.tup []), none, none, none] := rfl
  show gives (runBody 4 (m_are_parts cx fa (fns cx fa e)) _ μ) _
  rw [w_run, e0]
  unfold m_are_parts
  have z0 : 0 ≤ sizeLine := sz (by decide)
  simp [w_eqEt, z0]
  exact Ext.refl
end
end Tx

namespace Tx
open PySem PySem.Spec PyProof.Rows L2 Lt TL
section
variable {cx : Cxp} {fa : Fn → Addr}
theorem isN_of {μ0 : Sto} {a : Lt.A} {t : String} (h : Typ μ0 a t) (hn : t ≠ "NoneType") : isN a = false := by
  cases a <;> first | rfl | skip
  exact absurd (Option.some.inj (h μ0 Ext.refl)).symm hn
/-- a line -/
theorem chk_line {μ0 : Sto} {d : Nat} {a g t : Lt.A} {p q r : Bool} (ha : Chk cx fa μ0 d .are_patterns a p) (hg : (g = .non ∧ q = true) ∨ (isN g = false ∧ Chk cx fa μ0 d .is_term g q)) (ht : Chk cx fa μ0 d .is_term t r) :
    Chk cx fa μ0 (d + 1) .is_line (.tup [a, g, t]) (p && (q && r)) := fun e μ l x => by
  obtain ⟨e, rfl⟩ : ∃ n, e = n + 1 := ⟨e - 1, by omega⟩
  have e0 : startE 1 [Lt.A.tup [a, g, t]] = [some (.tup [a, g, t])] := rfl
  show gives (runBody 1 (m_is_line cx fa (fns cx fa e)) _ μ) _
  rw [w_run, e0]
  unfold m_is_line
  simp
  refine gm (ha e μ (by omega) x) ?_
  rintro _ μ1 ⟨rfl, x1⟩
  simp
  refine ⟨fun h => ⟨by simp [h], x1⟩, fun h => ?_⟩
  have last : ∀ μ2, Ext [] μ1 μ2 → q = true → gives (fns cx fa e .is_term [t] μ2) fun r' μ' => r' = .bl (p && (q && r)) ∧ Ext [] μ μ' := fun μ2 x2 hq => by
    refine gm (ht e μ2 (by omega) (x.trans (x1.trans x2))) ?_
    rintro _ μ3 ⟨rfl, x3⟩
    exact ⟨by simp [h, hq], x1.trans (x2.trans x3)⟩
  rcases hg with ⟨rfl, hq⟩ | ⟨hn, hg⟩
  · simp [isN]
    exact last μ1 Ext.refl hq
  · simp [hn]
    refine gm (hg e μ1 (by omega) (x.trans x1)) ?_
    rintro _ μ2 ⟨rfl, x2⟩
    simp
    refine ⟨fun hq => by simpa using last μ2 x2 hq, fun hq => ⟨by simp [hq], x1.trans x2⟩⟩
theorem chk_line_len {μ0 : Sto} {xs : List Lt.A} (h : xs.length ≠ 3) : Chk cx fa μ0 1 .is_line (.tup xs) false := fun e μ l x => by
  obtain ⟨e, rfl⟩ : ∃ n, e = n + 1 := ⟨e - 1, by omega⟩
  have e0 : startE 1 [Lt.A.tup xs] = [some (.tup xs)] := rfl
  show gives (runBody 1 (m_is_line cx fa (fns cx fa e)) _ μ) _
  rw [w_run, e0]
  unfold m_is_line
  simp
  exact ⟨fun _ => Ext.refl, fun h2 => absurd (by omega) h⟩
theorem chk_line_no {μ0 : Sto} {a : Lt.A} {t : String} (h : Typ μ0 a t) (k : kitB t "tuple" = some false) : Chk cx fa μ0 1 .is_line a false := fun e μ q x => by
  obtain ⟨e, rfl⟩ : ∃ n, e = n + 1 := ⟨e - 1, by omega⟩
  have e0 : startE 1 [a] = [some a] := rfl
  show gives (runBody 1 (m_is_line cx fa (fns cx fa e)) _ μ) _
  rw [w_run, e0]
  unfold m_is_line
  simp [h.isi x k]
  exact Ext.refl
/-- a def -/
theorem chk_def {μ0 : Sto} {d : Nat} {a : Lt.A} {ls : List Lt.A} {p : Bool} {bs : List Bool} (ha : Chk cx fa μ0 d .is_small a p) (hl : ls.length ≤ 1000) (hm : F2 (Chk cx fa μ0 d .is_line) ls bs) :
    Chk cx fa μ0 (d + 1) .is_surface_def (.tup [a, .tup ls]) (p && (!ls.isEmpty && bs.all id)) := fun e μ l x => by
  obtain ⟨e, rfl⟩ : ∃ n, e = n + 1 := ⟨e - 1, by omega⟩
  have e0 : startE 2 [Lt.A.tup [a, .tup ls]] = [some (.tup [a, .tup ls]), none] := rfl
  show gives (runBody 2 (m_is_surface_def cx fa (fns cx fa e)) _ μ) _
  rw [w_run, e0]
  unfold m_is_surface_def
  have z0 : 0 ≤ sizeLine := sz (by decide)
  simp
  refine gm (ha e μ (by omega) x) ?_
  rintro r μ1 ⟨rfl, x1⟩
  simp [w_neEt]
  refine ⟨fun h => ⟨by simp [h], x1⟩, fun h => ⟨fun h3 => ⟨sz (by omega), ?_⟩, fun h3 => ⟨by simp [h3], x1⟩⟩⟩
  refine gm (lc_chk (by simp) (by omega) hm μ1 (x.trans x1)) ?_
  rintro ys μ3 ⟨rfl, x3⟩
  rw [w_allF]
  refine ⟨?_, x1.trans x3⟩
  have : ls.isEmpty = false := by simpa using h3
  simp [h, this]
theorem chk_def_snd {μ0 : Sto} {d : Nat} {a b : Lt.A} {p : Bool} {t : String} (ha : Chk cx fa μ0 d .is_small a p) (h : Typ μ0 b t) (k : kitB t "tuple" = some false) : Chk cx fa μ0 (d + 1) .is_surface_def (.tup [a, b]) false := fun e μ l x => by
  obtain ⟨e, rfl⟩ : ∃ n, e = n + 1 := ⟨e - 1, by omega⟩
  have e0 : startE 2 [Lt.A.tup [a, b]] = [some (.tup [a, b]), none] := rfl
  show gives (runBody 2 (m_is_surface_def cx fa (fns cx fa e)) _ μ) _
  rw [w_run, e0]
  unfold m_is_surface_def
  simp
  refine gm (ha e μ (by omega) x) ?_
  rintro r μ1 ⟨rfl, x1⟩
  simp [h.isi (x.trans x1) k]
  exact ⟨fun _ => x1, fun _ => x1⟩
theorem chk_def_fst {μ0 : Sto} {d : Nat} {a b : Lt.A} (ha : Chk cx fa μ0 d .is_small a false) : Chk cx fa μ0 (d + 1) .is_surface_def (.tup [a, b]) false := fun e μ l x => by
  obtain ⟨e, rfl⟩ : ∃ n, e = n + 1 := ⟨e - 1, by omega⟩
  have e0 : startE 2 [Lt.A.tup [a, b]] = [some (.tup [a, b]), none] := rfl
  show gives (runBody 2 (m_is_surface_def cx fa (fns cx fa e)) _ μ) _
  rw [w_run, e0]
  unfold m_is_surface_def
  simp
  refine gm (ha e μ (by omega) x) ?_
  rintro r μ1 ⟨rfl, x1⟩
  simp
  exact x1
theorem chk_def_len {μ0 : Sto} {xs : List Lt.A} (h : xs.length ≠ 2) : Chk cx fa μ0 1 .is_surface_def (.tup xs) false := fun e μ l x => by
  obtain ⟨e, rfl⟩ : ∃ n, e = n + 1 := ⟨e - 1, by omega⟩
  have e0 : startE 2 [Lt.A.tup xs] = [some (.tup xs), none] := rfl
  show gives (runBody 2 (m_is_surface_def cx fa (fns cx fa e)) _ μ) _
  rw [w_run, e0]
  unfold m_is_surface_def
  simp
  exact ⟨fun _ => Ext.refl, fun h2 => absurd (by omega) h⟩
theorem chk_def_no {μ0 : Sto} {a : Lt.A} {t : String} (h : Typ μ0 a t) (k : kitB t "tuple" = some false) : Chk cx fa μ0 1 .is_surface_def a false := fun e μ q x => by
  obtain ⟨e, rfl⟩ : ∃ n, e = n + 1 := ⟨e - 1, by omega⟩
  have e0 : startE 2 [a] = [some a, none] := rfl
  show gives (runBody 2 (m_is_surface_def cx fa (fns cx fa e)) _ μ) _
  rw [w_run, e0]
  unfold m_is_surface_def
  simp [h.isi x k]
  exact Ext.refl
/-- a surface program -/
theorem chk_surf {μ0 : Sto} {d : Nat} {ds fs : List Lt.A} {ps qs : List Bool} (l1 : ds.length ≤ 1000) (l2 : fs.length ≤ 1000) (h1 : F2 (Chk cx fa μ0 d .is_data) ds ps) (h2 : F2 (Chk cx fa μ0 d .is_surface_def) fs qs) :
    Chk cx fa μ0 (d + 1) .is_surface (.tup [.tup ds, .tup fs]) (ps.all id && qs.all id) := fun e μ l x => by
  obtain ⟨e, rfl⟩ : ∃ n, e = n + 1 := ⟨e - 1, by omega⟩
  have e0 : startE 5 [Lt.A.tup [.tup ds, .tup fs]] = [some (.tup [.tup ds, .tup fs]), none, none, none, none] := rfl
  show gives (runBody 5 (m_is_surface cx fa (fns cx fa e)) _ μ) _
  rw [w_run, e0]
  unfold m_is_surface
  simp
  refine ⟨sz (by omega), gm (lc_chk (by simp) (by omega) h1 μ x) ?_⟩
  rintro ys μ1 ⟨rfl, x1⟩
  rw [w_allF]
  simp
  refine ⟨fun h => ⟨sz (by omega), ?_⟩, fun h => ⟨?_, x1⟩⟩
  · refine gm (lc_chk (by simp) (by omega) h2 μ1 (x.trans x1)) ?_
    rintro ys μ2 ⟨rfl, x2⟩
    rw [w_allF]
    refine ⟨?_, x1.trans x2⟩
    have : ps.all id = true := by simpa using h
    rw [this]
    rfl
  · exact fun h2 => absurd h h2
theorem chk_surf_len {μ0 : Sto} {xs : List Lt.A} (h : xs.length ≠ 2) : Chk cx fa μ0 1 .is_surface (.tup xs) false := fun e μ l x => by
  obtain ⟨e, rfl⟩ : ∃ n, e = n + 1 := ⟨e - 1, by omega⟩
  have e0 : startE 5 [Lt.A.tup xs] = [some (.tup xs), none, none, none, none] := rfl
  show gives (runBody 5 (m_is_surface cx fa (fns cx fa e)) _ μ) _
  rw [w_run, e0]
  unfold m_is_surface
  simp
  exact ⟨fun _ => Ext.refl, fun h2 => absurd (by omega) h⟩
theorem chk_surf_no {μ0 : Sto} {a : Lt.A} {t : String} (h : Typ μ0 a t) (k : kitB t "tuple" = some false) : Chk cx fa μ0 1 .is_surface a false := fun e μ q x => by
  obtain ⟨e, rfl⟩ : ∃ n, e = n + 1 := ⟨e - 1, by omega⟩
  have e0 : startE 5 [a] = [some a, none, none, none, none] := rfl
  show gives (runBody 5 (m_is_surface cx fa (fns cx fa e)) _ μ) _
  rw [w_run, e0]
  unfold m_is_surface
  simp [h.isi x k]
  exact Ext.refl
theorem chk_surf_l {μ0 : Sto} {a b : Lt.A} {t : String} (h : Typ μ0 a t) (k : kitB t "tuple" = some false) : Chk cx fa μ0 1 .is_surface (.tup [a, b]) false := fun e μ q x => by
  obtain ⟨e, rfl⟩ : ∃ n, e = n + 1 := ⟨e - 1, by omega⟩
  have e0 : startE 5 [Lt.A.tup [a, b]] = [some (.tup [a, b]), none, none, none, none] := rfl
  show gives (runBody 5 (m_is_surface cx fa (fns cx fa e)) _ μ) _
  rw [w_run, e0]
  unfold m_is_surface
  simp [h.isi x k]
  exact Ext.refl
theorem chk_surf_r {μ0 : Sto} {a : List Lt.A} {b : Lt.A} {t : String} (h : Typ μ0 b t) (k : kitB t "tuple" = some false) : Chk cx fa μ0 1 .is_surface (.tup [.tup a, b]) false := fun e μ q x => by
  obtain ⟨e, rfl⟩ : ∃ n, e = n + 1 := ⟨e - 1, by omega⟩
  have e0 : startE 5 [Lt.A.tup [.tup a, b]] = [some (.tup [.tup a, b]), none, none, none, none] := rfl
  show gives (runBody 5 (m_is_surface cx fa (fns cx fa e)) _ μ) _
  rw [w_run, e0]
  unfold m_is_surface
  simp [h.isi x k]
  exact Ext.refl
end
end Tx

namespace Tx
open PySem PySem.Spec PyProof.Rows L2 Lt TL
def pairA (p : Str × Str) : Lt.A := .tup [.str p.1, .str p.2]
/-- what is left to look at, and the names so far -/
def RoomOk (r nh : Nat) (μ : Sto) : Prop := ∃ (look : Int) (ns : List (Str × Str)), μ[r]? = some (.lst [.int look, .hd nh]) ∧ μ[nh]? = some (.lst (ns.map pairA)) ∧ ns.length ≤ 5 ∧ ∀ q ∈ ns, q.1 ∈ XS ∧ q.2 ∈ KS
theorem RoomOk.of {r nh : Nat} {μ μ' : Sto} {hs : List Nat} (o : RoomOk r nh μ) (e : Ext hs μ μ') (h1 : r ∉ hs) (h2 : nh ∉ hs) : RoomOk r nh μ' := by
  obtain ⟨l, ns, a, b, c⟩ := o
  exact ⟨l, ns, e.get a h1, e.get b h2, c⟩
theorem nameX : ∀ n : Nat, n ≤ 5 → ∃ c, atI ("abcdef" : Str).cps.toList (n : Int) = some c ∧ (("x" : Str) ++ ⟨#[c]⟩) ∈ XS ∧ (("x" : Str) ++ (⟨#[c]⟩ : Str)).length = 2
  | 0, _ => ⟨97, by decide +kernel, by decide +kernel, by decide +kernel⟩
  | 1, _ => ⟨98, by decide +kernel, by decide +kernel, by decide +kernel⟩
  | 2, _ => ⟨99, by decide +kernel, by decide +kernel, by decide +kernel⟩
  | 3, _ => ⟨100, by decide +kernel, by decide +kernel, by decide +kernel⟩
  | 4, _ => ⟨101, by decide +kernel, by decide +kernel, by decide +kernel⟩
  | 5, _ => ⟨102, by decide +kernel, by decide +kernel, by decide +kernel⟩
  | n + 6, h => absurd h (by omega)
def PB : Nat → Int
  | 0 => 10
  | n + 1 => 10 + 2 * PB n
theorem PB_pos : ∀ n, 10 ≤ PB n
  | 0 => by decide
  | n + 1 => by have := PB_pos n; unfold PB; omega
section
variable {cx : Cxp} {fa : Fn → Addr}
theorem pat_ok {h r nh : Nat} (hr : h ≠ r) (hn : h ≠ nh) (rn : r ≠ nh) : ∀ (n d : Nat) (b : Int) (k : Str) (μ : Sto), k ∈ KS → FeedOk h b μ → b + PB n < 2 ^ 61 → RoomOk r nh μ →
    gives (fns cx fa (d + n + 3) ._law_pattern [.hd h, .str k, .int n, .hd r] μ) fun p μ' => DPat (n + 1) k p ∧ FeedOk h (b + PB n) μ' ∧ RoomOk r nh μ' ∧ Ext [h, r, nh] μ μ' := by
  intro n
  induction n with
  | zero =>
    intro d b k μ hk hf hb ho
    have hpb := PB_pos 0
    have e0 : startE 10 [Lt.A.hd h, .str k, .int ((0 : Nat) : Int), .hd r] = [some (.hd h), some (.str k), some (.int ((0 : Nat) : Int)), some (.hd r), none, none, none, none, none, none] := rfl
    show gives (runBody 10 (m__law_pattern cx fa (fns cx fa (d + 0 + 2))) _ μ) _
    rw [w_run, e0]
    unfold m__law_pattern
    rw [f_seq]
    simp
    refine gm (take_fns hf (by omega) (by decide)) ?_
    rintro _ μ1 ⟨c, rfl, c0, c1, f1, x1⟩
    have o1 := ho.of x1 (by simp [hr.symm]) (by simp [hn.symm])
    have y1 := x1.sub (hs' := [h, r, nh]) (by simp)
    obtain ⟨look, ns, hr1, hn1, hl1, hq1⟩ := o1
    obtain ⟨ch, ha, hx, hx2⟩ := nameX ns.length hl1
    have z6 : ("abcdef" : Str).length ≤ sizeLine := sz (by decide +kernel)
    have z1 : 1 ≤ sizeLine := sz (by decide)
    have z2 : 2 ≤ sizeLine := sz (by decide)
    have z3 : 3 ≤ sizeLine := sz (by decide)
    have za : (("x" : Str)).length + (⟨#[ch]⟩ : Str).length ≤ sizeLine := by rw [sizeLine_eq]; have e1 : ("x" : Str).length = 1 := rfl; have e2 : (⟨#[ch]⟩ : Str).length = 1 := rfl; omega
    simp [w_ixH hr1, w_lenH hn1]
    refine ⟨z6, ch, ha, za, fun h3 => ⟨fun h5 => ?_, fun h5 => ?_⟩, fun h3 => ?_⟩
    · have hn2 : (μ1.set nh (.lst (ns.map pairA ++ [.tup [.str (("x" : Str) ++ ⟨#[ch]⟩), .str k]])))[nh]? = some (.lst ((ns ++ [(("x" : Str) ++ ⟨#[ch]⟩, k)]).map pairA)) := by
        rw [List.getElem?_set_self (List.getElem?_eq_some_iff.mp hn1).1, List.map_append]
        rfl
      have hr2 : (μ1.set nh (.lst (ns.map pairA ++ [.tup [.str (("x" : Str) ++ ⟨#[ch]⟩), .str k]])))[r]? = some (.lst [.int look, .hd nh]) := by
        rw [List.getElem?_set_ne rn.symm]
        exact hr1
      have o2 : RoomOk r nh (μ1.set nh (.lst (ns.map pairA ++ [.tup [.str (("x" : Str) ++ ⟨#[ch]⟩), .str k]]))) := by
        refine ⟨look, _, hr2, hn2, by simp; omega, ?_⟩
        intro q hq
        rcases List.mem_append.mp hq with hq | hq
        · exact hq1 q hq
        · rw [List.mem_singleton.mp hq]
          exact ⟨hx, hk⟩
      have y2 : Ext [h, r, nh] μ1 (μ1.set nh (.lst (ns.map pairA ++ [.tup [.str (("x" : Str) ++ ⟨#[ch]⟩), .str k]]))) := Ext.set (by simp)
      have f2 : FeedOk h (b + 1) (μ1.set nh (.lst (ns.map pairA ++ [.tup [.str (("x" : Str) ++ ⟨#[ch]⟩), .str k]]))) := f1.of (Ext.set (hs := [nh]) (by simp)) (by simp [hn])
      rw [w_itemsL hn1]
      refine ⟨z2, ?_⟩
      rw [w_append hn1]
      exact ⟨by rw [List.length_map, sizeLine_eq]; omega, fun _ => ⟨z2, .inl (.inl ⟨_, hx, rfl⟩), f2.mono (by omega), o2, y1.trans y2⟩, fun _ => ⟨z2, .inl (.inl ⟨_, hx, rfl⟩), f2.mono (by omega), o2, y1.trans y2⟩⟩
    all_goals
      have o1 : RoomOk r nh μ1 := ⟨look, ns, hr1, hn1, hl1, hq1⟩
      refine ⟨fun h4 => ⟨z1, .inl (.inr (.inl rfl)), f1.mono (by omega), o1, y1⟩, fun h4 => ⟨fun h6 => ⟨z1, .inl (.inr (.inl rfl)), f1.mono (by omega), o1, y1⟩, fun h6 => ?_⟩⟩
      rw [w_setL hr1]
      refine ⟨0, by simp, ?_⟩
      have hr3 : (μ1.set r (.lst ([Lt.A.int look, .hd nh].set 0 (.int (look - 1)))))[r]? = some (.lst [.int (look - 1), .hd nh]) := List.getElem?_set_self (List.getElem?_eq_some_iff.mp hr1).1
      have hn3 : (μ1.set r (.lst ([Lt.A.int look, .hd nh].set 0 (.int (look - 1)))))[nh]? = some (.lst (ns.map pairA)) := by
        rw [List.getElem?_set_ne rn]
        exact hn1
      have f3 : FeedOk h (b + 1) (μ1.set r (.lst ([Lt.A.int look, .hd nh].set 0 (.int (look - 1))))) := f1.of (Ext.set (hs := [r]) (by simp)) (by simp [hr])
      have y3 : Ext [h, r, nh] μ (μ1.set r (.lst ([Lt.A.int look, .hd nh].set 0 (.int (look - 1))))) := y1.trans (Ext.set (by simp))
      have o3 : RoomOk r nh (μ1.set r (.lst ([Lt.A.int look, .hd nh].set 0 (.int (look - 1))))) := ⟨_, ns, hr3, hn3, hl1, hq1⟩
      generalize μ1.set r (.lst ([Lt.A.int look, .hd nh].set 0 (.int (look - 1)))) = μ3 at f3 y3 o3
      refine ⟨fun hk1 => ?_, fun hk1 => ?_⟩
      · refine gm (number_ok (d := d) f3 (by omega)) ?_
        rintro _ μ4 ⟨i, rfl, i0, i1, f4, x4⟩
        exact ⟨z2, .inl (.inr (.inr ⟨hk1, i, i0, i1, rfl⟩)), f4.mono (by omega), o3.of x4 (by simp [hr.symm]) (by simp [hn.symm]), y3.trans (x4.sub (by simp))⟩
      · refine gm (makers_ok (d := d + 1)) ?_
        rintro _ μ4 ⟨rfl, hm, x4⟩
        rw [w_lenH hm, List.length_map]
        have f4 := f3.of x4 (by simp)
        refine gm (take_fns f4 (by omega) (by have := (mk_pos (k := k)).1; omega)) ?_
        rintro _ μ5 ⟨j, rfl, j0, j1, f5, x5⟩
        have hm5 := x5.get hm (by have := f3.lt; simp; omega)
        rw [w_ixH hm5]
        obtain ⟨a, ha, hmem⟩ := atI_in (xs := (MK k).map mkA) j0 (by simpa using j1)
        obtain ⟨mk, hmk, rfl⟩ := List.mem_map.mp hmem
        refine ⟨_, ha, ?_⟩
        obtain ⟨k1, k2⟩ := mk_ks hmk
        have o5 := (o3.of x4 (by simp) (by simp)).of x5 (by simp [hr.symm]) (by simp [hn.symm])
        have y5 : Ext [h, r, nh] μ μ5 := y3.trans ((x4.sub (by simp)).trans (x5.sub (by simp)))
        unfold mkA
        simp
        refine ⟨sz (by omega), ?_⟩
        refine gm (lc_allN (N := mk.2.length) (P := fun j μ' => μ' = μ5) (Q := fun a y => ∃ s, a = .str s ∧ DPat 0 s y) (fun _ _ _ => still_nil) ?_ 0 μ5 (by simp) rfl) ?_
        · intro a ha2 j' μ6 hj e6
          subst e6
          obtain ⟨s, hs, rfl⟩ := List.mem_map.mp ha2
          simp
          exact ⟨z1, .inr (.inl rfl)⟩
        · rintro ys μ6 ⟨hy, rfl⟩
          refine ⟨z3, .inr (.inr ⟨mk, ys, hk1, hmk, ?_, rfl⟩), f5.mono (by omega), o5, y5⟩
          · clear k1 k2
            revert hy
            generalize mk.2 = ks
            intro hy
            induction ks generalizing ys with
            | nil => cases hy; exact .nil
            | cons s ks ihk =>
              cases hy with
              | cons q t =>
                obtain ⟨s', e, q⟩ := q
                cases e
                exact .cons q (ihk _ t)
  | succ n ih =>
    intro d b k μ hk hf hb ho
    have hpb := PB_pos (n + 1)
    have e0 : startE 10 [Lt.A.hd h, .str k, .int ((n + 1 : Nat) : Int), .hd r] = [some (.hd h), some (.str k), some (.int ((n + 1 : Nat) : Int)), some (.hd r), none, none, none, none, none, none] := rfl
    show gives (runBody 10 (m__law_pattern cx fa (fns cx fa (d + (n + 1) + 2))) _ μ) _
    rw [w_run, e0]
    unfold m__law_pattern
    rw [f_seq]
    simp
    refine gm (take_fns hf (by omega) (by decide)) ?_
    rintro _ μ1 ⟨c, rfl, c0, c1, f1, x1⟩
    have o1 := ho.of x1 (by simp [hr.symm]) (by simp [hn.symm])
    have y1 := x1.sub (hs' := [h, r, nh]) (by simp)
    obtain ⟨look, ns, hr1, hn1, hl1, hq1⟩ := o1
    obtain ⟨ch, ha, hx, hx2⟩ := nameX ns.length hl1
    have z6 : ("abcdef" : Str).length ≤ sizeLine := sz (by decide +kernel)
    have z1 : 1 ≤ sizeLine := sz (by decide)
    have z2 : 2 ≤ sizeLine := sz (by decide)
    have z3 : 3 ≤ sizeLine := sz (by decide)
    have za : (("x" : Str)).length + (⟨#[ch]⟩ : Str).length ≤ sizeLine := by rw [sizeLine_eq]; have e1 : ("x" : Str).length = 1 := rfl; have e2 : (⟨#[ch]⟩ : Str).length = 1 := rfl; omega
    simp [w_ixH hr1, w_lenH hn1]
    refine ⟨z6, ch, ha, za, fun h3 => ⟨fun h5 => ?_, fun h5 => ?_⟩, fun h3 => ?_⟩
    · have hn2 : (μ1.set nh (.lst (ns.map pairA ++ [.tup [.str (("x" : Str) ++ ⟨#[ch]⟩), .str k]])))[nh]? = some (.lst ((ns ++ [(("x" : Str) ++ ⟨#[ch]⟩, k)]).map pairA)) := by
        rw [List.getElem?_set_self (List.getElem?_eq_some_iff.mp hn1).1, List.map_append]
        rfl
      have hr2 : (μ1.set nh (.lst (ns.map pairA ++ [.tup [.str (("x" : Str) ++ ⟨#[ch]⟩), .str k]])))[r]? = some (.lst [.int look, .hd nh]) := by
        rw [List.getElem?_set_ne rn.symm]
        exact hr1
      have o2 : RoomOk r nh (μ1.set nh (.lst (ns.map pairA ++ [.tup [.str (("x" : Str) ++ ⟨#[ch]⟩), .str k]]))) := by
        refine ⟨look, _, hr2, hn2, by simp; omega, ?_⟩
        intro q hq
        rcases List.mem_append.mp hq with hq | hq
        · exact hq1 q hq
        · rw [List.mem_singleton.mp hq]
          exact ⟨hx, hk⟩
      have y2 : Ext [h, r, nh] μ1 (μ1.set nh (.lst (ns.map pairA ++ [.tup [.str (("x" : Str) ++ ⟨#[ch]⟩), .str k]]))) := Ext.set (by simp)
      have f2 : FeedOk h (b + 1) (μ1.set nh (.lst (ns.map pairA ++ [.tup [.str (("x" : Str) ++ ⟨#[ch]⟩), .str k]]))) := f1.of (Ext.set (hs := [nh]) (by simp)) (by simp [hn])
      rw [w_itemsL hn1]
      refine ⟨z2, ?_⟩
      rw [w_append hn1]
      refine ⟨by rw [List.length_map, sizeLine_eq]; omega, fun hc => ⟨z2, .inl (.inl ⟨_, hx, rfl⟩), f2.mono (by omega), o2, y1.trans y2⟩, fun hc => ⟨fun hn0 => by omega, fun hn0 => ?_⟩⟩
      refine gm (ih d (b + 1) k _ hk f2 (by have hb2 : b + (10 + 2 * PB n) < 2 ^ 61 := hb; have := PB_pos n; omega) o2) ?_
      rintro p μ3 ⟨hp, f3, o3, x3⟩
      exact ⟨z3, .inr (.inl ⟨_, hx, p, hp, rfl⟩), f3.mono (by show _ ≤ b + (10 + 2 * PB n); have := PB_pos n; omega), o3, y1.trans (y2.trans x3)⟩
    all_goals
      have o1 : RoomOk r nh μ1 := ⟨look, ns, hr1, hn1, hl1, hq1⟩
      refine ⟨fun h4 => ⟨z1, .inl (.inr (.inl rfl)), f1.mono (by omega), o1, y1⟩, fun h4 => ⟨fun h6 => ⟨z1, .inl (.inr (.inl rfl)), f1.mono (by omega), o1, y1⟩, fun h6 => ?_⟩⟩
      rw [w_setL hr1]
      refine ⟨0, by simp, ?_⟩
      have hr3 : (μ1.set r (.lst ([Lt.A.int look, .hd nh].set 0 (.int (look - 1)))))[r]? = some (.lst [.int (look - 1), .hd nh]) := List.getElem?_set_self (List.getElem?_eq_some_iff.mp hr1).1
      have hn3 : (μ1.set r (.lst ([Lt.A.int look, .hd nh].set 0 (.int (look - 1)))))[nh]? = some (.lst (ns.map pairA)) := by
        rw [List.getElem?_set_ne rn]
        exact hn1
      have f3 : FeedOk h (b + 1) (μ1.set r (.lst ([Lt.A.int look, .hd nh].set 0 (.int (look - 1))))) := f1.of (Ext.set (hs := [r]) (by simp)) (by simp [hr])
      have y3 : Ext [h, r, nh] μ (μ1.set r (.lst ([Lt.A.int look, .hd nh].set 0 (.int (look - 1))))) := y1.trans (Ext.set (by simp))
      have o3 : RoomOk r nh (μ1.set r (.lst ([Lt.A.int look, .hd nh].set 0 (.int (look - 1))))) := ⟨_, ns, hr3, hn3, hl1, hq1⟩
      generalize μ1.set r (.lst ([Lt.A.int look, .hd nh].set 0 (.int (look - 1)))) = μ3 at f3 y3 o3
      refine ⟨fun hk1 => ?_, fun hk1 => ?_⟩
      · refine gm (number_ok (d := d + n + 1) f3 (by omega)) ?_
        rintro _ μ4 ⟨i, rfl, i0, i1, f4, x4⟩
        exact ⟨z2, .inl (.inr (.inr ⟨hk1, i, i0, i1, rfl⟩)), f4.mono (by omega), o3.of x4 (by simp [hr.symm]) (by simp [hn.symm]), y3.trans (x4.sub (by simp))⟩
      · refine gm (makers_ok (d := d + n + 2)) ?_
        rintro _ μ4 ⟨rfl, hm, x4⟩
        rw [w_lenH hm, List.length_map]
        have f4 := f3.of x4 (by simp)
        refine gm (take_fns f4 (by omega) (by have := (mk_pos (k := k)).1; omega)) ?_
        rintro _ μ5 ⟨j, rfl, j0, j1, f5, x5⟩
        have hm5 := x5.get hm (by have := f3.lt; simp; omega)
        rw [w_ixH hm5]
        obtain ⟨a, ha, hmem⟩ := atI_in (xs := (MK k).map mkA) j0 (by simpa using j1)
        obtain ⟨mk, hmk, rfl⟩ := List.mem_map.mp hmem
        refine ⟨_, ha, ?_⟩
        obtain ⟨k1, k2⟩ := mk_ks hmk
        have o5 := (o3.of x4 (by simp) (by simp)).of x5 (by simp [hr.symm]) (by simp [hn.symm])
        have y5 : Ext [h, r, nh] μ μ5 := y3.trans ((x4.sub (by simp)).trans (x5.sub (by simp)))
        unfold mkA
        simp
        have hn0 : ¬ ((n : Int) + 1 = 0) := by omega
        simp [hn0]
        refine ⟨sz (by omega), ?_⟩
        have hP := PB_pos n
        have hb2 : b + (10 + 2 * PB n) < 2 ^ 61 := hb
        have hb3 : PB n * mk.2.length ≤ 2 * PB n := by
          rw [Int.mul_comm 2]
          exact Int.mul_le_mul_of_nonneg_left (by omega) (by omega)
        refine gm (lc_allN (N := mk.2.length) (P := fun j μ' => FeedOk h (b + 2 + PB n * j) μ' ∧ RoomOk r nh μ' ∧ Ext [h, r, nh] μ μ') (Q := fun a y => ∃ s, a = .str s ∧ DPat (n + 1) s y) (fun _ _ _ => still_nil) ?_ 0 μ5 (by simp) ⟨by simpa using f5.mono (by omega), o5, y5⟩) ?_
        · intro a ha2 j' μ6 hj ⟨f6, o6, y6⟩
          obtain ⟨s, hs, rfl⟩ := List.mem_map.mp ha2
          simp
          have hj2 : PB n * (j' + 1) ≤ PB n * mk.2.length := Int.mul_le_mul_of_nonneg_left (by omega) (by omega)
          rw [Int.mul_add, Int.mul_one] at hj2
          refine gm (ih d (b + 2 + PB n * j') s μ6 (k1 s hs) f6 (by omega) o6) ?_
          rintro p μ7 ⟨hp, f7, o7, x7⟩
          refine ⟨hp, f7.mono (by rw [Int.mul_add, Int.mul_one]; omega), o7, y6.trans x7⟩
        · rintro ys μ6 ⟨hy, f6, o6, y6⟩
          refine ⟨z3, .inr (.inr ⟨mk, ys, hk1, hmk, ?_, rfl⟩), f6.mono ?_, o6, y6⟩
          · clear hb3 f6 k1 k2
            revert hy
            generalize mk.2 = ks
            intro hy
            induction ks generalizing ys with
            | nil => cases hy; exact .nil
            | cons s ks ihk =>
              cases hy with
              | cons q t =>
                obtain ⟨s', e, q⟩ := q
                cases e
                exact .cons q (ihk _ t)
          · rw [List.length_map]
            show _ ≤ b + (10 + 2 * PB n)
            simp
            omega
end
end Tx

namespace Tx
open PySem PySem.Spec PyProof.Rows L2 Lt TL
def Nm (a : Lt.A) : Prop := ∃ x ∈ XS, a = .tup [.str "name", .str x]
def Opd (a : Lt.A) : Prop := Nm a ∨ ∃ i : Int, 0 ≤ i ∧ i < BIG ∧ a = .tup [.str "num", .int i]
def DG (g : Lt.A) : Prop := g = .non ∨ (∃ s, (s = "False" ∨ s = "True") ∧ g = .tup [.str "make", .str s]) ∨ ∃ o, (o = "<" ∨ o = "==") ∧ ∃ a b, Opd a ∧ Opd b ∧ g = .tup [.str "op", .str o, a, b]
def BOX : List Str := ["In", "It", "Ir", "Id", "Ib"]
def bodyA : List (Str × Lt.A) → Lt.A
  | [] => .tup [.str "make", .str "No"]
  | q :: l => .tup [.str "app", .tup [.str "app", .tup [.str "make", .str "Mo"], .tup [.str "app", .tup [.str "make", .str q.1], q.2]], bodyA l]
def DB (b : Lt.A) : Prop := ∃ l : List (Str × Lt.A), l.length ≤ 6 ∧ (∀ q ∈ l, q.1 ∈ BOX ∧ Opd q.2) ∧ b = bodyA l
section
variable {cx : Cxp} {fa : Fn → Addr}
theorem nums_run {h nh : Nat} {ns : List (Str × Str)} {μ : Sto} {o : Lt.A} (hn : μ[nh]? = some (.lst (ns.map pairA))) (hq : ∀ q ∈ ns, q.1 ∈ XS ∧ q.2 ∈ KS) :
    gives (lcM (tupG 2 (gsCons (setG 4) (gsCons (setG 5) gsNil))) (tsM eqA (vM 5) (kM (.str ("num" : Str)))) (apM mkTup (saC (kM (.str ("name" : Str))) (saC (vM 4) saN))) ⟨ns.map pairA, [(nh, ns.map pairA)]⟩ [some (.hd h), some (.hd nh), some o, none, none, none, none, none] (ns.map pairA) μ) fun ys μ' => μ' = μ ∧ ∀ y ∈ ys, Nm y := by
  have z2 : 2 ≤ sizeLine := sz (by decide)
  refine gm (w_lc (I := fun as ys μ' => μ' = μ ∧ (∀ a ∈ as, a ∈ ns.map pairA) ∧ ∀ y ∈ ys, Nm y) (KL := fun ys μ' => μ' = μ ∧ ∀ y ∈ ys, Nm y) ?_ ?_ _ [] μ ⟨rfl, fun a ha => ha, by simp⟩) ?_
  · rintro a as ys μ1 ⟨rfl, ha, hy⟩
    refine ⟨still_one hn, ?_⟩
    obtain ⟨q, hq1, rfl⟩ := List.mem_map.mp (ha a (List.mem_cons_self ..))
    unfold pairA
    simp
    by_cases e : q.2 = "num"
    · simp [e, z2]
      refine ⟨fun x hx => by simpa [pairA] using ha x (List.mem_cons_of_mem _ hx), fun y hy2 => ?_⟩
      rcases hy2 with hy2 | rfl
      · exact hy y hy2
      · exact ⟨q.1, (hq q hq1).1, rfl⟩
    · simp [e]
      exact ⟨fun x hx => by simpa [pairA] using ha x (List.mem_cons_of_mem _ hx), hy⟩
  · rintro ys μ1 ⟨rfl, _, hy⟩
    exact ⟨still_one hn, rfl, hy⟩
  · rintro ys μ1 h
    simpa using h
theorem guard_ok {h nh d : Nat} {b : Int} {ns : List (Str × Str)} {μ : Sto} (hne : h ≠ nh) (hf : FeedOk h b μ) (hb : b < 2 ^ 60) (hn : μ[nh]? = some (.lst (ns.map pairA))) (hl : ns.length ≤ 5) (hq : ∀ q ∈ ns, q.1 ∈ XS ∧ q.2 ∈ KS) :
    gives (fns cx fa (d + 3) ._law_guard [.hd h, .hd nh] μ) fun g μ' => DG g ∧ FeedOk h (b + 12) μ' ∧ Ext [h] μ μ' := by
  have e0 : startE 8 [Lt.A.hd h, .hd nh] = [some (.hd h), some (.hd nh), none, none, none, none, none, none] := rfl
  show gives (runBody 8 (m__law_guard cx fa (fns cx fa (d + 2))) _ μ) _
  rw [w_run, e0]
  unfold m__law_guard
  have z2 : 2 ≤ sizeLine := sz (by decide)
  have z4 : 4 ≤ sizeLine := sz (by decide)
  rw [f_seq, f_setS]
  simp
  refine gm (take_fns hf (by omega) (by decide)) ?_
  rintro _ μ1 ⟨c, rfl, c0, c1, f1, x1⟩
  have hn1 := x1.get hn (by simp [hne.symm])
  rw [w_iterH hn1]
  refine ⟨by rw [List.length_map]; exact sz (by omega), ?_⟩
  refine gm (nums_run hn1 hq) ?_
  rintro ys μ2 ⟨rfl, hys⟩
  have f2 : FeedOk h (b + 1) (μ2 ++ [.lst ys]) := f1.app
  have g2 : (μ2 ++ [.lst ys])[μ2.length]? = some (.lst ys) := get_0
  have y2 : Ext [h] μ (μ2 ++ [.lst ys]) := x1.trans Ext.app
  have hlt := f1.lt
  generalize μ2 ++ [.lst ys] = μ3 at f2 g2 y2
  have hne2 : μ2.length ≠ h := by omega
  generalize μ2.length = nb at g2 hne2
  have fine : ∀ (A B : Lt.A) (μ' : Sto), Opd A → Opd B → FeedOk h (b + 11) μ' → Ext [h] μ μ' → 2 ≤ sizeLine ∧ gives (fns cx fa (d + 2) ._law_take [.hd h, .int 2] (μ' ++ [.lst [.str "<", .str "=="]])) fun y μ2 => gives (ixA (.hd μ'.length) y μ2) fun x μ1 => 4 ≤ sizeLine ∧ DG (.tup [.str "op", x, A, B]) ∧ FeedOk h (b + 12) μ1 ∧ Ext [h] μ μ1 := fun A B μ' hA hB f x => by
    refine ⟨z2, gm (take_fns f.app (by omega) (by decide)) ?_⟩
    rintro _ μ4 ⟨j, rfl, j0, j1, f4, x4⟩
    have g4 := x4.get get_0 (by have := f.lt; simp; omega)
    rw [w_ixH g4]
    obtain ⟨a, ha, hm⟩ := atI_in (xs := [Lt.A.str "<", .str "=="]) j0 (by simpa using j1)
    refine ⟨a, ha, z4, ?_⟩
    simp at hm
    rcases hm with rfl | rfl
    · exact ⟨.inr (.inr ⟨_, .inl rfl, A, B, hA, hB, rfl⟩), f4.mono (by omega), x.trans (Ext.app.trans x4)⟩
    · exact ⟨.inr (.inr ⟨_, .inr rfl, A, B, hA, hB, rfl⟩), f4.mono (by omega), x.trans (Ext.app.trans x4)⟩
  simp
  refine ⟨fun h3 => ⟨.inl rfl, f2.mono (by omega), y2⟩, fun h3 => ⟨fun h4 => ?_, fun h4 => ?_⟩⟩
  · refine ⟨z2, ?_⟩
    refine gm (take_fns f2.app (by omega) (by decide)) ?_
    rintro _ μ4 ⟨j, rfl, j0, j1, f4, x4⟩
    have g4 := x4.get get_0 (by have := f2.lt; simp; omega)
    rw [w_ixH g4]
    obtain ⟨a, ha, hm⟩ := atI_in (xs := [Lt.A.str "False", .str "True"]) j0 (by simpa using j1)
    refine ⟨a, ha, z2, ?_⟩
    simp at hm
    rcases hm with rfl | rfl
    · exact ⟨.inr (.inl ⟨_, .inl rfl, rfl⟩), f4.mono (by omega), y2.trans (Ext.app.trans x4)⟩
    · exact ⟨.inr (.inl ⟨_, .inr rfl, rfl⟩), f4.mono (by omega), y2.trans (Ext.app.trans x4)⟩
  · refine gm (number_ok f2 (by omega)) ?_
    rintro _ μ4 ⟨i1, rfl, i10, i11, f4, x4⟩
    refine ⟨z2, ?_⟩
    refine gm (take_fns f4 (by omega) (by decide)) ?_
    rintro _ μ5 ⟨i2, rfl, i20, i21, f5, x5⟩
    have g5 := (x4.trans x5).get g2 (by simp [hne2])
    have y5 : Ext [h] μ μ5 := y2.trans (x4.trans x5)
    simp [w_lenH g5, z2]
    have o1 : Opd (.tup [.str "num", .int i1]) := .inr ⟨i1, i10, i11, rfl⟩
    have o2 : Opd (.tup [.str "num", .int i2]) := .inr ⟨i2, i20, by unfold BIG; omega, rfl⟩
    refine ⟨fun hp => ?_, fun hp => ?_⟩
    · refine gm (take_fns f5 (by omega) (by omega)) ?_
      rintro _ μ6 ⟨j, rfl, j0, j1, f6, x6⟩
      have g6 := x6.get g5 (by simp [hne2])
      rw [w_ixH g6]
      obtain ⟨a, ha, hm⟩ := atI_in j0 j1
      refine ⟨a, ha, ?_⟩
      have oa : Opd a := .inl (hys a hm)
      have y6 := y5.trans x6
      simp [w_lenH g6]
      refine ⟨fun h2 => ?_, fun h2 => (fine _ _ _ oa o2 (f6.mono (by omega)) y6).2⟩
      refine gm (take_fns f6 (by omega) (by omega)) ?_
      rintro _ μ7 ⟨t, rfl, t0, t1, f7, x7⟩
      have g7 := x7.get g6 (by simp [hne2])
      have y7 := y6.trans x7
      simp [w_lenH g7]
      refine ⟨fun ht => ?_, fun ht => (fine _ _ _ oa o2 (f7.mono (by omega)) y7).2⟩
      refine gm (take_fns f7 (by omega) (by omega)) ?_
      rintro _ μ8 ⟨u, rfl, u0, u1, f8, x8⟩
      have g8 := x8.get g7 (by simp [hne2])
      rw [w_ixH g8]
      obtain ⟨a2, ha2, hm2⟩ := atI_in u0 u1
      exact ⟨a2, ha2, (fine _ _ _ oa (.inl (hys a2 hm2)) (f8.mono (by omega)) (y7.trans x8)).2⟩
    · subst hp
      simp
      exact (fine _ _ _ o1 o2 (f5.mono (by omega)) y5).2
theorem body_ok {nh d : Nat} {ns : List (Str × Str)} {μ : Sto} {i : Int} (h0 : 0 ≤ i) (h1 : i < BIG) (hn : μ[nh]? = some (.lst (ns.map pairA))) (hl : ns.length ≤ 5) (hq : ∀ q ∈ ns, q.1 ∈ XS ∧ q.2 ∈ KS) :
    gives (fns cx fa (d + 1) ._law_body [.int i, .hd nh] μ) fun b μ' => DB b ∧ Ext [] μ μ' := by
  have e0 : startE 6 [Lt.A.int i, .hd nh] = [some (.int i), some (.hd nh), none, none, none, none] := rfl
  show gives (runBody 6 (m__law_body cx fa (fns cx fa d)) _ μ) _
  rw [w_run, e0]
  unfold m__law_body
  have z2 : 2 ≤ sizeLine := sz (by decide)
  have z3 : 3 ≤ sizeLine := sz (by decide)
  simp
  unfold dispM
  simp
  have hm : mergeA [] [((.inr "num" : Key), Lt.A.str "In"), (.inr "Tri", .str "It"), (.inr "Row", .str "Ir"), (.inr "Duo", .str "Id"), (.inr "Bool", .str "Ib")] = [((.inr "num" : Key), Lt.A.str "In"), (.inr "Tri", .str "It"), (.inr "Row", .str "Ir"), (.inr "Duo", .str "Id"), (.inr "Bool", .str "Ib")] := rfl
  rw [hm]
  rw [w_alloc]
  generalize hbx : [((.inr "num" : Key), Lt.A.str "In"), (.inr "Tri", .str "It"), (.inr "Row", .str "Ir"), (.inr "Duo", .str "Id"), (.inr "Bool", .str "Ib")] = kvs
  have hlk : ∀ k ∈ KS, ∃ s ∈ BOX, lookA kvs (.inr k) = some (.str s) := by
    subst hbx
    intro k hk
    unfold KS at hk
    simp at hk
    rcases hk with rfl | rfl | rfl | rfl | rfl
    · exact ⟨"In", by simp [BOX], rfl⟩
    · exact ⟨"It", by simp [BOX], rfl⟩
    · exact ⟨"Ir", by simp [BOX], rfl⟩
    · exact ⟨"Id", by simp [BOX], rfl⟩
    · exact ⟨"Ib", by simp [BOX], rfl⟩
  have g1 : (μ ++ [Mu.dic kvs])[μ.length]? = some (.dic kvs) := get_0
  have hn1 : (μ ++ [Mu.dic kvs])[nh]? = some (.lst (ns.map pairA)) := get_app hn
  have y1 : Ext [] μ (μ ++ [Mu.dic kvs]) := Ext.app
  generalize μ ++ [Mu.dic kvs] = μ1 at g1 hn1 y1
  generalize μ.length = dh at g1
  refine ⟨z2, ?_⟩
  rw [w_iterH hn1]
  refine f_for (I := fun as δ μ' => μ' = μ1 ∧ (∀ a ∈ as, a ∈ ns.map pairA) ∧ ∃ (l : List (Str × Lt.A)) (o4 o5 : Option Lt.A), l.length + as.length ≤ 5 ∧ (∀ q ∈ l, q.1 ∈ BOX ∧ Opd q.2) ∧ δ = [some (.int i), some (.hd nh), some (.hd dh), some (bodyA l), o4, o5]) ?_ ?_ _ _ _ ⟨rfl, fun a ha => ha, [], none, none, by simpa using hl, by simp, rfl⟩
  · rintro a as δ μ2 ⟨rfl, ha, l, o4, o5, hll, hlq, rfl⟩
    refine ⟨still_one hn1, ?_⟩
    obtain ⟨q, hq1, rfl⟩ := List.mem_map.mp (ha a (List.mem_cons_self ..))
    obtain ⟨s, hs, hls⟩ := hlk q.2 (hq q hq1).2
    rw [List.length_cons] at hll
    unfold pairA
    simp [z2, z3, w_ixD g1, hls]
    refine ⟨fun x hx => by simpa [pairA] using ha x (List.mem_cons_of_mem _ hx), (s, .tup [.str "name", .str q.1]) :: l, by rw [List.length_cons]; omega, ?_, rfl⟩
    intro p1 p2 hp
    rcases List.mem_cons.mp hp with e | hp
    · cases e
      exact ⟨hs, .inl ⟨q.1, (hq q hq1).1, rfl⟩⟩
    · exact hlq _ hp
  · rintro δ μ2 ⟨rfl, _, l, o4, o5, hll, hlq, rfl⟩
    refine ⟨still_one hn1, ?_⟩
    simp [z2, z3]
    refine ⟨⟨("In", .tup [.str "num", .int i]) :: l, by rw [List.length_cons]; simp at hll; omega, ?_, rfl⟩, y1⟩
    intro p hp
    rcases List.mem_cons.mp hp with rfl | hp
    · exact ⟨by simp [BOX], .inr ⟨i, h0, h1, rfl⟩⟩
    · exact hlq p hp
end
end Tx

namespace Tx
open PySem PySem.Spec PyProof.Rows L2 Lt TL
def DLine (ks : List Str) (a : Lt.A) : Prop := ∃ ps g b, a = .tup [.tup ps, g, b] ∧ F2 (DPat 3) ks ps ∧ DG g ∧ DB b
theorem f2_str {Q : Str → Lt.A → Prop} : ∀ {ks : List Str} {ys : List Lt.A}, F2 (fun a y => ∃ s, a = .str s ∧ Q s y) (ks.map Lt.A.str) ys → F2 Q ks ys
  | [], _, h => by cases h; exact .nil
  | s :: ks, _, h => by
    cases h with
    | cons q t =>
      obtain ⟨s', e, q⟩ := q
      cases e
      exact .cons q (f2_str t)
def WB : Nat → Nat
  | 0 => 1
  | n + 1 => 1 + 2 * WB n
theorem w_extend {n m : Nat} {xs ys : List Lt.A} {μ : Sto} {K : Lt.A → Sto → Prop} (h : μ[n]? = some (.lst xs)) (h2 : μ[m]? = some (.lst ys)) : gives (extendA (.hd n) [.hd m] μ) K ↔ xs.length + ys.length ≤ sizeLine ∧ K .non (μ.set n (.lst (xs ++ ys))) := by
  unfold extendA
  simp only [h, h2]
  split
  · rename_i q
    exact ⟨fun z => ⟨q, z⟩, fun z => z.2⟩
  · rename_i q
    exact ⟨fun z => z.elim, fun z => absurd z.1 q⟩
section
variable {cx : Cxp} {fa : Fn → Addr}
theorem kinds_ok {h d : Nat} {b : Int} {μ : Sto} (hf : FeedOk h b μ) (hb : b < 2 ^ 60) : gives (fns cx fa (d + 2) ._law_kinds [.hd h] μ) fun r μ' => ∃ (hk : Nat) (ks : List Str), r = .hd hk ∧ μ.length ≤ hk ∧ μ'[hk]? = some (.lst (ks.map Lt.A.str)) ∧ (∀ k ∈ ks, k ∈ KS) ∧ ks.length ≤ 3 ∧ FeedOk h (b + 4) μ' ∧ Ext [h] μ μ' := by
  have e0 : startE 2 [Lt.A.hd h] = [some (.hd h), none] := rfl
  show gives (runBody 2 (m__law_kinds cx fa (fns cx fa (d + 1))) _ μ) _
  rw [w_run, e0]
  unfold m__law_kinds
  simp
  refine gm (take_fns hf (by omega) (by decide)) ?_
  rintro _ μ1 ⟨k, rfl, k0, k1, f1, x1⟩
  simp
  refine ⟨by omega, by rw [sizeLine_eq]; omega, ?_⟩
  refine gm (lc_allN (N := (1 + k).toNat) (P := fun j μ' => FeedOk h (b + 1 + j) μ' ∧ Ext [h] μ μ') (Q := fun a y => ∃ s ∈ KS, y = .str s) (fun _ _ _ => still_nil) ?_ 0 μ1 (by simp) ⟨by simpa using f1, x1⟩) ?_
  · intro a ha j μ2 hj ⟨f2, y2⟩
    simp
    refine ⟨sz (by decide), ?_⟩
    refine gm (take_fns f2.app (by omega) (by decide)) ?_
    rintro _ μ3 ⟨i, rfl, i0, i1, f3, x3⟩
    have g3 := x3.get get_0 (by have := f2.lt; simp; omega)
    rw [w_ixH g3]
    obtain ⟨a, ha, hm⟩ := atI_in (xs := [Lt.A.str "num", .str "Tri", .str "Row", .str "Duo", .str "Bool"]) i0 (by simpa using i1)
    refine ⟨a, ha, ?_, f3.mono (by omega), y2.trans (Ext.app.trans x3)⟩
    simp at hm
    rcases hm with rfl | rfl | rfl | rfl | rfl <;> exact ⟨_, by simp [KS], rfl⟩
  · rintro ys μ2 ⟨hy, f2, y2⟩
    have hl := f2_len hy
    have : ∃ ks : List Str, ys = ks.map Lt.A.str ∧ ∀ k ∈ ks, k ∈ KS := by
      clear f2 y2 hl
      revert hy
      generalize List.map (fun i => Lt.A.int ((i : Nat) : Int)) (List.range (1 + k).toNat) = as
      intro hy
      induction hy with
      | nil => exact ⟨[], rfl, by simp⟩
      | cons q _ ih =>
        obtain ⟨s, hs, rfl⟩ := q
        obtain ⟨ks, rfl, h2⟩ := ih
        refine ⟨s :: ks, rfl, ?_⟩
        intro x hx
        rcases List.mem_cons.mp hx with rfl | hx
        · exact hs
        · exact h2 x hx
    obtain ⟨ks, rfl, hks⟩ := this
    simp at hl
    refine ⟨y2.1, ks, rfl, hks, by omega, (f2.mono (by simp; omega)).app, y2.trans Ext.app⟩
theorem line_ok {h hk d : Nat} {b i l : Int} {ks : List Str} {μ : Sto} (hne : hk ≠ h) (hf : FeedOk h b μ) (hb : b < 2 ^ 59) (h0 : 0 ≤ i) (h1 : i < BIG) (hks : μ[hk]? = some (.lst (ks.map Lt.A.str))) (hk2 : ∀ k ∈ ks, k ∈ KS) (hl : ks.length ≤ 3) :
    gives (fns cx fa (d + 6) ._law_line [.hd h, .hd hk, .int i, .int l] μ) fun r μ' => DLine ks r ∧ FeedOk h (b + 300) μ' ∧ Ext [h] μ μ' := by
  have e0 : startE 8 [Lt.A.hd h, .hd hk, .int i, .int l] = [some (.hd h), some (.hd hk), some (.int i), some (.int l), none, none, none, none] := rfl
  show gives (runBody 8 (m__law_line cx fa (fns cx fa (d + 5))) _ μ) _
  rw [w_run, e0]
  unfold m__law_line
  have z0 : 0 ≤ sizeLine := sz (by decide)
  have z2 : 2 ≤ sizeLine := sz (by decide)
  have z3 : 3 ≤ sizeLine := sz (by decide)
  simp [-List.append_assoc, -List.length_append]
  have f1 : FeedOk h b (μ ++ [Mu.lst []] ++ [.lst [.int l, .hd μ.length]]) := hf.app.app
  have g1 : (μ ++ [Mu.lst []] ++ [.lst [Lt.A.int l, .hd μ.length]])[μ.length]? = some (.lst []) := get_1
  have g2 : (μ ++ [Mu.lst []] ++ [.lst [Lt.A.int l, .hd μ.length]])[(μ ++ [Mu.lst []]).length]? = some (.lst [.int l, .hd μ.length]) := get_2
  have gk : (μ ++ [Mu.lst []] ++ [.lst [Lt.A.int l, .hd μ.length]])[hk]? = some (.lst (ks.map Lt.A.str)) := get_app (get_app hks)
  have y1 : Ext [h] μ (μ ++ [Mu.lst []] ++ [.lst [.int l, .hd μ.length]]) := Ext.app.trans Ext.app
  have hlt := hf.lt
  have hklt := (List.getElem?_eq_some_iff.mp hks).1
  have hr : (μ ++ [Mu.lst []]).length = μ.length + 1 := by simp
  rw [hr] at g2 ⊢
  generalize μ ++ [Mu.lst []] ++ [.lst [Lt.A.int l, .hd μ.length]] = μ1 at f1 g1 g2 gk y1
  refine ⟨z2, ?_⟩
  rw [w_iterH gk]
  refine ⟨by rw [List.length_map]; exact sz (by omega), ?_⟩
  have o1 : RoomOk (μ.length + 1) μ.length μ1 := ⟨l, [], g2, g1, by simp, by simp⟩
  refine gm (lc_allN (N := ks.length) (P := fun j μ' => FeedOk h (b + 70 * j) μ' ∧ RoomOk (μ.length + 1) μ.length μ' ∧ Ext [h] μ μ' ∧ μ'[hk]? = some (.lst (ks.map Lt.A.str))) (Q := fun a y => ∃ s, a = .str s ∧ DPat 3 s y) (fun j μ' p => still_one p.2.2.2) ?_ 0 μ1 (by simp) ⟨by simpa using f1, o1, y1, gk⟩) ?_
  · intro a ha j μ2 hj ⟨f2, o2, y2, gk2⟩
    obtain ⟨s, hs, rfl⟩ := List.mem_map.mp ha
    simp
    refine gm (pat_ok (h := h) (r := μ.length + 1) (nh := μ.length) (by omega) (by omega) (by omega) 2 d (b + 70 * j) s μ2 (hk2 s hs) f2 (by have : PB 2 = 70 := rfl; omega) o2) ?_
    rintro p μ3 ⟨hp, f3, o3, x3⟩
    refine ⟨hp, f3.mono (by have : PB 2 = 70 := rfl; omega), o3, y2.old x3 (by simp), x3.get gk2 (by simp; omega)⟩
  · rintro ys μ2 ⟨hy, f2, o2, y2, gk2⟩
    have hy2 := f2_str hy
    rw [List.length_map] at f2
    obtain ⟨look, ns, a1, a2, a3, a4⟩ := o2
    refine gm (guard_ok (d := d + 2) (b := b + 210) (by omega) (f2.mono (by omega)) (by omega) a2 a3 a4) ?_
    rintro g μ3 ⟨hg, f3, x3⟩
    refine gm (body_ok (d := d + 4) h0 h1 (x3.get a2 (by simp; omega)) a3 a4) ?_
    rintro bd μ4 ⟨hbd, x4⟩
    exact ⟨z3, ⟨ys, g, bd, rfl, hy2, hg, hbd⟩, (f3.of x4 (by simp)).mono (by omega), y2.trans (x3.trans (x4.sub (by simp)))⟩
end
end Tx

namespace Tx
open PySem PySem.Spec PyProof.Rows L2 Lt TL
section
variable {cx : Cxp} {fa : Fn → Addr}
/-- ways of a pattern -/
def WaysAt (μ : Sto) (hw N : Nat) : Prop := ∃ ws : List Int, μ[hw]? = some (.lst (ws.map Lt.A.int)) ∧ ws.length ≤ N ∧ ∀ w ∈ ws, 0 ≤ w ∧ w ≤ 3
theorem WB_le : ∀ n, WB n ≤ WB (n + 1) := fun n => by show _ ≤ 1 + 2 * WB n; omega
theorem w_inLo {s : Str} {μ : Sto} {K : Lt.A → Sto → Prop} : gives (inA (.str s) (.tup [.str "Lo", .str "Mi", .str "Hi"]) μ) K ↔ K (.bl ([("Lo" : Str), "Mi", "Hi"].any fun t => t == s)) μ := by
  unfold inA
  show gives (Res.ok (Lt.A.bl ([Lt.A.str "Lo", .str "Mi", .str "Hi"].any fun y => eqF y (.str s))) μ) _ ↔ _
  rw [w_ok]
  simp [eqF]
/-- extended by the ways of all of some patterns -/
theorem ways_ok : ∀ (n d : Nat) (k : Str) (p : Lt.A) (μ : Sto), WB n ≤ 40000 → DPat n k p → gives (fns cx fa (d + n + 1) ._law_ways [p] μ) fun r μ' => ∃ hw, r = .hd hw ∧ μ.length ≤ hw ∧ WaysAt μ' hw (WB n) ∧ Ext [] μ μ' := by
  intro n
  have z0 : 0 ≤ sizeLine := sz (by decide)
  have z1 : 1 ≤ sizeLine := sz (by decide)
  have z3 : 3 ≤ sizeLine := sz (by decide)
  have q1 : ¬ (("name" : Str) = "as") := by decide +kernel
  have q2 : ¬ (("name" : Str) = "num") := by decide +kernel
  have q3 : ¬ (("name" : Str) = "make") := by decide +kernel
  have q4 : ¬ (("any" : Str) = "as") := by decide +kernel
  have q5 : ¬ (("any" : Str) = "num") := by decide +kernel
  have q6 : ¬ (("any" : Str) = "make") := by decide +kernel
  have q7 : ¬ (("num" : Str) = "as") := by decide +kernel
  have q8 : ¬ (("make" : Str) = "as") := by decide +kernel
  have q9 : ¬ (("make" : Str) = "num") := by decide +kernel
  have leaf : ∀ (m e : Nat) (k : Str) (p : Lt.A) (μ : Sto), ((∃ x ∈ XS, p = .tup [.str "name", .str x]) ∨ p = .tup [.str "any"] ∨ (k = "num" ∧ ∃ i : Int, 0 ≤ i ∧ i < BIG ∧ p = .tup [.str "num", .int i])) → 1 ≤ WB m →
      gives (fns cx fa (e + 1) ._law_ways [p] μ) fun r μ' => ∃ hw, r = .hd hw ∧ μ.length ≤ hw ∧ WaysAt μ' hw (WB m) ∧ Ext [] μ μ' := by
    intro m e k p μ hp hm
    have e0 : startE 3 [p] = [some p, none, none] := rfl
    show gives (runBody 3 (m__law_ways cx fa (fns cx fa e)) _ μ) _
    rw [w_run, e0]
    unfold m__law_ways
    rcases hp with ⟨x, hx, rfl⟩ | rfl | ⟨rfl, i, i0, i1, rfl⟩
    · simp [q1, q2, q3, z0]
      exact ⟨⟨[], get_0, by simp, by simp⟩, Ext.app⟩
    · simp [q4, q5, q6, z0]
      exact ⟨⟨[], get_0, by simp, by simp⟩, Ext.app⟩
    · simp [q7, z1]
      exact ⟨⟨[2], get_0, by simpa using hm, by simp⟩, Ext.app⟩
  induction n with
  | zero =>
    intro d k p μ _ hp
    exact leaf 0 d k p μ hp (by decide)
  | succ n ih =>
    intro d k p μ hWB1 hp
    have hWB : WB n ≤ 40000 := Nat.le_trans (WB_le n) hWB1
    rcases hp with hp | ⟨x, hx, p', hp', rfl⟩ | ⟨mk, ps, hk, hmk, hps, rfl⟩
    · exact leaf (n + 1) (d + (n + 1)) k p μ hp (by show 1 ≤ 1 + 2 * WB n; omega)
    · have e0 : startE 3 [Lt.A.tup [.str "as", .str x, p']] = [some (.tup [.str "as", .str x, p']), none, none] := rfl
      show gives (runBody 3 (m__law_ways cx fa (fns cx fa (d + n + 1))) _ μ) _
      rw [w_run, e0]
      unfold m__law_ways
      simp
      refine gm (ih d k p' μ hWB hp') ?_
      rintro _ μ1 ⟨hw, rfl, h1, ⟨ws, h2, h3, h4⟩, x1⟩
      exact ⟨hw, rfl, h1, ⟨ws, h2, Nat.le_trans h3 (WB_le n), h4⟩, x1⟩
    · have e0 : startE 3 [Lt.A.tup [.str "make", .str mk.1, .tup ps]] = [some (.tup [.str "make", .str mk.1, .tup ps]), none, none] := rfl
      show gives (runBody 3 (m__law_ways cx fa (fns cx fa (d + n + 1))) _ μ) _
      rw [w_run, e0]
      unfold m__law_ways
      have hl := f2_len hps
      have hl2 := (mk_ks hmk).2
      simp [q8, q9, z1, z3, w_inLo, -List.append_assoc, -List.length_append]
      have hlen : WB n * ps.length ≤ 2 * WB n := by
        rw [Nat.mul_comm 2]
        exact Nat.mul_le_mul_left _ (by omega)
      refine ⟨fun _ => ?_, fun _ _ _ => ?_⟩
      all_goals
        refine f_for (I := fun as δ μ' => ∃ (ws : List Int) (o2 : Option Lt.A) (ks : List Str), F2 (DPat n) ks as ∧ δ = [some (.tup [.str "make", .str mk.1, .tup ps]), some (.hd μ.length), o2] ∧ μ'[μ.length]? = some (.lst (ws.map Lt.A.int)) ∧
          ws.length + WB n * as.length ≤ 1 + 2 * WB n ∧ (∀ w ∈ ws, 0 ≤ w ∧ w ≤ 3) ∧ Ext [] μ μ') ?_ ?_ _ _ _ ⟨[_], none, mk.2, hps, rfl, get_0, by simp; omega, by simp, Ext.app⟩
        · rintro a as δ μ1 ⟨ws, o2, ks, ha, rfl, g1, hw, hv, x1⟩
          refine ⟨still_nil, ?_⟩
          cases ha with
          | @cons k' _ ks _ hak hat =>
            rw [List.length_cons, Nat.mul_succ] at hw
            simp [w_itemsL g1]
            refine gm (ih d k' a μ1 hWB hak) ?_
            rintro _ μ2 ⟨hw2, rfl, h1, ⟨ws2, h2, h3, h4⟩, x2⟩
            have g2 := x2.get g1 (by simp)
            rw [w_extend g2 h2]
            refine ⟨by rw [List.length_map, List.length_map]; exact sz (by have : WB n ≤ 40000 := hWB; omega), ⟨ks, hat⟩, ws ++ ws2, ?_, ?_, ?_, (x1.trans x2).setNew (Nat.le_refl _)⟩
            · rw [List.getElem?_set_self (List.getElem?_eq_some_iff.mp g2).1, List.map_append]
            · rw [List.length_append]; omega
            · intro w hw3
              rcases List.mem_append.mp hw3 with q | q
              · exact hv w q
              · exact h4 w q
        · rintro δ μ1 ⟨ws, o2, ks, ha, rfl, g1, hw, hv, x1⟩
          refine ⟨still_nil, ?_⟩
          simp
          exact ⟨⟨ws, g1, by simp at hw; exact hw, hv⟩, x1⟩
end
end Tx

namespace Tx
open PySem PySem.Spec PyProof.Rows L2 Lt TL
theorem intsOf_int : ∀ is : List Int, intsOf (is.map Lt.A.int) = some is
  | [] => rfl
  | i :: is => by
    show (intsOf (is.map Lt.A.int)).map (i :: ·) = _
    rw [intsOf_int is]
    rfl
theorem w_sumF {is : List Int} {μ : Sto} {K : Lt.A → Sto → Prop} : gives (sumF (is.map Lt.A.int) μ) K ↔ K (.int is.sum) μ := by
  unfold sumF
  rw [w_bnd, intsOf_int, w_optS]
  exact Iff.rfl
theorem sum_le : ∀ is : List Int, (∀ i ∈ is, -1 ≤ i ∧ i ≤ 2) → -(is.length : Int) ≤ is.sum ∧ is.sum ≤ 2 * is.length
  | [], _ => by simp
  | i :: is, h => by
    have h1 := h i (List.mem_cons_self ..)
    have h2 := sum_le is fun j hj => h j (List.mem_cons_of_mem _ hj)
    simp
    omega
section
variable {cx : Cxp} {fa : Fn → Addr}
theorem lc_int {δ : Lt.Env} {its : List Lt.A} {src : List (Nat × List Lt.A)} {j : Nat} (hj : j < δ.length) {μ : Sto} (hs : (MIt.mk its src).still μ) : ∀ ws : List Int, gives (lcM (setG j) yesT (opM subA (vM j) (kM (.int 1))) ⟨its, src⟩ δ (ws.map Lt.A.int) μ) fun ys μ' => ys = (ws.map (· - 1)).map Lt.A.int ∧ μ' = μ
  | [] => by
    simp only [List.map_nil, lcM, if_pos hs]
    exact ⟨rfl, rfl⟩
  | w :: ws => by
    simp only [List.map_cons, lcM, if_pos hs]
    rw [w_bnd, w_noX]
    simp
    unfold getv
    rw [List.getElem?_set_self hj]
    simp
    refine gm (lc_int hj hs ws) ?_
    rintro ys μ1 ⟨rfl, rfl⟩
    simp
theorem nodes_ok {d : Nat} {hl : Nat} {ls : List Lt.A} {ks : List Str} {μ : Sto} (hls : μ[hl]? = some (.lst ls)) (hd : ∀ a ∈ ls, DLine ks a) (hk : ks.length ≤ 3) :
    gives (fns cx fa (d + 5) ._law_nodes_at_most [.hd hl] μ) fun r μ' => ∃ i : Int, r = .int i ∧ Ext [] μ μ' := by
  have e0 : startE 9 [Lt.A.hd hl] = [some (.hd hl), none, none, none, none, none, none, none, none] := rfl
  show gives (runBody 9 (m__law_nodes_at_most cx fa (fns cx fa (d + 4))) _ μ) _
  rw [w_run, e0]
  unfold m__law_nodes_at_most
  have z0 : 0 ≤ sizeLine := sz (by decide)
  simp
  rw [w_rev hls]
  have g0 : (μ ++ [Mu.lst ls.reverse])[μ.length]? = some (.lst ls.reverse) := get_0
  have y0 : Ext [] μ (μ ++ [Mu.lst ls.reverse]) := Ext.app
  have hlen : (μ ++ [Mu.lst ls.reverse]).length = μ.length + 1 := by simp
  generalize μ ++ [Mu.lst ls.reverse] = μ1 at g0 y0 hlen
  rw [w_iterH g0]
  refine f_for (I := fun as δ μ' => (∀ a ∈ as, DLine ks a) ∧ Ext [] μ1 μ' ∧ ∃ (i : Int) (o2 o3 o4 o5 o6 o7 o8 : Option Lt.A), δ = [some (.hd hl), some (.int i), o2, o3, o4, o5, o6, o7, o8]) ?_ ?_ _ _ _ ⟨fun a ha => hd a (by simpa using ha), Ext.refl, 1, none, none, none, none, none, none, none, rfl⟩
  · rintro a as δ μ2 ⟨ha, x2, i, o2, o3, o4, o5, o6, o7, o8, rfl⟩
    refine ⟨still_one (x2.get g0 (by simp)), ?_⟩
    obtain ⟨ps, g, bd, rfl, hps, hg, hbd⟩ := ha a (List.mem_cons_self ..)
    have hpl := f2_len hps
    simp
    have gw : (μ2 ++ [Mu.lst []])[μ2.length]? = some (.lst []) := get_0
    have yw : Ext [] μ1 (μ2 ++ [Mu.lst []]) := x2.trans Ext.app
    have hge : μ1.length ≤ μ2.length := x2.1
    generalize μ2 ++ [Mu.lst []] = μ3 at gw yw
    generalize μ2.length = hw at gw hge
    refine f_for (I := fun as' δ μ' => ∃ (ks' : List Str) (ws : List Int) (o6 : Option Lt.A), F2 (DPat 3) ks' as' ∧ δ = [some (.hd hl), some (.int i), some (.tup ps), some g, some bd, some (.hd hw), o6, o7, o8] ∧ μ'[hw]? = some (.lst (ws.map Lt.A.int)) ∧ ws.length + 15 * as'.length ≤ 45 ∧ (∀ w ∈ ws, 0 ≤ w ∧ w ≤ 3) ∧ Ext [] μ1 μ') ?_ ?_ _ _ _ ⟨ks, [], o6, hps, rfl, gw, by simp; omega, by simp, yw⟩
    · rintro p as' δ μ4 ⟨ks', ws, o6, hp, rfl, g4, hwl, hwv, x4⟩
      refine ⟨still_nil, ?_⟩
      cases hp with
      | @cons k' _ ks' _ hak hat =>
        rw [List.length_cons] at hwl
        simp [w_itemsL g4]
        refine gm (ways_ok 3 d k' p μ4 (by decide) hak) ?_
        rintro _ μ5 ⟨hw2, rfl, h1, ⟨ws2, h2, h3, h4⟩, x5⟩
        have g5 := x5.get g4 (by simp)
        have h3' : ws2.length ≤ 15 := h3
        rw [w_extend g5 h2]
        refine ⟨by rw [List.length_map, List.length_map]; exact sz (by omega), ⟨ks', hat⟩, ws ++ ws2, ?_, ?_, ?_, (x4.trans x5).setNew hge⟩
        · rw [List.getElem?_set_self (List.getElem?_eq_some_iff.mp g5).1, List.map_append]
        · rw [List.length_append]; omega
        · intro w hw3
          rcases List.mem_append.mp hw3 with q | q
          · exact hwv w q
          · exact h4 w q
    · rintro δ μ4 ⟨ks', ws, o6, hp, rfl, g4, hwl, hwv, x4⟩
      refine ⟨still_nil, ?_⟩
      simp at hwl
      simp
      rw [w_iterH g4]
      refine ⟨by rw [List.length_map]; exact sz (by omega), ?_⟩
      refine gm (lc_int (by simp) (still_one g4) ws) ?_
      rintro ys μ5 ⟨rfl, rfl⟩
      rw [w_sumF]
      have hs := sum_le (ws.map (· - 1)) (by
        intro j hj
        obtain ⟨w, hw1, rfl⟩ := List.mem_map.mp hj
        have := hwv w hw1
        omega)
      rw [List.length_map] at hs
      simp [w_lenH g4]
      refine ⟨cmulL ?_ ?_, ?_⟩
      · split <;> omega
      · split <;> omega
      · exact ⟨fun x hx => ha x (List.mem_cons_of_mem _ hx), x4⟩
  · rintro δ μ2 ⟨ha, x2, i, o2, o3, o4, o5, o6, o7, o8, rfl⟩
    refine ⟨still_one (x2.get g0 (by simp)), ?_⟩
    simp
    exact y0.trans x2
end
end Tx

namespace Tx
open PySem PySem.Spec PyProof.Rows L2 Lt TL
theorem w_eqEh {n m : Nat} {xs : List Lt.A} {μ : Sto} {K : Lt.A → Sto → Prop} (h : μ[n]? = some (.lst xs)) (h2 : μ[m]? = some (.lst [])) : gives (eqEA (.hd n) (.hd m) μ) K ↔ K (.bl xs.isEmpty) μ := by
  unfold eqEA empB
  simp only [h, h2]
  exact Iff.rfl
section
variable {cx : Cxp} {fa : Fn → Addr}
theorem lines_ok {h hk d : Nat} {b m l : Int} {ks : List Str} {μ : Sto} (hne : hk ≠ h) (hf : FeedOk h b μ) (hb : b < 2 ^ 58) (m0 : 1 ≤ m) (m1 : m ≤ 5) (hks : μ[hk]? = some (.lst (ks.map Lt.A.str))) (hk2 : ∀ k ∈ ks, k ∈ KS) (hl : ks.length ≤ 3) :
    gives (fns cx fa (d + 7) ._law_lines [.hd h, .hd hk, .int m, .int l] μ) fun r μ' => ∃ ls, r = .tup ls ∧ ls ≠ [] ∧ ls.length ≤ 6 ∧ (∀ a ∈ ls, DLine ks a) ∧ FeedOk h (b + 2000) μ' ∧ Ext [h] μ μ' := by
  have e0 : startE 8 [Lt.A.hd h, .hd hk, .int m, .int l] = [some (.hd h), some (.hd hk), some (.int m), some (.int l), none, none, none, none] := rfl
  show gives (runBody 8 (m__law_lines cx fa (fns cx fa (d + 6))) _ μ) _
  rw [w_run, e0]
  unfold m__law_lines
  have z0 : 0 ≤ sizeLine := sz (by decide)
  have z1 : 1 ≤ sizeLine := sz (by decide)
  have z2 : 2 ≤ sizeLine := sz (by decide)
  have z3 : 3 ≤ sizeLine := sz (by decide)
  simp
  have g0 : (μ ++ [Mu.lst []])[μ.length]? = some (.lst []) := get_0
  have k0 : (μ ++ [Mu.lst []])[hk]? = some (.lst (ks.map Lt.A.str)) := get_app hks
  have hlt := hf.lt
  have hklt := (List.getElem?_eq_some_iff.mp hks).1
  refine gm (take_fns hf.app (by omega) (by omega)) ?_
  rintro _ μ1 ⟨c, rfl, c0, c1, f1, x1⟩
  have y1 : Ext [h] μ μ1 := Ext.app.trans x1
  have g1 := x1.get g0 (by simp; omega)
  have k1 := x1.get k0 (by simp; omega)
  simp
  refine ⟨by omega, ?_⟩
  have hrange : ∀ x ∈ (List.range (1 + c).toNat).map (fun i => Lt.A.int ((i : Nat) : Int)), ∃ i : Int, x = .int i ∧ 0 ≤ i ∧ i < BIG := by
    intro x hx
    obtain ⟨i, hi, rfl⟩ := List.mem_map.mp hx
    rw [List.mem_range] at hi
    exact ⟨i, rfl, by omega, by unfold BIG; omega⟩
  refine f_for (I := fun as δ μ' => (∀ x ∈ as, ∃ i : Int, x = .int i ∧ 0 ≤ i ∧ i < BIG) ∧ Ext [h] μ μ' ∧ μ'[hk]? = some (.lst (ks.map Lt.A.str)) ∧ ∃ (ls : List Lt.A) (o5 o6 o7 : Option Lt.A), δ = [some (.hd h), some (.hd hk), some (.int m), some (.int l), some (.hd μ.length), o5, o6, o7] ∧
    μ'[μ.length]? = some (.lst ls) ∧ ls.length + as.length ≤ 5 ∧ (∀ a ∈ ls, DLine ks a) ∧ FeedOk h (b + 1 + 300 * (5 - as.length)) μ') ?_ ?_ _ _ _ ⟨hrange, y1, k1, [], none, none, none, rfl, g1, by simp; omega, by simp, f1.mono (by simp; omega)⟩
  · rintro x as δ μ2 ⟨hx, y2, k2, ls, o5, o6, o7, rfl, g2, hll, hls, f2⟩
    refine ⟨still_nil, ?_⟩
    obtain ⟨i, rfl, i0, i1⟩ := hx x (List.mem_cons_self ..)
    rw [List.length_cons] at hll f2
    simp
    refine gm (line_ok hne f2 (by omega) i0 i1 k2 hk2 hl) ?_
    rintro one μ3 ⟨hone, f3, x3⟩
    have g3 := x3.get g2 (by simp; omega)
    have k3 := x3.get k2 (by simp; omega)
    have y3 := y2.trans x3
    simp [z1, -List.append_assoc, -List.length_append]
    have g4 : (μ3 ++ [Mu.lst [one]])[μ.length]? = some (.lst ls) := get_app g3
    have g5 : (μ3 ++ [Mu.lst [one]])[μ3.length]? = some (.lst [one]) := get_0
    rw [w_addH g4 g5]
    refine ⟨by simp; exact sz (by omega), ?_⟩
    have g6 : (μ3 ++ [Mu.lst [one]] ++ [Mu.lst (ls ++ [one])])[(μ3 ++ [Mu.lst [one]]).length]? = some (.lst (ls ++ [one])) := get_0
    have hall : ∀ a ∈ ls ++ [one], DLine ks a := by
      intro a ha
      rcases List.mem_append.mp ha with q | q
      · exact hls a q
      · rw [List.mem_singleton.mp q]; exact hone
    refine gm (nodes_ok (d := d + 1) g6 hall hl) ?_
    rintro _ μ4 ⟨nn, rfl, x4⟩
    have x34 : Ext [] μ3 μ4 := Ext.app.trans (Ext.app.trans x4)
    have g7 := x34.get g3 (by simp)
    have k7 := x34.get k3 (by simp)
    have f7 := f3.of x34 (by simp)
    have y7 := y3.trans (x34.sub (by simp))
    simp
    have hx2 : ∀ x ∈ as, ∃ i : Int, x = .int i ∧ 0 ≤ i ∧ i < BIG := fun x q => hx x (List.mem_cons_of_mem _ q)
    refine ⟨fun h4 => ?_, fun h4 => ?_⟩
    · rw [w_itemsL g7, w_append g7]
      refine ⟨by rw [sizeLine_eq]; omega, hx2, y7.old (Ext.set (hs := [μ.length]) (by simp)) (by simp), ?_, ls ++ [one], ?_, by simp; omega, hall, ?_⟩
      · rw [List.getElem?_set_ne (by omega)]; exact k7
      · exact List.getElem?_set_self (List.getElem?_eq_some_iff.mp g7).1
      · exact (f7.of (Ext.set (hs := [μ.length]) (by simp)) (by simp; omega)).mono (by omega)
    · exact ⟨hx2, y7, k7, ls, g7, by omega, hls, f7.mono (by omega)⟩
  · rintro δ μ2 ⟨hx, y2, k2, ls, o5, o6, o7, rfl, g2, hll, hls, f2⟩
    refine ⟨still_nil, ?_⟩
    simp [z0]
    have g3 : (μ2 ++ [Mu.lst []])[μ.length]? = some (.lst ls) := get_app g2
    have g4 : (μ2 ++ [Mu.lst []])[μ2.length]? = some (.lst []) := get_0
    rw [w_eqEh g3 g4]
    have k3 : (μ2 ++ [Mu.lst []])[hk]? = some (.lst (ks.map Lt.A.str)) := get_app k2
    have f3 : FeedOk h (b + 1501) (μ2 ++ [Mu.lst []]) := (f2.mono (by rw [List.length_nil]; omega)).app
    have y3 : Ext [h] μ (μ2 ++ [Mu.lst []]) := y2.trans Ext.app
    generalize μ2 ++ [Mu.lst []] = μ3 at g3 k3 f3 y3
    simp
    refine ⟨fun he => ?_, fun he => ?_⟩
    · subst he
      rw [w_itemsL g3]
      rw [w_iterH k3]
      refine ⟨by rw [List.length_map]; exact sz (by omega), ?_⟩
      refine gm (lc_allN (N := ks.length) (P := fun j μ' => μ' = μ3) (Q := fun a y => ∃ s, a = .str s ∧ DPat 3 s y) (fun j μ' p => by rw [p]; exact still_one k3) ?_ 0 μ3 (by simp) rfl) ?_
      · intro a ha j μ4 hj e
        subst e
        obtain ⟨s, hs, rfl⟩ := List.mem_map.mp ha
        simp [z1]
        exact .inl (.inr (.inl rfl))
      · rintro ys μ4 ⟨hy, rfl⟩
        have ga : (μ4 ++ [Mu.lst []])[μ4.length]? = some (.lst (([] : List (Str × Str)).map pairA)) := get_0
        refine gm (body_ok (d := d + 5) (i := 0) (ns := []) (by omega) (by decide) ga (by simp) (by simp)) ?_
        rintro bd μ5 ⟨hbd, x5⟩
        have x45 : Ext [] μ4 μ5 := Ext.app.trans x5
        have g5 := x45.get g3 (by simp)
        simp [z3]
        rw [w_append g5]
        refine ⟨by rw [sizeLine_eq]; decide, ?_⟩
        have g6 : (μ5.set μ.length (.lst [Lt.A.tup [.tup ys, .non, bd]]))[μ.length]? = some (.lst [Lt.A.tup [.tup ys, .non, bd]]) := List.getElem?_set_self (List.getElem?_eq_some_iff.mp g5).1
        unfold tupleA
        simp
        rw [w_itemsH g6]
        refine ⟨by simp, by simp, ?_, ?_, ?_⟩
        · intro a ha
          rw [List.mem_singleton.mp ha]
          exact ⟨ys, .non, bd, rfl, f2_str hy, .inl rfl, hbd⟩
        · exact ((f3.of x45 (by simp)).of (Ext.set (hs := [μ.length]) (by simp)) (by simp; omega)).mono (by omega)
        · exact (y3.trans (x45.sub (by simp))).old (Ext.set (hs := [μ.length]) (by simp)) (by simp)
    · unfold tupleA
      simp
      rw [w_itemsH g3]
      exact ⟨he, by simp at hll; omega, hls, f3.mono (by omega), y3⟩
end
end Tx

namespace Tx
open PySem PySem.Spec PyProof.Rows L2 Lt TL
/-! ### names that are unlike -/
theorem nodup_le {α : Type} [DecidableEq α] : ∀ (l t : List α), l.Nodup → (∀ x ∈ l, x ∈ t) → l.length ≤ t.length
  | [], _, _, _ => Nat.zero_le _
  | x :: l, t, h, s => by
    have hx := s x (List.mem_cons_self ..)
    have h1 := List.nodup_cons.mp h
    have := nodup_le l (t.erase x) h1.2 fun y hy => (List.mem_erase_of_ne (fun e => h1.1 (by rw [← e]; exact hy))).mpr (s y (List.mem_cons_of_mem _ hy))
    rw [List.length_erase_of_mem hx] at this
    have hp : 0 < t.length := List.length_pos_of_mem hx
    rw [List.length_cons]
    omega
theorem app_list (a b : Str) : (a ++ b).cps.toList = a.cps.toList ++ b.cps.toList := by
  show (Str.append a b).cps.toList = _
  unfold Str.append
  simp
def lng (s : Str) (i : Nat) : Str := cutS s none (some 6) ++ ⟨#[97 + i / 26]⟩ ++ ⟨#[97 + i % 26]⟩
theorem lng_list (s : Str) (i : Nat) : (lng s i).cps.toList = (cutS s none (some 6)).cps.toList ++ [97 + i / 26, 97 + i % 26] := by
  unfold lng
  rw [app_list, app_list]
  simp
theorem lng_inj {s : Str} {i j : Nat} (e : lng s i = lng s j) : i = j := by
  have := congrArg (fun t : Str => t.cps.toList) e
  simp only [lng_list] at this
  have h := List.append_cancel_left this
  simp at h
  omega
theorem low_at {j : Nat} (h : j < 26) : atI LOW.cps.toList (j : Int) = some (97 + j) := by
  have e : LOW.cps.toList = (List.range 26).map (97 + ·) := by decide +kernel
  rw [e, atI_nat _ j (by simpa using h)]
  simp
theorem low_len : LOW.length = 26 := by decide +kernel
theorem low_mem {c : Nat} : c ∈ LOW.cps.toList ↔ 97 ≤ c ∧ c < 123 := by
  have e : LOW.cps.toList = (List.range 26).map (97 + ·) := by decide +kernel
  rw [e, List.mem_map]
  constructor
  · rintro ⟨i, h, rfl⟩
    rw [List.mem_range] at h
    omega
  · rintro ⟨h1, h2⟩
    exact ⟨c - 97, by rw [List.mem_range]; omega, by omega⟩
theorem cut6 (s : Str) : (cutS s none (some 6)).cps.toList = s.cps.toList.take 6 := by
  have h2 : HT.sIx s.length s.length (some ((6 : Nat) : Int)) = min 6 s.length := HT.sIx_nat _ _ 6
  have h2' : HT.sIx s.length s.length (some 6) = min 6 s.length := h2
  have h1 : HT.sIx s.length 0 none = 0 := rfl
  rw [cutS_list, h1, h2', List.drop_zero, Nat.sub_zero]
  by_cases h : 6 ≤ s.length
  · rw [Nat.min_eq_left h]
  · have hl : s.cps.toList.length = s.length := by simp [Str.length]
    rw [List.take_of_length_le (by omega), List.take_of_length_le (by omega)]
section
variable {cx : Cxp} {fa : Fn → Addr}
theorem w_ninL {n : Nat} {ts : List Str} {s : Str} {μ : Sto} {K : Lt.A → Sto → Prop} (h : μ[n]? = some (.lst (ts.map Lt.A.str))) : gives (ninA (.str s) (.hd n) μ) K ↔ K (.bl (!decide (s ∈ ts))) μ := by
  have e : inB μ (.str s) (.hd n) = some (decide (s ∈ ts)) := by
    unfold inB
    simp only [h]
    unfold inL
    rw [if_pos ⟨rfl, by simp [flatA]⟩]
    congr 1
    rw [List.any_map, Bool.eq_iff_iff]
    simp [eqF]
  unfold ninA
  simp only [e]
  exact Iff.rfl
theorem unlike_ok {d ht : Nat} {s : Str} {ts : List Str} {μ : Sto} (hs : s.length ≤ 1000) (hts : μ[ht]? = some (.lst (ts.map Lt.A.str))) (hl : ts.length < 676) :
    gives (fns cx fa (d + 1) ._law_unlike [.str s, .hd ht] μ) fun r μ' => ∃ t, r = .str t ∧ t ∉ ts ∧ (t = s ∨ ∃ i < 676, t = lng s i) ∧ μ' = μ := by
  have e0 : startE 5 [Lt.A.str s, .hd ht] = [some (.str s), some (.hd ht), none, none, none] := rfl
  show gives (runBody 5 (m__law_unlike cx fa (fns cx fa d)) _ μ) _
  rw [w_run, e0]
  unfold m__law_unlike
  have hz : s.length ≤ sizeLine := sz (by omega)
  have hz2 : (cutS s none (some 6)).length ≤ 6 := by
    have := congrArg List.length (cut6 s)
    simp at this
    unfold Str.length
    omega
  simp
  rw [w_ninL hts]
  simp
  intro h
  refine f_for (I := fun as δ μ' => μ' = μ ∧ ∃ (pre post : List Nat) (o3 o4 : Option Lt.A), pre ++ post = List.range 676 ∧ as = post.map (fun i => Lt.A.int ((i : Nat) : Int)) ∧ (∀ i ∈ pre, lng s i ∈ ts) ∧ δ = [some (.str s), some (.hd ht), some (.str "abcdefghijklmnopqrstuvwxyz"), o3, o4]) ?_ ?_ _ _ _ ⟨rfl, [], List.range 676, none, none, rfl, rfl, by simp, rfl⟩
  · rintro a as δ μ1 ⟨rfl, pre, post, o3, o4, hp, ha, hpre, rfl⟩
    refine ⟨still_nil, ?_⟩
    cases post with
    | nil => cases ha
    | cons i post =>
      obtain ⟨rfl, rfl⟩ := List.cons.inj ha
      have hi : i < 676 := by
        have : i ∈ pre ++ i :: post := by simp
        rw [hp] at this
        exact List.mem_range.mp this
      have hsl : sliceA (.str s) none (some 6) μ1 = .ok (.str (cutS s none (some 6))) μ1 := by
        unfold sliceA
        simp [hz]
      simp [hsl]
      have hm1 : HT.sIx 0 0 none = 0 := rfl
      have l1 := low_at (j := i / 26) (by omega)
      have l2 := low_at (j := i % 26) (by omega)
      have e1 : (((i / 26 : Nat)) : Int) = (i : Int) / 26 := by omega
      have e2 : (((i % 26 : Nat)) : Int) = (i : Int) % 26 := by omega
      rw [e1] at l1
      rw [e2] at l2
      have c1 : ∀ c : Nat, (⟨#[c]⟩ : Str).length = 1 := fun _ => rfl
      have c2 : (cutS s none (some 6) ++ (⟨#[97 + i / 26]⟩ : Str)).length ≤ 7 := by
        have := congrArg List.length (app_list (cutS s none (some 6)) ⟨#[97 + i / 26]⟩)
        simp [Str.length] at this hz2 ⊢
        omega
      refine ⟨⟨by decide, by decide⟩, sz (by decide +kernel), _, l1, sz (by rw [c1]; omega), sz (by decide +kernel), _, l2, sz (by rw [c1]; omega), ?_⟩
      have hlng : cutS s none (some 6) ++ (⟨#[97 + i / 26]⟩ : Str) ++ ⟨#[97 + i % 26]⟩ = lng s i := rfl
      rw [hlng, w_ninL hts]
      simp
      refine ⟨fun h2 => ⟨h2, .inr ⟨i, hi, rfl⟩⟩, fun h2 => ⟨pre ++ [i], post, by simpa using hp, rfl, ?_⟩⟩
      intro j hj
      rcases List.mem_append.mp hj with q | q
      · exact hpre j q
      · rw [List.mem_singleton.mp q]; exact h2
  · rintro δ μ1 ⟨rfl, pre, post, o3, o4, hp, ha, hpre, rfl⟩
    refine ⟨still_nil, ?_⟩
    have hpost : post = [] := by
      cases post with
      | nil => rfl
      | cons _ _ => cases ha
    subst hpost
    rw [List.append_nil] at hp
    subst hp
    exfalso
    have hn : ((List.range 676).map (lng s)).Nodup := by
      refine List.Pairwise.map _ (fun a b hab e => hab (lng_inj e)) (List.nodup_range)
    have := nodup_le _ ts hn fun x hx => by
      obtain ⟨i, hi, rfl⟩ := List.mem_map.mp hx
      exact hpre i hi
    rw [List.length_map, List.length_range] at this
    omega
end
end Tx

namespace Tx
open PySem PySem.Spec PyProof.Rows L2 Lt TL
def BASE : List Str := ["data", "let", "in", "case", "of", "num", "main", "Bool", "False", "True"]
theorem lowB_iff {cs : List Nat} : lowB cs = true ↔ ∀ c ∈ cs, 97 ≤ c ∧ c < 123 := by
  unfold lowB
  rw [List.all_eq_true]
  constructor
  · intro h c hc
    exact low_mem.mp (of_decide_eq_true (h c hc))
  · intro h c hc
    exact decide_eq_true (low_mem.mpr (h c hc))
theorem upp_mem {c : Nat} : c ∈ UPP.cps.toList ↔ 65 ≤ c ∧ c < 91 := by
  have e : UPP.cps.toList = (List.range 26).map (65 + ·) := by decide +kernel
  rw [e, List.mem_map]
  constructor
  · rintro ⟨i, h, rfl⟩
    rw [List.mem_range] at h
    omega
  · rintro ⟨h1, h2⟩
    exact ⟨c - 65, by rw [List.mem_range]; omega, by omega⟩
theorem len_list (s : Str) : s.length = s.cps.toList.length := by simp [Str.length]
theorem lng_len (s : Str) (i : Nat) : (lng s i).length = min 6 s.length + 2 := by
  rw [len_list, lng_list, cut6, len_list s]
  simp
theorem small_of {s t : Str} {ts : List Str} (h1 : 1 ≤ s.length) (h8 : s.length ≤ 8) (hs : ∀ c ∈ s.cps.toList, 97 ≤ c ∧ c < 123) (ht : t = s ∨ ∃ i < 676, t = lng s i) (hk : ∀ k ∈ KEPT, k ∈ ts) (hn : t ∉ ts) : smallB t = true := by
  have hk2 : (KEPT.any fun k => k == t) = false := by
    rw [List.any_eq_false]
    intro k hk1 e
    have := eq_of_beq e
    subst this
    exact hn (hk _ hk1)
  unfold smallB
  rcases ht with rfl | ⟨i, hi, rfl⟩
  · have : lowB t.cps.toList = true := lowB_iff.mpr hs
    simp [h1, h8, this, hk2]
  · have e := lng_len s i
    have : lowB (lng s i).cps.toList = true := by
      rw [lowB_iff, lng_list, cut6]
      intro c hc
      rcases List.mem_append.mp hc with q | q
      · exact hs c (List.mem_of_mem_take q)
      · simp at q
        omega
    have l1 : 1 ≤ (lng s i).length := by omega
    have l2 : (lng s i).length ≤ 8 := by omega
    simp [l1, l2, this, hk2]
theorem great_of {s t : Str} {c : Nat} {cs : List Nat} (he : s.cps.toList = c :: cs) (hc : 65 ≤ c ∧ c < 91) (h8 : cs.length ≤ 7) (hs : ∀ c ∈ cs, 97 ≤ c ∧ c < 123) (ht : t = s ∨ ∃ i < 676, t = lng s i) : greatB t = true := by
  have hu : decide (c ∈ UPP.cps.toList) = true := decide_eq_true (upp_mem.mpr hc)
  have hl : s.length = cs.length + 1 := by rw [len_list, he]; rfl
  unfold greatB
  rcases ht with rfl | ⟨i, hi, rfl⟩
  · have h3 : lowB cs = true := lowB_iff.mpr hs
    have h1 : 1 ≤ t.length := by omega
    have h2 : t.length ≤ 8 := by omega
    have hu2 : c ∈ UPP.cps.toList := upp_mem.mpr hc
    rw [he]
    simp only [List.take_succ_cons, List.take_zero, List.drop_succ_cons, List.drop_zero, List.all_cons, List.all_nil, hu, h3, h1, h2, decide_true, Bool.and_true]
  · have e := lng_len s i
    have h1 : 1 ≤ (lng s i).length := by omega
    have h2 : (lng s i).length ≤ 8 := by omega
    have h3 : (lng s i).cps.toList = c :: (cs.take 5 ++ [97 + i / 26, 97 + i % 26]) := by
      rw [lng_list, cut6, he]
      rfl
    have h4 : lowB (cs.take 5 ++ [97 + i / 26, 97 + i % 26]) = true := by
      rw [lowB_iff]
      intro c hc
      rcases List.mem_append.mp hc with q | q
      · exact hs c (List.mem_of_mem_take q)
      · simp at q
        omega
    rw [h3]
    simp only [List.take_succ_cons, List.take_zero, List.drop_succ_cons, List.drop_zero, List.all_cons, List.all_nil, hu, h4, h1, h2, decide_true, Bool.and_true]
theorem upper_low : ∀ c ∈ LOW.cps.toList, Txt.upper ⟨#[c]⟩ = ⟨#[c - 32]⟩ := by
  decide +kernel
def nmsA (l : List (Str × Str)) : List (Key × Lt.A) := l.map fun p => (.inr p.1, .str p.2)
theorem put_new {l : List (Str × Str)} {k t : Str} (h : k ∉ l.map (·.1)) : putA (nmsA l) (.inr k) (.str t) = nmsA (l ++ [(k, t)]) := by
  unfold putA
  have : ((nmsA l).any fun kv => decide (kv.1 = .inr k)) = false := by
    rw [List.any_eq_false]
    intro kv hkv e
    obtain ⟨p, hp, rfl⟩ := List.mem_map.mp hkv
    have := Sum.inr.inj (of_decide_eq_true e)
    exact h (List.mem_map.mpr ⟨p, hp, this⟩)
  rw [this]
  simp [nmsA]
theorem look_nms {k : Str} : ∀ l : List (Str × Str), lookA (nmsA l) (.inr k) = (l.lookup k).map Lt.A.str
  | [] => rfl
  | p :: l => by
    have ih := look_nms (k := k) l
    by_cases e : k = p.1
    · subst e
      simp [lookA, nmsA, List.lookup]
    · have e2 : (k == p.1) = false := by simp [e]
      have e3 : ¬ ((Sum.inr p.1 : Key) = .inr k) := fun z => e (Sum.inr.inj z).symm
      unfold lookA nmsA at ih ⊢
      simp only [List.map_cons, List.find?_cons, e3, decide_false, List.lookup, e2]
      exact ih
theorem w_setD {n : Nat} {kvs : List (Key × Lt.A)} {k : Str} {v : Lt.A} {μ : Sto} {KU : Unit → Sto → Prop} (h : μ[n]? = some (.dic kvs)) : gives (setA (.hd n) (.str k) v μ) KU ↔ kvs.length < sizeLine ∧ KU () (μ.set n (.dic (putA kvs (.inr k) v))) := by
  unfold setA
  simp only [h]
  show gives ((if kvs.length < sizeLine then _ else _ : Res Unit)) _ ↔ _
  split
  · rename_i q
    exact ⟨fun z => ⟨q, z⟩, fun z => z.2⟩
  · rename_i q
    exact ⟨fun z => z.elim, fun z => absurd z.1 q⟩
@[simp] theorem w_upper {s : Str} {μ : Sto} {K : Lt.A → Sto → Prop} : gives (upperA (.str s) μ) K ↔ s.length ≤ 5592405 ∧ K (.str (Txt.upper s)) μ := by
  unfold upperA
  rw [w_bnd, w_strM]
  exact ite_bad
section
variable {cx : Cxp} {fa : Fn → Addr}
/-- names given so far: those of l -/
def NamesAt (μ : Sto) (ht hd : Nat) (l : List (Str × Str)) : Prop := μ[ht]? = some (.lst ((BASE ++ l.map (·.2)).map Lt.A.str)) ∧ μ[hd]? = some (.dic (nmsA l)) ∧ (BASE ++ l.map (·.2)).Nodup
/-- the invariant of both loops: l are the names of this loop, l0 those of the loop before -/
structure NInv (P : Str → Prop) (h ht hd : Nat) (b : Int) (μ : Sto) (l0 : List (Str × Str)) (os rest : List Str) (l : List (Str × Str)) (μ' : Sto) : Prop where
  e : l.map (·.1) ++ rest = os
  at_ : NamesAt μ' ht hd (l0 ++ l)
  ok : ∀ p ∈ l, P p.2
  f : FeedOk h (b + 1100 * l.length) μ'
  x : Ext [h] μ μ'
theorem NInv.step {P : Str → Prop} {h ht hd : Nat} {b : Int} {μ μ1 μ2 : Sto} {l0 l : List (Str × Str)} {os rest : List Str} {o t : Str} (I : NInv P h ht hd b μ l0 os (o :: rest) l μ1) (hh : h < μ.length) (h1 : μ.length ≤ ht) (h2 : μ.length ≤ hd) (h3 : ht ≠ hd)
    (f : FeedOk h (b + 1100 * l.length + 1100) μ2) (x : Ext [h] μ1 μ2) (hn : t ∉ BASE ++ (l0 ++ l).map (·.2)) (hp : P t) (ho : o ∉ (l0 ++ l).map (·.1)) :
    NInv P h ht hd b μ l0 os rest (l ++ [(o, t)]) ((μ2.set ht (.lst ((BASE ++ (l0 ++ l).map (·.2)).map Lt.A.str ++ [.str t]))).set hd (.dic (putA (nmsA (l0 ++ l)) (.inr o) (.str t)))) := by
  obtain ⟨a1, a2, a3⟩ := I.at_
  have b1 := x.get a1 (by simp; omega)
  have b2 := x.get a2 (by simp; omega)
  refine ⟨?_, ⟨?_, ?_, ?_⟩, ?_, ?_, ?_⟩
  · rw [List.map_append, List.append_assoc]
    exact I.e
  · rw [List.getElem?_set_ne (by omega), List.getElem?_set_self (List.getElem?_eq_some_iff.mp b1).1]
    simp
  · rw [put_new ho, List.getElem?_set_self (by rw [List.length_set]; exact (List.getElem?_eq_some_iff.mp b2).1), List.append_assoc]
  · rw [← List.append_assoc, List.map_append, ← List.append_assoc]
    rw [List.nodup_append]
    refine ⟨a3, by simp, ?_⟩
    intro y hy z hz e
    simp at hz
    rw [e, hz] at hy
    exact hn hy
  · intro p hp2
    rcases List.mem_append.mp hp2 with q | q
    · exact I.ok p q
    · rw [List.mem_singleton.mp q]; exact hp
  · have := f.of (Ext.set (hs := [ht]) (by simp)) (μ' := μ2.set ht (.lst ((BASE ++ (l0 ++ l).map (·.2)).map Lt.A.str ++ [.str t]))) (by simp; omega)
    exact (this.of (Ext.set (hs := [hd]) (by simp)) (by simp; omega)).mono (by simp; omega)
  · exact ((I.x.trans x).old (Ext.set (hs := [ht]) (by simp)) (by simp; omega)).old (Ext.set (hs := [hd]) (by simp)) (by simp; omega)
theorem names_ok {h h1 h2 d : Nat} {b : Int} {os1 os2 : List Str} {μ : Sto} (hf : FeedOk h b μ) (hb : b < 2 ^ 59) (g1 : μ[h1]? = some (.lst (os1.map Lt.A.str))) (g2 : μ[h2]? = some (.lst (os2.map Lt.A.str))) (n1 : h1 ≠ h) (n2 : h2 ≠ h) (hn : (os1 ++ os2).Nodup) (hl : (os1 ++ os2).length ≤ 50) :
    gives (fns cx fa (d + 3) ._law_names [.hd h, .hd h1, .hd h2] μ) fun r μ' => ∃ (hd : Nat) (l1 l2 : List (Str × Str)), r = .hd hd ∧ μ.length ≤ hd ∧ μ'[hd]? = some (.dic (nmsA (l1 ++ l2))) ∧ l1.map (·.1) = os1 ∧ l2.map (·.1) = os2 ∧ (∀ p ∈ l1, smallB p.2 = true) ∧ (∀ p ∈ l2, greatB p.2 = true) ∧ (BASE ++ (l1 ++ l2).map (·.2)).Nodup ∧ FeedOk h (b + 100000) μ' ∧ Ext [h] μ μ' := by
  have e0 : startE 8 [Lt.A.hd h, .hd h1, .hd h2] = [some (.hd h), some (.hd h1), some (.hd h2), none, none, none, none, none] := rfl
  show gives (runBody 8 (m__law_names cx fa (fns cx fa (d + 2))) _ μ) _
  rw [w_run, e0]
  unfold m__law_names
  have zL : ("abcdefghijklmnopqrstuvwxyz" : Str).length = 26 := low_len
  rw [f_seq]
  simp [-List.append_assoc, -List.length_append]
  refine ⟨sz (by decide), ?_⟩
  rw [w_alloc]
  have q1 : (μ ++ [Mu.lst [Lt.A.str "data", .str "let", .str "in", .str "case", .str "of", .str "num", .str "main", .str "Bool", .str "False", .str "True"]] ++ [Mu.dic []])[μ.length]? = some (.lst ((BASE ++ ([] : List (Str × Str)).map (·.2)).map Lt.A.str)) := get_1
  have q2 : (μ ++ [Mu.lst [Lt.A.str "data", .str "let", .str "in", .str "case", .str "of", .str "num", .str "main", .str "Bool", .str "False", .str "True"]] ++ [Mu.dic []])[μ.length + 1]? = some (.dic (nmsA [])) := by
    have := get_2 (μ := μ) (a := Mu.lst [Lt.A.str "data", .str "let", .str "in", .str "case", .str "of", .str "num", .str "main", .str "Bool", .str "False", .str "True"]) (b := Mu.dic [])
    simpa [nmsA] using this
  have q3 : FeedOk h b (μ ++ [Mu.lst [Lt.A.str "data", .str "let", .str "in", .str "case", .str "of", .str "num", .str "main", .str "Bool", .str "False", .str "True"]] ++ [Mu.dic []]) := hf.app.app
  have q4 : Ext [h] μ (μ ++ [Mu.lst [Lt.A.str "data", .str "let", .str "in", .str "case", .str "of", .str "num", .str "main", .str "Bool", .str "False", .str "True"]] ++ [Mu.dic []]) := Ext.app.trans Ext.app
  have q5 : (μ ++ [Mu.lst [Lt.A.str "data", .str "let", .str "in", .str "case", .str "of", .str "num", .str "main", .str "Bool", .str "False", .str "True"]]).length = μ.length + 1 := by simp
  rw [q5]
  generalize μ ++ [Mu.lst [Lt.A.str "data", .str "let", .str "in", .str "case", .str "of", .str "num", .str "main", .str "Bool", .str "False", .str "True"]] ++ [Mu.dic []] = μ1 at q1 q2 q3 q4
  have hlt := hf.lt
  have hl1 := (List.getElem?_eq_some_iff.mp g1).1
  have hl2 := (List.getElem?_eq_some_iff.mp g2).1
  rw [w_iterH (q4.get g1 (by simp [n1]))]
  have I0 : NInv (fun t => smallB t = true) h μ.length (μ.length + 1) b μ [] os1 os1 [] μ1 := ⟨rfl, ⟨q1, q2, by decide +kernel⟩, by simp, q3.mono (by simp), q4⟩
  rw [List.length_append] at hl
  refine f_for (I := fun as δ μ' => ∃ (l : List (Str × Str)) (rest : List Str) (o6 o7 : Option Lt.A), NInv (fun t => smallB t = true) h μ.length (μ.length + 1) b μ [] os1 rest l μ' ∧ as = rest.map Lt.A.str ∧
    δ = [some (.hd h), some (.hd h1), some (.hd h2), some (.str "abcdefghijklmnopqrstuvwxyz"), some (.hd μ.length), some (.hd (μ.length + 1)), o6, o7]) ?_ ?_ _ _ _ ⟨[], os1, none, none, I0, rfl, rfl⟩
  · rintro a as δ μ2 ⟨l, rest, o6, o7, I, ha, rfl⟩
    refine ⟨still_one (I.x.get g1 (by simp [n1])), ?_⟩
    cases rest with
    | nil => cases ha
    | cons o rest =>
      obtain ⟨rfl, rfl⟩ := List.cons.inj ha
      have hlen : l.length + (rest.length + 1) = os1.length := by
        have := congrArg List.length I.e
        simpa using this
      simp
      refine gm (take_fns I.f (by omega) (by decide)) ?_
      rintro _ μ3 ⟨c, rfl, c0, c1, f3, x3⟩
      simp
      refine gm (word_ok (d := d) f3 (by omega) (by omega) (by omega) (by rw [zL]; decide) (by rw [zL]; decide)) ?_
      rintro _ μ4 ⟨s, rfl, hs, hsm, f4, x4⟩
      have x34 := x3.trans x4
      obtain ⟨a1, a2, a3⟩ := I.at_
      have t4 := x34.get a1 (by simp; omega)
      have d4 := x34.get a2 (by simp; omega)
      refine gm (unlike_ok (d := d + 1) (by omega) t4 (by simp [BASE]; omega)) ?_
      rintro _ μ5 ⟨t, rfl, tn, tt, rfl⟩
      rw [w_itemsL t4, w_append t4]
      refine ⟨by rw [sizeLine_eq]; simp [BASE]; omega, ?_⟩
      have d5 : (μ5.set μ.length (.lst ((BASE ++ (([] : List (Str × Str)) ++ l).map (·.2)).map Lt.A.str ++ [.str t])))[μ.length + 1]? = some (.dic (nmsA ([] ++ l))) := by
        rw [List.getElem?_set_ne (by omega)]
        exact d4
      rw [w_setD d5]
      refine ⟨by rw [sizeLine_eq]; simp [nmsA]; omega, l ++ [(o, t)], rest, ?_, rfl⟩
      refine I.step hlt (Nat.le_refl _) (by omega) (by omega) (f4.mono (by omega)) x34 tn ?_ ?_
      · exact small_of (by omega) (by omega) (fun c hc => low_mem.mp (hsm c hc)) tt (fun k hk => List.mem_append_left _ (by revert hk; revert k; decide +kernel)) tn
      · intro ho
        have hnd := (List.nodup_append.mp hn).1
        rw [← I.e] at hnd
        exact (List.nodup_append.mp hnd).2.2 o (by simpa using ho) o (by simp) rfl
  · rintro δ μ2 ⟨l, rest, o6, o7, I, ha, rfl⟩
    refine ⟨still_one (I.x.get g1 (by simp [n1])), ?_⟩
    have hr : rest = [] := by
      cases rest with
      | nil => rfl
      | cons _ _ => cases ha
    subst hr
    have hl1e := I.e
    rw [List.append_nil] at hl1e
    have hlen1 : l.length = os1.length := by
      have := congrArg List.length hl1e
      simpa using this
    simp
    rw [w_iterH (I.x.get g2 (by simp [n2]))]
    have I1 : NInv (fun t => greatB t = true) h μ.length (μ.length + 1) (b + 1100 * l.length) μ l os2 os2 [] μ2 := ⟨rfl, by simpa using I.at_, by simp, by simpa using I.f, I.x⟩
    refine f_for (I := fun as δ μ' => ∃ (l2 : List (Str × Str)) (rest : List Str) (o6 o7 : Option Lt.A), NInv (fun t => greatB t = true) h μ.length (μ.length + 1) (b + 1100 * l.length) μ l os2 rest l2 μ' ∧ as = rest.map Lt.A.str ∧
      δ = [some (.hd h), some (.hd h1), some (.hd h2), some (.str "abcdefghijklmnopqrstuvwxyz"), some (.hd μ.length), some (.hd (μ.length + 1)), o6, o7]) ?_ ?_ _ _ _ ⟨[], os2, o6, o7, I1, rfl, rfl⟩
    · rintro a as δ μ3 ⟨l2, rest, o6, o7, I2, ha, rfl⟩
      refine ⟨still_one (I2.x.get g2 (by simp [n2])), ?_⟩
      cases rest with
      | nil => cases ha
      | cons o rest =>
        obtain ⟨rfl, rfl⟩ := List.cons.inj ha
        have hlen : l2.length + (rest.length + 1) = os2.length := by
          have := congrArg List.length I2.e
          simpa using this
        have zz : ("abcdefghijklmnopqrstuvwxyz" : Str).length ≤ sizeLine := sz (by rw [zL]; decide)
        simp
        refine gm (take_fns I2.f (by omega) (by decide)) ?_
        rintro _ μ4 ⟨c, rfl, c0, c1, f4, x4⟩
        simp
        refine ⟨zz, ?_⟩
        obtain ⟨j, rfl⟩ : ∃ j : Nat, c = (j : Int) := ⟨c.toNat, by omega⟩
        refine ⟨_, low_at (by omega), by show 1 ≤ 5592405; decide, ?_⟩
        refine gm (take_fns f4 (by omega) (by decide)) ?_
        rintro _ μ5 ⟨k, rfl, k0, k1, f5, x5⟩
        refine gm (word_ok (d := d) f5 (by omega) (by omega) (by omega) (by rw [zL]; decide) (by rw [zL]; decide)) ?_
        rintro _ μ6 ⟨s, rfl, hs, hsm, f6, x6⟩
        rw [upper_low (97 + j) (low_mem.mpr (by omega))]
        have x36 := x4.trans (x5.trans x6)
        obtain ⟨a1, a2, a3⟩ := I2.at_
        have t6 := x36.get a1 (by simp; omega)
        have d6 := x36.get a2 (by simp; omega)
        have hgl : ((⟨#[97 + j - 32]⟩ : Str) ++ s).cps.toList = (97 + j - 32) :: s.cps.toList := by
          rw [app_list]
          rfl
        have hglen : ((⟨#[97 + j - 32]⟩ : Str) ++ s).length = s.length + 1 := by
          rw [len_list, hgl, len_list s]
          rfl
        simp
        refine ⟨sz (by have : (⟨#[97 + j - 32]⟩ : Str).length = 1 := rfl; omega), ?_⟩
        refine gm (unlike_ok (d := d + 1) (by rw [hglen]; omega) t6 (by simp [BASE]; omega)) ?_
        rintro _ μ7 ⟨t, rfl, tn, tt, rfl⟩
        rw [w_itemsL t6, w_append t6]
        refine ⟨by rw [sizeLine_eq]; simp [BASE]; omega, ?_⟩
        have d7 : (μ7.set μ.length (.lst ((BASE ++ (l ++ l2).map (·.2)).map Lt.A.str ++ [.str t])))[μ.length + 1]? = some (.dic (nmsA (l ++ l2))) := by
          rw [List.getElem?_set_ne (by omega)]
          exact d6
        rw [w_setD d7]
        refine ⟨by rw [sizeLine_eq]; simp [nmsA]; omega, l2 ++ [(o, t)], rest, ?_, rfl⟩
        refine I2.step hlt (Nat.le_refl _) (by omega) (by omega) (f6.mono (by omega)) x36 tn ?_ ?_
        · exact great_of hgl (by omega) (by rw [← len_list s]; omega) (fun c hc => low_mem.mp (hsm c hc)) tt
        · intro ho
          rw [← hl1e, ← I2.e] at hn
          rw [List.map_append] at ho
          rcases List.mem_append.mp ho with q | q
          · exact (List.nodup_append.mp hn).2.2 o q o (by simp) rfl
          · exact (List.nodup_append.mp (List.nodup_append.mp hn).2.1).2.2 o q o (by simp) rfl
    · rintro δ μ3 ⟨l2, rest, o6, o7, I2, ha, rfl⟩
      refine ⟨still_one (I2.x.get g2 (by simp [n2])), ?_⟩
      have hr : rest = [] := by
        cases rest with
        | nil => rfl
        | cons _ _ => cases ha
      subst hr
      have hl2e := I2.e
      rw [List.append_nil] at hl2e
      have hlen2 : l2.length = os2.length := by
        have := congrArg List.length hl2e
        simpa using this
      obtain ⟨a1, a2, a3⟩ := I2.at_
      simp
      exact ⟨l, l2, a2, hl1e, hl2e, fun a b hp => I.ok (a, b) hp, fun a b hp => I2.ok (a, b) hp, by simpa using a3, I2.f.mono (by omega), I2.x⟩
end
end Tx

namespace Tx
open PySem PySem.Spec PyProof.Rows L2 Lt TL
def OLD1 : List Str := ["ff", "gg", "ll", "xa", "xb", "xc", "xd", "xe", "xf"]
def OLD2 : List Str := ["Tri", "Lo", "Mi", "Hi", "Row", "End", "Cell", "Duo", "Two", "Item", "In", "It", "Ir", "Id", "Ib", "Many", "No", "Mo"]
/-- the names of a program -/
structure Nms (l : List (Str × Str)) : Prop where
  s : ∃ l1 l2, l = l1 ++ l2 ∧ l1.map (·.1) = OLD1 ∧ l2.map (·.1) = OLD2 ∧ (∀ p ∈ l1, smallB p.2 = true) ∧ ∀ p ∈ l2, greatB p.2 = true
  n : (BASE ++ l.map (·.2)).Nodup
def nmo (l : List (Str × Str)) (s : Str) : Str := (l.lookup s).getD s
theorem lookup_some {l : List (Str × Str)} {k v : Str} (h : l.lookup k = some v) : (k, v) ∈ l := by
  induction l with
  | nil => cases h
  | cons p l ih =>
    simp only [List.lookup] at h
    split at h
    · rename_i e
      cases h
      have := eq_of_beq e
      rw [this]
      exact List.mem_cons_self ..
    · exact List.mem_cons_of_mem _ (ih h)
theorem lookup_none {l : List (Str × Str)} {k : Str} (h : k ∉ l.map (·.1)) : l.lookup k = none := by
  cases e : l.lookup k with
  | none => rfl
  | some v => exact absurd (List.mem_map.mpr ⟨_, lookup_some e, rfl⟩) h
theorem lookup_is {l : List (Str × Str)} {k : Str} (h : k ∈ l.map (·.1)) : ∃ v, l.lookup k = some v := by
  induction l with
  | nil => cases h
  | cons p l ih =>
    simp only [List.lookup]
    by_cases e : k = p.1
    · subst e; simp
    · have : (k == p.1) = false := by simp [e]
      rw [this]
      rw [List.map_cons] at h
      rcases List.mem_cons.mp h with h | h
      · exact absurd h e
      · exact ih h
theorem lookup_own {l : List (Str × Str)} (h : (l.map (·.1)).Nodup) {p : Str × Str} (hp : p ∈ l) : l.lookup p.1 = some p.2 := by
  obtain ⟨v, hv⟩ := lookup_is (List.mem_map.mpr ⟨p, hp, rfl⟩ : p.1 ∈ l.map (·.1))
  rw [hv]
  have := lookup_some hv
  induction l with
  | nil => cases hp
  | cons q l ih =>
    rw [List.map_cons, List.nodup_cons] at h
    rcases List.mem_cons.mp hp with rfl | hp
    · rcases List.mem_cons.mp this with e | e
      · rw [← e]
      · exact absurd (List.mem_map.mpr ⟨_, e, rfl⟩) h.1
    · rcases List.mem_cons.mp this with e | e
      · exact absurd (List.mem_map.mpr ⟨p, hp, by rw [← e]⟩) h.1
      · simp only [List.lookup] at hv
        have hne : (p.1 == q.1) = false := by
          simp
          intro e2
          exact h.1 (List.mem_map.mpr ⟨p, hp, e2⟩)
        rw [hne] at hv
        exact ih h.2 hp hv e
theorem olds_nodup : (OLD1 ++ OLD2).Nodup := by decide +kernel
theorem Nms.keys {l : List (Str × Str)} (N : Nms l) : l.map (·.1) = OLD1 ++ OLD2 := by
  obtain ⟨l1, l2, rfl, h1, h2, _⟩ := N.s
  rw [List.map_append, h1, h2]
theorem Nms.small {l : List (Str × Str)} (N : Nms l) {o : Str} (h : o ∈ OLD1) : smallB (nmo l o) = true := by
  have hk : o ∈ l.map (·.1) := by rw [N.keys]; exact List.mem_append_left _ h
  have hnd := olds_nodup
  obtain ⟨l1, l2, rfl, h1, h2, h3, h4⟩ := N.s
  obtain ⟨v, hv⟩ := lookup_is hk
  unfold nmo
  rw [hv]
  rcases List.mem_append.mp (lookup_some hv) with q | q
  · exact h3 _ q
  · have : o ∈ OLD2 := by rw [← h2]; exact List.mem_map.mpr ⟨_, q, rfl⟩
    exact absurd rfl ((List.nodup_append.mp hnd).2.2 o h o this)
theorem Nms.great {l : List (Str × Str)} (N : Nms l) {o : Str} (h : o ∈ OLD2) : greatB (nmo l o) = true := by
  have hk : o ∈ l.map (·.1) := by rw [N.keys]; exact List.mem_append_right _ h
  have hnd := olds_nodup
  obtain ⟨l1, l2, rfl, h1, h2, h3, h4⟩ := N.s
  obtain ⟨v, hv⟩ := lookup_is hk
  unfold nmo
  rw [hv]
  rcases List.mem_append.mp (lookup_some hv) with q | q
  · have : o ∈ OLD1 := by rw [← h1]; exact List.mem_map.mpr ⟨_, q, rfl⟩
    exact absurd rfl ((List.nodup_append.mp hnd).2.2 o this o h)
  · exact h4 _ q
theorem Nms.other {l : List (Str × Str)} (N : Nms l) {o : Str} (h : o ∉ OLD1 ++ OLD2) : nmo l o = o := by
  unfold nmo
  rw [lookup_none (by rw [N.keys]; exact h)]
  rfl
mutual
/-- renamed -/
def ren (l : List (Str × Str)) : Lt.A → Lt.A
  | .str s => .str (nmo l s)
  | .tup xs => .tup (rens l xs)
  | a => a
def rens (l : List (Str × Str)) : List Lt.A → List Lt.A
  | [] => []
  | x :: xs => ren l x :: rens l xs
end
theorem rens_map (l : List (Str × Str)) : ∀ xs : List Lt.A, rens l xs = xs.map (ren l)
  | [] => by rw [rens]; rfl
  | x :: xs => by rw [rens, rens_map l xs]; rfl
/-- texts, numbers, None and tuples of them, so deep -/
def PlA : Nat → Lt.A → Prop
  | 0, _ => False
  | n + 1, a => (∃ s, a = .str s) ∨ (∃ i, a = .int i) ∨ a = .non ∨ ∃ xs, a = .tup xs ∧ xs.length ≤ 1000 ∧ ∀ x ∈ xs, PlA n x
section
variable {cx : Cxp} {fa : Fn → Addr}
theorem renamed_ok {hd : Nat} {l : List (Str × Str)} : ∀ (n d : Nat) (a : Lt.A) (μ : Sto), μ[hd]? = some (.dic (nmsA l)) → PlA n a → gives (fns cx fa (d + n) ._law_renamed [a, .hd hd] μ) fun r μ' => r = ren l a ∧ μ' = μ := by
  intro n
  induction n with
  | zero => intro d a μ _ hp; exact hp.elim
  | succ n ih =>
    intro d a μ hdi hp
    have e0 : startE 3 [a, .hd hd] = [some a, some (.hd hd), none] := rfl
    show gives (runBody 3 (m__law_renamed cx fa (fns cx fa (d + n))) _ μ) _
    rw [w_run, e0]
    unfold m__law_renamed
    have hdic : ∀ (K : Unit → Sto → Prop), gives (isDicM (.hd hd) μ) K ↔ K () μ := by
      intro K
      unfold isDicM
      simp only [hdi]
      exact Iff.rfl
    have hget : ∀ (s : Str) (K : Lt.A → Sto → Prop), gives (getA (.hd hd) (.str s) (.str s) μ) K ↔ K (.str (nmo l s)) μ := by
      intro s K
      unfold getA
      simp only [hdi, keyA, look_nms, nmo]
      cases l.lookup s <;> exact Iff.rfl
    have ty : ∀ {t T : String} {b : Bool} {K : Lt.A → Sto → Prop}, typA μ a = some t → kitB t T = some b → (gives (isiA T a μ) K ↔ K (.bl b) μ) := fun h k => w_isi h k
    rcases hp with ⟨s, rfl⟩ | ⟨i, rfl⟩ | rfl | ⟨xs, rfl, hl, hx⟩
    · simp [hdic, hget, ren]
    · simp [ty (b := false) (t := "int") (T := "str") rfl (by decide +kernel), ty (b := false) (t := "int") (T := "tuple") rfl (by decide +kernel), ren]
    · simp [ty (b := false) (t := "NoneType") (T := "str") rfl (by decide +kernel), ty (b := false) (t := "NoneType") (T := "tuple") rfl (by decide +kernel), ren]
    · simp [ty (b := false) (t := "tuple") (T := "str") rfl (by decide +kernel)]
      refine ⟨sz (by omega), ?_⟩
      refine gm (lc_all (P := fun _ μ' => μ' = μ) (Q := fun a y => y = ren l a) (fun _ _ _ => still_nil) ?_ 0 μ rfl) ?_
      · intro a ha k μ1 e
        subst e
        simp
        exact ih d a μ1 hdi (hx a ha)
      · rintro ys μ1 ⟨hy, rfl⟩
        rw [ren, rens_map, f2_map hy]
        exact ⟨rfl, rfl⟩
def NUM : Lt.A := .tup [.str "num"]
def DT (s : Str) (ks : List Lt.A) : Lt.A := .tup [.str "data", .str s, .tup ks]
def MKR (s : Str) (ks : List Lt.A) : Lt.A := .tup [.str s, .tup ks]
def DTA (s : Str) (ps : List Lt.A) (ms : List Lt.A) : Lt.A := .tup [.str s, .tup ps, .tup ms]
def DATAS : List Lt.A := [DTA "Tri" [] [MKR "Lo" [], MKR "Mi" [], MKR "Hi" []], DTA "Row" [] [MKR "End" [], MKR "Cell" [NUM, DT "Row" []]], DTA "Duo" [.str "a"] [MKR "Two" [.tup [.str "var", .str "a"], DT "Tri" []]],
  DTA "Item" [] [MKR "In" [NUM], MKR "It" [DT "Tri" []], MKR "Ir" [DT "Row" []], MKR "Id" [DT "Duo" [NUM]], MKR "Ib" [DT "Bool" []]], DTA "Many" [] [MKR "No" [], MKR "Mo" [DT "Item" [], DT "Many" []]]]
theorem datas_ok {d : Nat} {μ : Sto} : gives (fns cx fa (d + 1) ._law_datas [] μ) fun r μ' => r = .tup DATAS ∧ μ' = μ := by
  have e0 : startE 5 ([] : List Lt.A) = [none, none, none, none, none] := rfl
  show gives (runBody 5 (m__law_datas cx fa (fns cx fa d)) _ μ) _
  rw [w_run, e0]
  unfold m__law_datas
  have z0 : 0 ≤ sizeLine := sz (by decide)
  have z1 : 1 ≤ sizeLine := sz (by decide)
  have z2 : 2 ≤ sizeLine := sz (by decide)
  have z3 : 3 ≤ sizeLine := sz (by decide)
  have z5 : 5 ≤ sizeLine := sz (by decide)
  simp [z0, z1, z2, z3, z5]
  rfl
def LLD : Lt.A := .tup [.str "ll", .tup [.tup [.tup [], .non, .tup [.str "name", .str "ll"]]]]
theorem two_ok {d : Nat} {a b : Lt.A} {μ : Sto} : gives (fns cx fa (d + 2) ._law_two [a, b] μ) fun r μ' => r = .tup [.tup DATAS, .tup [.tup [.str "ff", a], .tup [.str "gg", b], LLD]] ∧ μ' = μ := by
  have e0 : startE 2 [a, b] = [some a, some b] := rfl
  show gives (runBody 2 (m__law_two cx fa (fns cx fa (d + 1))) _ μ) _
  rw [w_run, e0]
  unfold m__law_two
  have z0 : 0 ≤ sizeLine := sz (by decide)
  have z1 : 1 ≤ sizeLine := sz (by decide)
  have z2 : 2 ≤ sizeLine := sz (by decide)
  have z3 : 3 ≤ sizeLine := sz (by decide)
  simp
  refine gm datas_ok ?_
  rintro _ μ1 ⟨rfl, rfl⟩
  simp [z0, z1, z2, z3, LLD]
end
end Tx

namespace Tx
open PySem PySem.Spec PyProof.Rows L2 Lt TL
section
variable {cx : Cxp} {fa : Fn → Addr}
theorem olds_ok {d : Nat} {μ : Sto} : gives (fns cx fa (d + 1) ._law_olds [] μ) fun r μ' => ∃ h1 h2 : Nat, r = .tup [.hd h1, .hd h2] ∧ μ.length ≤ h1 ∧ μ.length ≤ h2 ∧ μ'[h1]? = some (.lst (OLD1.map Lt.A.str)) ∧ μ'[h2]? = some (.lst (OLD2.map Lt.A.str)) ∧ Ext [] μ μ' := by
  have e0 : startE 2 ([] : List Lt.A) = [none, none] := rfl
  show gives (runBody 2 (m__law_olds cx fa (fns cx fa d)) _ μ) _
  rw [w_run, e0]
  unfold m__law_olds
  have z2 : 2 ≤ sizeLine := sz (by decide)
  simp [-List.append_assoc, -List.length_append]
  refine ⟨sz (by decide), sz (by decide), sz (by decide), ?_⟩
  generalize hm1 : Mu.lst [Lt.A.str "ff", .str "gg", .str "ll", .str "xa", .str "xb", .str "xc", .str "xd", .str "xe", .str "xf"] = m1
  generalize hx2 : [Lt.A.str "Tri", .str "Lo", .str "Mi", .str "Hi", .str "Row", .str "End", .str "Cell", .str "Duo", .str "Two", .str "Item", .str "In", .str "It", .str "Ir", .str "Id", .str "Ib"] = x2
  generalize hx3 : [Lt.A.str "Many", .str "No", .str "Mo"] = x3
  have b1 : (μ ++ [m1] ++ [Mu.lst x2])[(μ ++ [m1]).length]? = some (.lst x2) := get_0
  have b2 : (μ ++ [m1] ++ [Mu.lst x2] ++ [Mu.lst x3])[(μ ++ [m1]).length]? = some (.lst x2) := get_app b1
  have b3 : (μ ++ [m1] ++ [Mu.lst x2] ++ [Mu.lst x3])[(μ ++ [m1] ++ [Mu.lst x2]).length]? = some (.lst x3) := get_0
  rw [w_addH b2 b3]
  refine ⟨by rw [← hx2, ← hx3]; exact sz (by decide), z2, ?_⟩
  refine ⟨_, _, ⟨rfl, rfl⟩, Nat.le_refl _, ?_, ?_, get_0.trans (by rw [← hx2, ← hx3]; rfl), Ext.app.trans (Ext.app.trans (Ext.app.trans Ext.app))⟩
  · simp
  · have : (μ ++ [m1])[μ.length]? = some m1 := get_0
    rw [get_app (get_app (get_app this)), ← hm1]
    rfl
theorem named_ok {h d : Nat} {b : Int} {μ : Sto} (hf : FeedOk h b μ) (hb : b < 2 ^ 59) : gives (fns cx fa (d + 4) ._law_named [.hd h] μ) fun r μ' => ∃ (hd : Nat) (l : List (Str × Str)), r = .hd hd ∧ μ.length ≤ hd ∧ μ'[hd]? = some (.dic (nmsA l)) ∧ Nms l ∧ FeedOk h (b + 100000) μ' ∧ Ext [h] μ μ' := by
  have e0 : startE 3 [Lt.A.hd h] = [some (.hd h), none, none] := rfl
  show gives (runBody 3 (m__law_named cx fa (fns cx fa (d + 3))) _ μ) _
  rw [w_run, e0]
  unfold m__law_named
  simp
  refine gm olds_ok ?_
  rintro _ μ1 ⟨h1, h2, rfl, l1, l2, g1, g2, x1⟩
  simp
  have hlt := hf.lt
  refine gm (names_ok (d := d) (hf.of x1 (by simp)) hb g1 g2 (by omega) (by omega) olds_nodup (by decide)) ?_
  rintro _ μ2 ⟨hd, k1, k2, rfl, hle, hdi, e1, e2, p1, p2, hn, f2, x2⟩
  have := x1.1
  exact ⟨hd, rfl, by omega, k1 ++ k2, hdi, ⟨⟨k1, k2, rfl, e1, e2, p1, p2⟩, hn⟩, f2, (x1.sub (by simp)).trans x2⟩
theorem fresh_ok {h hd d : Nat} {b : Int} {l : List (Str × Str)} {μ : Sto} (hne : hd ≠ h) (hf : FeedOk h b μ) (hb : b < 2 ^ 59) (hdi : μ[hd]? = some (.dic (nmsA l))) (N : Nms l) :
    gives (fns cx fa (d + 3) ._law_fresh [.hd h, .hd hd] μ) fun r μ' => ∃ s g : Str, r = .tup [.str s, .str g] ∧ smallB s = true ∧ greatB g = true ∧ s ∉ BASE ++ l.map (·.2) ∧ g ∉ BASE ++ l.map (·.2) ∧ FeedOk h (b + 3000) μ' ∧ Ext [h] μ μ' := by
  have e0 : startE 7 [Lt.A.hd h, .hd hd] = [some (.hd h), some (.hd hd), none, none, none, none, none] := rfl
  show gives (runBody 7 (m__law_fresh cx fa (fns cx fa (d + 2))) _ μ) _
  rw [w_run, e0]
  unfold m__law_fresh
  have zL : ("abcdefghijklmnopqrstuvwxyz" : Str).length = 26 := low_len
  have zz : ("abcdefghijklmnopqrstuvwxyz" : Str).length ≤ sizeLine := sz (by rw [zL]; decide)
  have hkn : (l.map (·.1)).Nodup := by rw [N.keys]; exact olds_nodup
  have hll : l.length = 27 := by
    have := congrArg List.length N.keys
    simpa [OLD1, OLD2] using this
  have hdv : (nmsA l).map (fun kv => (lookA (nmsA l) kv.1).getD .non) = (l.map (·.2)).map Lt.A.str := by
    unfold nmsA
    rw [List.map_map, List.map_map]
    refine List.map_congr_left fun p hp => ?_
    show (lookA (nmsA l) (.inr p.1)).getD .non = .str p.2
    rw [look_nms, lookup_own hkn hp]
    rfl
  have z2 : 2 ≤ sizeLine := sz (by decide)
  rw [f_seq, f_setS, w_kM, f_seq, f_setS, w_opM]
  simp [-List.append_assoc, -List.length_append]
  refine ⟨sz (by decide), ?_⟩
  unfold dvalsM
  have hdi1 : (μ ++ [Mu.lst [Lt.A.str "data", .str "let", .str "in", .str "case", .str "of", .str "num", .str "main", .str "Bool", .str "False", .str "True"]])[hd]? = some (.dic (nmsA l)) := get_app hdi
  simp [-List.append_assoc, -List.length_append]
  have hdm : ∀ {m : Sto} {K : List (Key × Lt.A) → Sto → Prop}, m[hd]? = some (.dic (nmsA l)) → (gives (dicM (.hd hd) m) K ↔ K (nmsA l) m) := fun e => by
    unfold dicM
    simp only [e]
    exact Iff.rfl
  rw [hdm hdi1, hdv]
  have c1 : (μ ++ [Mu.lst [Lt.A.str "data", .str "let", .str "in", .str "case", .str "of", .str "num", .str "main", .str "Bool", .str "False", .str "True"]] ++ [.lst ((l.map (·.2)).map Lt.A.str)])[μ.length]? = some (.lst (BASE.map Lt.A.str)) := get_1
  have c2 : (μ ++ [Mu.lst [Lt.A.str "data", .str "let", .str "in", .str "case", .str "of", .str "num", .str "main", .str "Bool", .str "False", .str "True"]] ++ [.lst ((l.map (·.2)).map Lt.A.str)])[(μ ++ [Mu.lst [Lt.A.str "data", .str "let", .str "in", .str "case", .str "of", .str "num", .str "main", .str "Bool", .str "False", .str "True"]]).length]? = some (.lst ((l.map (·.2)).map Lt.A.str)) := get_2
  have f1 := ((hf.app (more := [Mu.lst [Lt.A.str "data", .str "let", .str "in", .str "case", .str "of", .str "num", .str "main", .str "Bool", .str "False", .str "True"]])).app (more := [.lst ((l.map (·.2)).map Lt.A.str)]))
  have x1 : Ext [h] μ (μ ++ [Mu.lst [Lt.A.str "data", .str "let", .str "in", .str "case", .str "of", .str "num", .str "main", .str "Bool", .str "False", .str "True"]] ++ [.lst ((l.map (·.2)).map Lt.A.str)]) := Ext.app.trans Ext.app
  rw [w_addH c1 c2]
  refine ⟨by simp [BASE, hll]; exact sz (by decide), ?_⟩
  generalize μ ++ [Mu.lst [Lt.A.str "data", .str "let", .str "in", .str "case", .str "of", .str "num", .str "main", .str "Bool", .str "False", .str "True"]] ++ [.lst ((l.map (·.2)).map Lt.A.str)] = μ1 at f1 x1
  have t2 : (μ1 ++ [Mu.lst (BASE.map Lt.A.str ++ (l.map (·.2)).map Lt.A.str)])[μ1.length]? = some (.lst ((BASE ++ l.map (·.2)).map Lt.A.str)) := by
    rw [get_0, List.map_append]
  have f2 : FeedOk h b (μ1 ++ [Mu.lst (BASE.map Lt.A.str ++ (l.map (·.2)).map Lt.A.str)]) := f1.app
  have x2 : Ext [h] μ (μ1 ++ [Mu.lst (BASE.map Lt.A.str ++ (l.map (·.2)).map Lt.A.str)]) := x1.trans Ext.app
  have hlt := hf.lt
  have hl1 := x1.1
  generalize μ1 ++ [Mu.lst (BASE.map Lt.A.str ++ (l.map (·.2)).map Lt.A.str)] = μ2 at t2 f2 x2
  have hne2 : μ1.length ≠ h := by omega
  generalize μ1.length = ht at t2 hne2
  refine gm (take_fns f2 (by omega) (by decide)) ?_
  rintro _ μ3 ⟨c, rfl, c0, c1, f3, x3⟩
  simp
  refine gm (word_ok (d := d) f3 (by omega) (by omega) (by omega) (by rw [zL]; decide) (by rw [zL]; decide)) ?_
  rintro _ μ4 ⟨s, rfl, hs, hsm, f4, x4⟩
  refine gm (take_fns f4 (by omega) (by decide)) ?_
  rintro _ μ5 ⟨c', rfl, d0, d1, f5, x5⟩
  simp
  refine ⟨zz, ?_⟩
  obtain ⟨j, rfl⟩ : ∃ j : Nat, c' = (j : Int) := ⟨c'.toNat, by omega⟩
  refine ⟨_, low_at (by omega), by show 1 ≤ 5592405; decide, ?_⟩
  refine gm (take_fns f5 (by omega) (by decide)) ?_
  rintro _ μ6 ⟨k, rfl, k0, k1, f6, x6⟩
  refine gm (word_ok (d := d) f6 (by omega) (by omega) (by omega) (by rw [zL]; decide) (by rw [zL]; decide)) ?_
  rintro _ μ7 ⟨s2, rfl, hs2, hsm2, f7, x7⟩
  rw [upper_low (97 + j) (low_mem.mpr (by omega))]
  have x37 := x3.trans (x4.trans (x5.trans (x6.trans x7)))
  have t7 := x37.get t2 (by simp [hne2])
  have hgl : ((⟨#[97 + j - 32]⟩ : Str) ++ s2).cps.toList = (97 + j - 32) :: s2.cps.toList := by
    rw [app_list]
    rfl
  have hglen : ((⟨#[97 + j - 32]⟩ : Str) ++ s2).length = s2.length + 1 := by
    rw [len_list, hgl, len_list s2]
    rfl
  simp
  refine ⟨sz (by have : (⟨#[97 + j - 32]⟩ : Str).length = 1 := rfl; omega), ?_⟩
  have hbl : (BASE ++ l.map (·.2)).length < 676 := by rw [List.length_append, List.length_map, hll]; decide
  refine gm (unlike_ok (d := d + 1) (by omega) t7 hbl) ?_
  rintro _ μ8 ⟨t, rfl, tn, tt, rfl⟩
  refine gm (unlike_ok (d := d + 1) (by rw [hglen]; omega) t7 hbl) ?_
  rintro _ μ9 ⟨u, rfl, un, uu, rfl⟩
  refine ⟨z2, ?_⟩
  simp at tn un
  refine ⟨t, u, ⟨rfl, rfl⟩, ?_, ?_, by simpa using tn, by simpa using un, f7.mono (by omega), x2.trans x37⟩
  · exact small_of (ts := BASE ++ l.map (·.2)) (by omega) (by omega) (fun c hc => low_mem.mp (hsm c hc)) tt (fun k hk => List.mem_append_left _ (by revert hk; revert k; decide +kernel)) (by simpa using tn)
  · exact great_of hgl (by omega) (by rw [← len_list s2]; omega) (fun c hc => low_mem.mp (hsm2 c hc)) uu
end
end Tx

namespace Tx
open PySem PySem.Spec PyProof.Rows L2 Lt TL
section
variable {cx : Cxp} {fa : Fn → Addr}
theorem good_all {μ0 : Sto} {d : Nat} {f : Fn} : ∀ xs : List Lt.A, (∀ x ∈ xs, Chk cx fa μ0 d f x true) → ∃ bs : List Bool, bs.all id = true ∧ F2 (Chk cx fa μ0 d f) xs bs
  | [], _ => ⟨[], rfl, .nil⟩
  | x :: xs, h => by
    obtain ⟨bs, h1, h2⟩ := good_all xs fun y hy => h y (List.mem_cons_of_mem _ hy)
    exact ⟨true :: bs, by simpa using h1, .cons (h x (List.mem_cons_self ..)) h2⟩
/-- each has an answer -/
def Ans (cx : Cxp) (fa : Fn → Addr) (μ0 : Sto) (d : Nat) (f : Fn) (x : Lt.A) : Prop := ∃ b, Chk cx fa μ0 d f x b
theorem bad_all {μ0 : Sto} {d : Nat} {f : Fn} {x : Lt.A} (hx : Chk cx fa μ0 d f x false) : ∀ xs : List Lt.A, x ∈ xs → (∀ y ∈ xs, y = x ∨ Ans cx fa μ0 d f y) → ∃ bs : List Bool, bs.all id = false ∧ F2 (Chk cx fa μ0 d f) xs bs
  | [], h, _ => by cases h
  | y :: xs, h, ha => by
    have tail : ∃ bs, F2 (Chk cx fa μ0 d f) xs bs := by
      clear h
      induction xs with
      | nil => exact ⟨[], .nil⟩
      | cons z xs ih =>
        obtain ⟨bs, t⟩ := ih fun w hw => ha w (by rcases List.mem_cons.mp hw with q | q <;> simp [q])
        rcases ha z (List.mem_cons_of_mem _ (List.mem_cons_self ..)) with q | ⟨b, q⟩
        · rw [q]; exact ⟨false :: bs, .cons hx t⟩
        · exact ⟨b :: bs, .cons q t⟩
    by_cases e : y = x
    · subst e
      obtain ⟨bs, t⟩ := tail
      exact ⟨false :: bs, by simp, .cons hx t⟩
    · rcases List.mem_cons.mp h with q | q
      · exact absurd q.symm e
      · obtain ⟨bs, h1, t⟩ := bad_all hx xs q fun z hz => ha z (List.mem_cons_of_mem _ hz)
        rcases ha y (List.mem_cons_self ..) with q | ⟨b, q⟩
        · exact absurd q e
        · exact ⟨b :: bs, by simp only [List.all_cons, h1, Bool.and_false], .cons q t⟩
theorem small_len {s : Str} (h : smallB s = true) : s.length ≤ 1000 := by
  unfold smallB at h
  simp at h
  omega
theorem great_len {s : Str} (h : greatB s = true) : s.length ≤ 1000 := by
  unfold greatB at h
  simp at h
  omega
theorem good_small {μ0 : Sto} {s : Str} (h : smallB s = true) : Chk cx fa μ0 2 .is_small (.str s) true := by
  have := chk_small (cx := cx) (fa := fa) (μ0 := μ0) (small_len h)
  rw [h] at this
  exact this
theorem good_great {μ0 : Sto} {s : Str} (h : greatB s = true) : Chk cx fa μ0 2 .is_great (.str s) true := by
  have := chk_great (cx := cx) (fa := fa) (μ0 := μ0) (great_len h)
  rw [h] at this
  exact this
theorem good_count {μ0 : Sto} {i : Int} (h0 : 0 ≤ i) (h1 : i < BIG) : Chk cx fa μ0 1 .is_count (.int i) true := by
  have := chk_count (cx := cx) (fa := fa) (μ0 := μ0) (i := i)
  unfold BIG at h1
  simp [h0, h1] at this
  exact this
/-! ### patterns -/
theorem p_any (hF : FoOk cx fa) {μ0 : Sto} : Chk cx fa μ0 4 .is_pattern (.tup [.str "any"]) true := (chk_pat hF (d := 2) (.go (fs := []) rfl rfl .nil))
theorem p_name (hF : FoOk cx fa) {μ0 : Sto} {s : Str} (h : smallB s = true) : Chk cx fa μ0 4 .is_pattern (.tup [.str "name", .str s]) true := (chk_pat hF (d := 2) (.go (fs := [.is_small]) rfl rfl (.yes (good_small h) .nil)))
theorem p_num (hF : FoOk cx fa) {μ0 : Sto} {i : Int} (h0 : 0 ≤ i) (h1 : i < BIG) : Chk cx fa μ0 4 .is_pattern (.tup [.str "num", .int i]) true := (chk_pat hF (d := 2) (.go (fs := [.is_count]) rfl rfl (.yes ((good_count h0 h1).mono (by decide)) .nil)))
theorem p_as (hF : FoOk cx fa) {μ0 : Sto} {s : Str} {p : Lt.A} {d : Nat} {b : Bool} (hd : 2 ≤ d) (h : smallB s = true) (hp : Chk cx fa μ0 d .is_pattern p b) : Chk cx fa μ0 (d + 2) .is_pattern (.tup [.str "as", .str s, p]) b := by
  refine chk_pat hF (.go (fs := [.is_small, .is_pattern]) rfl rfl (.yes ((good_small h).mono hd) ?_))
  cases b with
  | true => exact .yes hp .nil
  | false => exact .no hp
theorem p_make (hF : FoOk cx fa) {μ0 : Sto} {s : Str} {ps : List Lt.A} {d : Nat} {bs : List Bool} (hd : 2 ≤ d) (h : greatB s = true) (hl : ps.length ≤ 1000) (hp : F2 (Chk cx fa μ0 d .is_pattern) ps bs) : Chk cx fa μ0 (d + 3) .is_pattern (.tup [.str "make", .str s, .tup ps]) (bs.all id) := by
  refine chk_pat hF (.go (fs := [.is_great, .are_patterns]) rfl rfl (.yes ((good_great h).mono (by omega)) ?_))
  have := chk_arepat hl hp
  cases e : bs.all id with
  | true => rw [e] at this; exact .yes this .nil
  | false => rw [e] at this; exact .no this
variable {l : List (Str × Str)}
theorem mk_great (N : Nms l) {k : Str} {mk : Str × List Str} (h : mk ∈ MK k) : greatB (nmo l mk.1) = true := by
  have hFT : ∀ s, s = "False" ∨ s = "True" → greatB (nmo l s) = true := by
    intro s hs
    rw [N.other (by rcases hs with rfl | rfl <;> decide +kernel)]
    rcases hs with rfl | rfl <;> decide +kernel
  have hO : ∀ s, s ∈ OLD2 → greatB (nmo l s) = true := fun s hs => N.great hs
  unfold MK at h
  split at h
  · simp at h; rcases h with rfl | rfl | rfl <;> exact hO _ (by simp [OLD2])
  · split at h
    · simp at h; rcases h with rfl | rfl <;> exact hO _ (by simp [OLD2])
    · split at h
      · simp at h; subst h; exact hO _ (by simp [OLD2])
      · simp at h; rcases h with rfl | rfl
        · exact hFT _ (.inl rfl)
        · exact hFT _ (.inr rfl)
theorem xs_small (N : Nms l) {x : Str} (h : x ∈ XS) : smallB (nmo l x) = true := N.small (by
  unfold XS at h
  unfold OLD1
  simp at h ⊢
  rcases h with h | h | h | h | h | h <;> simp [h])
theorem keep (N : Nms l) (s : Str) (h : s ∈ [("name" : Str), "any", "num", "as", "make", "op", "app", "data", "var", "a", "<", "==", "False", "True", "Bool"]) : nmo l s = s := N.other (by
  revert h
  have : ∀ s ∈ [("name" : Str), "any", "num", "as", "make", "op", "app", "data", "var", "a", "<", "==", "False", "True", "Bool"], s ∉ OLD1 ++ OLD2 := by decide +kernel
  exact this s)
theorem good_pat (hF : FoOk cx fa) (N : Nms l) {μ0 : Sto} : ∀ (n : Nat) (k : Str) (p : Lt.A), DPat n k p → Chk cx fa μ0 (3 * n + 4) .is_pattern (ren l p) true := by
  have leaf : ∀ (k : Str) (p : Lt.A), ((∃ x ∈ XS, p = .tup [.str "name", .str x]) ∨ p = .tup [.str "any"] ∨ (k = "num" ∧ ∃ i : Int, 0 ≤ i ∧ i < BIG ∧ p = .tup [.str "num", .int i])) → Chk cx fa μ0 4 .is_pattern (ren l p) true := by
    intro k p h
    rcases h with ⟨x, hx, rfl⟩ | rfl | ⟨_, i, h0, h1, rfl⟩
    · simp only [ren, rens, keep N "name" (by simp)]
      exact p_name hF (xs_small N hx)
    · simp only [ren, rens, keep N "any" (by simp)]
      exact p_any hF
    · simp only [ren, rens, keep N "num" (by simp)]
      exact p_num hF h0 h1
  intro n
  induction n with
  | zero => intro k p h; exact leaf k p h
  | succ n ih =>
    intro k p h
    rcases h with h | ⟨x, hx, p', hp', rfl⟩ | ⟨mk, ps, hk, hmk, hps, rfl⟩
    · exact (leaf k p h).mono (by omega)
    · simp only [ren, rens, keep N "as" (by simp)]
      exact (p_as hF (by omega) (xs_small N hx) (ih k p' hp')).mono (by omega)
    · simp only [ren, rens, keep N "make" (by simp)]
      rw [rens_map]
      have hall : ∀ x ∈ ps.map (ren l), Chk cx fa μ0 (3 * n + 4) .is_pattern x true := by
        intro x hx
        obtain ⟨p, hp, rfl⟩ := List.mem_map.mp hx
        have : ∃ k, DPat n k p := by
          clear hmk hk hx
          revert hps hp
          generalize mk.2 = ks
          intro hps hp
          induction hps with
          | nil => cases hp
          | cons q t ih2 =>
            rcases List.mem_cons.mp hp with e | e
            · rw [e]; exact ⟨_, q⟩
            · exact ih2 e
        obtain ⟨k', hk'⟩ := this
        exact ih k' p hk'
      obtain ⟨bs, hb, hf⟩ := good_all _ hall
      have hl := f2_len hps
      have hl2 := (mk_ks hmk).2
      have := p_make hF (by omega) (mk_great N hmk) (by rw [List.length_map]; omega) hf
      rw [hb] at this
      exact this
end
end Tx

namespace Tx
open PySem PySem.Spec PyProof.Rows L2 Lt TL
section
variable {cx : Cxp} {fa : Fn → Addr} {l : List (Str × Str)}
theorem mem2 {α : Type} {P : α → Prop} {a b : α} (h1 : P a) (h2 : P b) : ∀ k ∈ [a, b], P k := by
  intro k hk
  rcases List.mem_cons.mp hk with rfl | hk
  · exact h1
  · rw [List.mem_singleton.mp hk]; exact h2
/-! ### terms -/
theorem t_num (hF : FoOk cx fa) {μ0 : Sto} {i : Int} (h0 : 0 ≤ i) (h1 : i < BIG) : Chk cx fa μ0 4 .is_term (.tup [.str "num", .int i]) true := chk_term hF (d := 2) (.go (fs := [.is_count]) rfl rfl (.yes ((good_count h0 h1).mono (by decide)) .nil))
theorem t_name (hF : FoOk cx fa) {μ0 : Sto} {s : Str} (h : smallB s = true) : Chk cx fa μ0 4 .is_term (.tup [.str "name", .str s]) true := chk_term hF (d := 2) (.go (fs := [.is_small]) rfl rfl (.yes (good_small h) .nil))
theorem t_make (hF : FoOk cx fa) {μ0 : Sto} {s : Str} (h : greatB s = true) : Chk cx fa μ0 4 .is_term (.tup [.str "make", .str s]) true := chk_term hF (d := 2) (.go (fs := [.is_great]) rfl rfl (.yes (good_great h) .nil))
theorem t_app (hF : FoOk cx fa) {μ0 : Sto} {d : Nat} {a b : Lt.A} (ha : Chk cx fa μ0 d .is_term a true) (hb : Chk cx fa μ0 d .is_term b true) : Chk cx fa μ0 (d + 2) .is_term (.tup [.str "app", a, b]) true := chk_term hF (.go (fs := [.is_term, .is_term]) rfl rfl (.yes ha (.yes hb .nil)))
theorem t_op (hF : FoOk cx fa) {μ0 : Sto} {d : Nat} {o : Str} {a b : Lt.A} (hd : 1 ≤ d) (ho : (OPL.any fun t => t == o) = true) (ha : Chk cx fa μ0 d .is_term a true) (hb : Chk cx fa μ0 d .is_term b true) : Chk cx fa μ0 (d + 2) .is_term (.tup [.str "op", .str o, a, b]) true := by
  have := chk_op (cx := cx) (fa := fa) (μ0 := μ0) (s := o)
  rw [ho] at this
  exact chk_term hF (.go (fs := [.is_op, .is_term, .is_term]) rfl rfl (.yes (this.mono hd) (.yes ha (.yes hb .nil))))
theorem good_opd (hF : FoOk cx fa) (N : Nms l) {μ0 : Sto} {a : Lt.A} (h : Opd a) : Chk cx fa μ0 4 .is_term (ren l a) true := by
  rcases h with ⟨x, hx, rfl⟩ | ⟨i, h0, h1, rfl⟩
  · simp only [ren, rens, keep N "name" (by simp)]
    exact t_name hF (xs_small N hx)
  · simp only [ren, rens, keep N "num" (by simp)]
    exact t_num hF h0 h1
theorem good_guard (hF : FoOk cx fa) (N : Nms l) {μ0 : Sto} {g : Lt.A} (h : DG g) : (ren l g = .non ∧ true = true) ∨ (isN (ren l g) = false ∧ Chk cx fa μ0 6 .is_term (ren l g) true) := by
  rcases h with rfl | ⟨s, hs, rfl⟩ | ⟨o, ho, a, b, ha, hb, rfl⟩
  · exact .inl ⟨by simp [ren], rfl⟩
  · refine .inr ⟨by rw [ren]; rfl, ?_⟩
    have e : nmo l s = s := keep N s (by rcases hs with rfl | rfl <;> simp)
    simp only [ren, rens, keep N "make" (by simp), e]
    exact (t_make hF (by rcases hs with rfl | rfl <;> decide +kernel)).mono (by decide)
  · refine .inr ⟨by rw [ren]; rfl, ?_⟩
    have e : nmo l o = o := keep N o (by rcases ho with rfl | rfl <;> simp)
    simp only [ren, rens, keep N "op" (by simp), e]
    exact t_op hF (by decide) (by rcases ho with rfl | rfl <;> decide +kernel) (good_opd hF N ha) (good_opd hF N hb)
theorem box_great (N : Nms l) {s : Str} (h : s ∈ BOX) : greatB (nmo l s) = true := N.great (by
  unfold BOX at h
  unfold OLD2
  simp at h ⊢
  rcases h with h | h | h | h | h <;> simp [h])
theorem good_body (hF : FoOk cx fa) (N : Nms l) {μ0 : Sto} : ∀ (q : List (Str × Lt.A)), (∀ p ∈ q, p.1 ∈ BOX ∧ Opd p.2) → Chk cx fa μ0 (8 + 2 * q.length) .is_term (ren l (bodyA q)) true
  | [], _ => by
    simp only [bodyA, ren, rens, keep N "make" (by simp)]
    exact (t_make hF (N.great (by simp [OLD2]))).mono (by decide)
  | p :: q, h => by
    have ih := good_body hF N (μ0 := μ0) q fun x hx => h x (List.mem_cons_of_mem _ hx)
    obtain ⟨h1, h2⟩ := h p (List.mem_cons_self ..)
    simp only [bodyA, ren, rens, keep N "make" (by simp), keep N "app" (by simp)]
    have a1 := t_app hF (t_make hF (μ0 := μ0) (box_great N h1)) (good_opd hF N h2)
    have a2 := t_app hF ((t_make hF (μ0 := μ0) (s := nmo l "Mo") (N.great (by simp [OLD2]))).mono (by decide : 4 ≤ 6)) a1
    exact (t_app hF (a2.mono (by omega : 4 + 2 + 2 ≤ 8 + 2 * q.length)) ih).mono (by rw [List.length_cons]; omega)
theorem good_line (hF : FoOk cx fa) (N : Nms l) {μ0 : Sto} {ks : List Str} {a : Lt.A} (h : DLine ks a) (hk : ks.length ≤ 3) : ∃ ps g b : Lt.A, ren l a = .tup [ps, g, b] ∧ (∃ xs, ps = .tup xs ∧ xs.length ≤ 3) ∧ Chk cx fa μ0 20 .are_patterns ps true ∧ ((g = .non ∧ true = true) ∨ (isN g = false ∧ Chk cx fa μ0 20 .is_term g true)) ∧ Chk cx fa μ0 20 .is_term b true := by
  obtain ⟨ps, g, b, rfl, hp, hg, q, hql, hqa, rfl⟩ := h
  refine ⟨.tup (rens l ps), ren l g, ren l (bodyA q), by simp only [ren, rens], ⟨_, rfl, by rw [rens_map, List.length_map, f2_len hp]; exact hk⟩, ?_, ?_, ?_⟩
  · have hall : ∀ x ∈ ps.map (ren l), Chk cx fa μ0 13 .is_pattern x true := by
      intro x hx
      obtain ⟨p, hp2, rfl⟩ := List.mem_map.mp hx
      have : ∃ k, DPat 3 k p := by
        clear hx hk
        induction hp with
        | nil => cases hp2
        | cons q t ih2 =>
          rcases List.mem_cons.mp hp2 with e | e
          · rw [e]; exact ⟨_, q⟩
          · exact ih2 e
      obtain ⟨k', hk'⟩ := this
      exact good_pat hF N 3 k' p hk'
    obtain ⟨bs, hb, hf⟩ := good_all _ hall
    have := chk_arepat (by rw [List.length_map, f2_len hp]; omega) hf
    rw [hb] at this
    rw [rens_map]
    exact this.mono (by decide)
  · exact (good_guard hF N hg).imp id fun z => ⟨z.1, z.2.mono (by decide)⟩
  · exact (good_body hF N q hqa).mono (by omega)
theorem good_line2 (hF : FoOk cx fa) (N : Nms l) {μ0 : Sto} {ks : List Str} {a : Lt.A} (h : DLine ks a) (hk : ks.length ≤ 3) : Chk cx fa μ0 21 .is_line (ren l a) true := by
  obtain ⟨ps, g, b, e, _, hp, hg, hb⟩ := good_line hF N (μ0 := μ0) h hk
  rw [e]
  exact chk_line hp hg hb
/-! ### datas -/
theorem k_num (hF : FoOk cx fa) (N : Nms l) {μ0 : Sto} : Chk cx fa μ0 10 .is_kind (ren l NUM) true := by
  unfold NUM
  simp only [ren, rens, keep N "num" (by simp)]
  exact (chk_kind hF (d := 2) (.go (fs := []) rfl rfl .nil)).mono (by decide)
theorem k_var (hF : FoOk cx fa) (N : Nms l) {μ0 : Sto} : Chk cx fa μ0 10 .is_kind (ren l (.tup [.str "var", .str "a"])) true := by
  simp only [ren, rens, keep N "var" (by simp), keep N "a" (by simp)]
  exact (chk_kind hF (d := 2) (.go (fs := [.is_small]) rfl rfl (.yes (good_small (by decide +kernel)) .nil))).mono (by decide)
theorem k_dt (hF : FoOk cx fa) (N : Nms l) {μ0 : Sto} {s : Str} {ks : List Lt.A} {d : Nat} (hd : 2 ≤ d) (hs : greatB (nmo l s) = true) (hl : ks.length ≤ 5) (hk : ∀ k ∈ ks, Chk cx fa μ0 d .is_kind (ren l k) true) : Chk cx fa μ0 (d + 3) .is_kind (ren l (DT s ks)) true := by
  unfold DT
  simp only [ren, rens, keep N "data" (by simp)]
  rw [rens_map]
  obtain ⟨bs, hb, hf⟩ := good_all (ks.map (ren l)) fun x hx => by
    obtain ⟨k, hk2, rfl⟩ := List.mem_map.mp hx
    exact hk k hk2
  have := chk_arekind (by rw [List.length_map]; omega) hf
  rw [hb] at this
  exact chk_kind hF (.go (fs := [.is_great, .are_kinds]) rfl rfl (.yes ((good_great hs).mono (by omega)) (.yes this .nil)))
theorem k_dt0 (hF : FoOk cx fa) (N : Nms l) {μ0 : Sto} {s : Str} (hs : greatB (nmo l s) = true) : Chk cx fa μ0 10 .is_kind (ren l (DT s [])) true := (k_dt hF N (d := 2) (by decide) hs (by decide) (by simp)).mono (by decide)
theorem good_maker (N : Nms l) {μ0 : Sto} {s : Str} {ks : List Lt.A} (hs : s ∈ OLD2) (hl : ks.length ≤ 5) (hk : ∀ k ∈ ks, Chk cx fa μ0 20 .is_kind (ren l k) true) : Chk cx fa μ0 22 .is_maker (ren l (MKR s ks)) true := by
  unfold MKR
  simp only [ren, rens]
  rw [rens_map]
  obtain ⟨bs, hb, hf⟩ := good_all (ks.map (ren l)) fun x hx => by
    obtain ⟨k, hk2, rfl⟩ := List.mem_map.mp hx
    exact hk k hk2
  have := chk_arekind (by rw [List.length_map]; omega) hf
  rw [hb] at this
  exact chk_maker ((good_great (N.great hs)).mono (by decide)) this
theorem good_data (N : Nms l) {μ0 : Sto} {s : Str} {ps ms : List Lt.A} (hs : s ∈ OLD2) (hp : ps = [] ∨ ps = [.str "a"]) (hl : ms.length ≤ 9) (hne : ms ≠ []) (hm : ∀ m ∈ ms, Chk cx fa μ0 22 .is_maker (ren l m) true) : Chk cx fa μ0 23 .is_data (ren l (DTA s ps ms)) true := by
  unfold DTA
  simp only [ren, rens]
  obtain ⟨bs, hb, hf⟩ := good_all (ms.map (ren l)) fun x hx => by
    obtain ⟨k, hk2, rfl⟩ := List.mem_map.mp hx
    exact hm k hk2
  have h1 : Chk cx fa μ0 3 .are_small (.tup (rens l ps)) true := by
    rcases hp with rfl | rfl
    · rw [rens]
      exact chk_aresmall (bs := []) (by simp) .nil
    · simp only [ren, rens, keep N "a" (by simp)]
      exact chk_aresmall (bs := [true]) (by simp) (.cons (good_small (by decide +kernel)) .nil)
  have := chk_data ((good_great (N.great hs)).mono (by decide)) (h1.mono (by decide : 3 ≤ 22)) (by rw [List.length_map]; omega) hf
  rw [rens_map l ms]
  have he : (ms.map (ren l)).isEmpty = false := by
    cases ms with
    | nil => exact absurd rfl hne
    | cons _ _ => rfl
  rw [he, hb] at this
  exact this
theorem good_datas (hF : FoOk cx fa) (N : Nms l) {μ0 : Sto} : ∀ x ∈ DATAS, Chk cx fa μ0 23 .is_data (ren l x) true := by
  have g : ∀ s, s ∈ OLD2 → greatB (nmo l s) = true := fun s h => N.great h
  have hB : greatB (nmo l "Bool") = true := by
    rw [keep N "Bool" (by simp)]
    decide +kernel
  have kn := (k_num hF N (μ0 := μ0)).mono (by decide : 10 ≤ 20)
  have kv := (k_var hF N (μ0 := μ0)).mono (by decide : 10 ≤ 20)
  have kd : ∀ s, s ∈ OLD2 → Chk cx fa μ0 20 .is_kind (ren l (DT s [])) true := fun s h => (k_dt0 hF N (g s h)).mono (by decide)
  have kb := (k_dt0 hF N (μ0 := μ0) hB).mono (by decide : 10 ≤ 20)
  have kduo : Chk cx fa μ0 20 .is_kind (ren l (DT "Duo" [NUM])) true := (k_dt hF N (d := 10) (by decide) (g _ (by simp [OLD2])) (by decide) (by simpa using k_num hF N)).mono (by decide)
  have mk : ∀ s ks, s ∈ OLD2 → ks.length ≤ 5 → (∀ k ∈ ks, Chk cx fa μ0 20 .is_kind (ren l k) true) → Chk cx fa μ0 22 .is_maker (ren l (MKR s ks)) true := fun s ks h1 h2 h3 => good_maker N h1 h2 h3
  intro x hx
  unfold DATAS at hx
  simp only [List.mem_cons, List.not_mem_nil, or_false] at hx
  rcases hx with rfl | rfl | rfl | rfl | rfl
  · refine good_data N (by simp [OLD2]) (.inl rfl) (by decide) (by simp) ?_
    intro m hm
    simp only [List.mem_cons, List.not_mem_nil, or_false] at hm
    rcases hm with rfl | rfl | rfl <;> exact mk _ _ (by simp [OLD2]) (by decide) (by simp)
  · refine good_data N (by simp [OLD2]) (.inl rfl) (by decide) (by simp) ?_
    intro m hm
    simp only [List.mem_cons, List.not_mem_nil, or_false] at hm
    rcases hm with rfl | rfl
    · exact mk _ _ (by simp [OLD2]) (by decide) (by simp)
    · exact mk _ _ (by simp [OLD2]) (by decide) (mem2 (kn) (kd _ (by simp [OLD2])))
  · refine good_data N (by simp [OLD2]) (.inr rfl) (by decide) (by simp) ?_
    intro m hm
    simp only [List.mem_cons, List.not_mem_nil, or_false] at hm
    subst hm
    exact mk _ _ (by simp [OLD2]) (by decide) (mem2 (kv) (kd _ (by simp [OLD2])))
  · refine good_data N (by simp [OLD2]) (.inl rfl) (by decide) (by simp) ?_
    intro m hm
    simp only [List.mem_cons, List.not_mem_nil, or_false] at hm
    rcases hm with rfl | rfl | rfl | rfl | rfl
    · exact mk _ _ (by simp [OLD2]) (by decide) (by simpa using kn)
    · exact mk _ _ (by simp [OLD2]) (by decide) (by simpa using kd _ (by simp [OLD2]))
    · exact mk _ _ (by simp [OLD2]) (by decide) (by simpa using kd _ (by simp [OLD2]))
    · exact mk _ _ (by simp [OLD2]) (by decide) (by simpa using kduo)
    · exact mk _ _ (by simp [OLD2]) (by decide) (by simpa using kb)
  · refine good_data N (by simp [OLD2]) (.inl rfl) (by decide) (by simp) ?_
    intro m hm
    simp only [List.mem_cons, List.not_mem_nil, or_false] at hm
    rcases hm with rfl | rfl
    · exact mk _ _ (by simp [OLD2]) (by decide) (by simp)
    · exact mk _ _ (by simp [OLD2]) (by decide) (mem2 (kd _ (by simp [OLD2])) (kd _ (by simp [OLD2])))
end
end Tx

namespace Tx
open PySem PySem.Spec PyProof.Rows L2 Lt TL
theorem small_first {s : Str} (h : smallB s = true) : greatB s = false := by
  unfold smallB at h
  unfold greatB
  simp at h
  obtain ⟨h1, h2, h3, h4⟩ := h
  cases e : s.cps.toList with
  | nil =>
    have := len_list s
    rw [e] at this
    simp at this
    omega
  | cons c cs =>
    have := lowB_iff.mp h3 c (by rw [e]; exact List.mem_cons_self ..)
    have hu : c ∉ UPP.cps.toList := fun z => by have := upp_mem.mp z; omega
    have hu2 : c ∉ UPP.cps := fun z => hu (by simpa using z)
    simp
    intro _ _ z
    exact absurd z hu2
theorem great_first {s : Str} (h : greatB s = true) : smallB s = false := by
  cases e : smallB s with
  | false => rfl
  | true => rw [small_first e] at h; cases h
theorem app_len (a b : Str) : (a ++ b).length = a.length + b.length := by rw [len_list, app_list, len_list a, len_list b, List.length_append]
theorem small_long {s t : Str} (h : smallB s = true) (ht : t.length = 8) : smallB (s ++ t) = false := by
  have h1 : 1 ≤ s.length := by
    unfold smallB at h
    simp at h
    omega
  have e : (s ++ t).length = s.length + t.length := by rw [len_list, app_list, len_list s, len_list t, List.length_append]
  have : ¬ (s ++ t).length ≤ 8 := by omega
  unfold smallB
  simp [this]
section
variable {cx : Cxp} {fa : Fn → Addr}
theorem no_small {μ0 : Sto} {s : Str} (h : smallB s = false) (hl : s.length ≤ 1000) : Chk cx fa μ0 2 .is_small (.str s) false := by
  have := chk_small (cx := cx) (fa := fa) (μ0 := μ0) hl
  rw [h] at this
  exact this
theorem no_great {μ0 : Sto} {s : Str} (h : greatB s = false) (hl : s.length ≤ 1000) : Chk cx fa μ0 2 .is_great (.str s) false := by
  have := chk_great (cx := cx) (fa := fa) (μ0 := μ0) hl
  rw [h] at this
  exact this
/-- a def says no to it, whatever else is drawn -/
def Bad (cx : Cxp) (fa : Fn → Addr) (h : Nat) (f : Fn) (μ : Sto) (a : Lt.A) : Prop := ∀ μ', Ext [h] μ μ' → Chk cx fa μ' 10 f a false
theorem Bad.ext {h : Nat} {f : Fn} {μ μ1 : Sto} {a : Lt.A} (B : Bad cx fa h f μ a) (x : Ext [h] μ μ1) : Bad cx fa h f μ1 a := fun μ' y => B μ' (x.trans y)
theorem Bad.of {h : Nat} {f : Fn} {μ : Sto} {a : Lt.A} (c : ∀ μ0, Chk cx fa μ0 10 f a false) : Bad cx fa h f μ a := fun μ' _ => c μ'
/-- a list of such things stands at n -/
def AllL (P : Sto → Lt.A → Prop) (N : Nat) (μ : Sto) (n : Nat) : Prop := ∃ xs, μ[n]? = some (.lst xs) ∧ 0 < xs.length ∧ xs.length ≤ N ∧ ∀ a ∈ xs, P μ a
theorem AllL.ext {P : Sto → Lt.A → Prop} {N n h : Nat} {μ μ' : Sto} (hP : ∀ μ μ' a, Ext [h] μ μ' → P μ a → P μ' a) (hn : n ≠ h) (x : Ext [h] μ μ') (A : AllL P N μ n) : AllL P N μ' n := by
  obtain ⟨xs, h1, h2, h3, h4⟩ := A
  exact ⟨xs, x.get h1 (by simp [hn]), h2, h3, fun a ha => hP μ μ' a x (h4 a ha)⟩
theorem add_all {P : Sto → Lt.A → Prop} {N M n m h : Nat} {μ : Sto} {K : Lt.A → Sto → Prop} (hP : ∀ μ μ' a, Ext [h] μ μ' → P μ a → P μ' a) (h1 : AllL P N μ n) (h2 : AllL P M μ m) (hl : N + M ≤ 1000)
    (k : ∀ n' μ', μ.length ≤ n' → Ext [] μ μ' → AllL P (N + M) μ' n' → K (.hd n') μ') : gives (addA (.hd n) (.hd m) μ) K := by
  obtain ⟨xs, a1, a2, a3, a4⟩ := h1
  obtain ⟨ys, b1, b2, b3, b4⟩ := h2
  rw [w_addH a1 b1]
  refine ⟨sz (by omega), k _ _ (Nat.le_refl _) Ext.app ⟨xs ++ ys, get_0, by rw [List.length_append]; omega, by rw [List.length_append]; omega, fun a ha => ?_⟩⟩
  rcases List.mem_append.mp ha with q | q
  · exact hP _ _ a Ext.app (a4 a q)
  · exact hP _ _ a Ext.app (b4 a q)
theorem pick_all {P : Sto → Lt.A → Prop} {N n h d : Nat} {b : Int} {μ : Sto} {K : Lt.A → Sto → Prop} (hP : ∀ μ μ' a, Ext [h] μ μ' → P μ a → P μ' a) (A : AllL P N μ n) (hn : n ≠ h) (hf : FeedOk h b μ) (hb : b < 2 ^ 61)
    (k : ∀ a μ', Ext [h] μ μ' → FeedOk h (b + 1) μ' → P μ' a → K a μ') : gives (lenA [.hd n] μ) fun x μ1 => gives (fns cx fa (d + 1) ._law_take [.hd h, x] μ1) fun y μ2 => gives (ixA (.hd n) y μ2) K := by
  obtain ⟨xs, a1, a2, a3, a4⟩ := A
  rw [w_lenH a1]
  refine gm (take_fns hf (by omega) (by omega)) ?_
  rintro _ μ1 ⟨j, rfl, j0, j1, f1, x1⟩
  rw [w_ixH (x1.get a1 (by simp [hn]))]
  obtain ⟨a, ha, hm⟩ := atI_in j0 j1
  exact ⟨a, ha, k a μ1 x1 f1 (hP _ _ a x1 (a4 a hm))⟩
theorem badpat_ok (hF : FoOk cx fa) {h d : Nat} {b : Int} {s c : Str} {μ : Sto} (hf : FeedOk h b μ) (hb : b < 2 ^ 60) (hs : smallB s = true) (hc : greatB c = true) :
    gives (fns cx fa (d + 2) ._law_bad_pattern [.hd h, .str s, .str c] μ) fun r μ' => Chk cx fa μ' 10 .is_pattern r false ∧ FeedOk h (b + 1) μ' ∧ Ext [h] μ μ' := by
  have e0 : startE 4 [Lt.A.hd h, .str s, .str c] = [some (.hd h), some (.str s), some (.str c), none] := rfl
  show gives (runBody 4 (m__law_bad_pattern cx fa (fns cx fa (d + 1))) _ μ) _
  rw [w_run, e0]
  unfold m__law_bad_pattern
  have z0 : 0 ≤ sizeLine := sz (by decide)
  have z1 : 1 ≤ sizeLine := sz (by decide)
  have z2 : 2 ≤ sizeLine := sz (by decide)
  have z3 : 3 ≤ sizeLine := sz (by decide)
  have z4 : 4 ≤ sizeLine := sz (by decide)
  have z6 : 6 ≤ sizeLine := sz (by decide)
  have z8 : 8 ≤ sizeLine := sz (by decide)
  have p20 : CPow 10 20 := ⟨by decide, by decide, by decide⟩
  have hl : s.length + ("abcdefgh" : Str).length ≤ sizeLine := sz (by have := small_len hs; have e : ("abcdefgh" : Str).length = 8 := by decide +kernel
                                                                      omega)
  rw [f_seq, f_setS]
  simp [z0, z1, z2, z3, z4, z6, z8, p20, hl, -List.append_assoc, -List.length_append, negA]
  have hst : ∀ (μ μ' : Sto) (a : Lt.A), Ext [h] μ μ' → Bad cx fa h .is_pattern μ a → Bad cx fa h .is_pattern μ' a := fun _ _ _ x B => B.ext x
  have hlt := hf.lt
  have gl := great_len hc
  have sl := small_len hs
  have gs := great_first hc
  have sg := small_first hs
  have e8 : ("abcdefgh" : Str).length = 8 := by decide +kernel
  have lg : smallB (s ++ ("abcdefgh" : Str)) = false := small_long hs e8
  have ll : (s ++ ("abcdefgh" : Str)).length ≤ 1000 := by
    have h1 : s.length ≤ 8 := by
      unfold smallB at hs
      simp at hs
      omega
    rw [app_len, e8]
    omega
  have any4 : ∀ μ0, Chk cx fa μ0 4 .is_pattern (.tup [.str "any"]) true := fun μ0 => p_any hF
  refine add_all hst (N := 6) (M := 6) ⟨_, get_app (get_app get_0), by simp, by simp, ?_⟩ ⟨_, get_0, by simp, by simp, ?_⟩ (by decide) ?_
  · intro a ha
    simp only [List.mem_cons, List.not_mem_nil, or_false] at ha
    rcases ha with rfl | rfl | rfl | rfl | rfl | rfl
    · exact .of fun μ0 => (chk_pat hF (d := 2) (.go (fs := [.is_count]) rfl rfl (.no (by simpa using (chk_count (cx := cx) (fa := fa) (μ0 := μ0) (i := -1)).mono (by decide : 1 ≤ 2))))).mono (by decide)
    · exact .of fun μ0 => (chk_pat hF (d := 2) (.go (fs := [.is_count]) rfl rfl (.no (chk_count_bl.mono (by decide))))).mono (by decide)
    · exact .of fun μ0 => (chk_pat hF (d := 2) (.go (fs := [.is_count]) rfl rfl (.no (by simpa using (chk_count (cx := cx) (fa := fa) (μ0 := μ0) (i := 100000000000000000000)).mono (by decide : 1 ≤ 2))))).mono (by decide)
    · exact .of fun μ0 => (chk_pat hF (d := 2) (.go (fs := [.is_small]) rfl rfl (.no (no_small gs gl)))).mono (by decide)
    · exact .of fun μ0 => (chk_pat hF (d := 2) (.go (fs := [.is_small]) rfl rfl (.no (no_small (by decide +kernel) (by decide +kernel))))).mono (by decide)
    · exact .of fun μ0 => (chk_pat hF (d := 2) (.go (fs := [.is_great, .are_patterns]) rfl rfl (.no (no_great sg sl)))).mono (by decide)
  · intro a ha
    simp only [List.mem_cons, List.not_mem_nil, or_false] at ha
    rcases ha with rfl | rfl | rfl | rfl | rfl | rfl
    · intro μ' x
      have hg := x.get (get_app get_0) (by simp; omega)
      exact (chk_pat hF (d := 2) (.go (fs := [.is_great, .are_patterns]) rfl rfl (.yes (good_great hc) (.no ((chk_tupno (.inr (.inr rfl)) (typ_lst hg) (by decide +kernel)).mono (by decide)))))).mono (by decide)
    · exact .of fun μ0 => (chk_pat hF (d := 6) (.go (fs := [.is_great, .are_patterns]) rfl rfl (.yes ((good_great hc).mono (by decide)) (.no ((chk_arepat (bs := [false]) (by simp) (.cons ((chk_pat hF (d := 2) (.notTup (ty := "str") typ_str (by decide +kernel)))) .nil)).mono (by decide)))))).mono (by decide)
    · exact .of fun μ0 => (chk_pat hF (d := 2) (.len (fs := [.is_great, .are_patterns]) rfl (by simp))).mono (by decide)
    · exact .of fun μ0 => (chk_pat hF (d := 2) (.len (fs := [.is_small, .is_pattern]) rfl (by simp))).mono (by decide)
    · exact .of fun μ0 => (chk_pat hF (d := 2) .empty).mono (by decide)
    · exact .of fun μ0 => (chk_pat hF (d := 2) (.notTup (ty := "str") typ_str (by decide +kernel))).mono (by decide)
  intro n1 μ1 hn1 x1 A1
  have xm : Ext [h] μ μ1 := (Ext.app.trans (Ext.app.trans Ext.app)).trans (x1.sub (by simp))
  have f1 : FeedOk h b μ1 := (hf.app.app.app).of x1 (by simp)
  have hn1' : h < n1 := by simp at hn1; omega
  clear hn1 x1
  have A1' : AllL (Bad cx fa h .is_pattern) 12 (μ1 ++ [Mu.lst [Lt.A.str "any"]] ++ [.lst [Lt.A.tup [.str "as", .str c, .tup [.str "any"]], .tup [.str "as", .str s, .tup [.str "any"], .tup [.str "any"]], .tup [.str "any", .str s], .non, .hd μ1.length, .tup [.str "line", .int 0]]]) n1 := A1.ext hst (by omega) (Ext.app.trans Ext.app)
  have f1lt := f1.lt
  refine add_all hst (N := 12) (M := 6) A1' ⟨_, get_0, by simp, by simp, ?_⟩ (by decide) ?_
  · intro a ha
    simp only [List.mem_cons, List.not_mem_nil, or_false] at ha
    rcases ha with rfl | rfl | rfl | rfl | rfl | rfl
    · exact .of fun μ0 => (chk_pat hF (d := 2) (.go (fs := [.is_small, .is_pattern]) rfl rfl (.no (no_small gs gl)))).mono (by decide)
    · exact .of fun μ0 => (chk_pat hF (d := 2) (.len (fs := [.is_small, .is_pattern]) rfl (by simp))).mono (by decide)
    · exact .of fun μ0 => (chk_pat hF (d := 2) (.len (fs := []) rfl (by simp))).mono (by decide)
    · exact .of fun μ0 => (chk_pat hF (d := 2) (.notTup (ty := "NoneType") typ_non (by decide +kernel))).mono (by decide)
    · intro μ' x
      have hg := x.get (get_app get_0) (by simp; omega)
      exact (chk_pat hF (d := 2) (.notTup (typ_lst hg) (by decide +kernel))).mono (by decide)
    · exact .of fun μ0 => (chk_pat hF (d := 2) (.notIn rfl)).mono (by decide)
  intro n2 μ2 hn2 x2 A2
  have xm2 : Ext [h] μ μ2 := xm.trans ((Ext.app.trans Ext.app).trans (x2.sub (by simp)))
  have f2 : FeedOk h b μ2 := (f1.app.app).of x2 (by simp)
  have hn2' : h < n2 := by simp at hn2; omega
  have f2lt := f2.lt
  have A2' : AllL (Bad cx fa h .is_pattern) 18 (μ2 ++ [.lst [Lt.A.tup [.str "made", .str c, .tup [.tup [.str s, .tup [.str "any"]]]], .tup [.str "name", .str (s ++ ("abcdefgh" : Str))], .tup [.str "num", .str "1"], .tup [.str "name", .str ""]]]) n2 := A2.ext hst (by omega) Ext.app
  refine add_all hst (N := 18) (M := 4) A2' ⟨_, get_0, by simp, by simp, ?_⟩ (by decide) ?_
  · intro a ha
    simp only [List.mem_cons, List.not_mem_nil, or_false] at ha
    rcases ha with rfl | rfl | rfl | rfl
    · exact .of fun μ0 => (chk_pat hF (d := 2) (.notIn rfl)).mono (by decide)
    · exact .of fun μ0 => (chk_pat hF (d := 2) (.go (fs := [.is_small]) rfl rfl (.no (no_small lg ll)))).mono (by decide)
    · exact .of fun μ0 => (chk_pat hF (d := 2) (.go (fs := [.is_count]) rfl rfl (.no ((chk_count_no (t := "str") typ_str (by decide +kernel)).mono (by decide))))).mono (by decide)
    · exact .of fun μ0 => (chk_pat hF (d := 2) (.go (fs := [.is_small]) rfl rfl (.no (no_small (by decide +kernel) (by decide +kernel))))).mono (by decide)
  intro n3 μ3 hn3 x3 A3
  have xm3 : Ext [h] μ μ3 := xm2.trans (Ext.app.trans (x3.sub (by simp)))
  have f3 : FeedOk h b μ3 := f2.app.of x3 (by simp)
  have hn3' : h < n3 := by simp at hn3; omega
  refine pick_all hst A3 (by omega) f3 (by omega) ?_
  intro a μ4 x4 f4 B
  exact ⟨B μ4 Ext.refl, f4, xm3.trans x4⟩
end
end Tx

namespace Tx
open PySem PySem.Spec PyProof.Rows L2 Lt TL
section
variable {cx : Cxp} {fa : Fn → Addr}
def BadT (cx : Cxp) (fa : Fn → Addr) (h : Nat) (μ : Sto) (a : Lt.A) : Prop := Bad cx fa h .is_term μ a ∧ isN a = false
theorem badterm_ok (hF : FoOk cx fa) {h d : Nat} {b : Int} {s c : Str} {μ : Sto} (hf : FeedOk h b μ) (hb : b < 2 ^ 60) (hs : smallB s = true) (hc : greatB c = true) :
    gives (fns cx fa (d + 2) ._law_bad_term [.hd h, .str s, .str c] μ) fun r μ' => isN r = false ∧ Chk cx fa μ' 10 .is_term r false ∧ FeedOk h (b + 1) μ' ∧ Ext [h] μ μ' := by
  have e0 : startE 4 [Lt.A.hd h, .str s, .str c] = [some (.hd h), some (.str s), some (.str c), none] := rfl
  show gives (runBody 4 (m__law_bad_term cx fa (fns cx fa (d + 1))) _ μ) _
  rw [w_run, e0]
  unfold m__law_bad_term
  have z0 : 0 ≤ sizeLine := sz (by decide)
  have z1 : 1 ≤ sizeLine := sz (by decide)
  have z2 : 2 ≤ sizeLine := sz (by decide)
  have z3 : 3 ≤ sizeLine := sz (by decide)
  have z4 : 4 ≤ sizeLine := sz (by decide)
  have z6 : 6 ≤ sizeLine := sz (by decide)
  have z8 : 8 ≤ sizeLine := sz (by decide)
  rw [f_seq, f_setS]
  simp [z0, z1, z2, z3, z4, z6, z8, -List.append_assoc, -List.length_append, negA]
  have hst : ∀ (μ μ' : Sto) (a : Lt.A), Ext [h] μ μ' → BadT cx fa h μ a → BadT cx fa h μ' a := fun _ _ _ x B => ⟨B.1.ext x, B.2⟩
  have hlt := hf.lt
  have gl := great_len hc
  have sl := small_len hs
  have gs := great_first hc
  have sg := small_first hs
  have n1 : ∀ μ0, Chk cx fa μ0 4 .is_term (.tup [.str "num", .int 1]) true := fun μ0 => t_num hF (by decide) (by decide)
  refine add_all hst (N := 6) (M := 4) ⟨_, get_app get_0, by simp, by simp, ?_⟩ ⟨_, get_0, by simp, by simp, ?_⟩ (by decide) ?_
  · intro a ha
    simp only [List.mem_cons, List.not_mem_nil, or_false] at ha
    rcases ha with rfl | rfl | rfl | rfl | rfl | rfl
    · exact ⟨.of fun μ0 => (chk_term hF (d := 2) (.go (fs := [.is_count]) rfl rfl (.no (by simpa using (chk_count (cx := cx) (fa := fa) (μ0 := μ0) (i := -1)).mono (by decide : 1 ≤ 2))))).mono (by decide), rfl⟩
    · exact ⟨.of fun μ0 => (chk_term hF (d := 2) (.go (fs := [.is_count]) rfl rfl (.no (chk_count_bl.mono (by decide))))).mono (by decide), rfl⟩
    · exact ⟨.of fun μ0 => (chk_term hF (d := 2) (.go (fs := [.is_small]) rfl rfl (.no (no_small gs gl)))).mono (by decide), rfl⟩
    · exact ⟨.of fun μ0 => (chk_term hF (d := 2) (.len (fs := [.is_term, .is_term]) rfl (by simp))).mono (by decide), rfl⟩
    · exact ⟨.of fun μ0 => (chk_term hF (d := 2) (.go (fs := [.is_small, .is_term]) rfl rfl (.no (no_small gs gl)))).mono (by decide), rfl⟩
    · exact ⟨.of fun μ0 => (chk_term hF (d := 2) .empty).mono (by decide), rfl⟩
  · intro a ha
    simp only [List.mem_cons, List.not_mem_nil, or_false] at ha
    rcases ha with rfl | rfl | rfl | rfl
    · exact ⟨.of fun μ0 => (chk_term hF (d := 2) (.go (fs := [.are_parts, .is_term]) rfl rfl (.no (chk_parts0.mono (by decide))))).mono (by decide), rfl⟩
    · exact ⟨.of fun μ0 => (chk_term hF (d := 4) (.go (fs := [.is_term, .are_ways]) rfl rfl (.yes (n1 μ0) (.no ((chk_ways (d := 0) (bs := []) (by simp) .nil).mono (by decide)))))).mono (by decide), rfl⟩
    · exact ⟨.of fun μ0 => (chk_term hF (d := 2) (.go (fs := [.is_op, .is_term, .is_term]) rfl rfl (.no (by
        have := (chk_op (cx := cx) (fa := fa) (μ0 := μ0) (s := "/")).mono (by decide : 1 ≤ 2)
        have e : (OPL.any fun t => t == "/") = false := by decide +kernel
        rw [e] at this
        exact this)))).mono (by decide), rfl⟩
    · exact ⟨.of fun μ0 => (chk_term hF (d := 2) (.notTup (ty := "str") typ_str (by decide +kernel))).mono (by decide), rfl⟩
  intro k1 μ1 hn1 x1 A1
  have xm : Ext [h] μ μ1 := (Ext.app.trans Ext.app).trans (x1.sub (by simp))
  have f1 : FeedOk h b μ1 := (hf.app.app).of x1 (by simp)
  have hn1' : h < k1 := by simp at hn1; omega
  clear hn1 x1
  have f1lt := f1.lt
  refine add_all hst (N := 10) (M := 4) (A1.ext hst (by omega) (Ext.app.trans Ext.app)) ⟨_, get_0, by simp, by simp, ?_⟩ (by decide) ?_
  · intro a ha
    simp only [List.mem_cons, List.not_mem_nil, or_false] at ha
    rcases ha with rfl | rfl | rfl | rfl
    · exact ⟨.of fun μ0 => (chk_term hF (d := 2) (.notIn rfl)).mono (by decide), rfl⟩
    · exact ⟨.of fun μ0 => (chk_term hF (d := 2) (.notIn rfl)).mono (by decide), rfl⟩
    · refine ⟨fun μ' x => ?_, rfl⟩
      have hg := x.get (get_app get_0) (by simp; omega)
      exact (chk_term hF (d := 2) (.notTup (typ_lst hg) (by decide +kernel))).mono (by decide)
    · exact ⟨.of fun μ0 => (chk_term hF (d := 2) (.notIn rfl)).mono (by decide), rfl⟩
  intro k2 μ2 hn2 x2 A2
  have xm2 : Ext [h] μ μ2 := xm.trans ((Ext.app.trans Ext.app).trans (x2.sub (by simp)))
  have f2 : FeedOk h b μ2 := (f1.app.app).of x2 (by simp)
  have hn2' : h < k2 := by simp at hn2; omega
  refine pick_all hst A2 (by omega) f2 (by omega) ?_
  intro a μ4 x4 f4 B
  exact ⟨B.2, B.1 μ4 Ext.refl, f4, xm2.trans x4⟩
end
end Tx

namespace Tx
open PySem PySem.Spec PyProof.Rows L2 Lt TL
section
variable {cx : Cxp} {fa : Fn → Addr}
/-- a good line, in parts -/
def GLine (cx : Cxp) (fa : Fn → Addr) (x : Lt.A) : Prop := ∃ ps g b, x = .tup [.tup ps, g, b] ∧ ps.length ≤ 3 ∧ (∀ μ0, ∀ p ∈ ps, Chk cx fa μ0 19 .is_pattern p true) ∧ (∀ μ0, (g = .non ∧ true = true) ∨ (isN g = false ∧ Chk cx fa μ0 20 .is_term g true)) ∧ ∀ μ0, Chk cx fa μ0 20 .is_term b true
theorem GLine.pats {ps : List Lt.A} (h : ∀ μ0, ∀ p ∈ ps, Chk cx fa μ0 19 .is_pattern p true) (hl : ps.length ≤ 3) (μ0 : Sto) : Chk cx fa μ0 20 .are_patterns (.tup ps) true := by
  obtain ⟨bs, hb, hf⟩ := good_all ps (h μ0)
  have := chk_arepat (by omega) hf
  rw [hb] at this
  exact this
theorem GLine.chk {x : Lt.A} (G : GLine cx fa x) (μ0 : Sto) : Chk cx fa μ0 21 .is_line x true := by
  obtain ⟨ps, g, b, rfl, h1, h2, h3, h4⟩ := G
  exact chk_line (GLine.pats h2 h1 μ0) (h3 μ0) (h4 μ0)
theorem badline_ok (hF : FoOk cx fa) {h d : Nat} {b : Int} {s c : Str} {x : Lt.A} {μ : Sto} (hf : FeedOk h b μ) (hb : b < 2 ^ 59) (hs : smallB s = true) (hc : greatB c = true) (G : GLine cx fa x) :
    gives (fns cx fa (d + 3) ._law_bad_line [.hd h, x, .str s, .str c] μ) fun r μ' => Chk cx fa μ' 30 .is_line r false ∧ FeedOk h (b + 3) μ' ∧ Ext [h] μ μ' := by
  obtain ⟨ps, g, bd, rfl, hl, hp, hg, hbd⟩ := G
  have e0 : startE 8 [Lt.A.hd h, .tup [.tup ps, g, bd], .str s, .str c] = [some (.hd h), some (.tup [.tup ps, g, bd]), some (.str s), some (.str c), none, none, none, none] := rfl
  show gives (runBody 8 (m__law_bad_line cx fa (fns cx fa (d + 2))) _ μ) _
  rw [w_run, e0]
  unfold m__law_bad_line
  have z1 : 1 ≤ sizeLine := sz (by decide)
  have z2 : 2 ≤ sizeLine := sz (by decide)
  have z3 : 3 ≤ sizeLine := sz (by decide)
  have z4 : 4 ≤ sizeLine := sz (by decide)
  have zp : ps.length + 1 ≤ sizeLine := sz (by omega)
  have hps : ∀ μ0, Chk cx fa μ0 20 .are_patterns (.tup ps) true := GLine.pats hp hl
  have hlt := hf.lt
  have n1 : ∀ μ0, Chk cx fa μ0 4 .is_term (.tup [.str "num", .int 1]) true := fun μ0 => t_num hF (by decide) (by decide)
  rw [f_seq]
  simp
  refine gm (take_fns hf (by omega) (by decide)) ?_
  rintro _ μ1 ⟨k, rfl, k0, k1, f1, x1⟩
  have hk : k = 0 ∨ k = 1 ∨ k = 2 ∨ k = 3 ∨ k = 4 ∨ k = 5 ∨ k = 6 := by omega
  rcases hk with rfl | rfl | rfl | rfl | rfl | rfl | rfl
  · simp [z3]
    unfold listA
    simp
    refine ⟨?_, (f1.mono (by omega)).app, x1.trans Ext.app⟩
    exact (chk_line (p := false) (d := 20) ((chk_tupno (.inr (.inr rfl)) (typ_lst get_0) (by decide +kernel)).mono (by decide)) (hg _) (hbd _)).mono (by decide)
  · simp
    refine gm (badpat_ok hF f1 (by omega) hs hc) ?_
    rintro bp μ2 ⟨hbp, f2, x2⟩
    simp [z1, zp, z3]
    refine ⟨?_, f2.mono (by omega), x1.trans x2⟩
    obtain ⟨bs, h1, h2⟩ := bad_all (hbp.mono (by decide : 10 ≤ 19)) (ps ++ [bp]) (by simp) (fun y hy => by
      rcases List.mem_append.mp hy with q | q
      · exact .inr ⟨true, hp _ y q⟩
      · exact .inl (List.mem_singleton.mp q))
    have := chk_arepat (by rw [List.length_append]; simp; omega) h2
    rw [h1] at this
    exact (chk_line (p := false) (d := 20) this (hg _) (hbd _)).mono (by decide)
  · simp
    refine ⟨z1, ?_⟩
    refine gm (badpat_ok hF f1 (by omega) hs hc) ?_
    rintro bp μ2 ⟨hbp, f2, x2⟩
    simp [z1, z2, z3]
    refine ⟨?_, f2.mono (by omega), x1.trans x2⟩
    have h1 := p_make hF (μ0 := μ2) (s := c) (ps := [.tup [.str "any"], bp]) (d := 10) (bs := [true, false]) (by decide) hc (by simp) (.cons ((p_any hF).mono (by decide)) (.cons hbp .nil))
    have h2 := chk_arepat (by simp) (.cons h1 .nil)
    exact (chk_line (p := false) (d := 20) (h2.mono (by decide)) (hg _) (hbd _)).mono (by decide)
  · simp [z2, z4]
    refine gm (take_fns f1.app (by omega) (by decide)) ?_
    rintro _ μ2 ⟨j, rfl, j0, j1, f2, x2⟩
    have hlt1 := f1.lt
    have g2 := x2.get get_0 (by simp; omega)
    simp
    rw [w_ixH g2]
    have hj : j = 0 ∨ j = 1 ∨ j = 2 := by omega
    rcases hj with rfl | rfl | rfl
    · refine ⟨.bl false, by simp, z3, ?_, f2.mono (by omega), x1.trans (Ext.app.trans x2)⟩
      exact (chk_line (p := true) (q := false) (d := 20) (hps _) (.inr ⟨rfl, (chk_term hF (d := 2) (.notTup (ty := "bool") typ_bl (by decide +kernel))).mono (by decide)⟩) (hbd _)).mono (by decide)
    · refine ⟨.str "", by simp, z3, ?_, f2.mono (by omega), x1.trans (Ext.app.trans x2)⟩
      exact (chk_line (p := true) (q := false) (d := 20) (hps _) (.inr ⟨rfl, (chk_term hF (d := 2) (.notTup (ty := "str") typ_str (by decide +kernel))).mono (by decide)⟩) (hbd _)).mono (by decide)
    · refine ⟨.str "True", by simp, z3, ?_, f2.mono (by omega), x1.trans (Ext.app.trans x2)⟩
      exact (chk_line (p := true) (q := false) (d := 20) (hps _) (.inr ⟨rfl, (chk_term hF (d := 2) (.notTup (ty := "str") typ_str (by decide +kernel))).mono (by decide)⟩) (hbd _)).mono (by decide)
  · simp
    refine gm (badterm_ok hF f1 (by omega) hs hc) ?_
    rintro bt μ2 ⟨hn, hbt, f2, x2⟩
    refine ⟨z3, ?_, f2.mono (by omega), x1.trans x2⟩
    cases hg μ2 with
    | inl q => exact (chk_line (p := true) (q := true) (r := false) (d := 20) (hps _) (.inl q) (hbt.mono (by decide))).mono (by decide)
    | inr q => exact (chk_line (p := true) (q := true) (r := false) (d := 20) (hps _) (.inr q) (hbt.mono (by decide))).mono (by decide)
  · simp
    refine gm (badterm_ok hF f1 (by omega) hs hc) ?_
    rintro bt μ2 ⟨hn, hbt, f2, x2⟩
    refine ⟨z2, z3, ?_, f2.mono (by omega), x1.trans x2⟩
    exact (chk_line (p := true) (q := false) (d := 20) (hps _) (.inr ⟨hn, hbt.mono (by decide)⟩) ((n1 _).mono (by decide))).mono (by decide)
  · simp [z2, z3, z4, -List.append_assoc, -List.length_append]
    refine gm (take_fns (b := b + 1) f1.app (by omega) (by decide)) ?_
    rintro _ μ2 ⟨j, rfl, j0, j1, f2, x2⟩
    have hlt1 := f1.lt
    have q2 : ∀ m1 m2 : Mu, (μ1 ++ [m1, m2])[μ1.length + 1]? = some m2 := fun _ _ => by simp
    have q3 : ∀ m1 m2 : Mu, (μ1 ++ [m1, m2])[μ1.length]? = some m1 := fun _ _ => by simp
    have g2 := x2.get (q2 _ _) (by simp; omega)
    have g3 := x2.get (q3 _ _) (by simp; omega)
    rw [w_ixH g2]
    have hx : Ext [h] μ μ2 := x1.trans (Ext.app.trans x2)
    have hj : j = 0 ∨ j = 1 ∨ j = 2 ∨ j = 3 := by omega
    rcases hj with rfl | rfl | rfl | rfl
    · refine ⟨_, by simp; rfl, (chk_line_len (by simp)).mono (by decide), f2.mono (by omega), hx⟩
    · refine ⟨_, by simp; rfl, (chk_line_len (by simp)).mono (by decide), f2.mono (by omega), hx⟩
    · refine ⟨_, by simp, (chk_line_no (typ_lst g3) (by decide +kernel)).mono (by decide), f2.mono (by omega), hx⟩
    · refine ⟨_, by simp, (chk_line_no (t := "NoneType") typ_non (by decide +kernel)).mono (by decide), f2.mono (by omega), hx⟩
end
end Tx

namespace Tx
open PySem PySem.Spec PyProof.Rows L2 Lt TL
theorem cut_take {xs : List Lt.A} {k : Nat} (h : k ≤ xs.length) : cutA xs none (some (k : Int)) = xs.take k := by
  unfold cutA
  have e0 : HT.sIx xs.length 0 none = 0 := rfl
  rw [e0, HT.sIx_nat, List.drop_zero, Nat.sub_zero, Nat.min_eq_left h]
theorem cut_drop {xs : List Lt.A} {k : Nat} (h : k ≤ xs.length) : cutA xs (some (k : Int)) none = xs.drop k := by
  unfold cutA
  have e0 : HT.sIx xs.length xs.length none = xs.length := rfl
  rw [e0, HT.sIx_nat, Nat.min_eq_left h, List.take_of_length_le (by rw [List.length_drop]; omega)]
@[simp] theorem w_sliceT {xs : List Lt.A} {lo hi : Option Int} {μ : Sto} {K : Lt.A → Sto → Prop} : gives (sliceA (.tup xs) lo hi μ) K ↔ K (.tup (cutA xs lo hi)) μ := Iff.rfl
theorem small_one {s t : Str} (ht : ∃ c ∈ t.cps.toList, ¬ (97 ≤ c ∧ c < 123)) : smallB (s ++ t) = false := by
  obtain ⟨c, hc, hn⟩ := ht
  have : lowB (s ++ t).cps.toList = false := by
    cases e : lowB (s ++ t).cps.toList with
    | false => rfl
    | true => exact absurd (lowB_iff.mp e c (by rw [app_list]; exact List.mem_append_right _ hc)) hn
  unfold smallB
  rw [this]
  simp
section
variable {cx : Cxp} {fa : Fn → Addr}
/-- a good def, in parts -/
def GDef (cx : Cxp) (fa : Fn → Addr) (a : Lt.A) : Prop := ∃ (f : Str) (ls : List Lt.A), a = .tup [.str f, .tup ls] ∧ smallB f = true ∧ ls ≠ [] ∧ ls.length ≤ 6 ∧ ∀ x ∈ ls, GLine cx fa x
theorem GDef.chk {a : Lt.A} (G : GDef cx fa a) (μ0 : Sto) : Chk cx fa μ0 22 .is_surface_def a true := by
  obtain ⟨f, ls, rfl, hf, hne, hl, hx⟩ := G
  obtain ⟨bs, hb, ht⟩ := good_all ls fun x q => (hx x q).chk μ0
  have := chk_def ((good_small (cx := cx) (fa := fa) (μ0 := μ0) hf).mono (by decide : 2 ≤ 21)) (by omega) ht
  have he : ls.isEmpty = false := by
    cases ls with
    | nil => exact absurd rfl hne
    | cons _ _ => rfl
  rw [he, hb] at this
  exact this
theorem baddef_ok (hF : FoOk cx fa) {h d : Nat} {b : Int} {s c : Str} {x : Lt.A} {μ : Sto} (hf : FeedOk h b μ) (hb : b < 2 ^ 58) (hs : smallB s = true) (hc : greatB c = true) (G : GDef cx fa x) :
    gives (fns cx fa (d + 4) ._law_bad_def [.hd h, x, .str s, .str c] μ) fun r μ' => Chk cx fa μ' 40 .is_surface_def r false ∧ FeedOk h (b + 6) μ' ∧ Ext [h] μ μ' := by
  obtain ⟨f, ls, rfl, hsf, hne, hl, hx⟩ := G
  have e0 : startE 8 [Lt.A.hd h, .tup [.str f, .tup ls], .str s, .str c] = [some (.hd h), some (.tup [.str f, .tup ls]), some (.str s), some (.str c), none, none, none, none] := rfl
  show gives (runBody 8 (m__law_bad_def cx fa (fns cx fa (d + 3))) _ μ) _
  rw [w_run, e0]
  unfold m__law_bad_def
  have z0 : 0 ≤ sizeLine := sz (by decide)
  have z1 : 1 ≤ sizeLine := sz (by decide)
  have z2 : 2 ≤ sizeLine := sz (by decide)
  have z3 : 3 ≤ sizeLine := sz (by decide)
  have z5 : 5 ≤ sizeLine := sz (by decide)
  have z6 : 6 ≤ sizeLine := sz (by decide)
  have e8 : ("abcdefgh" : Str).length = 8 := by decide +kernel
  have e1 : ("1" : Str).length = 1 := by decide +kernel
  have sl : s.length ≤ 8 := by
    unfold smallB at hs
    simp at hs
    omega
  have zl8 : s.length + ("abcdefgh" : Str).length ≤ sizeLine := sz (by rw [e8]; omega)
  have zl1 : s.length + ("1" : Str).length ≤ sizeLine := sz (by rw [e1]; omega)
  have hlt := hf.lt
  have gl := great_len hc
  have gs := great_first hc
  have hfs : ∀ μ0, Chk cx fa μ0 2 .is_small (.str f) true := fun μ0 => good_small hsf
  have hlines : ∀ μ0, ∃ bs, F2 (Chk cx fa μ0 21 .is_line) ls bs := fun μ0 => by
    obtain ⟨bs, hb, ht⟩ := good_all ls fun x q => (hx x q).chk μ0
    exact ⟨bs, ht⟩
  rw [f_seq]
  simp
  refine gm (take_fns hf (by omega) (by decide)) ?_
  rintro _ μ1 ⟨k, rfl, k0, k1, f1, x1⟩
  have hlt1 := f1.lt
  have hk : k = 0 ∨ k = 1 ∨ k = 2 ∨ 3 ≤ k := by omega
  rcases hk with rfl | rfl | rfl | hk3
  · simp [z0, z2]
    refine ⟨?_, f1.mono (by omega), x1⟩
    have := chk_def ((hfs μ1).mono (by decide : 2 ≤ 20)) (ls := []) (by simp) .nil
    exact (by simpa using this : Chk cx fa μ1 (20 + 1) .is_surface_def (.tup [.str f, .tup []]) false).mono (by decide)
  · simp [z2, z6, zl8, zl1]
    refine gm (take_fns f1.app (by omega) (by decide)) ?_
    rintro _ μ2 ⟨j, rfl, j0, j1, f2, x2⟩
    have g2 := x2.get get_0 (by simp; omega)
    rw [w_ixH g2]
    obtain ⟨a, ha, hm⟩ := atI_in (xs := [Lt.A.str "of", .str c, .str (s ++ ("abcdefgh" : Str)), .str "", .str (s ++ ("1" : Str)), .int 3]) j0 (by simpa using j1)
    refine ⟨a, ha, ?_, f2.mono (by omega), x1.trans (Ext.app.trans x2)⟩
    have bad : Chk cx fa μ2 2 .is_small a false := by
      simp only [List.mem_cons, List.not_mem_nil, or_false] at hm
      rcases hm with rfl | rfl | rfl | rfl | rfl | rfl
      · exact no_small (by decide +kernel) (by decide +kernel)
      · exact no_small gs gl
      · exact no_small (small_long hs e8) (by rw [app_len, e8]; omega)
      · exact no_small (by decide +kernel) (by decide +kernel)
      · exact no_small (small_one ⟨49, by decide +kernel, by decide⟩) (by rw [app_len, e1]; omega)
      · exact (chk_small_no (t := "int") typ_int (by decide +kernel)).mono (by decide)
    exact (chk_def_fst bad).mono (by decide)
  · simp [z0, z1, z2, z3, z5, -List.append_assoc, -List.length_append]
    unfold listA
    simp
    refine gm (take_fns (b := b + 1) f1.app (by omega) (by decide)) ?_
    rintro _ μ2 ⟨j, rfl, j0, j1, f2, x2⟩
    have q3 : ∀ m1 m2 m3 : Mu, (μ1 ++ [m1, m2, m3])[μ1.length + 1 + 1]? = some m3 := fun _ _ _ => by
      have e : μ1.length + 1 + 1 - μ1.length = 2 := by omega
      rw [List.getElem?_append_right (by omega), e]
      rfl
    have q2 : ∀ m1 m2 m3 : Mu, (μ1 ++ [m1, m2, m3])[μ1.length + 1]? = some m2 := fun _ _ _ => by simp
    have q1 : ∀ m1 m2 m3 : Mu, (μ1 ++ [m1, m2, m3])[μ1.length]? = some m1 := fun _ _ _ => by simp
    have g1 := x2.get (q1 _ _ _) (by simp; omega)
    have g2 := x2.get (q2 _ _ _) (by simp; omega)
    have g3 := x2.get (q3 _ _ _) (by simp; omega)
    rw [w_ixH g3]
    obtain ⟨a, ha, hm⟩ := atI_in (xs := [Lt.A.tup [.str f, .hd μ1.length], .tup [.str f], .tup [.str f, .tup [], .tup ls], .hd (μ1.length + 1), .tup ls]) j0 (by simpa using j1)
    refine ⟨a, ha, ?_, f2.mono (by omega), x1.trans (Ext.app.trans x2)⟩
    simp only [List.mem_cons, List.not_mem_nil, or_false] at hm
    rcases hm with rfl | rfl | rfl | rfl | rfl
    · exact (chk_def_snd (hfs μ2) (typ_lst g1) (by decide +kernel)).mono (by decide)
    · exact (chk_def_len (by simp)).mono (by decide)
    · exact (chk_def_len (by simp)).mono (by decide)
    · exact (chk_def_no (typ_lst g2) (by decide +kernel)).mono (by decide)
    · by_cases h2 : ls.length = 2
      · cases ls with
        | nil => exact absurd rfl hne
        | cons y ys =>
          cases ys with
          | nil => simp at h2
          | cons w ws =>
            have : ws = [] := by
              cases ws with
              | nil => rfl
              | cons _ _ => simp at h2
            subst this
            obtain ⟨ps, g, bd, rfl, _⟩ := hx y (by simp)
            exact (chk_def_fst (d := 1) (chk_small_no (t := "tuple") typ_tup (by decide +kernel))).mono (by decide)
      · exact (chk_def_len h2).mono (by decide)
  · have q0 : ¬ k = 0 := by omega
    have q1 : ¬ k = 1 := by omega
    have q2 : ¬ k = 2 := by omega
    have hpos : 0 < ls.length := List.length_pos_iff.mpr hne
    simp [q0, q1, q2]
    refine gm (take_fns f1 (by omega) (by omega)) ?_
    rintro _ μ2 ⟨j, rfl, j0, j1, f2, x2⟩
    obtain ⟨j, rfl⟩ : ∃ n : Nat, j = (n : Int) := ⟨j.toNat, by omega⟩
    have hj : j < ls.length := by omega
    simp
    refine ⟨ls[j], atI_nat ls j hj, ?_⟩
    refine gm (badline_ok hF f2 (by omega) hs hc (hx _ (List.getElem_mem hj))) ?_
    rintro bl μ3 ⟨hbl, f3, x3⟩
    have ec : ((j : Int) + 1) = ((j + 1 : Nat) : Int) := by omega
    rw [ec, cut_take (by omega), cut_drop (by omega)]
    refine ⟨z1, sz (by rw [List.length_take]; omega), sz (by rw [List.length_take, List.length_drop]; omega), z2, ?_, f3.mono (by omega), x1.trans (x2.trans x3)⟩
    obtain ⟨bs, h1, h2⟩ := bad_all hbl (ls.take j ++ bl :: ls.drop (j + 1)) (by simp) (fun y hy => by
      rcases List.mem_append.mp hy with q | q
      · exact .inr ⟨true, ((hx y (List.mem_of_mem_take q)).chk μ3).mono (by decide)⟩
      · rcases List.mem_cons.mp q with q | q
        · exact .inl q
        · exact .inr ⟨true, ((hx y (List.mem_of_mem_drop q)).chk μ3).mono (by decide)⟩)
    have := chk_def ((hfs μ3).mono (by decide : 2 ≤ 30)) (by rw [List.length_append, List.length_cons, List.length_take, List.length_drop]; omega) h2
    rw [h1] at this
    exact (by simpa using this : Chk cx fa μ3 (30 + 1) .is_surface_def (.tup [.str f, .tup (ls.take j ++ bl :: ls.drop (j + 1))]) false).mono (by decide)
end
end Tx

namespace Tx
open PySem PySem.Spec PyProof.Rows L2 Lt TL
section
variable {cx : Cxp} {fa : Fn → Addr}
/-- a good program, in parts -/
structure GSurf (cx : Cxp) (fa : Fn → Addr) (ds fs : List Lt.A) : Prop where
  d : ∀ μ0, ∀ x ∈ ds, Chk cx fa μ0 23 .is_data x true
  f : ∀ x ∈ fs, GDef cx fa x
  ld : ds.length = 5
  lf : fs.length = 3
def BadS (cx : Cxp) (fa : Fn → Addr) (h : Nat) (μ : Sto) (a : Lt.A) : Prop := ∀ μ', Ext [h] μ μ' → Chk cx fa μ' 40 .is_surface a false
theorem GSurf.chk {ds fs : List Lt.A} (G : GSurf cx fa ds fs) (μ0 : Sto) : Chk cx fa μ0 24 .is_surface (.tup [.tup ds, .tup fs]) true := by
  obtain ⟨ps, h1, t1⟩ := good_all ds (G.d μ0)
  obtain ⟨qs, h2, t2⟩ := good_all fs (fun x hx => ((G.f x hx).chk μ0).mono (by decide : 22 ≤ 23))
  have := chk_surf (by rw [G.ld]; decide) (by rw [G.lf]; decide) t1 t2
  rw [h1, h2] at this
  exact this
/-- one data more, which is none -/
theorem surf_data {ds fs : List Lt.A} (G : GSurf cx fa ds fs) {x : Lt.A} {μ0 : Sto} (hx : Chk cx fa μ0 23 .is_data x false) : Chk cx fa μ0 40 .is_surface (.tup [.tup (ds ++ [x]), .tup fs]) false := by
  obtain ⟨ps, h1, t1⟩ := bad_all hx (ds ++ [x]) (by simp) (fun y hy => by
    rcases List.mem_append.mp hy with q | q
    · exact .inr ⟨true, G.d μ0 y q⟩
    · exact .inl (List.mem_singleton.mp q))
  obtain ⟨qs, h2, t2⟩ := good_all fs (fun x hx => ((G.f x hx).chk μ0).mono (by decide : 22 ≤ 23))
  have := chk_surf (by rw [List.length_append, G.ld]; simp) (by rw [G.lf]; decide) t1 t2
  rw [h1] at this
  exact this.mono (by decide)
theorem other_ok {h d : Nat} {b : Int} {s : Str} {ds fs : List Lt.A} {μ : Sto} (hf : FeedOk h b μ) (hb : b < 2 ^ 60) (hs : smallB s = true) (G : GSurf cx fa ds fs) :
    gives (fns cx fa (d + 2) ._law_other [.hd h, .tup [.tup ds, .tup fs], .str s] μ) fun r μ' => Chk cx fa μ' 40 .is_surface r false ∧ FeedOk h (b + 1) μ' ∧ Ext [h] μ μ' := by
  have e0 : startE 6 [Lt.A.hd h, .tup [.tup ds, .tup fs], .str s] = [some (.hd h), some (.tup [.tup ds, .tup fs]), some (.str s), none, none, none] := rfl
  show gives (runBody 6 (m__law_other cx fa (fns cx fa (d + 1))) _ μ) _
  rw [w_run, e0]
  unfold m__law_other
  have z0 : 0 ≤ sizeLine := sz (by decide)
  have z1 : 1 ≤ sizeLine := sz (by decide)
  have z2 : 2 ≤ sizeLine := sz (by decide)
  have z3 : 3 ≤ sizeLine := sz (by decide)
  have z5 : 5 ≤ sizeLine := sz (by decide)
  have z6 : ds.length + 1 ≤ sizeLine := sz (by rw [G.ld]; decide)
  have z9 : 9 ≤ sizeLine := sz (by decide)
  have hst : ∀ (μ μ' : Sto) (a : Lt.A), Ext [h] μ μ' → BadS cx fa h μ a → BadS cx fa h μ' a := fun _ _ a x B μ' y => B μ' (x.trans y)
  have hlt := hf.lt
  rw [f_seq, f_asgS]
  have hla : ∀ {xs : List Lt.A} {μ : Sto} {K : Lt.A → Sto → Prop}, gives (listA [.tup xs] μ) K ↔ K (.hd μ.length) (μ ++ [.lst xs]) := fun {xs μ K} => by
    unfold listA
    simp
  simp [z0, z1, z2, z3, z5, z6, z9, hla]
  have ga : ∀ (m1 m2 m3 m4 m5 m6 : Mu) (k : Nat), (μ ++ [m1, m2, m3, m4, m5] ++ [m6])[μ.length + k]? = ([m1, m2, m3, m4, m5] ++ [m6])[k]? := fun m1 m2 m3 m4 m5 m6 k => by
    rw [List.append_assoc, List.getElem?_append_right (by omega), Nat.add_sub_cancel_left]
  have sg := small_first hs
  have sl := small_len hs
  obtain ⟨f0, rest, hfs⟩ : ∃ f0 rest, fs = f0 :: rest := by
    have := G.lf
    cases fs with
    | nil => cases this
    | cons a b => exact ⟨a, b, rfl⟩
  refine ⟨f0, by rw [hfs]; simp, ?_⟩
  rw [w_alloc]
  have gAb : greatB "Ab" = true := by decide +kernel
  refine add_all hst (N := 9) (M := 5) ⟨_, get_app ((ga _ _ _ _ _ _ 3).trans rfl), by simp, by simp, ?_⟩ ⟨_, get_0, by simp, by simp, ?_⟩ (by decide) ?_
  · intro a ha
    simp only [List.mem_cons, List.not_mem_nil, or_false] at ha
    rcases ha with rfl | rfl | rfl | rfl | rfl | rfl | rfl | rfl | rfl
    · exact fun μ' x => (chk_surf_no (t := "NoneType") typ_non (by decide +kernel)).mono (by decide)
    · exact fun μ' x => (chk_surf_no (t := "int") typ_int (by decide +kernel)).mono (by decide)
    · exact fun μ' x => (chk_surf_no (t := "str") typ_str (by decide +kernel)).mono (by decide)
    · exact fun μ' x => (chk_surf_no (typ_lst (x.get (get_app ((ga _ _ _ _ _ _ 0).trans rfl)) (by simp; omega))) (by decide +kernel)).mono (by decide)
    · exact fun μ' x => (chk_surf_len (by simp)).mono (by decide)
    · exact fun μ' x => (chk_surf_len (by simp)).mono (by decide)
    · exact fun μ' x => (chk_surf_len (by simp)).mono (by decide)
    · exact fun μ' x => (chk_surf_no (typ_lst (x.get (get_app ((ga _ _ _ _ _ _ 1).trans rfl)) (by simp; omega))) (by decide +kernel)).mono (by decide)
    · exact fun μ' x => (chk_surf_l (typ_lst (x.get (get_app ((ga _ _ _ _ _ _ 2).trans rfl)) (by simp; omega))) (by decide +kernel)).mono (by decide)
  · intro a ha
    simp only [List.mem_cons, List.not_mem_nil, or_false] at ha
    rcases ha with rfl | rfl | rfl | rfl | rfl
    · exact fun μ' x => (chk_surf_r (typ_lst (x.get (get_app ((ga _ _ _ _ _ _ 4).trans rfl)) (by simp; omega))) (by decide +kernel)).mono (by decide)
    · intro μ' x
      obtain ⟨f, ls, rfl, hf1, hne, hll, hg⟩ := G.f f0 (by rw [hfs]; simp)
      have h1 : Chk cx fa μ' 23 .is_surface_def (.str f) false := (chk_def_no (t := "str") typ_str (by decide +kernel)).mono (by decide)
      have h2 : Chk cx fa μ' 23 .is_surface_def (.tup ls) false := by
        by_cases h2 : ls.length = 2
        · cases ls with
          | nil => exact absurd rfl hne
          | cons y ys =>
            cases ys with
            | nil => simp at h2
            | cons w ws =>
              have : ws = [] := by
                cases ws with
                | nil => rfl
                | cons _ _ => simp at h2
              subst this
              obtain ⟨ps, g, bd, rfl, _⟩ := hg y (by simp)
              exact (chk_def_fst (d := 1) (chk_small_no (t := "tuple") typ_tup (by decide +kernel))).mono (by decide)
        · exact (chk_def_len h2).mono (by decide)
      obtain ⟨ps, p1, t1⟩ := good_all ds (G.d μ')
      have := chk_surf (by rw [G.ld]; decide) (by simp) t1 (.cons h1 (.cons h2 .nil))
      exact (by simpa using this : Chk cx fa μ' (23 + 1) .is_surface (.tup [.tup ds, .tup [.str f, .tup ls]]) false).mono (by decide)
    · intro μ' x
      refine surf_data G ?_
      have := chk_data (μ0 := μ') (d := 3) (ms := []) (bs := []) ((no_great sg sl).mono (by decide : 2 ≤ 3)) (chk_aresmall (cx := cx) (fa := fa) (μ0 := μ') (d := 2) (xs := []) (bs := []) (by simp) .nil) (by simp) .nil
      exact (by simpa using this : Chk cx fa μ' (3 + 1) .is_data (.tup [.str s, .tup [], .tup []]) false).mono (by decide)
    · exact fun μ' x => (chk_surf_r (typ_dic (x.get (get_app (get_0)) (by simp; omega))) (by decide +kernel)).mono (by decide)
    · exact fun μ' x => (chk_surf_no (t := "bool") typ_bl (by decide +kernel)).mono (by decide)
  intro n1 μ1 hn1 x1 A1
  have xm : Ext [h] μ μ1 := (Ext.app.trans (Ext.app.trans Ext.app)).trans (x1.sub (by simp))
  have f1 : FeedOk h b μ1 := (hf.app.app.app).of x1 (by simp)
  have hn1' : h < n1 := by simp at hn1; omega
  clear hn1 x1
  have f1lt := f1.lt
  refine add_all hst (N := 14) (M := 2) (A1.ext hst (by omega) Ext.app) ⟨_, get_0, by simp, by simp, ?_⟩ (by decide) ?_
  · intro a ha
    simp only [List.mem_cons, List.not_mem_nil, or_false] at ha
    rcases ha with rfl | rfl
    · intro μ' x
      refine surf_data G ?_
      have := chk_data (μ0 := μ') (d := 3) (ms := []) (bs := []) ((good_great gAb).mono (by decide : 2 ≤ 3)) (chk_aresmall (cx := cx) (fa := fa) (μ0 := μ') (d := 2) (xs := []) (bs := []) (by simp) .nil) (by simp) .nil
      exact (by simpa using this : Chk cx fa μ' (3 + 1) .is_data (.tup [.str "Ab", .tup [], .tup []]) false).mono (by decide)
    · intro μ' x
      refine surf_data G ?_
      have := chk_data (μ0 := μ') (d := 3) (ms := [.tup [.str "Ab"]]) (bs := [false]) ((good_great gAb).mono (by decide : 2 ≤ 3)) (chk_aresmall (cx := cx) (fa := fa) (μ0 := μ') (d := 2) (xs := [.str s]) (bs := [true]) (by simp) (.cons (good_small hs) .nil)) (by simp) (.cons ((chk_maker_len (by simp)).mono (by decide)) .nil)
      exact (by simpa using this : Chk cx fa μ' (3 + 1) .is_data (.tup [.str "Ab", .tup [.str s], .tup [.tup [.str "Ab"]]]) false).mono (by decide)
  intro n2 μ2 hn2 x2 A2
  have xm2 : Ext [h] μ μ2 := xm.trans (Ext.app.trans (x2.sub (by simp)))
  have f2 : FeedOk h b μ2 := f1.app.of x2 (by simp)
  have hn2' : h < n2 := by simp at hn2; omega
  refine pick_all hst A2 (by omega) f2 (by omega) ?_
  intro a μ4 x4 f4 B
  exact ⟨B μ4 Ext.refl, f4, xm2.trans x4⟩
end
end Tx

namespace Tx
open PySem PySem.Spec PyProof.Rows L2 Lt TL
section
variable {cx : Cxp} {fa : Fn → Addr}
theorem wide_ok (hF : FoOk cx fa) {h d : Nat} {b : Int} {s c : Str} {ds fs : List Lt.A} {μ : Sto} (hf : FeedOk h b μ) (hb : b < 2 ^ 60) (hs : smallB s = true) (hc : greatB c = true) (G : GSurf cx fa ds fs) :
    gives (fns cx fa (d + 2) ._law_wide [.hd h, .tup [.tup ds, .tup fs], .str s, .str c] μ) fun r μ' => Chk cx fa μ' 60 .is_surface r true ∧ FeedOk h (b + 2) μ' ∧ Ext [h] μ μ' := by
  have e0 : startE 10 [Lt.A.hd h, .tup [.tup ds, .tup fs], .str s, .str c] = [some (.hd h), some (.tup [.tup ds, .tup fs]), some (.str s), some (.str c), none, none, none, none, none, none] := rfl
  show gives (runBody 10 (m__law_wide cx fa (fns cx fa (d + 1))) _ μ) _
  rw [w_run, e0]
  unfold m__law_wide
  have z0 : 0 ≤ sizeLine := sz (by decide)
  have z1 : 1 ≤ sizeLine := sz (by decide)
  have z2 : 2 ≤ sizeLine := sz (by decide)
  have z3 : 3 ≤ sizeLine := sz (by decide)
  have z6 : ds.length + ds.length ≤ sizeLine := sz (by rw [G.ld]; decide)
  have z7 : fs.length + 1 ≤ sizeLine := sz (by rw [G.lf]; decide)
  have z8 : fs.length + 1 + fs.length ≤ sizeLine := sz (by rw [G.lf]; decide)
  have hlt := hf.lt
  rw [f_seq, f_asgS]
  simp [z1]
  refine f_for (I := fun as δ μ' => μ' = μ ∧ ∃ (n : Nat) (D : Lt.A) (o7 : Option Lt.A), n + as.length = 9 ∧ (∀ x ∈ as, ∃ i : Int, x = .int i) ∧ (∀ μ0, Chk cx fa μ0 (3 * n + 4) .is_pattern D true) ∧ δ = [some (.hd h), some (.tup [.tup ds, .tup fs]), some (.str s), some (.str c), some (.tup ds), some (.tup fs), some D, o7, none, none]) ?_ ?_ _ _ _
    ⟨rfl, 0, .tup [.str "any"], none, by simp, ?_, fun μ0 => p_any hF, rfl⟩
  · rintro a as δ μ1 ⟨rfl, n, D, o7, hn, hi, hD, rfl⟩
    refine ⟨still_nil, ?_⟩
    obtain ⟨i, rfl⟩ := hi a (List.mem_cons_self ..)
    rw [List.length_cons] at hn
    simp [z2, z3]
    refine ⟨fun _ => ⟨n + 1, by omega, fun x hx => hi x (List.mem_cons_of_mem _ hx), fun μ0 => (p_as hF (by omega) hs (hD μ0)).mono (by omega)⟩, fun _ => ⟨n + 1, by omega, fun x hx => hi x (List.mem_cons_of_mem _ hx), fun μ0 => ?_⟩⟩
    exact (p_make hF (bs := [true, true]) (by omega) hc (by simp) (.cons (hD μ0) (.cons ((p_name hF hs).mono (by omega)) .nil))).mono (by omega)
  · rintro δ μ1 ⟨rfl, n, D, o7, hn, hi, hD, rfl⟩
    refine ⟨still_nil, ?_⟩
    have hn9 : n = 9 := by simpa using hn
    subst hn9
    simp [z0, z1, z2, z3]
    refine gm (take_fns hf.app (by omega) (by decide)) ?_
    rintro _ μ2 ⟨j, rfl, j0, j1, f2, x2⟩
    have g2 := x2.get get_0 (by simp; omega)
    rw [w_ixH g2]
    obtain ⟨many, hmany, hm⟩ := atI_in (xs := [Lt.A.tup [.tup [D, .tup [.str "make", .str c, .tup []], .tup [.str "num", .int 3]], .tup [.str "name", .str s], .tup [.str "case", .tup [.str "name", .str s], .tup [.tup [.str c, .tup [], .tup [.str "num", .int 0]]]]], .tup [.tup [], .non, .tup [.str "make", .str c]]]) j0 (by simpa using j1)
    refine ⟨many, hmany, ?_⟩
    refine ⟨z6, ?_⟩
    refine gm (take_fns f2 (by omega) (by decide)) ?_
    rintro _ μ3 ⟨k, rfl, k0, k1, f3, x3⟩
    unfold repA
    rw [ite_bad]
    refine ⟨⟨by simp, by omega, by omega, by simp⟩, ?_⟩
    rw [w_ret, w_addT]
    have hrl : (List.replicate k.toNat [many]).flatten.length = k.toNat := by simp
    refine ⟨sz (by rw [hrl]; simp; omega), z7, z8, ?_, f3.mono (by omega), Ext.app.trans (x2.trans x3)⟩
    have t1 := t_name hF (μ0 := μ3) hs
    have w1 : Chk cx fa μ3 6 .is_way (.tup [.str c, .tup [], .tup [.str "num", .int 0]]) true := (chk_way0 ((good_great hc).mono (by decide : 2 ≤ 4)) (t_num hF (by decide) (by decide)) (by decide)).mono (by decide)
    have w2 : Chk cx fa μ3 7 .are_ways (.tup [.tup [.str c, .tup [], .tup [.str "num", .int 0]]]) true := chk_ways (bs := [true]) (by simp) (.cons w1 .nil)
    have t2 : Chk cx fa μ3 9 .is_term (.tup [.str "case", .tup [.str "name", .str s], .tup [.tup [.str c, .tup [], .tup [.str "num", .int 0]]]]) true := chk_term hF (.go (fs := [.is_term, .are_ways]) rfl rfl (.yes (t1.mono (by decide)) (.yes w2 .nil)))
    have p1 : Chk cx fa μ3 31 .is_pattern (.tup [.str "make", .str c, .tup []]) true := (p_make hF (bs := []) (d := 2) (by decide) hc (by simp) .nil).mono (by decide)
    have p2 : Chk cx fa μ3 31 .is_pattern (.tup [.str "num", .int 3]) true := (p_num hF (by decide) (by decide)).mono (by decide)
    have ps : Chk cx fa μ3 32 .are_patterns (.tup [D, .tup [.str "make", .str c, .tup []], .tup [.str "num", .int 3]]) true := chk_arepat (bs := [true, true, true]) (by simp) (.cons (hD μ3) (.cons p1 (.cons p2 .nil)))
    have line := chk_line ps (.inr ⟨rfl, t1.mono (by decide)⟩) (t2.mono (by decide : 9 ≤ 32))
    have hmanyL : Chk cx fa μ3 33 .is_line many true := by
      simp only [List.mem_cons, List.not_mem_nil, or_false] at hm
      rcases hm with rfl | rfl
      · exact line
      · exact chk_line (d := 32) ((chk_arepat (d := 0) (bs := []) (by simp) .nil).mono (by decide)) (.inl ⟨rfl, rfl⟩) ((t_make hF hc).mono (by decide))
    obtain ⟨bs, b1, b2⟩ := good_all (μ0 := μ3) (d := 33) (f := .is_line) (cx := cx) (fa := fa) ([.tup [.tup [D, .tup [.str "make", .str c, .tup []], .tup [.str "num", .int 3]], .tup [.str "name", .str s], .tup [.str "case", .tup [.str "name", .str s], .tup [.tup [.str c, .tup [], .tup [.str "num", .int 0]]]]], many] ++ (List.replicate k.toNat [many]).flatten) (fun x hx => by
      rcases List.mem_append.mp hx with q | q
      · rcases List.mem_cons.mp q with q | q
        · rw [q]; exact line
        · rw [List.mem_singleton.mp q]; exact hmanyL
      · have : x = many := by
          simp at q
          exact q.2
        rw [this]; exact hmanyL)
    have df := chk_def ((good_small (cx := cx) (fa := fa) (μ0 := μ3) hs).mono (by decide : 2 ≤ 33)) (by rw [List.length_append, hrl]; simp; omega) b2
    rw [b1] at df
    obtain ⟨ps', p1', t1'⟩ := good_all (ds ++ ds) (fun x hx => (G.d μ3 x (by rcases List.mem_append.mp hx with q | q <;> exact q)).mono (by decide : 23 ≤ 34))
    obtain ⟨qs, q1', t2'⟩ := good_all (μ0 := μ3) (d := 34) (f := .is_surface_def) (cx := cx) (fa := fa) (fs ++ .tup [.str s, .tup ([.tup [.tup [D, .tup [.str "make", .str c, .tup []], .tup [.str "num", .int 3]], .tup [.str "name", .str s], .tup [.str "case", .tup [.str "name", .str s], .tup [.tup [.str c, .tup [], .tup [.str "num", .int 0]]]]], many] ++ (List.replicate k.toNat [many]).flatten)] :: fs) (fun x hx => by
      rcases List.mem_append.mp hx with q | q
      · exact ((G.f x q).chk μ3).mono (by decide)
      · rcases List.mem_cons.mp q with q | q
        · rw [q]; exact df
        · exact ((G.f x q).chk μ3).mono (by decide))
    have := chk_surf (by rw [List.length_append, G.ld]; decide) (by rw [List.length_append, List.length_cons, G.lf]; decide) t1' t2'
    rw [p1', q1'] at this
    exact this.mono (by decide)
  · intro x hx
    simp at hx
    obtain ⟨i, _, rfl⟩ := hx
    exact ⟨_, rfl⟩
end
end Tx

namespace Tx
open PySem PySem.Spec PyProof.Rows L2 Lt TL
/-! ### depth -/
theorem pl_mono : ∀ {n m : Nat} {a : Lt.A}, n ≤ m → PlA n a → PlA m a
  | 0, _, _, _, h => h.elim
  | n + 1, 0, _, hl, _ => absurd hl (by omega)
  | n + 1, m + 1, a, hl, h => by
    rcases h with h | h | h | ⟨xs, e, l, hx⟩
    · exact .inl h
    · exact .inr (.inl h)
    · exact .inr (.inr (.inl h))
    · exact .inr (.inr (.inr ⟨xs, e, l, fun x q => pl_mono (by omega) (hx x q)⟩))
theorem pl_str {n : Nat} {s : Str} : PlA (n + 1) (.str s) := .inl ⟨s, rfl⟩
theorem pl_int {n : Nat} {i : Int} : PlA (n + 1) (.int i) := .inr (.inl ⟨i, rfl⟩)
theorem pl_non {n : Nat} : PlA (n + 1) .non := .inr (.inr (.inl rfl))
theorem pl_tup {n : Nat} {xs : List Lt.A} (l : xs.length ≤ 1000) (h : ∀ x ∈ xs, PlA n x) : PlA (n + 1) (.tup xs) := .inr (.inr (.inr ⟨xs, rfl, l, h⟩))
def plB : Nat → Lt.A → Bool
  | 0, _ => false
  | n + 1, a => match a with
    | .str _ => true
    | .int _ => true
    | .non => true
    | .tup xs => decide (xs.length ≤ 1000) && xs.all (plB n)
    | _ => false
theorem plB_ok : ∀ {n : Nat} {a : Lt.A}, plB n a = true → PlA n a
  | 0, _, h => by cases h
  | n + 1, a, h => by
    unfold plB at h
    split at h
    · exact pl_str
    · exact pl_int
    · exact pl_non
    · obtain ⟨h1, h2⟩ := Bool.and_eq_true_iff.mp h
      exact pl_tup (of_decide_eq_true h1) fun x hx => plB_ok (List.all_eq_true.mp h2 x hx)
    · cases h
theorem f2_ex {α : Type} {Q : α → Lt.A → Prop} {ks : List α} {ps : List Lt.A} (h : F2 Q ks ps) : ∀ p ∈ ps, ∃ k, Q k p := by
  induction h with
  | nil => intro p hp; cases hp
  | cons q t ih =>
    intro p hp
    rcases List.mem_cons.mp hp with e | e
    · rw [e]; exact ⟨_, q⟩
    · exact ih p e
theorem pl_pat : ∀ (n : Nat) (k : Str) (p : Lt.A), DPat n k p → PlA (2 * n + 2) p := by
  have leaf : ∀ (m : Nat) (k : Str) (p : Lt.A), ((∃ x ∈ XS, p = .tup [.str "name", .str x]) ∨ p = .tup [.str "any"] ∨ (k = "num" ∧ ∃ i : Int, 0 ≤ i ∧ i < BIG ∧ p = .tup [.str "num", .int i])) → PlA (m + 2) p := by
    intro m k p h
    rcases h with ⟨x, hx, rfl⟩ | rfl | ⟨_, i, _, _, rfl⟩
    · exact pl_tup (by simp) (mem2 pl_str pl_str)
    · exact pl_tup (by simp) (fun x hx => by rw [List.mem_singleton.mp hx]; exact pl_str)
    · exact pl_tup (by simp) (mem2 pl_str pl_int)
  intro n
  induction n with
  | zero => intro k p h; exact leaf 0 k p h
  | succ n ih =>
    intro k p h
    rcases h with h | ⟨x, hx, p', hp', rfl⟩ | ⟨mk, ps, hk, hmk, hps, rfl⟩
    · exact leaf _ k p h
    · refine pl_tup (by simp) fun y hy => ?_
      simp only [List.mem_cons, List.not_mem_nil, or_false] at hy
      rcases hy with rfl | rfl | rfl
      · exact pl_str
      · exact pl_str
      · exact pl_mono (by omega) (ih k _ hp')
    · refine pl_tup (by simp) fun y hy => ?_
      simp only [List.mem_cons, List.not_mem_nil, or_false] at hy
      rcases hy with rfl | rfl | rfl
      · exact pl_str
      · exact pl_str
      · refine pl_tup (by have := f2_len hps; have := (mk_ks hmk).2; omega) fun z hz => ?_
        obtain ⟨k', hk'⟩ := f2_ex hps z hz
        exact ih k' z hk'
theorem pl_opd {a : Lt.A} (h : Opd a) : PlA 2 a := by
  rcases h with ⟨x, hx, rfl⟩ | ⟨i, _, _, rfl⟩
  · exact pl_tup (by simp) (mem2 pl_str pl_str)
  · exact pl_tup (by simp) (mem2 pl_str pl_int)
theorem mem3 {α : Type} {P : α → Prop} {a b c : α} (h1 : P a) (h2 : P b) (h3 : P c) : ∀ k ∈ [a, b, c], P k := by
  intro k hk
  rcases List.mem_cons.mp hk with rfl | hk
  · exact h1
  · exact mem2 h2 h3 k hk
theorem pl_guard {g : Lt.A} (h : DG g) : PlA 3 g := by
  rcases h with rfl | ⟨s, _, rfl⟩ | ⟨o, _, a, b, ha, hb, rfl⟩
  · exact pl_non
  · exact pl_tup (by simp) (mem2 pl_str pl_str)
  · refine pl_tup (by simp) fun y hy => ?_
    rcases List.mem_cons.mp hy with rfl | hy
    · exact pl_str
    · exact mem3 pl_str (pl_opd ha) (pl_opd hb) y hy
theorem pl_body : ∀ q : List (Str × Lt.A), (∀ p ∈ q, p.1 ∈ BOX ∧ Opd p.2) → PlA (5 + q.length) (bodyA q)
  | [], _ => pl_tup (by simp) (mem2 pl_str pl_str)
  | p :: q, h => by
    have ih := pl_body q fun x hx => h x (List.mem_cons_of_mem _ hx)
    have ho := pl_opd (h p (List.mem_cons_self ..)).2
    refine pl_mono (n := 5 + q.length + 1) (by rw [List.length_cons]; omega) (pl_tup (by simp) (mem3 (pl_mono (n := 1) (by omega) pl_str) (pl_mono (n := 4) (by omega) ?_) ih))
    refine pl_tup (by simp) (mem3 pl_str (pl_tup (by simp) (mem2 pl_str pl_str)) (pl_tup (by simp) (mem3 pl_str (pl_tup (by simp) (mem2 pl_str pl_str)) ho)))
theorem pl_line {ks : List Str} {a : Lt.A} (h : DLine ks a) (hk : ks.length ≤ 3) : PlA 12 a := by
  obtain ⟨ps, g, b, rfl, hp, hg, q, hql, hqa, rfl⟩ := h
  refine pl_tup (by simp) (mem3 (pl_mono (n := 9) (by decide) (pl_tup (by rw [f2_len hp]; omega) fun z hz => ?_)) (pl_mono (by decide) (pl_guard hg)) (pl_mono (by omega) (pl_body q hqa)))
  obtain ⟨k', hk'⟩ := f2_ex hp z hz
  exact pl_pat 3 k' z hk'
section
variable {cx : Cxp} {fa : Fn → Addr} {l : List (Str × Str)}
theorem gline_of (hF : FoOk cx fa) (N : Nms l) {ks : List Str} {a : Lt.A} (h : DLine ks a) (hk : ks.length ≤ 3) : GLine cx fa (ren l a) := by
  obtain ⟨ps, g, b, rfl, hp, hg, q, hql, hqa, rfl⟩ := h
  refine ⟨ps.map (ren l), ren l g, ren l (bodyA q), by simp only [ren, rens, rens_map], by rw [List.length_map, f2_len hp]; exact hk, ?_, ?_, ?_⟩
  · intro μ0 p hp2
    obtain ⟨p, hp3, rfl⟩ := List.mem_map.mp hp2
    obtain ⟨k', hk'⟩ := f2_ex hp p hp3
    exact (good_pat hF N 3 k' p hk').mono (by decide)
  · intro μ0
    exact (good_guard hF N hg).imp id fun z => ⟨z.1, z.2.mono (by decide)⟩
  · intro μ0
    exact (good_body hF N q hqa).mono (by omega)
theorem gdef_of (hF : FoOk cx fa) (N : Nms l) {f : Str} {ls : List Lt.A} {ks : List Str} (hf : f ∈ OLD1) (hne : ls ≠ []) (hl : ls.length ≤ 6) (h : ∀ a ∈ ls, DLine ks a) (hk : ks.length ≤ 3) : GDef cx fa (ren l (.tup [.str f, .tup ls])) := by
  refine ⟨nmo l f, ls.map (ren l), by simp only [ren, rens, rens_map], N.small hf, by simpa using hne, by rw [List.length_map]; exact hl, ?_⟩
  intro x hx
  obtain ⟨a, ha, rfl⟩ := List.mem_map.mp hx
  exact gline_of hF N (h a ha) hk
theorem gll (hF : FoOk cx fa) (N : Nms l) : GDef cx fa (ren l LLD) := by
  have e : ren l LLD = .tup [.str (nmo l "ll"), .tup [.tup [.tup [], .non, .tup [.str "name", .str (nmo l "ll")]]]] := by
    unfold LLD
    simp only [ren, rens, keep N "name" (by simp)]
  rw [e]
  have hs : smallB (nmo l "ll") = true := N.small (by simp [OLD1])
  refine ⟨nmo l "ll", _, rfl, hs, by simp, by simp, ?_⟩
  intro x hx
  rw [List.mem_singleton.mp hx]
  exact ⟨[], .non, _, rfl, by simp, by simp, fun μ0 => .inl ⟨rfl, rfl⟩, fun μ0 => (t_name hF hs).mono (by decide)⟩
theorem gsurf_of (hF : FoOk cx fa) (N : Nms l) {ls1 ls2 : List Lt.A} {ks1 ks2 : List Str} (n1 : ls1 ≠ []) (n2 : ls2 ≠ []) (l1 : ls1.length ≤ 6) (l2 : ls2.length ≤ 6) (d1 : ∀ a ∈ ls1, DLine ks1 a) (d2 : ∀ a ∈ ls2, DLine ks2 a) (k1 : ks1.length ≤ 3) (k2 : ks2.length ≤ 3) :
    ∃ ds fs, ren l (.tup [.tup DATAS, .tup [.tup [.str "ff", .tup ls1], .tup [.str "gg", .tup ls2], LLD]]) = .tup [.tup ds, .tup fs] ∧ GSurf cx fa ds fs := by
  refine ⟨DATAS.map (ren l), [ren l (.tup [.str "ff", .tup ls1]), ren l (.tup [.str "gg", .tup ls2]), ren l LLD], ?_, ?_, ?_, rfl, rfl⟩
  · rw [← rens_map]
    rw [ren, rens, rens, rens, ren, ren, rens, rens, rens, rens]
  · intro μ0 x hx
    obtain ⟨a, ha, rfl⟩ := List.mem_map.mp hx
    exact good_datas hF N a ha
  · exact mem3 (gdef_of hF N (by simp [OLD1]) n1 l1 d1 k1) (gdef_of hF N (by simp [OLD1]) n2 l2 d2 k2) (gll hF N)
theorem pl_surf {ls1 ls2 : List Lt.A} {ks1 ks2 : List Str} (l1 : ls1.length ≤ 6) (l2 : ls2.length ≤ 6) (d1 : ∀ a ∈ ls1, DLine ks1 a) (d2 : ∀ a ∈ ls2, DLine ks2 a) (k1 : ks1.length ≤ 3) (k2 : ks2.length ≤ 3) :
    PlA 16 (.tup [.tup DATAS, .tup [.tup [.str "ff", .tup ls1], .tup [.str "gg", .tup ls2], LLD]]) := by
  refine pl_tup (by simp) (mem2 (pl_mono (n := 10) (by decide) (plB_ok (by decide +kernel))) (pl_tup (by simp) (mem3 ?_ ?_ (pl_mono (n := 6) (by decide) (plB_ok (by decide +kernel))))))
  · exact pl_tup (by simp) (mem2 pl_str (pl_tup (by omega) fun x hx => pl_line (d1 x hx) k1))
  · exact pl_tup (by simp) (mem2 pl_str (pl_tup (by omega) fun x hx => pl_line (d2 x hx) k2))
end
end Tx

namespace Tx
open PySem PySem.Spec PyProof.Rows L2 Lt TL
section
variable {cx : Cxp} {fa : Fn → Addr}
theorem law_spec (hF : FoOk cx fa) (ns : List Int) (a : Lt.A) (μ : Sto) (hn : ns.length ≤ 63) (hs : Scr a μ ns) : gives (fns cx fa 80 .law [a] μ) fun r _ => r = .bl true := by
  have e0 : startE 13 [a] = [some a, none, none, none, none, none, none, none, none, none, none, none, none] := rfl
  show gives (runBody 13 (m_law cx fa (fns cx fa 79)) _ μ) _
  rw [w_run, e0]
  unfold m_law
  have z1 : 1 ≤ sizeLine := sz (by decide)
  have z2 : 2 ≤ sizeLine := sz (by decide)
  rw [f_seq]
  simp
  refine gm (feed_ok (d := 78) hs hn) ?_
  rintro _ μ1 ⟨h, rfl, f1⟩
  refine gm (kinds_ok (d := 77) f1 (by decide)) ?_
  rintro _ μ2 ⟨hk1, ks1, rfl, le1, g1, s1, t1, f2, x2⟩
  have l1 := f1.lt
  refine gm (lines_ok (d := 72) (by omega) f2 (by decide) (by decide) (by decide) g1 s1 t1) ?_
  rintro _ μ3 ⟨ls1, rfl, n1, c1, d1, f3, x3⟩
  refine gm (kinds_ok (d := 77) f3 (by decide)) ?_
  rintro _ μ4 ⟨hk2, ks2, rfl, le2, g2, s2, t2, f4, x4⟩
  have l3 := f3.lt
  refine gm (lines_ok (d := 72) (by omega) f4 (by decide) (by decide) (by decide) g2 s2 t2) ?_
  rintro _ μ5 ⟨ls2, rfl, n2, c2, d2, f5, x5⟩
  refine gm (named_ok (d := 75) f5 (by decide)) ?_
  rintro _ μ6 ⟨hd, l, rfl, led, hdi, N, f6, x6⟩
  have l5 := f5.lt
  have l6 := f6.lt
  refine gm (two_ok (d := 77)) ?_
  rintro _ μ7 ⟨rfl, rfl⟩
  refine gm (renamed_ok 16 63 _ μ7 hdi (pl_surf c1 c2 d1 d2 t1 t2)) ?_
  rintro _ μ8 ⟨rfl, rfl⟩
  obtain ⟨ds, fs, es, G⟩ := gsurf_of hF N n1 n2 c1 c2 d1 d2 t1 t2
  rw [es]
  refine gm (fresh_ok (d := 76) (by omega) f6 (by decide) hdi N) ?_
  rintro _ μ9 ⟨sm, gr, rfl, hsm, hgr, _, _, f9, x9⟩
  simp
  refine gm (G.chk μ9 79 μ9 (by decide) Ext.refl) ?_
  rintro _ μ10 ⟨rfl, x10⟩
  rw [w_isi (b := true) rfl (by decide +kernel)]
  simp
  have f10 := f9.of x10 (by simp)
  refine gm (G.chk μ10 79 μ10 (by decide) Ext.refl) ?_
  rintro _ μ11 ⟨rfl, x11⟩
  simp
  have f11 := f10.of x11 (by simp)
  refine gm (take_fns f11 (by decide) (by decide)) ?_
  rintro _ μ12 ⟨ch, rfl, ch0, ch1, f12, x12⟩
  have hch : ch = 0 ∨ ch = 1 ∨ 2 ≤ ch := by omega
  rcases hch with rfl | rfl | hch
  · simp
    refine gm (wide_ok hF (d := 77) f12 (by decide) hsm hgr G) ?_
    rintro r μ13 ⟨hr, f13, x13⟩
    refine gm (hr 79 μ13 (by decide) Ext.refl) ?_
    rintro _ μ14 ⟨rfl, x14⟩
    simp
  · simp
    refine gm (other_ok (d := 77) f12 (by decide) hsm G) ?_
    rintro r μ13 ⟨hr, f13, x13⟩
    refine gm (hr 79 μ13 (by decide) Ext.refl) ?_
    rintro _ μ14 ⟨rfl, x14⟩
    simp
  · have q0 : ¬ ch = 0 := by omega
    have q1 : ¬ ch = 1 := by omega
    simp [q0, q1]
    refine gm (take_fns f12 (by decide) (by decide)) ?_
    rintro _ μ13 ⟨j, rfl, j0, j1, f13, x13⟩
    obtain ⟨j, rfl⟩ : ∃ n : Nat, j = (n : Int) := ⟨j.toNat, by omega⟩
    have hj : j < fs.length := by have := G.lf; omega
    simp
    refine ⟨fs[j], atI_nat fs j hj, ?_⟩
    refine gm (baddef_ok hF (d := 75) f13 (by decide) hsm hgr (G.f _ (List.getElem_mem hj))) ?_
    rintro bl μ14 ⟨hbl, f14, x14⟩
    have ec : ((j : Int) + 1) = ((j + 1 : Nat) : Int) := by omega
    have hlf := G.lf
    rw [ec, cut_take (by omega), cut_drop (by omega)]
    refine ⟨z1, sz (by rw [List.length_take]; omega), sz (by rw [List.length_take, List.length_drop]; omega), z2, ?_⟩
    obtain ⟨bs, h1, h2⟩ := bad_all (hbl.mono (by decide : 40 ≤ 40)) (fs.take j ++ bl :: fs.drop (j + 1)) (by simp) (fun y hy => by
      rcases List.mem_append.mp hy with q | q
      · exact .inr ⟨true, ((G.f y (List.mem_of_mem_take q)).chk μ14).mono (by decide)⟩
      · rcases List.mem_cons.mp q with q | q
        · exact .inl q
        · exact .inr ⟨true, ((G.f y (List.mem_of_mem_drop q)).chk μ14).mono (by decide)⟩)
    obtain ⟨ps, p1, tp⟩ := good_all ds (fun x hx => (G.d μ14 x hx).mono (by decide : 23 ≤ 40))
    have bad := chk_surf (by rw [G.ld]; decide) (by rw [List.length_append, List.length_cons, List.length_take, List.length_drop]; omega) tp h2
    rw [h1, p1] at bad
    refine gm (bad 79 μ14 (by decide) Ext.refl) ?_
    rintro _ μ15 ⟨rfl, x15⟩
    simp
    refine gm (G.chk μ15 79 μ15 (by decide) Ext.refl) ?_
    rintro _ μ16 ⟨rfl, x16⟩
    simp
end
end Tx

namespace Tx
open PySem PySem.Spec PyProof.Rows L2 Lt

theorem all_mk {l : PySem.W.OpenLaw} {w : World} {K : PySem.W.Frag} {h : Heap} {mg : Str → Option Value} {fa0 : Addr} (X : K.In h) (G : h.Ns mainGlobals mg) (hfa : mg "law" = some (.ref fa0))
    {f0 f1 f2 f3 f4 f5 f6 f7 f8 f9 f10 f11 f12 f13 f14 f15 f16 f17 f18 f19 f20 f21 f22 f23 f24 f25 f26 f27 f28 f29 f30 f31 f32 f33 f34 f35 f36 f37 f38 f39 f40 f41 f42 f43 f44 f45 f46 f47 f48 f49 : Addr} {od0 an0 od1 an1 od2 an2 od3 an3 od4 an4 od5 an5 od6 an6 od7 an7 od8 an8 od9 an9 od10 an10 od11 an11 od12 an12 od13 an13 od14 an14 od15 an15 od16 an16 od17 an17 od18 an18 od19 an19 od20 an20 od21 an21 od22 an22 od23 an23 od24 an24 od25 an25 od26 an26 od27 an27 od28 an28 od29 an29 od30 an30 od31 an31 od32 an32 od33 an33 od34 an34 od35 an35 od36 an36 od37 an37 od38 an38 od39 an39 od40 an40 od41 an41 od42 an42 od43 an43 od44 an44 od45 an45 od46 an46 od47 an47 od48 an48 od49 an49 : Option Addr} {sl0 sl1 sl2 sl3 sl4 sl5 sl6 sl7 sl8 sl9 sl10 sl11 sl12 sl13 sl14 sl15 sl16 sl17 sl18 sl19 sl20 sl21 sl22 sl23 sl24 sl25 sl26 sl27 sl28 sl29 sl30 sl31 sl32 sl33 sl34 sl35 sl36 sl37 sl38 sl39 sl40 sl41 sl42 sl43 sl44 sl45 sl46 sl47 sl48 sl49 : Array (Option Value)} {oc0 kV0 dc0 pm0 cd0 ct0 oc1 kV1 dc1 pm1 cd1 ct1 oc2 kV2 dc2 pm2 cd2 ct2 oc3 kV3 dc3 pm3 cd3 ct3 oc4 kV4 dc4 pm4 cd4 ct4 oc5 kV5 dc5 pm5 cd5 ct5 oc6 kV6 dc6 pm6 cd6 ct6 oc7 kV7 dc7 pm7 cd7 ct7 oc8 kV8 dc8 pm8 cd8 ct8 oc9 kV9 dc9 pm9 cd9 ct9 oc10 kV10 dc10 pm10 cd10 ct10 oc11 kV11 dc11 pm11 cd11 ct11 oc12 kV12 dc12 pm12 cd12 ct12 oc13 kV13 dc13 pm13 cd13 ct13 oc14 kV14 dc14 pm14 cd14 ct14 oc15 kV15 dc15 pm15 cd15 ct15 oc16 kV16 dc16 pm16 cd16 ct16 oc17 kV17 dc17 pm17 cd17 ct17 oc18 kV18 dc18 pm18 cd18 ct18 oc19 kV19 dc19 pm19 cd19 ct19 oc20 kV20 dc20 pm20 cd20 ct20 oc21 kV21 dc21 pm21 cd21 ct21 oc22 kV22 dc22 pm22 cd22 ct22 oc23 kV23 dc23 pm23 cd23 ct23 oc24 kV24 dc24 pm24 cd24 ct24 oc25 kV25 dc25 pm25 cd25 ct25 oc26 kV26 dc26 pm26 cd26 ct26 oc27 kV27 dc27 pm27 cd27 ct27 oc28 kV28 dc28 pm28 cd28 ct28 oc29 kV29 dc29 pm29 cd29 ct29 oc30 kV30 dc30 pm30 cd30 ct30 oc31 kV31 dc31 pm31 cd31 ct31 oc32 kV32 dc32 pm32 cd32 ct32 oc33 kV33 dc33 pm33 cd33 ct33 oc34 kV34 dc34 pm34 cd34 ct34 oc35 kV35 dc35 pm35 cd35 ct35 oc36 kV36 dc36 pm36 cd36 ct36 oc37 kV37 dc37 pm37 cd37 ct37 oc38 kV38 dc38 pm38 cd38 ct38 oc39 kV39 dc39 pm39 cd39 ct39 oc40 kV40 dc40 pm40 cd40 ct40 oc41 kV41 dc41 pm41 cd41 ct41 oc42 kV42 dc42 pm42 cd42 ct42 oc43 kV43 dc43 pm43 cd43 ct43 oc44 kV44 dc44 pm44 cd44 ct44 oc45 kV45 dc45 pm45 cd45 ct45 oc46 kV46 dc46 pm46 cd46 ct46 oc47 kV47 dc47 pm47 cd47 ct47 oc48 kV48 dc48 pm48 cd48 ct48 oc49 kV49 dc49 pm49 cd49 ct49 : Value} {t_BEYOND : _} {t_GREAT : _} {q_KEPT_WORDS : Addr} {t_LONGEST : _} {q_OPS : Addr} {t_SMALL : _}
    (a0 : PySem.W.nsIn K mainGlobals "is_all_small" = some (some (.ref f0)))
    (l0 : K.lookup f0 = some ⟨oc0, od0, .func (PySem.W.fnOf "is_all_small" "is_all_small" (defArgs s_is_all_small) (defBody s_is_all_small) (defScope s_is_all_small) .none kV0 dc0 pm0 an0 cd0 ct0), sl0⟩)
    (c0 : PySem.W.codeIn K cd0 "is_all_small" = true)
    (k0 : PySem.W.keepIn K (.ref f0) = true)
    (a1 : PySem.W.nsIn K mainGlobals "is_small" = some (some (.ref f1)))
    (l1 : K.lookup f1 = some ⟨oc1, od1, .func (PySem.W.fnOf "is_small" "is_small" (defArgs s_is_small) (defBody s_is_small) (defScope s_is_small) .none kV1 dc1 pm1 an1 cd1 ct1), sl1⟩)
    (c1 : PySem.W.codeIn K cd1 "is_small" = true)
    (k1 : PySem.W.keepIn K (.ref f1) = true)
    (a2 : PySem.W.nsIn K mainGlobals "is_great" = some (some (.ref f2)))
    (l2 : K.lookup f2 = some ⟨oc2, od2, .func (PySem.W.fnOf "is_great" "is_great" (defArgs s_is_great) (defBody s_is_great) (defScope s_is_great) .none kV2 dc2 pm2 an2 cd2 ct2), sl2⟩)
    (c2 : PySem.W.codeIn K cd2 "is_great" = true)
    (k2 : PySem.W.keepIn K (.ref f2) = true)
    (a3 : PySem.W.nsIn K mainGlobals "are_small" = some (some (.ref f3)))
    (l3 : K.lookup f3 = some ⟨oc3, od3, .func (PySem.W.fnOf "are_small" "are_small" (defArgs s_are_small) (defBody s_are_small) (defScope s_are_small) .none kV3 dc3 pm3 an3 cd3 ct3), sl3⟩)
    (c3 : PySem.W.codeIn K cd3 "are_small" = true)
    (k3 : PySem.W.keepIn K (.ref f3) = true)
    (a4 : PySem.W.nsIn K mainGlobals "are_unlike" = some (some (.ref f4)))
    (l4 : K.lookup f4 = some ⟨oc4, od4, .func (PySem.W.fnOf "are_unlike" "are_unlike" (defArgs s_are_unlike) (defBody s_are_unlike) (defScope s_are_unlike) .none kV4 dc4 pm4 an4 cd4 ct4), sl4⟩)
    (c4 : PySem.W.codeIn K cd4 "are_unlike" = true)
    (k4 : PySem.W.keepIn K (.ref f4) = true)
    (a5 : PySem.W.nsIn K mainGlobals "is_count" = some (some (.ref f5)))
    (l5 : K.lookup f5 = some ⟨oc5, od5, .func (PySem.W.fnOf "is_count" "is_count" (defArgs s_is_count) (defBody s_is_count) (defScope s_is_count) .none kV5 dc5 pm5 an5 cd5 ct5), sl5⟩)
    (c5 : PySem.W.codeIn K cd5 "is_count" = true)
    (k5 : PySem.W.keepIn K (.ref f5) = true)
    (a6 : PySem.W.nsIn K mainGlobals "is_part" = some (some (.ref f6)))
    (l6 : K.lookup f6 = some ⟨oc6, od6, .func (PySem.W.fnOf "is_part" "is_part" (defArgs s_is_part) (defBody s_is_part) (defScope s_is_part) .none kV6 dc6 pm6 an6 cd6 ct6), sl6⟩)
    (c6 : PySem.W.codeIn K cd6 "is_part" = true)
    (k6 : PySem.W.keepIn K (.ref f6) = true)
    (a7 : PySem.W.nsIn K mainGlobals "are_parts" = some (some (.ref f7)))
    (l7 : K.lookup f7 = some ⟨oc7, od7, .func (PySem.W.fnOf "are_parts" "are_parts" (defArgs s_are_parts) (defBody s_are_parts) (defScope s_are_parts) .none kV7 dc7 pm7 an7 cd7 ct7), sl7⟩)
    (c7 : PySem.W.codeIn K cd7 "are_parts" = true)
    (k7 : PySem.W.keepIn K (.ref f7) = true)
    (a8 : PySem.W.nsIn K mainGlobals "is_way" = some (some (.ref f8)))
    (l8 : K.lookup f8 = some ⟨oc8, od8, .func (PySem.W.fnOf "is_way" "is_way" (defArgs s_is_way) (defBody s_is_way) (defScope s_is_way) .none kV8 dc8 pm8 an8 cd8 ct8), sl8⟩)
    (c8 : PySem.W.codeIn K cd8 "is_way" = true)
    (k8 : PySem.W.keepIn K (.ref f8) = true)
    (a9 : PySem.W.nsIn K mainGlobals "are_ways" = some (some (.ref f9)))
    (l9 : K.lookup f9 = some ⟨oc9, od9, .func (PySem.W.fnOf "are_ways" "are_ways" (defArgs s_are_ways) (defBody s_are_ways) (defScope s_are_ways) .none kV9 dc9 pm9 an9 cd9 ct9), sl9⟩)
    (c9 : PySem.W.codeIn K cd9 "are_ways" = true)
    (k9 : PySem.W.keepIn K (.ref f9) = true)
    (a10 : PySem.W.nsIn K mainGlobals "is_op" = some (some (.ref f10)))
    (l10 : K.lookup f10 = some ⟨oc10, od10, .func (PySem.W.fnOf "is_op" "is_op" (defArgs s_is_op) (defBody s_is_op) (defScope s_is_op) .none kV10 dc10 pm10 an10 cd10 ct10), sl10⟩)
    (c10 : PySem.W.codeIn K cd10 "is_op" = true)
    (k10 : PySem.W.keepIn K (.ref f10) = true)
    (a11 : PySem.W.nsIn K mainGlobals "fits" = some (some (.ref f11)))
    (l11 : K.lookup f11 = some ⟨oc11, od11, .func (PySem.W.fnOf "fits" "fits" (defArgs s_fits) (defBody s_fits) (defScope s_fits) .none kV11 dc11 pm11 an11 cd11 ct11), sl11⟩)
    (c11 : PySem.W.codeIn K cd11 "fits" = true)
    (k11 : PySem.W.keepIn K (.ref f11) = true)
    (a12 : PySem.W.nsIn K mainGlobals "is_term" = some (some (.ref f12)))
    (l12 : K.lookup f12 = some ⟨oc12, od12, .func (PySem.W.fnOf "is_term" "is_term" (defArgs s_is_term) (defBody s_is_term) (defScope s_is_term) .none kV12 dc12 pm12 an12 cd12 ct12), sl12⟩)
    (c12 : PySem.W.codeIn K cd12 "is_term" = true)
    (k12 : PySem.W.keepIn K (.ref f12) = true)
    (a13 : PySem.W.nsIn K mainGlobals "are_kinds" = some (some (.ref f13)))
    (l13 : K.lookup f13 = some ⟨oc13, od13, .func (PySem.W.fnOf "are_kinds" "are_kinds" (defArgs s_are_kinds) (defBody s_are_kinds) (defScope s_are_kinds) .none kV13 dc13 pm13 an13 cd13 ct13), sl13⟩)
    (c13 : PySem.W.codeIn K cd13 "are_kinds" = true)
    (k13 : PySem.W.keepIn K (.ref f13) = true)
    (a14 : PySem.W.nsIn K mainGlobals "is_kind" = some (some (.ref f14)))
    (l14 : K.lookup f14 = some ⟨oc14, od14, .func (PySem.W.fnOf "is_kind" "is_kind" (defArgs s_is_kind) (defBody s_is_kind) (defScope s_is_kind) .none kV14 dc14 pm14 an14 cd14 ct14), sl14⟩)
    (c14 : PySem.W.codeIn K cd14 "is_kind" = true)
    (k14 : PySem.W.keepIn K (.ref f14) = true)
    (a15 : PySem.W.nsIn K mainGlobals "is_maker" = some (some (.ref f15)))
    (l15 : K.lookup f15 = some ⟨oc15, od15, .func (PySem.W.fnOf "is_maker" "is_maker" (defArgs s_is_maker) (defBody s_is_maker) (defScope s_is_maker) .none kV15 dc15 pm15 an15 cd15 ct15), sl15⟩)
    (c15 : PySem.W.codeIn K cd15 "is_maker" = true)
    (k15 : PySem.W.keepIn K (.ref f15) = true)
    (a16 : PySem.W.nsIn K mainGlobals "is_data" = some (some (.ref f16)))
    (l16 : K.lookup f16 = some ⟨oc16, od16, .func (PySem.W.fnOf "is_data" "is_data" (defArgs s_is_data) (defBody s_is_data) (defScope s_is_data) .none kV16 dc16 pm16 an16 cd16 ct16), sl16⟩)
    (c16 : PySem.W.codeIn K cd16 "is_data" = true)
    (k16 : PySem.W.keepIn K (.ref f16) = true)
    (a17 : PySem.W.nsIn K mainGlobals "is_pattern" = some (some (.ref f17)))
    (l17 : K.lookup f17 = some ⟨oc17, od17, .func (PySem.W.fnOf "is_pattern" "is_pattern" (defArgs s_is_pattern) (defBody s_is_pattern) (defScope s_is_pattern) .none kV17 dc17 pm17 an17 cd17 ct17), sl17⟩)
    (c17 : PySem.W.codeIn K cd17 "is_pattern" = true)
    (k17 : PySem.W.keepIn K (.ref f17) = true)
    (a18 : PySem.W.nsIn K mainGlobals "are_patterns" = some (some (.ref f18)))
    (l18 : K.lookup f18 = some ⟨oc18, od18, .func (PySem.W.fnOf "are_patterns" "are_patterns" (defArgs s_are_patterns) (defBody s_are_patterns) (defScope s_are_patterns) .none kV18 dc18 pm18 an18 cd18 ct18), sl18⟩)
    (c18 : PySem.W.codeIn K cd18 "are_patterns" = true)
    (k18 : PySem.W.keepIn K (.ref f18) = true)
    (a19 : PySem.W.nsIn K mainGlobals "is_line" = some (some (.ref f19)))
    (l19 : K.lookup f19 = some ⟨oc19, od19, .func (PySem.W.fnOf "is_line" "is_line" (defArgs s_is_line) (defBody s_is_line) (defScope s_is_line) .none kV19 dc19 pm19 an19 cd19 ct19), sl19⟩)
    (c19 : PySem.W.codeIn K cd19 "is_line" = true)
    (k19 : PySem.W.keepIn K (.ref f19) = true)
    (a20 : PySem.W.nsIn K mainGlobals "is_surface_def" = some (some (.ref f20)))
    (l20 : K.lookup f20 = some ⟨oc20, od20, .func (PySem.W.fnOf "is_surface_def" "is_surface_def" (defArgs s_is_surface_def) (defBody s_is_surface_def) (defScope s_is_surface_def) .none kV20 dc20 pm20 an20 cd20 ct20), sl20⟩)
    (c20 : PySem.W.codeIn K cd20 "is_surface_def" = true)
    (k20 : PySem.W.keepIn K (.ref f20) = true)
    (a21 : PySem.W.nsIn K mainGlobals "is_surface" = some (some (.ref f21)))
    (l21 : K.lookup f21 = some ⟨oc21, od21, .func (PySem.W.fnOf "is_surface" "is_surface" (defArgs s_is_surface) (defBody s_is_surface) (defScope s_is_surface) .none kV21 dc21 pm21 an21 cd21 ct21), sl21⟩)
    (c21 : PySem.W.codeIn K cd21 "is_surface" = true)
    (k21 : PySem.W.keepIn K (.ref f21) = true)
    (a22 : PySem.W.nsIn K mainGlobals "_law_feed" = some (some (.ref f22)))
    (l22 : K.lookup f22 = some ⟨oc22, od22, .func (PySem.W.fnOf "_law_feed" "_law_feed" (defArgs s__law_feed) (defBody s__law_feed) (defScope s__law_feed) .none kV22 dc22 pm22 an22 cd22 ct22), sl22⟩)
    (c22 : PySem.W.codeIn K cd22 "_law_feed" = true)
    (k22 : PySem.W.keepIn K (.ref f22) = true)
    (a23 : PySem.W.nsIn K mainGlobals "_law_take" = some (some (.ref f23)))
    (l23 : K.lookup f23 = some ⟨oc23, od23, .func (PySem.W.fnOf "_law_take" "_law_take" (defArgs s__law_take) (defBody s__law_take) (defScope s__law_take) .none kV23 dc23 pm23 an23 cd23 ct23), sl23⟩)
    (c23 : PySem.W.codeIn K cd23 "_law_take" = true)
    (k23 : PySem.W.keepIn K (.ref f23) = true)
    (a24 : PySem.W.nsIn K mainGlobals "_law_word" = some (some (.ref f24)))
    (l24 : K.lookup f24 = some ⟨oc24, od24, .func (PySem.W.fnOf "_law_word" "_law_word" (defArgs s__law_word) (defBody s__law_word) (defScope s__law_word) .none kV24 dc24 pm24 an24 cd24 ct24), sl24⟩)
    (c24 : PySem.W.codeIn K cd24 "_law_word" = true)
    (k24 : PySem.W.keepIn K (.ref f24) = true)
    (a25 : PySem.W.nsIn K mainGlobals "_law_unlike" = some (some (.ref f25)))
    (l25 : K.lookup f25 = some ⟨oc25, od25, .func (PySem.W.fnOf "_law_unlike" "_law_unlike" (defArgs s__law_unlike) (defBody s__law_unlike) (defScope s__law_unlike) .none kV25 dc25 pm25 an25 cd25 ct25), sl25⟩)
    (c25 : PySem.W.codeIn K cd25 "_law_unlike" = true)
    (k25 : PySem.W.keepIn K (.ref f25) = true)
    (a26 : PySem.W.nsIn K mainGlobals "_law_names" = some (some (.ref f26)))
    (l26 : K.lookup f26 = some ⟨oc26, od26, .func (PySem.W.fnOf "_law_names" "_law_names" (defArgs s__law_names) (defBody s__law_names) (defScope s__law_names) .none kV26 dc26 pm26 an26 cd26 ct26), sl26⟩)
    (c26 : PySem.W.codeIn K cd26 "_law_names" = true)
    (k26 : PySem.W.keepIn K (.ref f26) = true)
    (a27 : PySem.W.nsIn K mainGlobals "_law_renamed" = some (some (.ref f27)))
    (l27 : K.lookup f27 = some ⟨oc27, od27, .func (PySem.W.fnOf "_law_renamed" "_law_renamed" (defArgs s__law_renamed) (defBody s__law_renamed) (defScope s__law_renamed) .none kV27 dc27 pm27 an27 cd27 ct27), sl27⟩)
    (c27 : PySem.W.codeIn K cd27 "_law_renamed" = true)
    (k27 : PySem.W.keepIn K (.ref f27) = true)
    (a28 : PySem.W.nsIn K mainGlobals "_law_datas" = some (some (.ref f28)))
    (l28 : K.lookup f28 = some ⟨oc28, od28, .func (PySem.W.fnOf "_law_datas" "_law_datas" (defArgs s__law_datas) (defBody s__law_datas) (defScope s__law_datas) .none kV28 dc28 pm28 an28 cd28 ct28), sl28⟩)
    (c28 : PySem.W.codeIn K cd28 "_law_datas" = true)
    (k28 : PySem.W.keepIn K (.ref f28) = true)
    (a29 : PySem.W.nsIn K mainGlobals "_law_makers" = some (some (.ref f29)))
    (l29 : K.lookup f29 = some ⟨oc29, od29, .func (PySem.W.fnOf "_law_makers" "_law_makers" (defArgs s__law_makers) (defBody s__law_makers) (defScope s__law_makers) .none kV29 dc29 pm29 an29 cd29 ct29), sl29⟩)
    (c29 : PySem.W.codeIn K cd29 "_law_makers" = true)
    (k29 : PySem.W.keepIn K (.ref f29) = true)
    (a30 : PySem.W.nsIn K mainGlobals "_law_number" = some (some (.ref f30)))
    (l30 : K.lookup f30 = some ⟨oc30, od30, .func (PySem.W.fnOf "_law_number" "_law_number" (defArgs s__law_number) (defBody s__law_number) (defScope s__law_number) .none kV30 dc30 pm30 an30 cd30 ct30), sl30⟩)
    (c30 : PySem.W.codeIn K cd30 "_law_number" = true)
    (k30 : PySem.W.keepIn K (.ref f30) = true)
    (a31 : PySem.W.nsIn K mainGlobals "_law_pattern" = some (some (.ref f31)))
    (l31 : K.lookup f31 = some ⟨oc31, od31, .func (PySem.W.fnOf "_law_pattern" "_law_pattern" (defArgs s__law_pattern) (defBody s__law_pattern) (defScope s__law_pattern) .none kV31 dc31 pm31 an31 cd31 ct31), sl31⟩)
    (c31 : PySem.W.codeIn K cd31 "_law_pattern" = true)
    (k31 : PySem.W.keepIn K (.ref f31) = true)
    (a32 : PySem.W.nsIn K mainGlobals "_law_guard" = some (some (.ref f32)))
    (l32 : K.lookup f32 = some ⟨oc32, od32, .func (PySem.W.fnOf "_law_guard" "_law_guard" (defArgs s__law_guard) (defBody s__law_guard) (defScope s__law_guard) .none kV32 dc32 pm32 an32 cd32 ct32), sl32⟩)
    (c32 : PySem.W.codeIn K cd32 "_law_guard" = true)
    (k32 : PySem.W.keepIn K (.ref f32) = true)
    (a33 : PySem.W.nsIn K mainGlobals "_law_body" = some (some (.ref f33)))
    (l33 : K.lookup f33 = some ⟨oc33, od33, .func (PySem.W.fnOf "_law_body" "_law_body" (defArgs s__law_body) (defBody s__law_body) (defScope s__law_body) .none kV33 dc33 pm33 an33 cd33 ct33), sl33⟩)
    (c33 : PySem.W.codeIn K cd33 "_law_body" = true)
    (k33 : PySem.W.keepIn K (.ref f33) = true)
    (a34 : PySem.W.nsIn K mainGlobals "_law_line" = some (some (.ref f34)))
    (l34 : K.lookup f34 = some ⟨oc34, od34, .func (PySem.W.fnOf "_law_line" "_law_line" (defArgs s__law_line) (defBody s__law_line) (defScope s__law_line) .none kV34 dc34 pm34 an34 cd34 ct34), sl34⟩)
    (c34 : PySem.W.codeIn K cd34 "_law_line" = true)
    (k34 : PySem.W.keepIn K (.ref f34) = true)
    (a35 : PySem.W.nsIn K mainGlobals "_law_ways" = some (some (.ref f35)))
    (l35 : K.lookup f35 = some ⟨oc35, od35, .func (PySem.W.fnOf "_law_ways" "_law_ways" (defArgs s__law_ways) (defBody s__law_ways) (defScope s__law_ways) .none kV35 dc35 pm35 an35 cd35 ct35), sl35⟩)
    (c35 : PySem.W.codeIn K cd35 "_law_ways" = true)
    (k35 : PySem.W.keepIn K (.ref f35) = true)
    (a36 : PySem.W.nsIn K mainGlobals "_law_nodes_at_most" = some (some (.ref f36)))
    (l36 : K.lookup f36 = some ⟨oc36, od36, .func (PySem.W.fnOf "_law_nodes_at_most" "_law_nodes_at_most" (defArgs s__law_nodes_at_most) (defBody s__law_nodes_at_most) (defScope s__law_nodes_at_most) .none kV36 dc36 pm36 an36 cd36 ct36), sl36⟩)
    (c36 : PySem.W.codeIn K cd36 "_law_nodes_at_most" = true)
    (k36 : PySem.W.keepIn K (.ref f36) = true)
    (a37 : PySem.W.nsIn K mainGlobals "_law_lines" = some (some (.ref f37)))
    (l37 : K.lookup f37 = some ⟨oc37, od37, .func (PySem.W.fnOf "_law_lines" "_law_lines" (defArgs s__law_lines) (defBody s__law_lines) (defScope s__law_lines) .none kV37 dc37 pm37 an37 cd37 ct37), sl37⟩)
    (c37 : PySem.W.codeIn K cd37 "_law_lines" = true)
    (k37 : PySem.W.keepIn K (.ref f37) = true)
    (a38 : PySem.W.nsIn K mainGlobals "_law_kinds" = some (some (.ref f38)))
    (l38 : K.lookup f38 = some ⟨oc38, od38, .func (PySem.W.fnOf "_law_kinds" "_law_kinds" (defArgs s__law_kinds) (defBody s__law_kinds) (defScope s__law_kinds) .none kV38 dc38 pm38 an38 cd38 ct38), sl38⟩)
    (c38 : PySem.W.codeIn K cd38 "_law_kinds" = true)
    (k38 : PySem.W.keepIn K (.ref f38) = true)
    (a39 : PySem.W.nsIn K mainGlobals "_law_olds" = some (some (.ref f39)))
    (l39 : K.lookup f39 = some ⟨oc39, od39, .func (PySem.W.fnOf "_law_olds" "_law_olds" (defArgs s__law_olds) (defBody s__law_olds) (defScope s__law_olds) .none kV39 dc39 pm39 an39 cd39 ct39), sl39⟩)
    (c39 : PySem.W.codeIn K cd39 "_law_olds" = true)
    (k39 : PySem.W.keepIn K (.ref f39) = true)
    (a40 : PySem.W.nsIn K mainGlobals "_law_named" = some (some (.ref f40)))
    (l40 : K.lookup f40 = some ⟨oc40, od40, .func (PySem.W.fnOf "_law_named" "_law_named" (defArgs s__law_named) (defBody s__law_named) (defScope s__law_named) .none kV40 dc40 pm40 an40 cd40 ct40), sl40⟩)
    (c40 : PySem.W.codeIn K cd40 "_law_named" = true)
    (k40 : PySem.W.keepIn K (.ref f40) = true)
    (a41 : PySem.W.nsIn K mainGlobals "_law_two" = some (some (.ref f41)))
    (l41 : K.lookup f41 = some ⟨oc41, od41, .func (PySem.W.fnOf "_law_two" "_law_two" (defArgs s__law_two) (defBody s__law_two) (defScope s__law_two) .none kV41 dc41 pm41 an41 cd41 ct41), sl41⟩)
    (c41 : PySem.W.codeIn K cd41 "_law_two" = true)
    (k41 : PySem.W.keepIn K (.ref f41) = true)
    (a42 : PySem.W.nsIn K mainGlobals "_law_fresh" = some (some (.ref f42)))
    (l42 : K.lookup f42 = some ⟨oc42, od42, .func (PySem.W.fnOf "_law_fresh" "_law_fresh" (defArgs s__law_fresh) (defBody s__law_fresh) (defScope s__law_fresh) .none kV42 dc42 pm42 an42 cd42 ct42), sl42⟩)
    (c42 : PySem.W.codeIn K cd42 "_law_fresh" = true)
    (k42 : PySem.W.keepIn K (.ref f42) = true)
    (a43 : PySem.W.nsIn K mainGlobals "_law_bad_pattern" = some (some (.ref f43)))
    (l43 : K.lookup f43 = some ⟨oc43, od43, .func (PySem.W.fnOf "_law_bad_pattern" "_law_bad_pattern" (defArgs s__law_bad_pattern) (defBody s__law_bad_pattern) (defScope s__law_bad_pattern) .none kV43 dc43 pm43 an43 cd43 ct43), sl43⟩)
    (c43 : PySem.W.codeIn K cd43 "_law_bad_pattern" = true)
    (k43 : PySem.W.keepIn K (.ref f43) = true)
    (a44 : PySem.W.nsIn K mainGlobals "_law_bad_term" = some (some (.ref f44)))
    (l44 : K.lookup f44 = some ⟨oc44, od44, .func (PySem.W.fnOf "_law_bad_term" "_law_bad_term" (defArgs s__law_bad_term) (defBody s__law_bad_term) (defScope s__law_bad_term) .none kV44 dc44 pm44 an44 cd44 ct44), sl44⟩)
    (c44 : PySem.W.codeIn K cd44 "_law_bad_term" = true)
    (k44 : PySem.W.keepIn K (.ref f44) = true)
    (a45 : PySem.W.nsIn K mainGlobals "_law_bad_line" = some (some (.ref f45)))
    (l45 : K.lookup f45 = some ⟨oc45, od45, .func (PySem.W.fnOf "_law_bad_line" "_law_bad_line" (defArgs s__law_bad_line) (defBody s__law_bad_line) (defScope s__law_bad_line) .none kV45 dc45 pm45 an45 cd45 ct45), sl45⟩)
    (c45 : PySem.W.codeIn K cd45 "_law_bad_line" = true)
    (k45 : PySem.W.keepIn K (.ref f45) = true)
    (a46 : PySem.W.nsIn K mainGlobals "_law_bad_def" = some (some (.ref f46)))
    (l46 : K.lookup f46 = some ⟨oc46, od46, .func (PySem.W.fnOf "_law_bad_def" "_law_bad_def" (defArgs s__law_bad_def) (defBody s__law_bad_def) (defScope s__law_bad_def) .none kV46 dc46 pm46 an46 cd46 ct46), sl46⟩)
    (c46 : PySem.W.codeIn K cd46 "_law_bad_def" = true)
    (k46 : PySem.W.keepIn K (.ref f46) = true)
    (a47 : PySem.W.nsIn K mainGlobals "_law_other" = some (some (.ref f47)))
    (l47 : K.lookup f47 = some ⟨oc47, od47, .func (PySem.W.fnOf "_law_other" "_law_other" (defArgs s__law_other) (defBody s__law_other) (defScope s__law_other) .none kV47 dc47 pm47 an47 cd47 ct47), sl47⟩)
    (c47 : PySem.W.codeIn K cd47 "_law_other" = true)
    (k47 : PySem.W.keepIn K (.ref f47) = true)
    (a48 : PySem.W.nsIn K mainGlobals "_law_wide" = some (some (.ref f48)))
    (l48 : K.lookup f48 = some ⟨oc48, od48, .func (PySem.W.fnOf "_law_wide" "_law_wide" (defArgs s__law_wide) (defBody s__law_wide) (defScope s__law_wide) .none kV48 dc48 pm48 an48 cd48 ct48), sl48⟩)
    (c48 : PySem.W.codeIn K cd48 "_law_wide" = true)
    (k48 : PySem.W.keepIn K (.ref f48) = true)
    (a49 : PySem.W.nsIn K mainGlobals "law" = some (some (.ref f49)))
    (l49 : K.lookup f49 = some ⟨oc49, od49, .func (PySem.W.fnOf "law" "law" (defArgs s_law) (defBody s_law) (defScope s_law) .none kV49 dc49 pm49 an49 cd49 ct49), sl49⟩)
    (c49 : PySem.W.codeIn K cd49 "law" = true)
    (k49 : PySem.W.keepIn K (.ref f49) = true)
    (n_BEYOND : PySem.W.nsIn K mainGlobals "BEYOND" = some (some (.int 100000000000000000000 t_BEYOND)))
    (n_GREAT : PySem.W.nsIn K mainGlobals "GREAT" = some (some (.str "ABCDEFGHIJKLMNOPQRSTUVWXYZ" t_GREAT)))
    (n_KEPT_WORDS : PySem.W.nsIn K mainGlobals "KEPT_WORDS" = some (some (.ref q_KEPT_WORDS)))
    (u_KEPT_WORDS : tupS K q_KEPT_WORDS ["data", "let", "in", "case", "of", "num"] = true)
    (n_LONGEST : PySem.W.nsIn K mainGlobals "LONGEST" = some (some (.int 8 t_LONGEST)))
    (n_OPS : PySem.W.nsIn K mainGlobals "OPS" = some (some (.ref q_OPS)))
    (u_OPS : tupS K q_OPS ["+", "-", "*", "<", "=="] = true)
    (n_SMALL : PySem.W.nsIn K mainGlobals "SMALL" = some (some (.str "abcdefghijklmnopqrstuvwxyz" t_SMALL)))
    (v_are_kinds : foL [(f13, Fn.are_kinds), (f7, Fn.are_parts), (f18, Fn.are_patterns), (f9, Fn.are_ways), (f5, Fn.is_count), (f2, Fn.is_great), (f14, Fn.is_kind), (f10, Fn.is_op), (f17, Fn.is_pattern), (f1, Fn.is_small), (f12, Fn.is_term)] f13 = some Fn.are_kinds)
    (v_are_parts : foL [(f13, Fn.are_kinds), (f7, Fn.are_parts), (f18, Fn.are_patterns), (f9, Fn.are_ways), (f5, Fn.is_count), (f2, Fn.is_great), (f14, Fn.is_kind), (f10, Fn.is_op), (f17, Fn.is_pattern), (f1, Fn.is_small), (f12, Fn.is_term)] f7 = some Fn.are_parts)
    (v_are_patterns : foL [(f13, Fn.are_kinds), (f7, Fn.are_parts), (f18, Fn.are_patterns), (f9, Fn.are_ways), (f5, Fn.is_count), (f2, Fn.is_great), (f14, Fn.is_kind), (f10, Fn.is_op), (f17, Fn.is_pattern), (f1, Fn.is_small), (f12, Fn.is_term)] f18 = some Fn.are_patterns)
    (v_are_ways : foL [(f13, Fn.are_kinds), (f7, Fn.are_parts), (f18, Fn.are_patterns), (f9, Fn.are_ways), (f5, Fn.is_count), (f2, Fn.is_great), (f14, Fn.is_kind), (f10, Fn.is_op), (f17, Fn.is_pattern), (f1, Fn.is_small), (f12, Fn.is_term)] f9 = some Fn.are_ways)
    (v_is_count : foL [(f13, Fn.are_kinds), (f7, Fn.are_parts), (f18, Fn.are_patterns), (f9, Fn.are_ways), (f5, Fn.is_count), (f2, Fn.is_great), (f14, Fn.is_kind), (f10, Fn.is_op), (f17, Fn.is_pattern), (f1, Fn.is_small), (f12, Fn.is_term)] f5 = some Fn.is_count)
    (v_is_great : foL [(f13, Fn.are_kinds), (f7, Fn.are_parts), (f18, Fn.are_patterns), (f9, Fn.are_ways), (f5, Fn.is_count), (f2, Fn.is_great), (f14, Fn.is_kind), (f10, Fn.is_op), (f17, Fn.is_pattern), (f1, Fn.is_small), (f12, Fn.is_term)] f2 = some Fn.is_great)
    (v_is_kind : foL [(f13, Fn.are_kinds), (f7, Fn.are_parts), (f18, Fn.are_patterns), (f9, Fn.are_ways), (f5, Fn.is_count), (f2, Fn.is_great), (f14, Fn.is_kind), (f10, Fn.is_op), (f17, Fn.is_pattern), (f1, Fn.is_small), (f12, Fn.is_term)] f14 = some Fn.is_kind)
    (v_is_op : foL [(f13, Fn.are_kinds), (f7, Fn.are_parts), (f18, Fn.are_patterns), (f9, Fn.are_ways), (f5, Fn.is_count), (f2, Fn.is_great), (f14, Fn.is_kind), (f10, Fn.is_op), (f17, Fn.is_pattern), (f1, Fn.is_small), (f12, Fn.is_term)] f10 = some Fn.is_op)
    (v_is_pattern : foL [(f13, Fn.are_kinds), (f7, Fn.are_parts), (f18, Fn.are_patterns), (f9, Fn.are_ways), (f5, Fn.is_count), (f2, Fn.is_great), (f14, Fn.is_kind), (f10, Fn.is_op), (f17, Fn.is_pattern), (f1, Fn.is_small), (f12, Fn.is_term)] f17 = some Fn.is_pattern)
    (v_is_small : foL [(f13, Fn.are_kinds), (f7, Fn.are_parts), (f18, Fn.are_patterns), (f9, Fn.are_ways), (f5, Fn.is_count), (f2, Fn.is_great), (f14, Fn.is_kind), (f10, Fn.is_op), (f17, Fn.is_pattern), (f1, Fn.is_small), (f12, Fn.is_term)] f1 = some Fn.is_small)
    (v_is_term : foL [(f13, Fn.are_kinds), (f7, Fn.are_parts), (f18, Fn.are_patterns), (f9, Fn.are_ways), (f5, Fn.is_count), (f2, Fn.is_great), (f14, Fn.is_kind), (f10, Fn.is_op), (f17, Fn.is_pattern), (f1, Fn.is_small), (f12, Fn.is_term)] f12 = some Fn.is_term)
    (z_all : PySem.W.nsIn K mainGlobals "all" = some none)
    (z_bool : PySem.W.nsIn K mainGlobals "bool" = some none)
    (z_enumerate : PySem.W.nsIn K mainGlobals "enumerate" = some none)
    (z_int : PySem.W.nsIn K mainGlobals "int" = some none)
    (z_isinstance : PySem.W.nsIn K mainGlobals "isinstance" = some none)
    (z_len : PySem.W.nsIn K mainGlobals "len" = some none)
    (z_list : PySem.W.nsIn K mainGlobals "list" = some none)
    (z_range : PySem.W.nsIn K mainGlobals "range" = some none)
    (z_set : PySem.W.nsIn K mainGlobals "set" = some none)
    (z_str : PySem.W.nsIn K mainGlobals "str" = some none)
    (z_sum : PySem.W.nsIn K mainGlobals "sum" = some none)
    (z_tuple : PySem.W.nsIn K mainGlobals "tuple" = some none)
    (z_zip : PySem.W.nsIn K mainGlobals "zip" = some none) :
    ∃ fd : FuncData, (∀ (s : Shared) (v : Value), BindsTo s fd ⟨[v], []⟩ [("script", v)]) ∧ ∀ base : Heap, K.In base → base.Ns mainGlobals mg → FnOk l.prog w K mg base (L2.CX l.prog w) 82 fa0 fd ["script"] (spLaw K) := by
  have e := hfa.symm.trans (PySem.W.mg_of X G a49)
  cases e
  let fa : Fn → Addr := fun i => match i with
    | .is_all_small => f0
    | .is_small => f1
    | .is_great => f2
    | .are_small => f3
    | .are_unlike => f4
    | .is_count => f5
    | .is_part => f6
    | .are_parts => f7
    | .is_way => f8
    | .are_ways => f9
    | .is_op => f10
    | .fits => f11
    | .is_term => f12
    | .are_kinds => f13
    | .is_kind => f14
    | .is_maker => f15
    | .is_data => f16
    | .is_pattern => f17
    | .are_patterns => f18
    | .is_line => f19
    | .is_surface_def => f20
    | .is_surface => f21
    | ._law_feed => f22
    | ._law_take => f23
    | ._law_word => f24
    | ._law_unlike => f25
    | ._law_names => f26
    | ._law_renamed => f27
    | ._law_datas => f28
    | ._law_makers => f29
    | ._law_number => f30
    | ._law_pattern => f31
    | ._law_guard => f32
    | ._law_body => f33
    | ._law_line => f34
    | ._law_ways => f35
    | ._law_nodes_at_most => f36
    | ._law_lines => f37
    | ._law_kinds => f38
    | ._law_olds => f39
    | ._law_named => f40
    | ._law_two => f41
    | ._law_fresh => f42
    | ._law_bad_pattern => f43
    | ._law_bad_term => f44
    | ._law_bad_line => f45
    | ._law_bad_def => f46
    | ._law_other => f47
    | ._law_wide => f48
    | .law => fa0
  let fd : Fn → FuncData := fun i => match i with
    | .is_all_small => PySem.W.fnOf "is_all_small" "is_all_small" (defArgs s_is_all_small) (defBody s_is_all_small) (defScope s_is_all_small) .none kV0 dc0 pm0 an0 cd0 ct0
    | .is_small => PySem.W.fnOf "is_small" "is_small" (defArgs s_is_small) (defBody s_is_small) (defScope s_is_small) .none kV1 dc1 pm1 an1 cd1 ct1
    | .is_great => PySem.W.fnOf "is_great" "is_great" (defArgs s_is_great) (defBody s_is_great) (defScope s_is_great) .none kV2 dc2 pm2 an2 cd2 ct2
    | .are_small => PySem.W.fnOf "are_small" "are_small" (defArgs s_are_small) (defBody s_are_small) (defScope s_are_small) .none kV3 dc3 pm3 an3 cd3 ct3
    | .are_unlike => PySem.W.fnOf "are_unlike" "are_unlike" (defArgs s_are_unlike) (defBody s_are_unlike) (defScope s_are_unlike) .none kV4 dc4 pm4 an4 cd4 ct4
    | .is_count => PySem.W.fnOf "is_count" "is_count" (defArgs s_is_count) (defBody s_is_count) (defScope s_is_count) .none kV5 dc5 pm5 an5 cd5 ct5
    | .is_part => PySem.W.fnOf "is_part" "is_part" (defArgs s_is_part) (defBody s_is_part) (defScope s_is_part) .none kV6 dc6 pm6 an6 cd6 ct6
    | .are_parts => PySem.W.fnOf "are_parts" "are_parts" (defArgs s_are_parts) (defBody s_are_parts) (defScope s_are_parts) .none kV7 dc7 pm7 an7 cd7 ct7
    | .is_way => PySem.W.fnOf "is_way" "is_way" (defArgs s_is_way) (defBody s_is_way) (defScope s_is_way) .none kV8 dc8 pm8 an8 cd8 ct8
    | .are_ways => PySem.W.fnOf "are_ways" "are_ways" (defArgs s_are_ways) (defBody s_are_ways) (defScope s_are_ways) .none kV9 dc9 pm9 an9 cd9 ct9
    | .is_op => PySem.W.fnOf "is_op" "is_op" (defArgs s_is_op) (defBody s_is_op) (defScope s_is_op) .none kV10 dc10 pm10 an10 cd10 ct10
    | .fits => PySem.W.fnOf "fits" "fits" (defArgs s_fits) (defBody s_fits) (defScope s_fits) .none kV11 dc11 pm11 an11 cd11 ct11
    | .is_term => PySem.W.fnOf "is_term" "is_term" (defArgs s_is_term) (defBody s_is_term) (defScope s_is_term) .none kV12 dc12 pm12 an12 cd12 ct12
    | .are_kinds => PySem.W.fnOf "are_kinds" "are_kinds" (defArgs s_are_kinds) (defBody s_are_kinds) (defScope s_are_kinds) .none kV13 dc13 pm13 an13 cd13 ct13
    | .is_kind => PySem.W.fnOf "is_kind" "is_kind" (defArgs s_is_kind) (defBody s_is_kind) (defScope s_is_kind) .none kV14 dc14 pm14 an14 cd14 ct14
    | .is_maker => PySem.W.fnOf "is_maker" "is_maker" (defArgs s_is_maker) (defBody s_is_maker) (defScope s_is_maker) .none kV15 dc15 pm15 an15 cd15 ct15
    | .is_data => PySem.W.fnOf "is_data" "is_data" (defArgs s_is_data) (defBody s_is_data) (defScope s_is_data) .none kV16 dc16 pm16 an16 cd16 ct16
    | .is_pattern => PySem.W.fnOf "is_pattern" "is_pattern" (defArgs s_is_pattern) (defBody s_is_pattern) (defScope s_is_pattern) .none kV17 dc17 pm17 an17 cd17 ct17
    | .are_patterns => PySem.W.fnOf "are_patterns" "are_patterns" (defArgs s_are_patterns) (defBody s_are_patterns) (defScope s_are_patterns) .none kV18 dc18 pm18 an18 cd18 ct18
    | .is_line => PySem.W.fnOf "is_line" "is_line" (defArgs s_is_line) (defBody s_is_line) (defScope s_is_line) .none kV19 dc19 pm19 an19 cd19 ct19
    | .is_surface_def => PySem.W.fnOf "is_surface_def" "is_surface_def" (defArgs s_is_surface_def) (defBody s_is_surface_def) (defScope s_is_surface_def) .none kV20 dc20 pm20 an20 cd20 ct20
    | .is_surface => PySem.W.fnOf "is_surface" "is_surface" (defArgs s_is_surface) (defBody s_is_surface) (defScope s_is_surface) .none kV21 dc21 pm21 an21 cd21 ct21
    | ._law_feed => PySem.W.fnOf "_law_feed" "_law_feed" (defArgs s__law_feed) (defBody s__law_feed) (defScope s__law_feed) .none kV22 dc22 pm22 an22 cd22 ct22
    | ._law_take => PySem.W.fnOf "_law_take" "_law_take" (defArgs s__law_take) (defBody s__law_take) (defScope s__law_take) .none kV23 dc23 pm23 an23 cd23 ct23
    | ._law_word => PySem.W.fnOf "_law_word" "_law_word" (defArgs s__law_word) (defBody s__law_word) (defScope s__law_word) .none kV24 dc24 pm24 an24 cd24 ct24
    | ._law_unlike => PySem.W.fnOf "_law_unlike" "_law_unlike" (defArgs s__law_unlike) (defBody s__law_unlike) (defScope s__law_unlike) .none kV25 dc25 pm25 an25 cd25 ct25
    | ._law_names => PySem.W.fnOf "_law_names" "_law_names" (defArgs s__law_names) (defBody s__law_names) (defScope s__law_names) .none kV26 dc26 pm26 an26 cd26 ct26
    | ._law_renamed => PySem.W.fnOf "_law_renamed" "_law_renamed" (defArgs s__law_renamed) (defBody s__law_renamed) (defScope s__law_renamed) .none kV27 dc27 pm27 an27 cd27 ct27
    | ._law_datas => PySem.W.fnOf "_law_datas" "_law_datas" (defArgs s__law_datas) (defBody s__law_datas) (defScope s__law_datas) .none kV28 dc28 pm28 an28 cd28 ct28
    | ._law_makers => PySem.W.fnOf "_law_makers" "_law_makers" (defArgs s__law_makers) (defBody s__law_makers) (defScope s__law_makers) .none kV29 dc29 pm29 an29 cd29 ct29
    | ._law_number => PySem.W.fnOf "_law_number" "_law_number" (defArgs s__law_number) (defBody s__law_number) (defScope s__law_number) .none kV30 dc30 pm30 an30 cd30 ct30
    | ._law_pattern => PySem.W.fnOf "_law_pattern" "_law_pattern" (defArgs s__law_pattern) (defBody s__law_pattern) (defScope s__law_pattern) .none kV31 dc31 pm31 an31 cd31 ct31
    | ._law_guard => PySem.W.fnOf "_law_guard" "_law_guard" (defArgs s__law_guard) (defBody s__law_guard) (defScope s__law_guard) .none kV32 dc32 pm32 an32 cd32 ct32
    | ._law_body => PySem.W.fnOf "_law_body" "_law_body" (defArgs s__law_body) (defBody s__law_body) (defScope s__law_body) .none kV33 dc33 pm33 an33 cd33 ct33
    | ._law_line => PySem.W.fnOf "_law_line" "_law_line" (defArgs s__law_line) (defBody s__law_line) (defScope s__law_line) .none kV34 dc34 pm34 an34 cd34 ct34
    | ._law_ways => PySem.W.fnOf "_law_ways" "_law_ways" (defArgs s__law_ways) (defBody s__law_ways) (defScope s__law_ways) .none kV35 dc35 pm35 an35 cd35 ct35
    | ._law_nodes_at_most => PySem.W.fnOf "_law_nodes_at_most" "_law_nodes_at_most" (defArgs s__law_nodes_at_most) (defBody s__law_nodes_at_most) (defScope s__law_nodes_at_most) .none kV36 dc36 pm36 an36 cd36 ct36
    | ._law_lines => PySem.W.fnOf "_law_lines" "_law_lines" (defArgs s__law_lines) (defBody s__law_lines) (defScope s__law_lines) .none kV37 dc37 pm37 an37 cd37 ct37
    | ._law_kinds => PySem.W.fnOf "_law_kinds" "_law_kinds" (defArgs s__law_kinds) (defBody s__law_kinds) (defScope s__law_kinds) .none kV38 dc38 pm38 an38 cd38 ct38
    | ._law_olds => PySem.W.fnOf "_law_olds" "_law_olds" (defArgs s__law_olds) (defBody s__law_olds) (defScope s__law_olds) .none kV39 dc39 pm39 an39 cd39 ct39
    | ._law_named => PySem.W.fnOf "_law_named" "_law_named" (defArgs s__law_named) (defBody s__law_named) (defScope s__law_named) .none kV40 dc40 pm40 an40 cd40 ct40
    | ._law_two => PySem.W.fnOf "_law_two" "_law_two" (defArgs s__law_two) (defBody s__law_two) (defScope s__law_two) .none kV41 dc41 pm41 an41 cd41 ct41
    | ._law_fresh => PySem.W.fnOf "_law_fresh" "_law_fresh" (defArgs s__law_fresh) (defBody s__law_fresh) (defScope s__law_fresh) .none kV42 dc42 pm42 an42 cd42 ct42
    | ._law_bad_pattern => PySem.W.fnOf "_law_bad_pattern" "_law_bad_pattern" (defArgs s__law_bad_pattern) (defBody s__law_bad_pattern) (defScope s__law_bad_pattern) .none kV43 dc43 pm43 an43 cd43 ct43
    | ._law_bad_term => PySem.W.fnOf "_law_bad_term" "_law_bad_term" (defArgs s__law_bad_term) (defBody s__law_bad_term) (defScope s__law_bad_term) .none kV44 dc44 pm44 an44 cd44 ct44
    | ._law_bad_line => PySem.W.fnOf "_law_bad_line" "_law_bad_line" (defArgs s__law_bad_line) (defBody s__law_bad_line) (defScope s__law_bad_line) .none kV45 dc45 pm45 an45 cd45 ct45
    | ._law_bad_def => PySem.W.fnOf "_law_bad_def" "_law_bad_def" (defArgs s__law_bad_def) (defBody s__law_bad_def) (defScope s__law_bad_def) .none kV46 dc46 pm46 an46 cd46 ct46
    | ._law_other => PySem.W.fnOf "_law_other" "_law_other" (defArgs s__law_other) (defBody s__law_other) (defScope s__law_other) .none kV47 dc47 pm47 an47 cd47 ct47
    | ._law_wide => PySem.W.fnOf "_law_wide" "_law_wide" (defArgs s__law_wide) (defBody s__law_wide) (defScope s__law_wide) .none kV48 dc48 pm48 an48 cd48 ct48
    | .law => PySem.W.fnOf "law" "law" (defArgs s_law) (defBody s_law) (defScope s_law) .none kV49 dc49 pm49 an49 cd49 ct49
  have FN : ∀ i, Fun K (nm i) (nm i) (sf i) (fa i) (fd i) := fun i => match i with
    | .is_all_small => fun_mk (st := s_is_all_small) l0 c0 k0
    | .is_small => fun_mk (st := s_is_small) l1 c1 k1
    | .is_great => fun_mk (st := s_is_great) l2 c2 k2
    | .are_small => fun_mk (st := s_are_small) l3 c3 k3
    | .are_unlike => fun_mk (st := s_are_unlike) l4 c4 k4
    | .is_count => fun_mk (st := s_is_count) l5 c5 k5
    | .is_part => fun_mk (st := s_is_part) l6 c6 k6
    | .are_parts => fun_mk (st := s_are_parts) l7 c7 k7
    | .is_way => fun_mk (st := s_is_way) l8 c8 k8
    | .are_ways => fun_mk (st := s_are_ways) l9 c9 k9
    | .is_op => fun_mk (st := s_is_op) l10 c10 k10
    | .fits => fun_mk (st := s_fits) l11 c11 k11
    | .is_term => fun_mk (st := s_is_term) l12 c12 k12
    | .are_kinds => fun_mk (st := s_are_kinds) l13 c13 k13
    | .is_kind => fun_mk (st := s_is_kind) l14 c14 k14
    | .is_maker => fun_mk (st := s_is_maker) l15 c15 k15
    | .is_data => fun_mk (st := s_is_data) l16 c16 k16
    | .is_pattern => fun_mk (st := s_is_pattern) l17 c17 k17
    | .are_patterns => fun_mk (st := s_are_patterns) l18 c18 k18
    | .is_line => fun_mk (st := s_is_line) l19 c19 k19
    | .is_surface_def => fun_mk (st := s_is_surface_def) l20 c20 k20
    | .is_surface => fun_mk (st := s_is_surface) l21 c21 k21
    | ._law_feed => fun_mk (st := s__law_feed) l22 c22 k22
    | ._law_take => fun_mk (st := s__law_take) l23 c23 k23
    | ._law_word => fun_mk (st := s__law_word) l24 c24 k24
    | ._law_unlike => fun_mk (st := s__law_unlike) l25 c25 k25
    | ._law_names => fun_mk (st := s__law_names) l26 c26 k26
    | ._law_renamed => fun_mk (st := s__law_renamed) l27 c27 k27
    | ._law_datas => fun_mk (st := s__law_datas) l28 c28 k28
    | ._law_makers => fun_mk (st := s__law_makers) l29 c29 k29
    | ._law_number => fun_mk (st := s__law_number) l30 c30 k30
    | ._law_pattern => fun_mk (st := s__law_pattern) l31 c31 k31
    | ._law_guard => fun_mk (st := s__law_guard) l32 c32 k32
    | ._law_body => fun_mk (st := s__law_body) l33 c33 k33
    | ._law_line => fun_mk (st := s__law_line) l34 c34 k34
    | ._law_ways => fun_mk (st := s__law_ways) l35 c35 k35
    | ._law_nodes_at_most => fun_mk (st := s__law_nodes_at_most) l36 c36 k36
    | ._law_lines => fun_mk (st := s__law_lines) l37 c37 k37
    | ._law_kinds => fun_mk (st := s__law_kinds) l38 c38 k38
    | ._law_olds => fun_mk (st := s__law_olds) l39 c39 k39
    | ._law_named => fun_mk (st := s__law_named) l40 c40 k40
    | ._law_two => fun_mk (st := s__law_two) l41 c41 k41
    | ._law_fresh => fun_mk (st := s__law_fresh) l42 c42 k42
    | ._law_bad_pattern => fun_mk (st := s__law_bad_pattern) l43 c43 k43
    | ._law_bad_term => fun_mk (st := s__law_bad_term) l44 c44 k44
    | ._law_bad_line => fun_mk (st := s__law_bad_line) l45 c45 k45
    | ._law_bad_def => fun_mk (st := s__law_bad_def) l46 c46 k46
    | ._law_other => fun_mk (st := s__law_other) l47 c47 k47
    | ._law_wide => fun_mk (st := s__law_wide) l48 c48 k48
    | .law => fun_mk (st := s_law) l49 c49 k49
  have BD : ∀ i, L2.Binds K (fd i) (ps i) [] := fun i => match i with
    | .is_all_small => (FN .is_all_small).binds (ps := ps .is_all_small) fun _ _ _ _ _ _ us hl => match us, hl with | [_], _ => rfl
    | .is_small => (FN .is_small).binds (ps := ps .is_small) fun _ _ _ _ _ _ us hl => match us, hl with | [_], _ => rfl
    | .is_great => (FN .is_great).binds (ps := ps .is_great) fun _ _ _ _ _ _ us hl => match us, hl with | [_], _ => rfl
    | .are_small => (FN .are_small).binds (ps := ps .are_small) fun _ _ _ _ _ _ us hl => match us, hl with | [_], _ => rfl
    | .are_unlike => (FN .are_unlike).binds (ps := ps .are_unlike) fun _ _ _ _ _ _ us hl => match us, hl with | [_], _ => rfl
    | .is_count => (FN .is_count).binds (ps := ps .is_count) fun _ _ _ _ _ _ us hl => match us, hl with | [_], _ => rfl
    | .is_part => (FN .is_part).binds (ps := ps .is_part) fun _ _ _ _ _ _ us hl => match us, hl with | [_], _ => rfl
    | .are_parts => (FN .are_parts).binds (ps := ps .are_parts) fun _ _ _ _ _ _ us hl => match us, hl with | [_], _ => rfl
    | .is_way => (FN .is_way).binds (ps := ps .is_way) fun _ _ _ _ _ _ us hl => match us, hl with | [_], _ => rfl
    | .are_ways => (FN .are_ways).binds (ps := ps .are_ways) fun _ _ _ _ _ _ us hl => match us, hl with | [_], _ => rfl
    | .is_op => (FN .is_op).binds (ps := ps .is_op) fun _ _ _ _ _ _ us hl => match us, hl with | [_], _ => rfl
    | .fits => (FN .fits).binds (ps := ps .fits) fun _ _ _ _ _ _ us hl => match us, hl with | [_, _], _ => rfl
    | .is_term => (FN .is_term).binds (ps := ps .is_term) fun _ _ _ _ _ _ us hl => match us, hl with | [_], _ => rfl
    | .are_kinds => (FN .are_kinds).binds (ps := ps .are_kinds) fun _ _ _ _ _ _ us hl => match us, hl with | [_], _ => rfl
    | .is_kind => (FN .is_kind).binds (ps := ps .is_kind) fun _ _ _ _ _ _ us hl => match us, hl with | [_], _ => rfl
    | .is_maker => (FN .is_maker).binds (ps := ps .is_maker) fun _ _ _ _ _ _ us hl => match us, hl with | [_], _ => rfl
    | .is_data => (FN .is_data).binds (ps := ps .is_data) fun _ _ _ _ _ _ us hl => match us, hl with | [_], _ => rfl
    | .is_pattern => (FN .is_pattern).binds (ps := ps .is_pattern) fun _ _ _ _ _ _ us hl => match us, hl with | [_], _ => rfl
    | .are_patterns => (FN .are_patterns).binds (ps := ps .are_patterns) fun _ _ _ _ _ _ us hl => match us, hl with | [_], _ => rfl
    | .is_line => (FN .is_line).binds (ps := ps .is_line) fun _ _ _ _ _ _ us hl => match us, hl with | [_], _ => rfl
    | .is_surface_def => (FN .is_surface_def).binds (ps := ps .is_surface_def) fun _ _ _ _ _ _ us hl => match us, hl with | [_], _ => rfl
    | .is_surface => (FN .is_surface).binds (ps := ps .is_surface) fun _ _ _ _ _ _ us hl => match us, hl with | [_], _ => rfl
    | ._law_feed => (FN ._law_feed).binds (ps := ps ._law_feed) fun _ _ _ _ _ _ us hl => match us, hl with | [_], _ => rfl
    | ._law_take => (FN ._law_take).binds (ps := ps ._law_take) fun _ _ _ _ _ _ us hl => match us, hl with | [_, _], _ => rfl
    | ._law_word => (FN ._law_word).binds (ps := ps ._law_word) fun _ _ _ _ _ _ us hl => match us, hl with | [_, _, _], _ => rfl
    | ._law_unlike => (FN ._law_unlike).binds (ps := ps ._law_unlike) fun _ _ _ _ _ _ us hl => match us, hl with | [_, _], _ => rfl
    | ._law_names => (FN ._law_names).binds (ps := ps ._law_names) fun _ _ _ _ _ _ us hl => match us, hl with | [_, _, _], _ => rfl
    | ._law_renamed => (FN ._law_renamed).binds (ps := ps ._law_renamed) fun _ _ _ _ _ _ us hl => match us, hl with | [_, _], _ => rfl
    | ._law_datas => (FN ._law_datas).binds (ps := ps ._law_datas) fun _ _ _ _ _ _ us hl => match us, hl with | [], _ => rfl
    | ._law_makers => (FN ._law_makers).binds (ps := ps ._law_makers) fun _ _ _ _ _ _ us hl => match us, hl with | [_], _ => rfl
    | ._law_number => (FN ._law_number).binds (ps := ps ._law_number) fun _ _ _ _ _ _ us hl => match us, hl with | [_], _ => rfl
    | ._law_pattern => (FN ._law_pattern).binds (ps := ps ._law_pattern) fun _ _ _ _ _ _ us hl => match us, hl with | [_, _, _, _], _ => rfl
    | ._law_guard => (FN ._law_guard).binds (ps := ps ._law_guard) fun _ _ _ _ _ _ us hl => match us, hl with | [_, _], _ => rfl
    | ._law_body => (FN ._law_body).binds (ps := ps ._law_body) fun _ _ _ _ _ _ us hl => match us, hl with | [_, _], _ => rfl
    | ._law_line => (FN ._law_line).binds (ps := ps ._law_line) fun _ _ _ _ _ _ us hl => match us, hl with | [_, _, _, _], _ => rfl
    | ._law_ways => (FN ._law_ways).binds (ps := ps ._law_ways) fun _ _ _ _ _ _ us hl => match us, hl with | [_], _ => rfl
    | ._law_nodes_at_most => (FN ._law_nodes_at_most).binds (ps := ps ._law_nodes_at_most) fun _ _ _ _ _ _ us hl => match us, hl with | [_], _ => rfl
    | ._law_lines => (FN ._law_lines).binds (ps := ps ._law_lines) fun _ _ _ _ _ _ us hl => match us, hl with | [_, _, _, _], _ => rfl
    | ._law_kinds => (FN ._law_kinds).binds (ps := ps ._law_kinds) fun _ _ _ _ _ _ us hl => match us, hl with | [_], _ => rfl
    | ._law_olds => (FN ._law_olds).binds (ps := ps ._law_olds) fun _ _ _ _ _ _ us hl => match us, hl with | [], _ => rfl
    | ._law_named => (FN ._law_named).binds (ps := ps ._law_named) fun _ _ _ _ _ _ us hl => match us, hl with | [_], _ => rfl
    | ._law_two => (FN ._law_two).binds (ps := ps ._law_two) fun _ _ _ _ _ _ us hl => match us, hl with | [_, _], _ => rfl
    | ._law_fresh => (FN ._law_fresh).binds (ps := ps ._law_fresh) fun _ _ _ _ _ _ us hl => match us, hl with | [_, _], _ => rfl
    | ._law_bad_pattern => (FN ._law_bad_pattern).binds (ps := ps ._law_bad_pattern) fun _ _ _ _ _ _ us hl => match us, hl with | [_, _, _], _ => rfl
    | ._law_bad_term => (FN ._law_bad_term).binds (ps := ps ._law_bad_term) fun _ _ _ _ _ _ us hl => match us, hl with | [_, _, _], _ => rfl
    | ._law_bad_line => (FN ._law_bad_line).binds (ps := ps ._law_bad_line) fun _ _ _ _ _ _ us hl => match us, hl with | [_, _, _, _], _ => rfl
    | ._law_bad_def => (FN ._law_bad_def).binds (ps := ps ._law_bad_def) fun _ _ _ _ _ _ us hl => match us, hl with | [_, _, _, _], _ => rfl
    | ._law_other => (FN ._law_other).binds (ps := ps ._law_other) fun _ _ _ _ _ _ us hl => match us, hl with | [_, _, _], _ => rfl
    | ._law_wide => (FN ._law_wide).binds (ps := ps ._law_wide) fun _ _ _ _ _ _ us hl => match us, hl with | [_, _, _, _], _ => rfl
    | .law => (FN .law).binds (ps := ps .law) fun _ _ _ _ _ _ us hl => match us, hl with | [_], _ => rfl
  refine ⟨fd .law, fun s v => .of_eq rfl, fun base _ _ => ?_⟩
  have T : Tok l.prog w K mg base (Cxp.mk (foL [(f13, Fn.are_kinds), (f7, Fn.are_parts), (f18, Fn.are_patterns), (f9, Fn.are_ways), (f5, Fn.is_count), (f2, Fn.is_great), (f14, Fn.is_kind), (f10, Fn.is_op), (f17, Fn.is_pattern), (f1, Fn.is_small), (f12, Fn.is_term)])) fa fd := {
    mg_ := fun i => match i with
      | .is_all_small => PySem.W.mg_of X G a0
      | .is_small => PySem.W.mg_of X G a1
      | .is_great => PySem.W.mg_of X G a2
      | .are_small => PySem.W.mg_of X G a3
      | .are_unlike => PySem.W.mg_of X G a4
      | .is_count => PySem.W.mg_of X G a5
      | .is_part => PySem.W.mg_of X G a6
      | .are_parts => PySem.W.mg_of X G a7
      | .is_way => PySem.W.mg_of X G a8
      | .are_ways => PySem.W.mg_of X G a9
      | .is_op => PySem.W.mg_of X G a10
      | .fits => PySem.W.mg_of X G a11
      | .is_term => PySem.W.mg_of X G a12
      | .are_kinds => PySem.W.mg_of X G a13
      | .is_kind => PySem.W.mg_of X G a14
      | .is_maker => PySem.W.mg_of X G a15
      | .is_data => PySem.W.mg_of X G a16
      | .is_pattern => PySem.W.mg_of X G a17
      | .are_patterns => PySem.W.mg_of X G a18
      | .is_line => PySem.W.mg_of X G a19
      | .is_surface_def => PySem.W.mg_of X G a20
      | .is_surface => PySem.W.mg_of X G a21
      | ._law_feed => PySem.W.mg_of X G a22
      | ._law_take => PySem.W.mg_of X G a23
      | ._law_word => PySem.W.mg_of X G a24
      | ._law_unlike => PySem.W.mg_of X G a25
      | ._law_names => PySem.W.mg_of X G a26
      | ._law_renamed => PySem.W.mg_of X G a27
      | ._law_datas => PySem.W.mg_of X G a28
      | ._law_makers => PySem.W.mg_of X G a29
      | ._law_number => PySem.W.mg_of X G a30
      | ._law_pattern => PySem.W.mg_of X G a31
      | ._law_guard => PySem.W.mg_of X G a32
      | ._law_body => PySem.W.mg_of X G a33
      | ._law_line => PySem.W.mg_of X G a34
      | ._law_ways => PySem.W.mg_of X G a35
      | ._law_nodes_at_most => PySem.W.mg_of X G a36
      | ._law_lines => PySem.W.mg_of X G a37
      | ._law_kinds => PySem.W.mg_of X G a38
      | ._law_olds => PySem.W.mg_of X G a39
      | ._law_named => PySem.W.mg_of X G a40
      | ._law_two => PySem.W.mg_of X G a41
      | ._law_fresh => PySem.W.mg_of X G a42
      | ._law_bad_pattern => PySem.W.mg_of X G a43
      | ._law_bad_term => PySem.W.mg_of X G a44
      | ._law_bad_line => PySem.W.mg_of X G a45
      | ._law_bad_def => PySem.W.mg_of X G a46
      | ._law_other => PySem.W.mg_of X G a47
      | ._law_wide => PySem.W.mg_of X G a48
      | .law => PySem.W.mg_of X G a49
    kp := fun i => match i with
      | .is_all_small => k0
      | .is_small => k1
      | .is_great => k2
      | .are_small => k3
      | .are_unlike => k4
      | .is_count => k5
      | .is_part => k6
      | .are_parts => k7
      | .is_way => k8
      | .are_ways => k9
      | .is_op => k10
      | .fits => k11
      | .is_term => k12
      | .are_kinds => k13
      | .is_kind => k14
      | .is_maker => k15
      | .is_data => k16
      | .is_pattern => k17
      | .are_patterns => k18
      | .is_line => k19
      | .is_surface_def => k20
      | .is_surface => k21
      | ._law_feed => k22
      | ._law_take => k23
      | ._law_word => k24
      | ._law_unlike => k25
      | ._law_names => k26
      | ._law_renamed => k27
      | ._law_datas => k28
      | ._law_makers => k29
      | ._law_number => k30
      | ._law_pattern => k31
      | ._law_guard => k32
      | ._law_body => k33
      | ._law_line => k34
      | ._law_ways => k35
      | ._law_nodes_at_most => k36
      | ._law_lines => k37
      | ._law_kinds => k38
      | ._law_olds => k39
      | ._law_named => k40
      | ._law_two => k41
      | ._law_fresh => k42
      | ._law_bad_pattern => k43
      | ._law_bad_term => k44
      | ._law_bad_line => k45
      | ._law_bad_def => k46
      | ._law_other => k47
      | ._law_wide => k48
      | .law => k49
    bd := BD
    fn := FN
    fo := fun a i q => foL_ok (fa := fa) (l := [(f13, Fn.are_kinds), (f7, Fn.are_parts), (f18, Fn.are_patterns), (f9, Fn.are_ways), (f5, Fn.is_count), (f2, Fn.is_great), (f14, Fn.is_kind), (f10, Fn.is_op), (f17, Fn.is_pattern), (f1, Fn.is_small), (f12, Fn.is_term)]) ⟨rfl, rfl, rfl, rfl, rfl, rfl, rfl, rfl, rfl, rfl, rfl, trivial⟩ q
    k_BEYOND := konst_int (PySem.W.mg_of X G n_BEYOND)
    k_GREAT := konst_str (PySem.W.mg_of X G n_GREAT)
    k_KEPT_WORDS := konst_tup (PySem.W.mg_of X G n_KEPT_WORDS) u_KEPT_WORDS
    k_LONGEST := konst_int (PySem.W.mg_of X G n_LONGEST)
    k_OPS := konst_tup (PySem.W.mg_of X G n_OPS) u_OPS
    k_SMALL := konst_str (PySem.W.mg_of X G n_SMALL)
    b_all := PySem.W.mg_none_of X G z_all
    b_bool := PySem.W.mg_none_of X G z_bool
    b_enumerate := PySem.W.mg_none_of X G z_enumerate
    b_int := PySem.W.mg_none_of X G z_int
    b_isinstance := PySem.W.mg_none_of X G z_isinstance
    b_len := PySem.W.mg_none_of X G z_len
    b_list := PySem.W.mg_none_of X G z_list
    b_range := PySem.W.mg_none_of X G z_range
    b_set := PySem.W.mg_none_of X G z_set
    b_str := PySem.W.mg_none_of X G z_str
    b_sum := PySem.W.mg_none_of X G z_sum
    b_tuple := PySem.W.mg_none_of X G z_tuple
    b_zip := PySem.W.mg_none_of X G z_zip
  }
  exact law_of (all T 80 .law) fun ns a μ hl hs => law_spec ⟨v_are_kinds, v_are_parts, v_are_patterns, v_are_ways, v_is_count, v_is_great, v_is_kind, v_is_op, v_is_pattern, v_is_small, v_is_term⟩ ns a μ hl hs
theorem walk {l : PySem.W.OpenLaw} {q : Program} {loose : List Str} {XP : (Str → Option Value) → Heap → Prop} {YP : World → Heap → Prop} {d : DefRec} {K : Params → PySem.W.Frag} (hn : l.most = some 63) (hdf : d.params.defaults = [])
    (hY : ∀ (w : World) (h : Heap), YP w h → (K w.params).In h)
    (F : ∀ (w : World) (mg : Str → Option Value) (fa : Addr) (h : Heap), (K w.params).In h → h.Ns mainGlobals mg → mg d.name = some (.ref fa) →
      ∃ fd : FuncData, (∀ (s : Shared) (u : Value), BindsTo s fd ⟨[u], []⟩ [("script", u)]) ∧ ∀ base : Heap, (K w.params).In base → base.Ns mainGlobals mg → FnOk l.prog w (K w.params) mg base (L2.CX l.prog w) 82 fa fd ["script"] (spLaw (K w.params))) :
    PySem.W.WalkO q loose XP YP l.row.toRowW d [] (fun f vs => PySem.call f vs) :=
  L2.walk_of (n := 63) (k := 82) (x := "script") (CX := fun w => L2.CX l.prog w) (sp := fun w => spLaw (K w.params)) hn (by decide) hdf ⟨by decide, by decide, by decide⟩ hY F (fun _ _ a ns hl _ hS => ⟨a, ns, rfl, hS, hl, fun _ => rfl⟩) fun w H s e s' z => cx_none z
end Tx

open PySem PySem.W PyProof.Rows
set_option maxRecDepth 100000 in
set_option maxHeartbeats 0 in
theorem PySem.Challenge.cw_forgeproved_k01_which_are_surface_progra_holds : PySem.Challenge.rw_forgeproved_k01_which_are_surface_progra.Holds := by
  w_on; o_law; k_head; (case hw => w_witness2)
  k_fill
  refine Tx.walk (l := PySem.Challenge.rw_forgeproved_k01_which_are_surface_progra) rfl rfl (fun w h Y => PySem.W.kIn_of Y) ?F
  case F =>
    intro w mg fa h KX G hmg
    refine' Tx.all_mk KX G hmg ?a0 ?l0 ?c0 ?k0 ?a1 ?l1 ?c1 ?k1 ?a2 ?l2 ?c2 ?k2 ?a3 ?l3 ?c3 ?k3 ?a4 ?l4 ?c4 ?k4 ?a5 ?l5 ?c5 ?k5 ?a6 ?l6 ?c6 ?k6 ?a7 ?l7 ?c7 ?k7 ?a8 ?l8 ?c8 ?k8 ?a9 ?l9 ?c9 ?k9 ?a10 ?l10 ?c10 ?k10 ?a11 ?l11 ?c11 ?k11 ?a12 ?l12 ?c12 ?k12 ?a13 ?l13 ?c13 ?k13 ?a14 ?l14 ?c14 ?k14 ?a15 ?l15 ?c15 ?k15 ?a16 ?l16 ?c16 ?k16 ?a17 ?l17 ?c17 ?k17 ?a18 ?l18 ?c18 ?k18 ?a19 ?l19 ?c19 ?k19 ?a20 ?l20 ?c20 ?k20 ?a21 ?l21 ?c21 ?k21 ?a22 ?l22 ?c22 ?k22 ?a23 ?l23 ?c23 ?k23 ?a24 ?l24 ?c24 ?k24 ?a25 ?l25 ?c25 ?k25 ?a26 ?l26 ?c26 ?k26 ?a27 ?l27 ?c27 ?k27 ?a28 ?l28 ?c28 ?k28 ?a29 ?l29 ?c29 ?k29 ?a30 ?l30 ?c30 ?k30 ?a31 ?l31 ?c31 ?k31 ?a32 ?l32 ?c32 ?k32 ?a33 ?l33 ?c33 ?k33 ?a34 ?l34 ?c34 ?k34 ?a35 ?l35 ?c35 ?k35 ?a36 ?l36 ?c36 ?k36 ?a37 ?l37 ?c37 ?k37 ?a38 ?l38 ?c38 ?k38 ?a39 ?l39 ?c39 ?k39 ?a40 ?l40 ?c40 ?k40 ?a41 ?l41 ?c41 ?k41 ?a42 ?l42 ?c42 ?k42 ?a43 ?l43 ?c43 ?k43 ?a44 ?l44 ?c44 ?k44 ?a45 ?l45 ?c45 ?k45 ?a46 ?l46 ?c46 ?k46 ?a47 ?l47 ?c47 ?k47 ?a48 ?l48 ?c48 ?k48 ?a49 ?l49 ?c49 ?k49 ?n_BEYOND ?n_GREAT ?n_KEPT_WORDS ?u_KEPT_WORDS ?n_LONGEST ?n_OPS ?u_OPS ?n_SMALL ?v_are_kinds ?v_are_parts ?v_are_patterns ?v_are_ways ?v_is_count ?v_is_great ?v_is_kind ?v_is_op ?v_is_pattern ?v_is_small ?v_is_term ?z_all ?z_bool ?z_enumerate ?z_int ?z_isinstance ?z_len ?z_list ?z_range ?z_set ?z_str ?z_sum ?z_tuple ?z_zip
    (case a0 => k_is)
    (case l0 => k_is)
    (case c0 => k_is)
    (case k0 => k_is)
    (case a1 => k_is)
    (case l1 => k_is)
    (case c1 => k_is)
    (case k1 => k_is)
    (case a2 => k_is)
    (case l2 => k_is)
    (case c2 => k_is)
    (case k2 => k_is)
    (case a3 => k_is)
    (case l3 => k_is)
    (case c3 => k_is)
    (case k3 => k_is)
    (case a4 => k_is)
    (case l4 => k_is)
    (case c4 => k_is)
    (case k4 => k_is)
    (case a5 => k_is)
    (case l5 => k_is)
    (case c5 => k_is)
    (case k5 => k_is)
    (case a6 => k_is)
    (case l6 => k_is)
    (case c6 => k_is)
    (case k6 => k_is)
    (case a7 => k_is)
    (case l7 => k_is)
    (case c7 => k_is)
    (case k7 => k_is)
    (case a8 => k_is)
    (case l8 => k_is)
    (case c8 => k_is)
    (case k8 => k_is)
    (case a9 => k_is)
    (case l9 => k_is)
    (case c9 => k_is)
    (case k9 => k_is)
    (case a10 => k_is)
    (case l10 => k_is)
    (case c10 => k_is)
    (case k10 => k_is)
    (case a11 => k_is)
    (case l11 => k_is)
    (case c11 => k_is)
    (case k11 => k_is)
    (case a12 => k_is)
    (case l12 => k_is)
    (case c12 => k_is)
    (case k12 => k_is)
    (case a13 => k_is)
    (case l13 => k_is)
    (case c13 => k_is)
    (case k13 => k_is)
    (case a14 => k_is)
    (case l14 => k_is)
    (case c14 => k_is)
    (case k14 => k_is)
    (case a15 => k_is)
    (case l15 => k_is)
    (case c15 => k_is)
    (case k15 => k_is)
    (case a16 => k_is)
    (case l16 => k_is)
    (case c16 => k_is)
    (case k16 => k_is)
    (case a17 => k_is)
    (case l17 => k_is)
    (case c17 => k_is)
    (case k17 => k_is)
    (case a18 => k_is)
    (case l18 => k_is)
    (case c18 => k_is)
    (case k18 => k_is)
    (case a19 => k_is)
    (case l19 => k_is)
    (case c19 => k_is)
    (case k19 => k_is)
    (case a20 => k_is)
    (case l20 => k_is)
    (case c20 => k_is)
    (case k20 => k_is)
    (case a21 => k_is)
    (case l21 => k_is)
    (case c21 => k_is)
    (case k21 => k_is)
    (case a22 => k_is)
    (case l22 => k_is)
    (case c22 => k_is)
    (case k22 => k_is)
    (case a23 => k_is)
    (case l23 => k_is)
    (case c23 => k_is)
    (case k23 => k_is)
    (case a24 => k_is)
    (case l24 => k_is)
    (case c24 => k_is)
    (case k24 => k_is)
    (case a25 => k_is)
    (case l25 => k_is)
    (case c25 => k_is)
    (case k25 => k_is)
    (case a26 => k_is)
    (case l26 => k_is)
    (case c26 => k_is)
    (case k26 => k_is)
    (case a27 => k_is)
    (case l27 => k_is)
    (case c27 => k_is)
    (case k27 => k_is)
    (case a28 => k_is)
    (case l28 => k_is)
    (case c28 => k_is)
    (case k28 => k_is)
    (case a29 => k_is)
    (case l29 => k_is)
    (case c29 => k_is)
    (case k29 => k_is)
    (case a30 => k_is)
    (case l30 => k_is)
    (case c30 => k_is)
    (case k30 => k_is)
    (case a31 => k_is)
    (case l31 => k_is)
    (case c31 => k_is)
    (case k31 => k_is)
    (case a32 => k_is)
    (case l32 => k_is)
    (case c32 => k_is)
    (case k32 => k_is)
    (case a33 => k_is)
    (case l33 => k_is)
    (case c33 => k_is)
    (case k33 => k_is)
    (case a34 => k_is)
    (case l34 => k_is)
    (case c34 => k_is)
    (case k34 => k_is)
    (case a35 => k_is)
    (case l35 => k_is)
    (case c35 => k_is)
    (case k35 => k_is)
    (case a36 => k_is)
    (case l36 => k_is)
    (case c36 => k_is)
    (case k36 => k_is)
    (case a37 => k_is)
    (case l37 => k_is)
    (case c37 => k_is)
    (case k37 => k_is)
    (case a38 => k_is)
    (case l38 => k_is)
    (case c38 => k_is)
    (case k38 => k_is)
    (case a39 => k_is)
    (case l39 => k_is)
    (case c39 => k_is)
    (case k39 => k_is)
    (case a40 => k_is)
    (case l40 => k_is)
    (case c40 => k_is)
    (case k40 => k_is)
    (case a41 => k_is)
    (case l41 => k_is)
    (case c41 => k_is)
    (case k41 => k_is)
    (case a42 => k_is)
    (case l42 => k_is)
    (case c42 => k_is)
    (case k42 => k_is)
    (case a43 => k_is)
    (case l43 => k_is)
    (case c43 => k_is)
    (case k43 => k_is)
    (case a44 => k_is)
    (case l44 => k_is)
    (case c44 => k_is)
    (case k44 => k_is)
    (case a45 => k_is)
    (case l45 => k_is)
    (case c45 => k_is)
    (case k45 => k_is)
    (case a46 => k_is)
    (case l46 => k_is)
    (case c46 => k_is)
    (case k46 => k_is)
    (case a47 => k_is)
    (case l47 => k_is)
    (case c47 => k_is)
    (case k47 => k_is)
    (case a48 => k_is)
    (case l48 => k_is)
    (case c48 => k_is)
    (case k48 => k_is)
    (case a49 => k_is)
    (case l49 => k_is)
    (case c49 => k_is)
    (case k49 => k_is)
    (case n_BEYOND => k_is)
    (case n_GREAT => k_is)
    (case n_KEPT_WORDS => k_is)
    (case u_KEPT_WORDS => kernel_rfl)
    (case n_LONGEST => k_is)
    (case n_OPS => k_is)
    (case u_OPS => kernel_rfl)
    (case n_SMALL => k_is)
    (case v_are_kinds => kernel_rfl)
    (case v_are_parts => kernel_rfl)
    (case v_are_patterns => kernel_rfl)
    (case v_are_ways => kernel_rfl)
    (case v_is_count => kernel_rfl)
    (case v_is_great => kernel_rfl)
    (case v_is_kind => kernel_rfl)
    (case v_is_op => kernel_rfl)
    (case v_is_pattern => kernel_rfl)
    (case v_is_small => kernel_rfl)
    (case v_is_term => kernel_rfl)
    (case z_all => k_is)
    (case z_bool => k_is)
    (case z_enumerate => k_is)
    (case z_int => k_is)
    (case z_isinstance => k_is)
    (case z_len => k_is)
    (case z_list => k_is)
    (case z_range => k_is)
    (case z_set => k_is)
    (case z_str => k_is)
    (case z_sum => k_is)
    (case z_tuple => k_is)
    (case z_zip => k_is)


