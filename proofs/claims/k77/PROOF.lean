import PyProof.Rows.All
import HandS.ForMost
import HandS.ForExc
import HandS.Wide
import HandS.WideBits
import HandS.TupAny
import HandS.Deep
import HandS.IsInst
import HandS.Style
import HandS.TryOnly
import HandS.Small
import HandS.Iter
import HandS.Strs
import KE.KIntText
import KE.IntTextLaws
import PyProof.StrLawsChain
import Wide.All
import OpenK.AllK
import Wide.FinOn
import PySem.Challenge.RW_twainhoard_k77_ratios_written_and_read
set_option Elab.async false
set_option linter.all false
section
set_option maxRecDepth 100000
/-! Cor1: values without a heap (PyData, owned containers), how the layer's heap bears them, what a state keeps. -/
namespace Cr
open PySem PySem.Spec PyProof.Rows L2

abbrev D := PyData
def keyD : Key → D
  | .inl i => .int i
  | .inr x => .str x
def tkeyD (ks : List Key) : D := .tuple (ks.map keyD)

/-- the written part, and where the text's classes stand -/
structure KC where
  K : PySem.W.Frag
  cm : Str → Option Addr

def Le (F H : Hp) : Prop := ∀ a o, F a = some o → H a = some o
theorem Le.refl (H : Hp) : Le H H := fun _ _ h => h
theorem Le.trans {F G H : Hp} (a : Le F G) (b : Le G H) : Le F H := fun x o h => b x o (a x o h)
theorem Le.rd {F H : Hp} (l : Le F H) {a : Addr} {u : HO} (h : Rd F a u) : Rd H a u := by
  rcases h with h | ⟨o, h⟩
  · exact .inl (l _ _ h)
  · exact .inr ⟨o, l _ _ h⟩
theorem Le.sqL {K : PySem.W.Frag} {F H : Hp} (l : Le F H) {a : Addr} {xs : List V} (h : SqL K F a xs) : SqL K H a xs := by
  rcases h with h | h
  · exact .inl (l.rd h)
  · exact .inr h
theorem Le.sqT {K : PySem.W.Frag} {F H : Hp} (l : Le F H) {a : Addr} {xs : List V} (h : SqT K F a xs) : SqT K H a xs := by
  rcases h with h | h
  · exact .inl (l.rd h)
  · exact .inr h
/-- a list to be read: tracked, locked, or one that the written part holds, plain -/
def RdL (K : PySem.W.Frag) (H : Hp) (a : Addr) (xs : List V) : Prop :=
  Rd H a (.lst xs) ∨ ∃ (its : Array Value) (n : Nat), K.lookup a = some ({ cls := .type "list", data := .seq its n } : Obj) ∧ its.size ≤ sizeLine ∧ Vals xs its.toList
theorem RdL.sq {K : PySem.W.Frag} {H : Hp} {a : Addr} {xs : List V} (h : RdL K H a xs) : SqL K H a xs := by
  rcases h with h | ⟨its, n, h, z, r⟩
  · exact .inl h
  · exact .inr ⟨_, its, n, h, rfl, rfl, rfl, z, r⟩
theorem RdL.of {K : PySem.W.Frag} {H : Hp} {a : Addr} {xs : List V} (h : H a = some (.lst xs)) : RdL K H a xs := .inl (Rd.of h)
theorem Le.rdl {K : PySem.W.Frag} {F H : Hp} (l : Le F H) {a : Addr} {xs : List V} (h : RdL K F a xs) : RdL K H a xs := by
  rcases h with h | h
  · exact .inl (l.rd h)
  · exact .inr h
theorem Le.upd {H : Hp} {p : Addr} {o : HO} (h : H p = none) : Le H (upd H p o) := fun b x e => by
  rw [upd_ne (ne_of_none e h)]; exact e

/-! ### shared values -/
mutual
inductive Rv (K : PySem.W.Frag) (F : Hp) : V → D → Prop
  | non : Rv K F .non .none
  | bl (b : Bool) : Rv K F (.bl b) (.bool b)
  | int (i : Int) : Rv K F (.int i) (.int i)
  | str (x : Str) : Rv K F (.str x) (.str x)
  | lst {a : Addr} {xs : List V} {ds : List D} : RdL K F a xs → RvAll K F xs ds → Rv K F (.ref a) (.list ds)
  | tup {a : Addr} {xs : List V} {ds : List D} : F a = some (.tup xs) → RvAll K F xs ds → Rv K F (.ref a) (.tuple ds)
  | dicK {a : Addr} {o : Obj} {kvs : List (Key × V)} {es : List (D × D)} : F a = some (.frz o (.dK kvs)) → RvKs K F kvs es → Rv K F (.ref a) (.dict es)
  | dicT {a : Addr} {o : Obj} {kvs : List (List Key × V)} {es : List (D × D)} : F a = some (.frz o (.dT kvs)) → kvs ≠ [] → RvTs K F kvs es → Rv K F (.ref a) (.dict es)
inductive RvAll (K : PySem.W.Frag) (F : Hp) : List V → List D → Prop
  | nil : RvAll K F [] []
  | cons {v : V} {vs : List V} {d : D} {ds : List D} : Rv K F v d → RvAll K F vs ds → RvAll K F (v :: vs) (d :: ds)
inductive RvKs (K : PySem.W.Frag) (F : Hp) : List (Key × V) → List (D × D) → Prop
  | nil : RvKs K F [] []
  | cons {k : Key} {v : V} {r : List (Key × V)} {d : D} {er : List (D × D)} : Rv K F v d → RvKs K F r er → RvKs K F ((k, v) :: r) ((keyD k, d) :: er)
inductive RvTs (K : PySem.W.Frag) (F : Hp) : List (List Key × V) → List (D × D) → Prop
  | nil : RvTs K F [] []
  | cons {k : List Key} {v : V} {r : List (List Key × V)} {d : D} {er : List (D × D)} : Rv K F v d → RvTs K F r er → RvTs K F ((k, v) :: r) ((tkeyD k, d) :: er)
end

section
variable {K : PySem.W.Frag} {F H : Hp}
mutual
theorem Rv.mono (l : Le F H) : ∀ {v : V} {d : D}, Rv K F v d → Rv K H v d
  | _, _, .non => .non
  | _, _, .bl b => .bl b
  | _, _, .int i => .int i
  | _, _, .str x => .str x
  | _, _, .lst h r => .lst (l.rdl h) (RvAll.mono l r)
  | _, _, .tup h r => .tup (l _ _ h) (RvAll.mono l r)
  | _, _, .dicK h r => .dicK (l _ _ h) (RvKs.mono l r)
  | _, _, .dicT h n r => .dicT (l _ _ h) n (RvTs.mono l r)
theorem RvAll.mono (l : Le F H) : ∀ {v : List V} {d : List D}, RvAll K F v d → RvAll K H v d
  | _, _, .nil => .nil
  | _, _, .cons h r => .cons (Rv.mono l h) (RvAll.mono l r)
theorem RvKs.mono (l : Le F H) : ∀ {v : List (Key × V)} {d : List (D × D)}, RvKs K F v d → RvKs K H v d
  | _, _, .nil => .nil
  | _, _, .cons h r => .cons (Rv.mono l h) (RvKs.mono l r)
theorem RvTs.mono (l : Le F H) : ∀ {v : List (List Key × V)} {d : List (D × D)}, RvTs K F v d → RvTs K H v d
  | _, _, .nil => .nil
  | _, _, .cons h r => .cons (Rv.mono l h) (RvTs.mono l r)
end
mutual
theorem Rv.dp : ∀ {v : V} {d : D}, Rv K F v d → d.canLay0 = true → Dp K F v d
  | _, _, .non, _ => .non
  | _, _, .bl b, _ => .bl b
  | _, _, .int i, _ => .int i
  | _, _, .str x, _ => .str x
  | _, _, .lst h r, c => .lst h.sq (RvAll.dp r (by simpa [PyData.canLay0] using c))
  | _, _, .tup h r, c => .tup (SqT.of h) (RvAll.dp r (by simpa [PyData.canLay0] using c))
  | _, _, .dicK h r, c => by simp [PyData.canLay0] at c
  | _, _, .dicT h _ r, c => by simp [PyData.canLay0] at c
theorem RvAll.dp : ∀ {v : List V} {d : List D}, RvAll K F v d → PyData.canLayAll0 d = true → DpAll K F v d
  | _, _, .nil, _ => .nil
  | _, _, .cons (d := d) (ds := ds) h r, c => by
    have c' : PyData.canLay0 d = true ∧ PyData.canLayAll0 ds = true := by simpa [PyData.canLayAll0] using c
    exact .cons (Rv.dp h c'.1) (RvAll.dp r c'.2)
end
theorem RvAll.length : ∀ {v : List V} {d : List D}, RvAll K F v d → v.length = d.length
  | _, _, .nil => rfl
  | _, _, .cons _ r => by rw [List.length_cons, List.length_cons, r.length]
theorem RvAll.get : ∀ {v : List V} {d : List D} {i : Nat} {x : D}, RvAll K F v d → d[i]? = some x → ∃ u, v[i]? = some u ∧ Rv K F u x
  | _, _, _, _, .nil, e => by simp at e
  | _, _, 0, _, .cons h _, e => by simp at e; subst e; exact ⟨_, rfl, h⟩
  | _, _, i + 1, x, .cons _ r, e => by
    obtain ⟨u, h1, h2⟩ := RvAll.get (i := i) (x := x) r (by simpa using e)
    exact ⟨u, by simpa using h1, h2⟩
theorem RvAll.getV : ∀ {v : List V} {d : List D} {i : Nat} {u : V}, RvAll K F v d → v[i]? = some u → ∃ x, d[i]? = some x ∧ Rv K F u x
  | _, _, _, _, .nil, e => by simp at e
  | _, _, 0, _, .cons h _, e => by simp at e; subst e; exact ⟨_, rfl, h⟩
  | _, _, i + 1, x, .cons _ r, e => by
    obtain ⟨u, h1, h2⟩ := RvAll.getV (i := i) (u := x) r (by simpa using e)
    exact ⟨u, by simpa using h1, h2⟩
theorem RvAll.append : ∀ {v w : List V} {d e : List D}, RvAll K F v d → RvAll K F w e → RvAll K F (v ++ w) (d ++ e)
  | _, _, _, _, .nil, s => s
  | _, _, _, _, .cons h r, s => .cons h (RvAll.append r s)
theorem RvAll.one {v : V} {d : D} (h : Rv K F v d) : RvAll K F [v] [d] := .cons h .nil
theorem RvAll.take : ∀ {v : List V} {d : List D} (n : Nat), RvAll K F v d → RvAll K F (v.take n) (d.take n)
  | _, _, 0, _ => .nil
  | _, _, _ + 1, .nil => .nil
  | _, _, n + 1, .cons h r => .cons h (RvAll.take n r)
theorem RvAll.drop : ∀ {v : List V} {d : List D} (n : Nat), RvAll K F v d → RvAll K F (v.drop n) (d.drop n)
  | _, _, 0, r => r
  | _, _, _ + 1, .nil => .nil
  | _, _, n + 1, .cons _ r => RvAll.drop n r
theorem RvAll.set {x : V} {y : D} (q : Rv K F x y) : ∀ {v : List V} {d : List D} (n : Nat), RvAll K F v d → RvAll K F (v.set n x) (d.set n y)
  | _, _, _, .nil => .nil
  | _, _, 0, .cons _ r => .cons q r
  | _, _, n + 1, .cons h r => .cons h (RvAll.set q n r)
theorem RvAll.reverse {v : List V} {d : List D} (h : RvAll K F v d) : RvAll K F v.reverse d.reverse := by
  induction h using RvAll.rec (motive_1 := fun _ _ _ => True) (motive_3 := fun _ _ _ => True) (motive_4 := fun _ _ _ => True) with
  | nil => exact .nil
  | cons h r _ ih => rw [List.reverse_cons, List.reverse_cons]; exact ih.append (.one h)
  | _ => trivial
theorem RvAll.eraseIdx : ∀ {v : List V} {d : List D} (n : Nat), RvAll K F v d → RvAll K F (v.eraseIdx n) (d.eraseIdx n)
  | _, _, _, .nil => .nil
  | _, _, 0, .cons _ r => r
  | _, _, n + 1, .cons h r => .cons h (RvAll.eraseIdx n r)
theorem RvAll.dropLast {v : List V} {d : List D} (h : RvAll K F v d) : RvAll K F v.dropLast d.dropLast := by
  rw [List.dropLast_eq_take, List.dropLast_eq_take, h.length]; exact h.take _
theorem Rv.inti {v : V} {i : Int} (h : Rv K F v (.int i)) : v = .int i := by cases h; rfl
theorem Rv.bli {v : V} {i : Bool} (h : Rv K F v (.bool i)) : v = .bl i := by cases h; rfl
theorem Rv.stri {v : V} {i : Str} (h : Rv K F v (.str i)) : v = .str i := by cases h; rfl
theorem Rv.noni {v : V} (h : Rv K F v .none) : v = .non := by cases h; rfl
theorem RvAll.ints : ∀ {vs : List V} {ns : List Int}, RvAll K F vs (ns.map PyData.int) → vs = ns.map V.int
  | _, [], .nil => rfl
  | _, n :: ns, .cons h r => by rw [h.inti, RvAll.ints r]; rfl
theorem RvAll.bls : ∀ {vs : List V} {ns : List Bool}, RvAll K F vs (ns.map PyData.bool) → vs = ns.map V.bl
  | _, [], .nil => rfl
  | _, n :: ns, .cons h r => by rw [h.bli, RvAll.bls r]; rfl
theorem RvAll.strs : ∀ {vs : List V} {ns : List Str}, RvAll K F vs (ns.map PyData.str) → vs = ns.map V.str
  | _, [], .nil => rfl
  | _, n :: ns, .cons h r => by rw [h.stri, RvAll.strs r]; rfl
theorem RvAll.ofInts : ∀ {ns : List Int}, RvAll K F (ns.map V.int) (ns.map PyData.int)
  | [] => .nil
  | n :: ns => .cons (.int n) RvAll.ofInts
theorem RvAll.ofStrs : ∀ {ns : List Str}, RvAll K F (ns.map V.str) (ns.map PyData.str)
  | [] => .nil
  | n :: ns => .cons (.str n) RvAll.ofStrs
end

/-! ### owned values: a container that nothing else refers to -/
inductive R where
  | val (d : D)
  | olst (ds : List D)
  | odic (t : Bool) (es : List (D × D))
  | oobj (c : Str) (fs : List (Str × R))
  deriving Inhabited

mutual
inductive Rl (Z : KC) (F H : Hp) : R → V → List Addr → Prop
  | val {v : V} {d : D} : Rv Z.K F v d → Rl Z F H (.val d) v []
  | olst {a : Addr} {vs : List V} {ds : List D} : H a = some (.lst vs) → RvAll Z.K F vs ds → Rl Z F H (.olst ds) (.ref a) [a]
  | odicK {a : Addr} {kvs : List (Key × V)} {es : List (D × D)} : H a = some (.dK kvs) → RvKs Z.K F kvs es → Rl Z F H (.odic false es) (.ref a) [a]
  | odicT {a : Addr} {kvs : List (List Key × V)} {es : List (D × D)} : H a = some (.dT kvs) → RvTs Z.K F kvs es → Rl Z F H (.odic true es) (.ref a) [a]
  | oobj {c : Str} {C a dx : Addr} {fs : List (Str × V)} {rs : List (Str × R)} {fp : List Addr} : Z.cm c = some C → H a = some (.ins C dx fs) → H dx = some (.own a) → RlFs Z F H rs fs fp → Rl Z F H (.oobj c rs) (.ref a) (a :: dx :: fp)
inductive RlFs (Z : KC) (F H : Hp) : List (Str × R) → List (Str × V) → List Addr → Prop
  | nil : RlFs Z F H [] [] []
  | cons {f : Str} {r : R} {v : V} {rr : List (Str × R)} {fr : List (Str × V)} {p q : List Addr} : Rl Z F H r v p → RlFs Z F H rr fr q → RlFs Z F H ((f, r) :: rr) ((f, v) :: fr) (p ++ q)
end
section
variable {Z : KC} {F F' H H' : Hp}
mutual
theorem Rl.mono (l : Le F F') : ∀ {r : R} {v : V} {fp : List Addr}, (∀ a ∈ fp, H' a = H a) → Rl Z F H r v fp → Rl Z F' H' r v fp
  | _, _, _, _, .val h => .val (h.mono l)
  | _, _, _, k, .olst h r => .olst ((k _ (by simp)).trans h) (r.mono l)
  | _, _, _, k, .odicK h r => .odicK ((k _ (by simp)).trans h) (r.mono l)
  | _, _, _, k, .odicT h r => .odicT ((k _ (by simp)).trans h) (r.mono l)
  | _, _, _, k, .oobj c h d r => .oobj c ((k _ (by simp)).trans h) ((k _ (by simp)).trans d) (RlFs.mono l (fun a ha => k a (by simp [ha])) r)
theorem RlFs.mono (l : Le F F') : ∀ {r : List (Str × R)} {v : List (Str × V)} {fp : List Addr}, (∀ a ∈ fp, H' a = H a) → RlFs Z F H r v fp → RlFs Z F' H' r v fp
  | _, _, _, _, .nil => .nil
  | _, _, _, k, .cons h r => .cons (Rl.mono l (fun a ha => k a (by simp [ha])) h) (RlFs.mono l (fun a ha => k a (by simp [ha])) r)
end
mutual
theorem Rl.there : ∀ {r : R} {v : V} {fp : List Addr}, Rl Z F H r v fp → ∀ a ∈ fp, H a ≠ none
  | _, _, _, .val h, a, ha => by simp at ha
  | _, _, _, .olst h r, a, ha => by simp at ha; subst ha; rw [h]; simp
  | _, _, _, .odicK h r, a, ha => by simp at ha; subst ha; rw [h]; simp
  | _, _, _, .odicT h r, a, ha => by simp at ha; subst ha; rw [h]; simp
  | _, _, _, .oobj c h d r, a, ha => by
    rcases List.mem_cons.mp ha with e | ha
    · subst e; rw [h]; simp
    · rcases List.mem_cons.mp ha with e | ha
      · subst e; rw [d]; simp
      · exact RlFs.there r a ha
theorem RlFs.there : ∀ {r : List (Str × R)} {v : List (Str × V)} {fp : List Addr}, RlFs Z F H r v fp → ∀ a ∈ fp, H a ≠ none
  | _, _, _, .nil, a, ha => by simp at ha
  | _, _, _, .cons h r, a, ha => by
    rcases List.mem_append.mp ha with ha | ha
    · exact Rl.there h a ha
    · exact RlFs.there r a ha
end
end

/-- an owned value, read as data -/
def R.dat : R → Option D
  | .val d => some d
  | .olst ds => some (.list ds)
  | .odic .. => none
  | .oobj .. => none
/-- as data, for what follows (an object is none) -/
def R.as (r : R) (k : D → Prop) : Prop := match r with
  | .val d => k d
  | .olst ds => k (.list ds)
  | .odic .. => False
  | .oobj .. => False
theorem R.as_dat {r : R} {k : D → Prop} (h : r.as k) : ∃ d, r.dat = some d ∧ k d := by
  cases r <;> first | exact ⟨_, rfl, h⟩ | exact h.elim
/-- read in place: as data over the whole heap -/
theorem Rl.look {Z : KC} {F H : Hp} {r : R} {v : V} {fp : List Addr} {d : D} (l : Le F H) (h : Rl Z F H r v fp) (e : r.dat = some d) : Rv Z.K H v d := by
  cases h with
  | val h => cases e; exact h.mono l
  | olst h r => cases e; exact .lst (RdL.of h) (r.mono l)
  | odicK h r => cases e
  | odicT h r => cases e
  | oobj => cases e

/-! ### the state of a body -/
abbrev Ev := List (Option R)
structure Ent where
  F0 : Hp
  H0 : Hp
  fp0 : List Addr
  pin : List (Nat × V)
  n : Nat

structure Good (Z : KC) (E : Ent) (G : Addr → HO → Prop) (ρ : Ev) (σ : L2.St) (H F : Hp) (fps : Nat → List Addr) : Prop where
  sub : Le F H
  env : ∀ i r, ρ[i]? = some (some r) → ∃ v, σ[i]? = some (some v) ∧ Rl Z F H r v (fps i)
  emp : ∀ i, (∀ r, ρ[i]? ≠ some (some r)) → fps i = []
  nd : ∀ i, (fps i).Nodup
  dis : ∀ i j a, a ∈ fps i → a ∈ fps j → i = j
  off : ∀ i a, a ∈ fps i → F a = none
  own : ∀ i a, a ∈ fps i → a ∈ E.fp0 ∨ E.H0 a = none
  frz : ∀ a o, F a = some o → E.F0 a = some o ∨ a ∈ E.fp0 ∨ E.H0 a = none
  le0 : Le E.F0 F
  keep : ∀ a o, E.H0 a = some o → a ∉ E.fp0 → H a = some o
  fr : ∀ a o, G a o → H a = some o ∧ F a = none ∧ ∀ i, a ∉ fps i
  len : ρ.length = σ.length
  sl : σ.length = E.n
  pin : ∀ p ∈ E.pin, σ[p.1]? = some (some p.2)

structure Tmp (Z : KC) (E : Ent) (G : Addr → HO → Prop) (H F : Hp) (fps : Nat → List Addr) (r : R) (v : V) (fp : List Addr) : Prop where
  rl : Rl Z F H r v fp
  nd : fp.Nodup
  off : ∀ a ∈ fp, F a = none ∧ (∀ i, a ∉ fps i) ∧ (∀ o, ¬ G a o) ∧ (a ∈ E.fp0 ∨ E.H0 a = none)

section
variable {Z : KC} {E : Ent} {G : Addr → HO → Prop} {ρ : Ev} {σ : L2.St} {H H' F F' : Hp} {fps : Nat → List Addr}

theorem Good.there (g : Good Z E G ρ σ H F fps) {i : Nat} {a : Addr} (h : a ∈ fps i) : H a ≠ none := by
  by_cases e : ∃ r, ρ[i]? = some (some r)
  · obtain ⟨r, e⟩ := e
    obtain ⟨v, _, rl⟩ := g.env i r e
    exact rl.there a h
  · rw [g.emp i (fun r q => e ⟨r, q⟩)] at h; simp at h
/-- the heap grows -/
theorem Good.ext (g : Good Z E G ρ σ H F fps) (l : Le H H') : Good Z E G ρ σ H' F fps where
  sub := g.sub.trans l
  env := fun i r e => by
    obtain ⟨v, h1, h2⟩ := g.env i r e
    refine ⟨v, h1, h2.mono (Le.refl F) fun a ha => ?_⟩
    have := h2.there a ha
    cases q : H a with
    | none => exact absurd q this
    | some o => exact l a o q
  emp := g.emp
  nd := g.nd
  dis := g.dis
  off := g.off
  own := g.own
  frz := g.frz
  le0 := g.le0
  keep := fun a o h1 h2 => l a o (g.keep a o h1 h2)
  fr := fun a o h => by
    obtain ⟨h1, h2, h3⟩ := g.fr a o h
    exact ⟨l a o h1, h2, h3⟩
  len := g.len
  sl := g.sl
  pin := g.pin
theorem Tmp.ext {r : R} {v : V} {fp : List Addr} (t : Tmp Z E G H F fps r v fp) (l : Le H H') : Tmp Z E G H' F fps r v fp := by
  refine ⟨t.rl.mono (Le.refl F) fun a ha => ?_, t.nd, t.off⟩
  have := t.rl.there a ha
  cases q : H a with
  | none => exact absurd q this
  | some o => exact l a o q
/-- more is shared -/
theorem Good.share (g : Good Z E G ρ σ H F fps) (l : Le F F') (s : Le F' H) (n : ∀ a o, F' a = some o → F a = some o ∨ ((∀ i, a ∉ fps i) ∧ (∀ o, ¬ G a o) ∧ (a ∈ E.fp0 ∨ E.H0 a = none))) : Good Z E G ρ σ H F' fps where
  sub := s
  env := fun i r e => by
    obtain ⟨v, h1, h2⟩ := g.env i r e
    exact ⟨v, h1, h2.mono l fun _ _ => rfl⟩
  emp := g.emp
  nd := g.nd
  dis := g.dis
  off := fun i a ha => by
    cases q : F' a with
    | none => rfl
    | some o =>
      rcases n a o q with h | ⟨h, _⟩
      · rw [g.off i a ha] at h; cases h
      · exact absurd ha (h i)
  own := g.own
  frz := fun a o h => by
    rcases n a o h with h | ⟨_, _, h⟩
    · exact g.frz a o h
    · exact .inr h
  le0 := g.le0.trans l
  keep := g.keep
  fr := fun a o h => by
    obtain ⟨h1, h2, h3⟩ := g.fr a o h
    refine ⟨h1, ?_, h3⟩
    cases q : F' a with
    | none => rfl
    | some o' =>
      rcases n a o' q with e | ⟨_, e, _⟩
      · rw [h2] at e; cases e
      · exact absurd h (e o)
  len := g.len
  sl := g.sl
  pin := g.pin
/-- the heap over which fp is shared too -/
def froze (F H : Hp) (fp : List Addr) : Hp := fun a => if a ∈ fp then H a else F a
theorem froze_le {fp : List Addr} (h : ∀ a ∈ fp, F a = none) : Le F (froze F H fp) := fun a o e => by
  unfold froze
  split
  · rename_i q; rw [h a q] at e; cases e
  · exact e
theorem froze_sub {fp : List Addr} (s : Le F H) : Le (froze F H fp) H := fun a o e => by
  unfold froze at e
  split at e
  · exact e
  · exact s a o e
theorem froze_in {fp : List Addr} {a : Addr} (h : a ∈ fp) : froze F H fp a = H a := if_pos h
theorem froze_or {fp : List Addr} {a : Addr} {o : HO} (h : froze F H fp a = some o) : F a = some o ∨ a ∈ fp := by
  unfold froze at h
  split at h
  · rename_i q; exact .inr q
  · exact .inl h
theorem Rl.frozen {r : R} {v : V} {fp : List Addr} {d : D} (h : Rl Z F H r v fp) (e : r.dat = some d) (l : Le F (froze F H fp)) : Rv Z.K (froze F H fp) v d := by
  cases h with
  | val h => cases e; exact h.mono l
  | olst h r => cases e; exact .lst (RdL.of ((froze_in (by simp)).trans h)) (r.mono l)
  | odicK h r => cases e
  | odicT h r => cases e
  | oobj => cases e
/-- a value of the moment is shared from here on -/
theorem Good.freeze (g : Good Z E G ρ σ H F fps) {r : R} {v : V} {fp : List Addr} {d : D} (t : Tmp Z E G H F fps r v fp) (e : r.dat = some d) : ∃ F', Le F F' ∧ Good Z E G ρ σ H F' fps ∧ Rv Z.K F' v d := by
  have l : Le F (froze F H fp) := froze_le fun a ha => (t.off a ha).1
  refine ⟨froze F H fp, l, g.share l (froze_sub g.sub) (fun a o h => ?_), t.rl.frozen e l⟩
  rcases froze_or h with h | h
  · exact .inl h
  · exact .inr (t.off a h).2
def updN (fps : Nat → List Addr) (i : Nat) (fp : List Addr) : Nat → List Addr := fun j => if j = i then fp else fps j
theorem updN_same {i : Nat} {fp : List Addr} : updN fps i fp i = fp := if_pos rfl
theorem updN_ne {i j : Nat} {fp : List Addr} (h : j ≠ i) : updN fps i fp j = fps j := if_neg h
theorem get_set_ne {α : Type} {l : List α} {i j : Nat} {x : α} (h : j ≠ i) : (l.set i x)[j]? = l[j]? := List.getElem?_set_ne (Ne.symm h)
/-- a slot is given a value of the moment -/
theorem Good.store (g : Good Z E G ρ σ H F fps) {r : R} {v : V} {fp : List Addr} (t : Tmp Z E G H F fps r v fp) {i : Nat} (hi : i < σ.length) (hp : ∀ p ∈ E.pin, p.1 ≠ i) :
    Good Z E G (ρ.set i (some r)) (σ.set i (some v)) H F (updN fps i fp) where
  sub := g.sub
  env := fun j r' e => by
    by_cases h : j = i
    · subst h
      rw [List.getElem?_set_self (by rw [g.len]; exact hi)] at e
      cases e
      exact ⟨v, by rw [List.getElem?_set_self hi], by rw [updN_same]; exact t.rl⟩
    · rw [get_set_ne h] at e
      obtain ⟨w, h1, h2⟩ := g.env j r' e
      exact ⟨w, by rw [get_set_ne h]; exact h1, by rw [updN_ne h]; exact h2⟩
  emp := fun j q => by
    by_cases h : j = i
    · subst h
      exact absurd (by rw [List.getElem?_set_self (by rw [g.len]; exact hi)]) (q r)
    · rw [updN_ne h]
      exact g.emp j fun r' e => q r' (by rw [get_set_ne h]; exact e)
  nd := fun j => by
    by_cases h : j = i
    · subst h; rw [updN_same]; exact t.nd
    · rw [updN_ne h]; exact g.nd j
  dis := fun j k a h1 h2 => by
    by_cases hj : j = i <;> by_cases hk : k = i
    · rw [hj, hk]
    · subst hj; rw [updN_same] at h1; rw [updN_ne hk] at h2
      exact absurd h2 ((t.off a h1).2.1 k)
    · subst hk; rw [updN_same] at h2; rw [updN_ne hj] at h1
      exact absurd h1 ((t.off a h2).2.1 j)
    · rw [updN_ne hj] at h1; rw [updN_ne hk] at h2
      exact g.dis j k a h1 h2
  off := fun j a h => by
    by_cases hj : j = i
    · subst hj; rw [updN_same] at h; exact (t.off a h).1
    · rw [updN_ne hj] at h; exact g.off j a h
  own := fun j a h => by
    by_cases hj : j = i
    · subst hj; rw [updN_same] at h; exact (t.off a h).2.2.2
    · rw [updN_ne hj] at h; exact g.own j a h
  frz := g.frz
  le0 := g.le0
  keep := g.keep
  fr := fun a o h => by
    obtain ⟨h1, h2, h3⟩ := g.fr a o h
    refine ⟨h1, h2, fun j hj => ?_⟩
    by_cases q : j = i
    · subst q; rw [updN_same] at hj; exact (t.off a hj).2.2.1 o h
    · rw [updN_ne q] at hj; exact h3 j hj
  len := by rw [List.length_set, List.length_set]; exact g.len
  sl := by rw [List.length_set]; exact g.sl
  pin := fun p hp' => by rw [get_set_ne (hp p hp')]; exact g.pin p hp'
/-- a slot's own value becomes a shared one -/
theorem Good.freezeSlot (g : Good Z E G ρ σ H F fps) {i : Nat} {r : R} {d : D} (h : ρ[i]? = some (some r)) (e : r.dat = some d) :
    ∃ F' v, Le F F' ∧ σ[i]? = some (some v) ∧ Good Z E G (ρ.set i (some (.val d))) σ H F' (updN fps i []) ∧ Rv Z.K F' v d := by
  obtain ⟨v, hv, rl⟩ := g.env i r h
  have l : Le F (froze F H (fps i)) := froze_le fun a ha => g.off i a ha
  have rv := rl.frozen e l
  have hi : i < ρ.length := (List.getElem?_eq_some_iff.mp h).1
  refine ⟨froze F H (fps i), v, l, hv, ⟨froze_sub g.sub, fun j r' q => ?_, fun j q => ?_, fun j => ?_, fun j k a h1 h2 => ?_, fun j a ha => ?_, fun j a ha => ?_, fun a o q => ?_, g.le0.trans l, g.keep, fun a o q => ?_, by rw [List.length_set]; exact g.len, g.sl, g.pin⟩, rv⟩
  · by_cases hj : j = i
    · subst hj
      rw [List.getElem?_set_self hi] at q
      cases q
      exact ⟨v, hv, by rw [updN_same]; exact .val rv⟩
    · rw [get_set_ne hj] at q
      obtain ⟨w, h1, h2⟩ := g.env j r' q
      exact ⟨w, h1, by rw [updN_ne hj]; exact h2.mono l fun _ _ => rfl⟩
  · by_cases hj : j = i
    · subst hj; exact updN_same
    · rw [updN_ne hj]
      exact g.emp j fun r' e => q r' (by rw [get_set_ne hj]; exact e)
  · by_cases hj : j = i
    · subst hj; rw [updN_same]; exact List.nodup_nil
    · rw [updN_ne hj]; exact g.nd j
  · by_cases hj : j = i
    · subst hj; rw [updN_same] at h1; simp at h1
    · by_cases hk : k = i
      · subst hk; rw [updN_same] at h2; simp at h2
      · rw [updN_ne hj] at h1; rw [updN_ne hk] at h2; exact g.dis j k a h1 h2
  · by_cases hj : j = i
    · subst hj; rw [updN_same] at ha; simp at ha
    · rw [updN_ne hj] at ha
      cases z : froze F H (fps i) a with
      | none => rfl
      | some o =>
        rcases froze_or z with z | z
        · rw [g.off j a ha] at z; cases z
        · exact absurd (g.dis j i a ha z) hj
  · by_cases hj : j = i
    · subst hj; rw [updN_same] at ha; simp at ha
    · rw [updN_ne hj] at ha; exact g.own j a ha
  · rcases froze_or q with q | q
    · exact g.frz a o q
    · exact .inr (g.own i a q)
  · obtain ⟨h1, h2, h3⟩ := g.fr a o q
    refine ⟨h1, ?_, fun j hj => ?_⟩
    · cases z : froze F H (fps i) a with
      | none => rfl
      | some o' =>
        rcases froze_or z with z | z
        · rw [h2] at z; cases z
        · exact absurd z (h3 i)
    · by_cases hk : j = i
      · subst hk; rw [updN_same] at hj; simp at hj
      · rw [updN_ne hk] at hj; exact h3 j hj
/-- a slot's value is taken out -/
theorem Good.take (g : Good Z E G ρ σ H F fps) {i : Nat} {r : R} (h : ρ[i]? = some (some r)) :
    ∃ v, σ[i]? = some (some v) ∧ Good Z E G (ρ.set i none) σ H F (updN fps i []) ∧ Tmp Z E G H F (updN fps i []) r v (fps i) := by
  obtain ⟨v, hv, rl⟩ := g.env i r h
  have hi : i < ρ.length := (List.getElem?_eq_some_iff.mp h).1
  refine ⟨v, hv, ⟨g.sub, fun j r' q => ?_, fun j q => ?_, fun j => ?_, fun j k a h1 h2 => ?_, fun j a ha => ?_, fun j a ha => ?_, g.frz, g.le0, g.keep, fun a o q => ?_, by rw [List.length_set]; exact g.len, g.sl, g.pin⟩, ⟨rl, g.nd i, fun a ha => ⟨g.off i a ha, fun j hj => ?_, fun o ho => (g.fr a o ho).2.2 i ha, g.own i a ha⟩⟩⟩
  · by_cases hj : j = i
    · subst hj; rw [List.getElem?_set_self hi] at q; cases q
    · rw [get_set_ne hj] at q
      obtain ⟨w, h1, h2⟩ := g.env j r' q
      exact ⟨w, h1, by rw [updN_ne hj]; exact h2⟩
  · by_cases hj : j = i
    · subst hj; exact updN_same
    · rw [updN_ne hj]; exact g.emp j fun r' e => q r' (by rw [get_set_ne hj]; exact e)
  · by_cases hj : j = i
    · subst hj; rw [updN_same]; exact List.nodup_nil
    · rw [updN_ne hj]; exact g.nd j
  · by_cases hj : j = i
    · subst hj; rw [updN_same] at h1; simp at h1
    · by_cases hk : k = i
      · subst hk; rw [updN_same] at h2; simp at h2
      · rw [updN_ne hj] at h1; rw [updN_ne hk] at h2; exact g.dis j k a h1 h2
  · by_cases hj : j = i
    · subst hj; rw [updN_same] at ha; simp at ha
    · rw [updN_ne hj] at ha; exact g.off j a ha
  · by_cases hj : j = i
    · subst hj; rw [updN_same] at ha; simp at ha
    · rw [updN_ne hj] at ha; exact g.own j a ha
  · obtain ⟨h1, h2, h3⟩ := g.fr a o q
    refine ⟨h1, h2, fun j hj => ?_⟩
    by_cases hk : j = i
    · subst hk; rw [updN_same] at hj; simp at hj
    · rw [updN_ne hk] at hj; exact h3 j hj
  · by_cases hk : j = i
    · subst hk; rw [updN_same] at hj; simp at hj
    · rw [updN_ne hk] at hj; exact hk (g.dis j i a hj ha)
end

/-- what an operation made: r at v; F', H' the shared and the whole heap behind it -/
structure Res (Z : KC) (F H : Hp) (r : R) (v : V) (F' H' : Hp) (fp : List Addr) : Prop where
  leF : Le F F'
  leH : Le H H'
  sub : Le F' H'
  rl : Rl Z F' H' r v fp
  nd : fp.Nodup
  newF : ∀ a o, F' a = some o → F a = some o ∨ H a = none
  newP : ∀ a ∈ fp, H a = none ∧ F' a = none
section
variable {Z : KC} {E : Ent} {G : Addr → HO → Prop} {ρ : Ev} {σ : L2.St} {H H' F F' : Hp} {fps : Nat → List Addr} {r : R} {v : V} {fp : List Addr}
theorem Good.res (g : Good Z E G ρ σ H F fps) (x : Res Z F H r v F' H' fp) : Good Z E G ρ σ H' F' fps ∧ Tmp Z E G H' F' fps r v fp := by
  have key : ∀ a, H a = none → (∀ i, a ∉ fps i) ∧ (∀ o, ¬ G a o) ∧ (a ∈ E.fp0 ∨ E.H0 a = none) := fun a h => by
    refine ⟨fun i hi => g.there hi h, fun o ho => ?_, ?_⟩
    · have := (g.fr a o ho).1
      rw [h] at this; cases this
    · cases q : E.H0 a with
      | none => exact .inr rfl
      | some o =>
        refine .inl ?_
        by_cases z : a ∈ E.fp0
        · exact z
        · have := g.keep a o q z
          rw [h] at this; cases this
  refine ⟨(g.ext x.leH).share x.leF x.sub fun a o h => ?_, x.rl, x.nd, fun a ha => ?_⟩
  · rcases x.newF a o h with h | h
    · exact .inl h
    · exact .inr (key a h)
  · obtain ⟨h1, h2⟩ := x.newP a ha
    exact ⟨h2, key a h1⟩
theorem Res.val (s : Le F H) {d : D} (h : Rv Z.K F v d) : Res Z F H (.val d) v F H [] :=
  ⟨Le.refl _, Le.refl _, s, .val h, List.nodup_nil, fun _ _ h => .inl h, fun _ h => by simp at h⟩
theorem Res.newL (s : Le F H) {p : Addr} {vs : List V} {ds : List D} (n : H p = none) (h : RvAll Z.K F vs ds) : Res Z F H (.olst ds) (.ref p) F (upd H p (.lst vs)) [p] :=
  ⟨Le.refl _, Le.upd n, s.trans (Le.upd n), .olst upd_same h, by simp, fun _ _ h => .inl h, fun a ha => by
    have e : a = p := by simpa using ha
    subst e
    refine ⟨n, ?_⟩
    cases q : F a with
    | none => rfl
    | some o => rw [s _ _ q] at n; cases n⟩
theorem Le.free {F H : Hp} (s : Le F H) {p : Addr} (n : H p = none) : F p = none := by
  cases q : F p with
  | none => rfl
  | some o => rw [s _ _ q] at n; cases n
theorem upd_le {F H : Hp} (s : Le F H) (p : Addr) (o : HO) : Le (upd F p o) (upd H p o) := fun b x e => by
  by_cases h : b = p
  · subst h; rw [upd_same] at e ⊢; exact e
  · rw [upd_ne h] at e ⊢; exact s b x e
theorem Res.newT (s : Le F H) {p : Addr} {vs : List V} {ds : List D} (n : H p = none) (h : RvAll Z.K F vs ds) : Res Z F H (.val (.tuple ds)) (.ref p) (upd F p (.tup vs)) (upd H p (.tup vs)) [] :=
  ⟨Le.upd (s.free n), Le.upd n, upd_le s p _, .val (.tup upd_same (h.mono (Le.upd (s.free n)))), List.nodup_nil, fun a o q => by
    by_cases e : a = p
    · subst e; exact .inr n
    · rw [upd_ne e] at q; exact .inl q, fun _ h => by simp at h⟩
end
end Cr
end

section
set_option maxRecDepth 100000
/-! Cor2: the meanings of expressions and tests over the states of Cor1, and that the layer's rules bear them. -/
namespace Cr
open PySem PySem.Spec PyProof.Rows L2

/-- read in place: the container itself may be owned, what it holds is shared -/
inductive Lk (K : PySem.W.Frag) (F H : Hp) : V → D → Prop
  | sh {v : V} {d : D} : Rv K F v d → Lk K F H v d
  | lst {a : Addr} {vs : List V} {ds : List D} : H a = some (.lst vs) → RvAll K F vs ds → Lk K F H (.ref a) (.list ds)
inductive LkAll (K : PySem.W.Frag) (F H : Hp) : List V → List D → Prop
  | nil : LkAll K F H [] []
  | cons {v : V} {vs : List V} {d : D} {ds : List D} : Lk K F H v d → LkAll K F H vs ds → LkAll K F H (v :: vs) (d :: ds)
section
variable {K : PySem.W.Frag} {F H : Hp} {v : V} {d : D}
theorem Lk.rv (l : Le F H) (h : Lk K F H v d) : Rv K H v d := by
  cases h with
  | sh h => exact h.mono l
  | lst h r => exact .lst (RdL.of h) (r.mono l)
theorem Lk.inti {i : Int} (h : Lk K F H v (.int i)) : v = .int i := by cases h with | sh h => exact h.inti
theorem Lk.bli {i : Bool} (h : Lk K F H v (.bool i)) : v = .bl i := by cases h with | sh h => exact h.bli
theorem Lk.stri {i : Str} (h : Lk K F H v (.str i)) : v = .str i := by cases h with | sh h => exact h.stri
theorem Lk.noni (h : Lk K F H v .none) : v = .non := by cases h with | sh h => exact h.noni
theorem Lk.tupi {ds : List D} (h : Lk K F H v (.tuple ds)) (l : Le F H) : ∃ a vs, v = .ref a ∧ SqT K H a vs ∧ F a = some (.tup vs) ∧ RvAll K F vs ds := by
  cases h with
  | sh h => cases h with | tup h r => exact ⟨_, _, rfl, SqT.of (l _ _ h), h, r⟩
theorem Lk.lsti {ds : List D} (h : Lk K F H v (.list ds)) (l : Le F H) : ∃ a vs, v = .ref a ∧ RdL K H a vs ∧ RvAll K F vs ds := by
  cases h with
  | sh h => cases h with | lst h r => exact ⟨_, _, rfl, l.rdl h, r⟩
  | lst h r => exact ⟨_, _, rfl, RdL.of h, r⟩
theorem LkAll.nili {vs : List V} (h : LkAll K F H vs []) : vs = [] := by cases h; rfl
theorem LkAll.consi {vs : List V} {ds : List D} (h : LkAll K F H vs (d :: ds)) : ∃ v r, vs = v :: r ∧ Lk K F H v d ∧ LkAll K F H r ds := by
  cases h with | cons a b => exact ⟨_, _, rfl, a, b⟩
end
theorem Rl.lk {Z : KC} {F H : Hp} {r : R} {v : V} {fp : List Addr} {d : D} (h : Rl Z F H r v fp) (e : r.dat = some d) : Lk Z.K F H v d := by
  cases h with
  | val h => cases e; exact .sh h
  | olst h r => cases e; exact .lst h r
  | odicK h r => cases e
  | odicT h r => cases e
  | oobj => cases e

theorem Rl.vali {Z : KC} {F H : Hp} {v : V} {fp : List Addr} {d : D} (h : Rl Z F H (.val d) v fp) : Rv Z.K F v d := by
  cases h with | val h => exact h

abbrev NoG : Addr → HO → Prop := fun _ _ => False
abbrev FR := Ev → (R → Ev → Prop) → Prop
abbrev FB := Ev → (Bool → Ev → Prop) → Prop
abbrev RdF := Ev → (D → Prop) → Prop
abbrev FO := Ev → (RdF → Ev → Prop) → Prop
abbrev FOs := Ev → (List RdF → Ev → Prop) → Prop

def tR (Z : KC) (E : Ent) (G : Addr → HO → Prop) (f : FR) : TE := fun σ H Q => ∃ ρ F fps k, Good Z E G ρ σ H F fps ∧ f ρ k ∧
  ∀ r ρ' F' fps' v fp H', Good Z E G ρ' σ H' F' fps' → Le F F' → Tmp Z E G H' F' fps' r v fp → k r ρ' → Q v H'
def tBo (Z : KC) (E : Ent) (G : Addr → HO → Prop) (f : FB) : TT := fun σ H Q => ∃ ρ F fps k, Good Z E G ρ σ H F fps ∧ f ρ k ∧
  ∀ b ρ' F' fps' H', Good Z E G ρ' σ H' F' fps' → Le F F' → k b ρ' → Q b H'
/-- rd tells, at any later state, what v is then -/
def RdOk (Z : KC) (E : Ent) (G : Addr → HO → Prop) (σ : L2.St) (F : Hp) (rd : RdF) (v : V) : Prop :=
  ∀ ρe He Fe fpse, Good Z E G ρe σ He Fe fpse → Le F Fe → ∀ κ, rd ρe κ → ∃ d, Lk Z.K Fe He v d ∧ κ d
def tO (Z : KC) (E : Ent) (G : Addr → HO → Prop) (f : FO) : TE := fun σ H Q => ∃ ρ F fps k, Good Z E G ρ σ H F fps ∧ f ρ k ∧
  ∀ rd ρ' F' fps' v H', Good Z E G ρ' σ H' F' fps' → Le F F' → RdOk Z E G σ F' rd v → k rd ρ' → Q v H'
inductive RdAll (Z : KC) (E : Ent) (G : Addr → HO → Prop) (σ : L2.St) (F : Hp) : List RdF → List V → Prop
  | nil : RdAll Z E G σ F [] []
  | cons {rd : RdF} {v : V} {rs : List RdF} {vs : List V} : RdOk Z E G σ F rd v → RdAll Z E G σ F rs vs → RdAll Z E G σ F (rd :: rs) (v :: vs)
def tOs (Z : KC) (E : Ent) (G : Addr → HO → Prop) (f : FOs) : TA := fun σ H Q => ∃ ρ F fps k, Good Z E G ρ σ H F fps ∧ f ρ k ∧
  ∀ rds ρ' F' fps' vs H', Good Z E G ρ' σ H' F' fps' → Le F F' → RdAll Z E G σ F' rds vs → k rds ρ' → Q vs H'

abbrev CM := Str → Option Addr
def RE (cm : CM) (E : Ent) (X : Cx) (a : Expr) (f : FR) : Prop := ∀ G, PE X a (tR ⟨X.K, cm⟩ E G f)
def BE (cm : CM) (E : Ent) (X : Cx) (a : Expr) (f : FB) : Prop := ∀ G, PT X a (tBo ⟨X.K, cm⟩ E G f)
def WE' (cm : CM) (E : Ent) (X : Cx) (a : Expr) (f : FB) : Prop := ∀ G, PW X a (tBo ⟨X.K, cm⟩ E G f)
def OE (cm : CM) (E : Ent) (X : Cx) (a : Expr) (f : FO) : Prop := ∀ G, PE X a (tO ⟨X.K, cm⟩ E G f)
def OA (cm : CM) (E : Ent) (X : Cx) (es : List Expr) (f : FOs) : Prop := ∀ G, PA X es (tOs ⟨X.K, cm⟩ E G f)

/-! ### moving along -/
theorem _root_.L2.PE.via {X : Cx} {e : Expr} {t t' : TE} (h : PE X e t) (i : ∀ σ H Q, t' σ H Q → t σ H Q) : PE X e t' := ⟨fun pins s σ H Q I q => h.run pins s σ H Q I (i σ H Q q)⟩
theorem _root_.L2.PT.via {X : Cx} {e : Expr} {t t' : TT} (h : PT X e t) (i : ∀ σ H Q, t' σ H Q → t σ H Q) : PT X e t' := ⟨fun pins s σ H Q I q => h.run pins s σ H Q I (i σ H Q q)⟩
theorem _root_.L2.PW.via {X : Cx} {e : Expr} {t t' : TT} (h : PW X e t) (i : ∀ σ H Q, t' σ H Q → t σ H Q) : PW X e t' := ⟨fun wh pins s σ H Q I q => h.run wh pins s σ H Q I (i σ H Q q)⟩
theorem _root_.L2.PA.via {X : Cx} {e : List Expr} {t t' : TA} (h : PA X e t) (i : ∀ σ H Q, t' σ H Q → t σ H Q) : PA X e t' := ⟨fun pos pins s σ H Q I q => h.run pos pins s σ H Q I (i σ H Q q)⟩

section
variable {cm : CM} {E : Ent} {X : Cx} {pos : Pos}

/-! ### constants and names -/
def fCst (d : D) : FR := fun ρ k => k (.val d) ρ
theorem Tmp.val {Z : KC} {G : Addr → HO → Prop} {H F : Hp} {fps : Nat → List Addr} {v : V} {d : D} (h : Rv Z.K F v d) : Tmp Z E G H F fps (.val d) v [] := ⟨.val h, List.nodup_nil, fun _ h => by simp at h⟩
theorem re_cst {e : Expr} {v : V} {d : D} (h : PE X e (tC v)) (hr : ∀ F, Rv X.K F v d) : RE cm E X e (fCst d) := fun G => h.via fun σ H Q ⟨ρ, F, fps, k, g, hk, q⟩ =>
  q _ _ _ _ v _ _ g (Le.refl F) (Tmp.val (hr F)) hk
theorem re_int {i : Int} {j : Nat} : RE cm E X (.Constant (.int i) j pos) (fCst (.int i)) := re_cst pe_int fun _ => .int i
theorem re_bl {b : Bool} {j : Nat} : RE cm E X (.Constant (.bool b) j pos) (fCst (.bool b)) := re_cst pe_bl fun _ => .bl b
theorem re_non {j : Nat} : RE cm E X (.Constant .none j pos) (fCst .none) := re_cst pe_non fun _ => .non
theorem re_str {x : Str} {j : Nat} : RE cm E X (.Constant (.str x) j pos) (fCst (.str x)) := re_cst pe_str fun _ => .str x

/-- a name's value; what it owned is shared from here on -/
def fVar (i : Nat) : FR := fun ρ k => match ρ[i]? with
  | some (some (.val d)) => k (.val d) ρ
  | some (some (.olst ds)) => k (.val (.list ds)) (ρ.set i (some (.val (.list ds))))
  | _ => False
theorem re_var {i : Nat} {e : Expr} (h : PE X e (tVar i)) : RE cm E X e (fVar i) := fun G => h.via fun σ H Q ⟨ρ, F, fps, k, g, hk, q⟩ => by
  unfold fVar at hk
  split at hk
  · rename_i d e
    obtain ⟨v, hv, rl⟩ := g.env i _ e
    exact ⟨v, hv, q _ _ _ _ v _ _ g (Le.refl F) (Tmp.val rl.vali) hk⟩
  · rename_i ds e
    obtain ⟨F', v, l, hv, g', rv⟩ := g.freezeSlot e rfl
    exact ⟨v, hv, q _ _ _ _ v _ _ g' l (Tmp.val rv) hk⟩
  · exact hk.elim
/-- .. moved out of its slot -/
def fMov (i : Nat) : FR := fun ρ k => match ρ[i]? with
  | some (some r) => k r (ρ.set i none)
  | _ => False
theorem re_mov {i : Nat} {e : Expr} (h : PE X e (tVar i)) : RE cm E X e (fMov i) := fun G => h.via fun σ H Q ⟨ρ, F, fps, k, g, hk, q⟩ => by
  unfold fMov at hk
  split at hk
  · rename_i r e
    obtain ⟨v, hv, g', t⟩ := g.take e
    exact ⟨v, hv, q _ _ _ _ v _ _ g' (Le.refl F) t hk⟩
  · exact hk.elim
/-- a module's constant -/
theorem re_glob {e : Expr} {v : V} {d : D} (h : PE X e (tC v)) (hr : ∀ F, Rv X.K F v d) : RE cm E X e (fCst d) := re_cst h hr

/-! ### operands -/
def fOV (f : FR) : FO := fun ρ k => f ρ fun r ρ1 => r.as fun d => k (fun _ κ => κ d) ρ1
theorem oe_v {e : Expr} {f : FR} (h : RE cm E X e f) : OE cm E X e (fOV f) := fun G => (h G).via fun σ H Q ⟨ρ, F, fps, k, g, hk, q⟩ => by
  refine ⟨ρ, F, fps, _, g, hk, fun r ρ' F' fps' v fp H' g' l t hk' => ?_⟩
  obtain ⟨d, e, hk'⟩ := R.as_dat hk'
  obtain ⟨F'', l', g'', rv⟩ := g'.freeze t e
  exact q _ _ _ _ v _ g'' (l.trans l') (fun ρe He Fe fpse ge le κ hκ => ⟨d, .sh (rv.mono le), hκ⟩) hk'
def rdSlot (i : Nat) : RdF := fun ρ κ => match ρ[i]? with
  | some (some r) => r.as κ
  | _ => False
def fOP (i : Nat) : FO := fun ρ k => match ρ[i]? with
  | some (some _) => k (rdSlot i) ρ
  | _ => False
theorem oe_p {i : Nat} {e : Expr} (h : PE X e (tVar i)) : OE cm E X e (fOP i) := fun G => h.via fun σ H Q ⟨ρ, F, fps, k, g, hk, q⟩ => by
  unfold fOP at hk
  split at hk
  · rename_i r e
    obtain ⟨v, hv, rl⟩ := g.env i r e
    refine ⟨v, hv, q _ _ _ _ v _ g (Le.refl F) (fun ρe He Fe fpse ge le κ hκ => ?_) hk⟩
    unfold rdSlot at hκ
    split at hκ
    · rename_i r' e'
      obtain ⟨d, ed, hκ⟩ := R.as_dat hκ
      obtain ⟨v', hv', rl'⟩ := ge.env i r' e'
      rw [hv] at hv'
      cases hv'
      exact ⟨d, rl'.lk ed, hκ⟩
    · exact hκ.elim
  · exact hk.elim

/-! ### operators on two operands -/
abbrev C2 := D → D → (R → Prop) → Prop
def OpS (cm : CM) (X : Cx) (r : R2) (c : C2) : Prop := ∀ (F H : Hp) (x y : V) (d e : D) (κ : R → Prop) (Q : VK), Le F H → Lk X.K F H x d → Lk X.K F H y e → c d e κ →
  (∀ z v F' H' fp, Res ⟨X.K, cm⟩ F H z v F' H' fp → κ z → Q v H') → r x y H Q
def fO2 (c : C2) (fa fb : FO) : FR := fun ρ k => fa ρ fun ra ρ1 => fb ρ1 fun rb ρ2 => ra ρ2 fun d => rb ρ2 fun e => c d e fun r => k r ρ2
theorem RdOk.mono {Z : KC} {G : Addr → HO → Prop} {σ : L2.St} {F F' : Hp} {rd : RdF} {v : V} (h : RdOk Z E G σ F rd v) (l : Le F F') : RdOk Z E G σ F' rd v :=
  fun ρe He Fe fpse g le κ hκ => h ρe He Fe fpse g (l.trans le) κ hκ
theorem tO2 {c : C2} {fa fb : FO} {r : R2} (ho : OpS cm X r c) (G : Addr → HO → Prop) {ta tb : TE} (σ : L2.St) (H : Hp) (Q : VK) (h : tR ⟨X.K, cm⟩ E G (fO2 c fa fb) σ H Q) :
    tOp r (tO ⟨X.K, cm⟩ E G fa) (tO ⟨X.K, cm⟩ E G fb) σ H Q := by
  obtain ⟨ρ, F, fps, k, g, hk, q⟩ := h
  refine ⟨ρ, F, fps, _, g, hk, fun ra ρ1 F1 fps1 x H1 g1 l1 ok1 hk1 => ?_⟩
  refine ⟨ρ1, F1, fps1, _, g1, hk1, fun rb ρ2 F2 fps2 y H2 g2 l2 ok2 hk2 => ?_⟩
  obtain ⟨d, lk1, hk2⟩ := ok1 _ _ _ _ g2 l2 _ hk2
  obtain ⟨e, lk2, hk2⟩ := ok2 _ _ _ _ g2 (Le.refl F2) _ hk2
  refine ho F2 H2 x y d e _ Q g2.sub lk1 lk2 hk2 fun z v F' H' fp res hκ => ?_
  obtain ⟨g', t⟩ := g2.res res
  exact q _ _ _ _ v _ _ g' ((l1.trans l2).trans res.leF) t hκ
theorem re_op {a b : Expr} {op : Operator} {c : C2} {r : R2} {fa fb : FO} (ho : OpR X (binaryOp op) r) (hc : OpS cm X r c) (ha : OE cm E X a fa) (hb : OE cm E X b fb) : RE cm E X (.BinOp a op b pos) (fO2 c fa fb) := fun G =>
  (pe_op ho (ha G) (hb G)).via fun σ H Q h => tO2 (ta := tO ⟨X.K, cm⟩ E G fa) (tb := tO ⟨X.K, cm⟩ E G fb) hc G σ H Q h
theorem re_cmp {a b : Expr} {op : CmpOp} {c : C2} {r : R2} {fa fb : FO} (ho : OpR X (compareOp op) r) (hc : OpS cm X r c) (ha : OE cm E X a fa) (hb : OE cm E X b fb) (hm : behindInMarks op b = false) : RE cm E X (.Compare a [op] [b] pos) (fO2 c fa fb) := fun G =>
  (pe_cmpR ho (ha G) (hb G) hm).via fun σ H Q h => tO2 (ta := tO ⟨X.K, cm⟩ E G fa) (tb := tO ⟨X.K, cm⟩ E G fb) hc G σ H Q h
theorem re_ix {a b : Expr} {c : C2} {r : R2} {fa fb : FO} (ho : IxR X r) (hc : OpS cm X r c) (ha : OE cm E X a fa) (hb : OE cm E X b fb) (hs : PlainIx b) : RE cm E X (.Subscript a b pos) (fO2 c fa fb) := fun G =>
  (pe_ix ho (ha G) (hb G) hs).via fun σ H Q h => tO2 (ta := tO ⟨X.K, cm⟩ E G fa) (tb := tO ⟨X.K, cm⟩ E G fb) hc G σ H Q h

/-! ### tests -/
def R.bo (r : R) (k : Bool → Prop) : Prop := match r with
  | .val (.bool b) => k b
  | _ => False
def fBo (f : FR) : FB := fun ρ k => f ρ fun r ρ1 => r.bo fun b => k b ρ1
theorem bo_q {Z : KC} {G : Addr → HO → Prop} {k : Bool → Prop} {r : R} {v : V} {fp : List Addr} {H F : Hp} {fps : Nat → List Addr} (t : Tmp Z E G H F fps r v fp) (h : r.bo k) : ∃ b, v = .bl b ∧ k b := by
  unfold R.bo at h
  split at h
  · rename_i b
    have := t.rl
    cases this with
    | val q => exact ⟨b, q.bli, h⟩
  · exact h.elim
theorem tR_bo {G : Addr → HO → Prop} {Z : KC} {f : FR} {σ : L2.St} {H : Hp} {Q : Bool → Hp → Prop} (h : tBo Z E G (fBo f) σ H Q) : tR Z E G f σ H fun x H1 => ∃ c, x = .bl c ∧ Q c H1 := by
  obtain ⟨ρ, F, fps, k, g, hk, q⟩ := h
  refine ⟨ρ, F, fps, _, g, hk, fun r ρ' F' fps' v fp H' g' l t hk' => ?_⟩
  obtain ⟨b, e, hk'⟩ := bo_q t hk'
  exact ⟨b, e, q b ρ' F' fps' H' g' l hk'⟩
theorem be_val {e : Expr} {f : FR} (h : RE cm E X e f) (he : ∀ whole, isTrue e X.env whole = (do let v ← whole; standAt e.pos; holding [v] (truthy v)) := by intro _; rfl) : BE cm E X e (fBo f) := fun G =>
  (pt_val (h G) he).via fun σ H Q h => tR_bo h
theorem be_cmp {a b : Expr} {op : CmpOp} {c : C2} {r : R2} {fa fb : FO} (ho : OpR X (compareOp op) r) (hc : OpS cm X r c) (ha : OE cm E X a fa) (hb : OE cm E X b fb) (hm : behindInMarks op b = false) : BE cm E X (.Compare a [op] [b] pos) (fBo (fO2 c fa fb)) := fun G =>
  (pt_cmpR ho (ha G) (hb G) hm).via fun σ H Q h => tO2 (ta := tO ⟨X.K, cm⟩ E G fa) (tb := tO ⟨X.K, cm⟩ E G fb) hc G σ H _ (tR_bo h)
def fNot (f : FB) : FB := fun ρ k => f ρ fun b ρ1 => k (!b) ρ1
theorem be_not {a : Expr} {f : FB} (h : BE cm E X a f) : BE cm E X (.UnaryOp .Not a pos) (fNot f) := fun G =>
  (pt_not (h G)).via fun σ H Q ⟨ρ, F, fps, k, g, hk, q⟩ => ⟨ρ, F, fps, _, g, hk, fun b ρ' F' fps' H' g' l hk' => q (!b) ρ' F' fps' H' g' l hk'⟩
theorem be_w {a : Expr} {f : FB} (h : WE' cm E X a f) : BE cm E X a f := fun G => (h G).pt
theorem we_and1 {a : Expr} {f : FB} (h : BE cm E X a f) : WE' cm E X (.BoolOp .And [a] pos) f := fun G => pw_and1 (h G)
theorem we_or1 {a : Expr} {f : FB} (h : BE cm E X a f) : WE' cm E X (.BoolOp .Or [a] pos) f := fun G => pw_or1 (h G)
def fAnd (fa fb : FB) : FB := fun ρ k => fa ρ fun b ρ1 => if b = true then fb ρ1 k else k false ρ1
def fOr (fa fb : FB) : FB := fun ρ k => fa ρ fun b ρ1 => if b = true then k true ρ1 else fb ρ1 k
theorem we_and {a b : Expr} {rest : List Expr} {fa fb : FB} (ha : BE cm E X a fa) (hb : WE' cm E X (.BoolOp .And (b :: rest) pos) fb) : WE' cm E X (.BoolOp .And (a :: b :: rest) pos) (fAnd fa fb) := fun G =>
  (pw_and (ha G) (hb G)).via fun σ H Q ⟨ρ, F, fps, k, g, hk, q⟩ => ⟨ρ, F, fps, _, g, hk, fun b ρ' F' fps' H' g' l hk' => by
    cases b with
    | true => exact ⟨ρ', F', fps', k, g', hk', fun b ρ'' F'' fps'' H'' g'' l' hk'' => q b _ _ _ _ g'' (l.trans l') hk''⟩
    | false => exact q false _ _ _ _ g' l hk'⟩
theorem we_or {a b : Expr} {rest : List Expr} {fa fb : FB} (ha : BE cm E X a fa) (hb : WE' cm E X (.BoolOp .Or (b :: rest) pos) fb) : WE' cm E X (.BoolOp .Or (a :: b :: rest) pos) (fOr fa fb) := fun G =>
  (pw_or (ha G) (hb G)).via fun σ H Q ⟨ρ, F, fps, k, g, hk, q⟩ => ⟨ρ, F, fps, _, g, hk, fun b ρ' F' fps' H' g' l hk' => by
    cases b with
    | false => exact ⟨ρ', F', fps', k, g', hk', fun b ρ'' F'' fps'' H'' g'' l' hk'' => q b _ _ _ _ g'' (l.trans l') hk''⟩
    | true => exact q true _ _ _ _ g' l hk'⟩
/-- as values (bools) -/
def fAndV (fa fb : FR) : FR := fun ρ k => fa ρ fun r ρ1 => r.bo fun b => if b = true then fb ρ1 k else k (.val (.bool false)) ρ1
def fOrV (fa fb : FR) : FR := fun ρ k => fa ρ fun r ρ1 => r.bo fun b => if b = true then k (.val (.bool true)) ρ1 else fb ρ1 k
def fNotV (fa : FR) : FR := fun ρ k => fa ρ fun r ρ1 => r.bo fun b => k (.val (.bool (!b))) ρ1
theorem re_one {a : Expr} {op : BoolOp} {f : FR} (h : RE cm E X a f) : RE cm E X (.BoolOp op [a] pos) f := fun G => pe_one (h G)
theorem re_and {a b : Expr} {rest : List Expr} {fa fb : FR} (ha : RE cm E X a fa) (hb : RE cm E X (.BoolOp .And (b :: rest) pos) fb) : RE cm E X (.BoolOp .And (a :: b :: rest) pos) (fAndV fa fb) := fun G =>
  (pe_and (ha G) (hb G)).via fun σ H Q ⟨ρ, F, fps, k, g, hk, q⟩ => ⟨ρ, F, fps, _, g, hk, fun r ρ' F' fps' v fp H' g' l t hk' => by
    obtain ⟨b, e, hk'⟩ := bo_q t hk'
    refine ⟨b, e, ?_⟩
    cases b with
    | true => exact ⟨ρ', F', fps', k, g', hk', fun r ρ'' F'' fps'' v fp H'' g'' l' t hk'' => q r _ _ _ v _ _ g'' (l.trans l') t hk''⟩
    | false => exact q _ _ _ _ _ _ _ g' l (Tmp.val (.bl false)) hk'⟩
theorem re_or {a b : Expr} {rest : List Expr} {fa fb : FR} (ha : RE cm E X a fa) (hb : RE cm E X (.BoolOp .Or (b :: rest) pos) fb) : RE cm E X (.BoolOp .Or (a :: b :: rest) pos) (fOrV fa fb) := fun G =>
  (pe_or (ha G) (hb G)).via fun σ H Q ⟨ρ, F, fps, k, g, hk, q⟩ => ⟨ρ, F, fps, _, g, hk, fun r ρ' F' fps' v fp H' g' l t hk' => by
    obtain ⟨b, e, hk'⟩ := bo_q t hk'
    refine ⟨b, e, ?_⟩
    cases b with
    | false => exact ⟨ρ', F', fps', k, g', hk', fun r ρ'' F'' fps'' v fp H'' g'' l' t hk'' => q r _ _ _ v _ _ g'' (l.trans l') t hk''⟩
    | true => exact q _ _ _ _ _ _ _ g' l (Tmp.val (.bl true)) hk'⟩
theorem re_not {a : Expr} {fa : FR} (ha : RE cm E X a fa) : RE cm E X (.UnaryOp .Not a pos) (fNotV fa) := fun G =>
  (pe_not (ha G)).via fun σ H Q ⟨ρ, F, fps, k, g, hk, q⟩ => ⟨ρ, F, fps, _, g, hk, fun r ρ' F' fps' v fp H' g' l t hk' => by
    obtain ⟨b, e, hk'⟩ := bo_q t hk'
    exact ⟨b, e, q _ _ _ _ _ _ _ g' l (Tmp.val (.bl _)) hk'⟩⟩
def fIf (fc : FB) (fa fb : FR) : FR := fun ρ k => fc ρ fun b ρ1 => if b = true then fa ρ1 k else fb ρ1 k
theorem re_if {c a b : Expr} {fc : FB} {fa fb : FR} (hc : BE cm E X c fc) (ha : RE cm E X a fa) (hb : RE cm E X b fb) : RE cm E X (.IfExp c a b pos) (fIf fc fa fb) := fun G =>
  (pe_ifExp (hc G) (ha G) (hb G)).via fun σ H Q ⟨ρ, F, fps, k, g, hk, q⟩ => ⟨ρ, F, fps, _, g, hk, fun b ρ' F' fps' H' g' l hk' => by
    cases b with
    | true => exact ⟨ρ', F', fps', k, g', hk', fun r ρ'' F'' fps'' v fp H'' g'' l' t hk'' => q r _ _ _ v _ _ g'' (l.trans l') t hk''⟩
    | false => exact ⟨ρ', F', fps', k, g', hk', fun r ρ'' F'' fps'' v fp H'' g'' l' t hk'' => q r _ _ _ v _ _ g'' (l.trans l') t hk''⟩⟩
/-- a < b < c -/
def fChain (c c' : C2) (fa fb fc : FO) : FR := fun ρ k => fa ρ fun ra ρ1 => fb ρ1 fun rb ρ2 => ra ρ2 fun d => rb ρ2 fun e => c d e fun r => r.bo fun t =>
  if t = true then fc ρ2 fun rc ρ3 => rb ρ3 fun e' => rc ρ3 fun x => c' e' x fun z => k z ρ3 else k (.val (.bool false)) ρ2
theorem tChain_of {c c' : C2} {fa fb fc : FO} {r r' : R2} (hc : OpS cm X r c) (hc' : OpS cm X r' c') (G : Addr → HO → Prop) (σ : L2.St) (H : Hp) (Q : VK) (h : tR ⟨X.K, cm⟩ E G (fChain c c' fa fb fc) σ H Q) :
    L2.tChain r r' (tO ⟨X.K, cm⟩ E G fa) (tO ⟨X.K, cm⟩ E G fb) (tO ⟨X.K, cm⟩ E G fc) σ H Q := by
  obtain ⟨ρ, F, fps, k, g, hk, q⟩ := h
  refine ⟨ρ, F, fps, _, g, hk, fun ra ρ1 F1 fps1 x H1 g1 l1 ok1 hk1 => ?_⟩
  refine ⟨ρ1, F1, fps1, _, g1, hk1, fun rb ρ2 F2 fps2 y H2 g2 l2 ok2 hk2 => ?_⟩
  obtain ⟨d, lk1, hk2⟩ := ok1 _ _ _ _ g2 l2 _ hk2
  obtain ⟨e, lk2, hk2⟩ := ok2 _ _ _ _ g2 (Le.refl F2) _ hk2
  refine hc F2 H2 x y d e _ _ g2.sub lk1 lk2 hk2 fun z v F' H' fp res hκ => ?_
  obtain ⟨g', t⟩ := g2.res res
  obtain ⟨b, eb, hκ⟩ := bo_q t hκ
  refine ⟨b, eb, ?_⟩
  cases b with
  | true =>
    refine ⟨ρ2, F', fps2, _, g', hκ, fun rc ρ3 F3 fps3 w H3 g3 l3 ok3 hk3 => ?_⟩
    obtain ⟨e', lk2', hk3⟩ := ok2 _ _ _ _ g3 (res.leF.trans l3) _ hk3
    obtain ⟨x', lk3, hk3⟩ := ok3 _ _ _ _ g3 (Le.refl F3) _ hk3
    refine hc' F3 H3 y w e' x' _ Q g3.sub lk2' lk3 hk3 fun z v F'' H'' fp res' hκ' => ?_
    obtain ⟨g'', t'⟩ := g3.res res'
    exact q _ _ _ _ v _ _ g'' ((((l1.trans l2).trans res.leF).trans l3).trans res'.leF) t' hκ'
  | false => exact q _ _ _ _ _ _ _ g' ((l1.trans l2).trans res.leF) (Tmp.val (.bl false)) hκ
end
end Cr
end

section
set_option maxRecDepth 100000
/-! Cor3: argument lists, displays, operators, built-in functions. -/
namespace Cr
open PySem PySem.Spec PyProof.Rows L2

section
variable {cm : CM} {E : Ent} {X : Cx} {pos : Pos}

/-! ### operands in a row -/
def fONil : FOs := fun ρ k => k [] ρ
def fOCons (f : FO) (fs : FOs) : FOs := fun ρ k => f ρ fun rd ρ1 => fs ρ1 fun rds ρ2 => k (rd :: rds) ρ2
theorem oa_nil : OA cm E X [] fONil := fun G => pa_nil.via fun σ H Q ⟨ρ, F, fps, k, g, hk, q⟩ => q [] ρ F fps [] H g (Le.refl F) .nil hk
theorem oa_cons {e : Expr} {es : List Expr} {f : FO} {fs : FOs} (ha : OE cm E X e f) (hr : OA cm E X es fs) (hs : starEach (e :: es) X.env = (false, eval e X.env) :: starEach es X.env := by rfl) : OA cm E X (e :: es) (fOCons f fs) := fun G =>
  (pa_cons (ha G) (hr G) hs).via fun σ H Q ⟨ρ, F, fps, k, g, hk, q⟩ => ⟨ρ, F, fps, _, g, hk, fun rd ρ1 F1 fps1 v H1 g1 l1 ok1 hk1 =>
    ⟨ρ1, F1, fps1, _, g1, hk1, fun rds ρ2 F2 fps2 vs H2 g2 l2 ok2 hk2 => q (rd :: rds) ρ2 F2 fps2 (v :: vs) H2 g2 (l1.trans l2) (.cons (ok1.mono l2) ok2) hk2⟩⟩

/-! ### values in a row, shared -/
abbrev FL := Ev → (List D → Ev → Prop) → Prop
def tLs (Z : KC) (E : Ent) (G : Addr → HO → Prop) (n : Nat) (f : FL) : TA := fun σ H Q => ∃ ρ F fps k, Good Z E G ρ σ H F fps ∧ f ρ k ∧
  ∀ ds ρ' F' fps' vs H', Good Z E G ρ' σ H' F' fps' → Le F F' → RvAll Z.K F' vs ds → ds.length = n → k ds ρ' → Q vs H'
def LA (cm : CM) (E : Ent) (X : Cx) (es : List Expr) (n : Nat) (f : FL) : Prop := ∀ G, PA X es (tLs ⟨X.K, cm⟩ E G n f)
def fLNil : FL := fun ρ k => k [] ρ
def fLCons (f : FR) (fs : FL) : FL := fun ρ k => f ρ fun r ρ1 => r.as fun d => fs ρ1 fun ds ρ2 => k (d :: ds) ρ2
theorem la_nil : LA cm E X [] 0 fLNil := fun G => pa_nil.via fun σ H Q ⟨ρ, F, fps, k, g, hk, q⟩ => q [] ρ F fps [] H g (Le.refl F) .nil rfl hk
theorem la_cons {e : Expr} {es : List Expr} {f : FR} {fs : FL} {n : Nat} (ha : RE cm E X e f) (hr : LA cm E X es n fs) (hs : starEach (e :: es) X.env = (false, eval e X.env) :: starEach es X.env := by rfl) : LA cm E X (e :: es) (n + 1) (fLCons f fs) := fun G =>
  (pa_cons (ha G) (hr G) hs).via fun σ H Q ⟨ρ, F, fps, k, g, hk, q⟩ => ⟨ρ, F, fps, _, g, hk, fun r ρ1 F1 fps1 v fp H1 g1 l1 t hk1 => by
    obtain ⟨d, e, hk1⟩ := R.as_dat hk1
    obtain ⟨F1', l1', g1', rv⟩ := g1.freeze t e
    exact ⟨ρ1, F1', fps1, _, g1', hk1, fun ds ρ2 F2 fps2 vs H2 g2 l2 ok2 hn hk2 => q (d :: ds) ρ2 F2 fps2 (v :: vs) H2 g2 ((l1.trans l1').trans l2) (.cons (rv.mono l2) ok2) (by rw [List.length_cons, hn]) hk2⟩⟩
def fTup (f : FL) : FR := fun ρ k => f ρ fun ds ρ1 => k (.val (.tuple ds)) ρ1
def fLst (f : FL) : FR := fun ρ k => f ρ fun ds ρ1 => k (.olst ds) ρ1
theorem re_tup {es : List Expr} {n x1 : Nat} {f : FL} (h : LA cm E X es n f) (hn : n ≤ sizeLine := by decide) : RE cm E X (.Tuple es x1 pos) (fTup f) := fun G =>
  (pe_tup (h G)).via fun σ H Q ⟨ρ, F, fps, k, g, hk, q⟩ => ⟨ρ, F, fps, _, g, hk, fun ds ρ1 F1 fps1 vs H1 g1 l1 rv hl hk1 => ⟨by rw [rv.length, hl]; exact hn, fun p np => by
    obtain ⟨g', t⟩ := g1.res (Res.newT g1.sub np rv)
    exact q _ _ _ _ _ _ _ g' (l1.trans (Le.upd (g1.sub.free np))) t hk1⟩⟩
theorem re_lst {es : List Expr} {n : Nat} {f : FL} (h : LA cm E X es n f) (hn : n ≤ sizeLine := by decide) : RE cm E X (.List es pos) (fLst f) := fun G =>
  (pe_lst (h G)).via fun σ H Q ⟨ρ, F, fps, k, g, hk, q⟩ => ⟨ρ, F, fps, _, g, hk, fun ds ρ1 F1 fps1 vs H1 g1 l1 rv hl hk1 => ⟨by rw [rv.length, hl]; exact hn, fun p np => by
    obtain ⟨g', t⟩ := g1.res (Res.newL g1.sub np rv)
    exact q _ _ _ _ _ _ _ g' l1 t hk1⟩⟩
/-- {} -/
def fDic0 (t : Bool) : FR := fun ρ k => k (.odic t []) ρ
theorem Res.newK {Z : KC} {F H : Hp} (s : Le F H) {p : Addr} (n : H p = none) : Res Z F H (.odic false []) (.ref p) F (upd H p (.dK [])) [p] :=
  ⟨Le.refl _, Le.upd n, s.trans (Le.upd n), .odicK upd_same .nil, by simp, fun _ _ h => .inl h, fun a ha => by
    have e : a = p := by simpa using ha
    subst e
    exact ⟨n, s.free n⟩⟩
theorem Res.newTT {Z : KC} {F H : Hp} (s : Le F H) {p : Addr} (n : H p = none) : Res Z F H (.odic true []) (.ref p) F (upd H p (.dT [])) [p] :=
  ⟨Le.refl _, Le.upd n, s.trans (Le.upd n), .odicT upd_same .nil, by simp, fun _ _ h => .inl h, fun a ha => by
    have e : a = p := by simpa using ha
    subst e
    exact ⟨n, s.free n⟩⟩
theorem re_dicK : RE cm E X (.Dict [] [] pos) (fDic0 false) := fun G => pe_dnewK.via fun σ H Q ⟨ρ, F, fps, k, g, hk, q⟩ => fun p np => by
  obtain ⟨g', t⟩ := g.res (Res.newK g.sub np)
  exact q _ _ _ _ _ _ _ g' (Le.refl F) t hk
theorem re_dicT : RE cm E X (.Dict [] [] pos) (fDic0 true) := fun G => pe_dnewT.via fun σ H Q ⟨ρ, F, fps, k, g, hk, q⟩ => fun p np => by
  obtain ⟨g', t⟩ := g.res (Res.newTT g.sub np)
  exact q _ _ _ _ _ _ _ g' (Le.refl F) t hk

/-! ### operators -/
abbrev MulOk (i j : Int) : Prop := CMulX i j
abbrev DivOk (_i j : Int) : Prop := 0 < j ∧ j.natAbs.log2 < 9000
def cAdd : C2 := fun d e κ => match d, e with
  | .int i, .int j => κ (.val (.int (i + j)))
  | .str x, .str y => x.length + y.length ≤ sizeLine ∧ κ (.val (.str (x ++ y)))
  | .list xs, .list ys => xs.length + ys.length ≤ sizeLine ∧ κ (.olst (xs ++ ys))
  | .tuple xs, .tuple ys => xs.length + ys.length ≤ sizeLine ∧ κ (.val (.tuple (xs ++ ys)))
  | _, _ => False
def cSub : C2 := fun d e κ => match d, e with
  | .int i, .int j => κ (.val (.int (i - j)))
  | _, _ => False
def cMul : C2 := fun d e κ => match d, e with
  | .int i, .int j => MulOk i j ∧ κ (.val (.int (i * j)))
  | _, _ => False
def cFdiv : C2 := fun d e κ => match d, e with
  | .int i, .int j => DivOk i j ∧ κ (.val (.int (i / j)))
  | _, _ => False
def cMod : C2 := fun d e κ => match d, e with
  | .int i, .int j => 0 < j ∧ κ (.val (.int (i % j)))
  | _, _ => False
def cPow : C2 := fun d e κ => match d, e with
  | .int i, .int j => CPow i j ∧ κ (.val (.int (i ^ j.toNat)))
  | _, _ => False
def cShl : C2 := fun d e κ => match d, e with
  | .int i, .int j => CPow i j ∧ κ (.val (.int (i * 2 ^ j.toNat)))
  | _, _ => False
def cShr : C2 := fun d e κ => match d, e with
  | .int i, .int j => 0 ≤ j ∧ κ (.val (.int (i / 2 ^ j.toNat)))
  | _, _ => False
def cBit (f : Int → Int → Int) : C2 := fun d e κ => match d, e with
  | .int i, .int j => κ (.val (.int (f i j)))
  | _, _ => False
def cLt : C2 := fun d e κ => match d, e with
  | .int i, .int j => κ (.val (.bool (decide (i < j))))
  | _, _ => False
def cLe : C2 := fun d e κ => match d, e with
  | .int i, .int j => κ (.val (.bool (decide (i ≤ j))))
  | _, _ => False
def cGt : C2 := fun d e κ => match d, e with
  | .int i, .int j => κ (.val (.bool (decide (j < i))))
  | _, _ => False
def cGe : C2 := fun d e κ => match d, e with
  | .int i, .int j => κ (.val (.bool (decide (j ≤ i))))
  | _, _ => False
def cEq : C2 := fun d e κ => SeqAt.shaped d = true ∧ SeqAt.shaped e = true ∧ κ (.val (.bool (PyData.eqv d e)))
def cNe : C2 := fun d e κ => SeqAt.shaped d = true ∧ SeqAt.shaped e = true ∧ κ (.val (.bool (!PyData.eqv d e)))
def isNonD : D → Bool
  | .none => true
  | _ => false
def cIs : C2 := fun d e κ => e = .none ∧ κ (.val (.bool (isNonD d)))
def cIsNot : C2 := fun d e κ => e = .none ∧ κ (.val (.bool (!isNonD d)))
/-- a list of a tuple's items, or a list's -/
def seqOf : D → Option (List D)
  | .list xs => some xs
  | .tuple xs => some xs
  | _ => none
def flatD : D → Bool
  | .none => true
  | .bool _ => true
  | .int _ => true
  | .str _ => true
  | _ => false
/-- flat things in a list or tuple; data in a list of data -/
def cIn (neg : Bool) : C2 := fun d e κ => match e with
  | .tuple ys => flatD d = true ∧ ys.all flatD = true ∧ κ (.val (.bool (if neg then !ys.any (fun y => PyData.eqv y d) else ys.any (fun y => PyData.eqv y d))))
  | .list ys => ((flatD d = true ∧ ys.all flatD = true) ∨ (SeqAt.shaped d = true ∧ SeqAt.shaped (.list ys) = true)) ∧ κ (.val (.bool (if neg then !ys.any (fun y => PyData.eqv y d) else ys.any (fun y => PyData.eqv y d))))
  | _ => False

section
variable {F H : Hp} {x y : V} {d e : D} {κ : R → Prop} {Q : VK}
theorem ret_val (s : Le F H) {z : V} {w : D} (h : Rv X.K F z w) (q : ∀ z v F' H' fp, Res ⟨X.K, cm⟩ F H z v F' H' fp → κ z → Q v H') (hk : κ (.val w)) : Q z H := q _ _ _ _ _ (Res.val s h) hk
end
/-- int, int to int -/
theorem ops_ii {C : Int → Int → Prop} {f : Int → Int → Int} {c : C2} (hc : ∀ d e κ, c d e κ → ∃ i j, d = .int i ∧ e = .int j ∧ C i j ∧ κ (.val (.int (f i j)))) : OpS cm X (rI C fun i j => .int (f i j)) c := by
  intro F H x y d e κ Q s h1 h2 h q
  obtain ⟨i, j, rfl, rfl, hC, hk⟩ := hc d e κ h
  exact ⟨i, j, h1.inti, h2.inti, hC, ret_val s (.int _) q hk⟩
theorem ops_ii0 {f : Int → Int → Int} {c : C2} (hc : ∀ d e κ, c d e κ → ∃ i j, d = .int i ∧ e = .int j ∧ κ (.val (.int (f i j)))) : OpS cm X (rI0 fun i j => .int (f i j)) c := by
  intro F H x y d e κ Q s h1 h2 h q
  obtain ⟨i, j, rfl, rfl, hk⟩ := hc d e κ h
  exact ⟨i, j, h1.inti, h2.inti, ret_val s (.int _) q hk⟩
theorem ops_ib0 {f : Int → Int → Bool} {c : C2} (hc : ∀ d e κ, c d e κ → ∃ i j, d = .int i ∧ e = .int j ∧ κ (.val (.bool (f i j)))) : OpS cm X (rI0 fun i j => .bl (f i j)) c := by
  intro F H x y d e κ Q s h1 h2 h q
  obtain ⟨i, j, rfl, rfl, hk⟩ := hc d e κ h
  exact ⟨i, j, h1.inti, h2.inti, ret_val s (.bl _) q hk⟩
theorem os_sub : OpS cm X (rI0 fun i j => .int (i - j)) cSub := ops_ii0 fun d e κ h => by
  unfold cSub at h; split at h
  · exact ⟨_, _, rfl, rfl, h⟩
  · exact h.elim
theorem os_fdiv : OpS cm X (rI CDivW fun i j => .int (i / j)) cFdiv := ops_ii fun d e κ h => by
  unfold cFdiv at h; split at h
  · exact ⟨_, _, rfl, rfl, h.1, h.2⟩
  · exact h.elim
theorem os_mod : OpS cm X (rI (fun _ j => 0 < j) fun i j => .int (i % j)) cMod := ops_ii fun d e κ h => by
  unfold cMod at h; split at h
  · exact ⟨_, _, rfl, rfl, h.1, h.2⟩
  · exact h.elim
theorem os_pow : OpS cm X (rI CPow fun i j => .int (i ^ j.toNat)) cPow := ops_ii fun d e κ h => by
  unfold cPow at h; split at h
  · exact ⟨_, _, rfl, rfl, h.1, h.2⟩
  · exact h.elim
theorem os_shl : OpS cm X (rI CPow fun i j => .int (i * 2 ^ j.toNat)) cShl := ops_ii fun d e κ h => by
  unfold cShl at h; split at h
  · exact ⟨_, _, rfl, rfl, h.1, h.2⟩
  · exact h.elim
theorem os_shr : OpS cm X (rI (fun _ j => 0 ≤ j) fun i j => .int (i / 2 ^ j.toNat)) cShr := ops_ii fun d e κ h => by
  unfold cShr at h; split at h
  · exact ⟨_, _, rfl, rfl, h.1, h.2⟩
  · exact h.elim
theorem os_bit {f : Int → Int → Int} : OpS cm X (rI0 fun i j => .int (f i j)) (cBit f) := ops_ii0 fun d e κ h => by
  unfold cBit at h; split at h
  · exact ⟨_, _, rfl, rfl, h⟩
  · exact h.elim
theorem os_lt : OpS cm X (rI0 fun i j => .bl (decide (i < j))) cLt := ops_ib0 fun d e κ h => by
  unfold cLt at h; split at h
  · exact ⟨_, _, rfl, rfl, h⟩
  · exact h.elim
theorem os_le : OpS cm X (rI0 fun i j => .bl (decide (i ≤ j))) cLe := ops_ib0 fun d e κ h => by
  unfold cLe at h; split at h
  · exact ⟨_, _, rfl, rfl, h⟩
  · exact h.elim
theorem os_gt : OpS cm X (rI0 fun i j => .bl (decide (j < i))) cGt := ops_ib0 fun d e κ h => by
  unfold cGt at h; split at h
  · exact ⟨_, _, rfl, rfl, h⟩
  · exact h.elim
theorem os_ge : OpS cm X (rI0 fun i j => .bl (decide (j ≤ i))) cGe := ops_ib0 fun d e κ h => by
  unfold cGe at h; split at h
  · exact ⟨_, _, rfl, rfl, h⟩
  · exact h.elim

/-! a list joined, a list repeated: whatever holds it -/
def rCatR (K : PySem.W.Frag) : R2 := fun x y H Q => ∃ l b xs zs, x = .ref l ∧ y = .ref b ∧ RdL K H l xs ∧ RdL K H b zs ∧ xs.length + zs.length ≤ sizeLine ∧ ∀ p, H p = none → Q (.ref p) (upd H p (.lst (xs ++ zs)))
theorem Inv.lstR {pins : List (Addr × Obj)} {s : Shared} {σ : L2.St} {H : Hp} {l : Addr} {xs : List V} (I : Inv X pins σ H s) (hH : RdL X.K H l xs) : xs.length ≤ sizeLine ∧ ∃ (its : List Value) (n : Nat), Vals xs its ∧ xs.length = its.length ∧ s.heap.get? l = some { cls := .type "list", data := .seq its.toArray n } := by
  rcases hH with hH | ⟨its, n, hk, hz, r⟩
  · obtain ⟨z, its, n, r, e⟩ := hH.ok I.hok
    exact ⟨z, its, n, r, r.length, e⟩
  · have e := r.length
    simp only [Array.length_toList] at e
    exact ⟨by omega, its.toList, n, r, by simpa using e, by have := I.kIn l _ hk; simpa using this⟩
theorem op_catR : OpR X (binaryOp .Add) (rCatR X.K) := by
  intro pins s σ H x y v u Q I rx ry h
  obtain ⟨l, b, xs, zs, rfl, rfl, hH, hB, hz, q⟩ := h
  cases rx
  cases ry
  obtain ⟨z, its, n, r, hl, e⟩ := Inv.lstR I hH
  obtain ⟨z2, its2, n2, r2, hl2, e2⟩ := Inv.lstR I hB
  refine PySem.P.add_list e e2 ?_ (by rw [List.size_toArray, List.size_toArray]; omega)
  have ea : its.toArray ++ its2.toArray = (its ++ its2).toArray := by simp
  rw [ea]
  exact ⟨.ref _, _, I.lnew (t' := s.toks) (r.append r2) (by rw [List.length_append]; omega), rfl, q _ I.fresh⟩
def rAddAll (K : PySem.W.Frag) : R2 := fun x y H Q => rI0 (fun i j => .int (i + j)) x y H Q ∨ (∃ i j, x = .str i ∧ y = .str j ∧ i.length + j.length ≤ sizeLine ∧ Q (.str (i ++ j)) H) ∨ rCatR K x y H Q ∨ rCatA K x y H Q
theorem op_addAll : OpR X (binaryOp .Add) (rAddAll X.K) := op_add.or (op_add_str.or (op_catR.or op_catA))
theorem os_add : OpS cm X (rAddAll X.K) cAdd := by
  intro F H x y d e κ Q s h1 h2 h q
  unfold cAdd at h
  split at h
  · exact .inl ⟨_, _, h1.inti, h2.inti, ret_val s (.int _) q h⟩
  · exact .inr (.inl ⟨_, _, h1.stri, h2.stri, h.1, ret_val s (.str _) q h.2⟩)
  · obtain ⟨a, vs, rfl, ra, va⟩ := h1.lsti s
    obtain ⟨b, ws, rfl, rb, vb⟩ := h2.lsti s
    refine .inr (.inr (.inl ⟨a, b, vs, ws, rfl, rfl, ra, rb, by rw [va.length, vb.length]; exact h.1, fun p np => ?_⟩))
    exact q _ _ _ _ _ (Res.newL s np (va.append vb)) h.2
  · obtain ⟨a, vs, rfl, ra, ra', va⟩ := h1.tupi s
    obtain ⟨b, ws, rfl, rb, rb', vb⟩ := h2.tupi s
    refine .inr (.inr (.inr ⟨a, b, vs, ws, rfl, rfl, ra, rb, by rw [va.length, vb.length]; exact h.1, fun z => ?_, fun z1 z2 => ?_, fun z1 z2 p np => ?_⟩))
    · subst z
      cases va
      exact ret_val s (.tup rb' vb) q h.2
    · subst z2
      cases vb
      have hk := h.2
      rw [List.append_nil] at hk
      exact ret_val s (.tup ra' va) q hk
    · exact q _ _ _ _ _ (Res.newT s np (va.append vb)) h.2
  · exact h.elim
theorem RvAll.rep {K : PySem.W.Frag} {F : Hp} {vs : List V} {ds : List D} (h : RvAll K F vs ds) : ∀ n : Nat, RvAll K F (List.replicate n vs).flatten (List.replicate n ds).flatten
  | 0 => .nil
  | n + 1 => by rw [List.replicate_succ, List.replicate_succ, List.flatten_cons, List.flatten_cons]; exact h.append (h.rep n)
theorem os_mul : OpS cm X (rI CMulX fun i j => .int (i * j)) cMul := ops_ii fun d e κ h => by
  unfold cMul at h; split at h
  · exact ⟨_, _, rfl, rfl, h.1, h.2⟩
  · exact h.elim
theorem os_eq : OpS cm X (rEqD X.K) cEq := by
  intro F H x y d e κ Q s h1 h2 h q
  obtain ⟨s1, s2, hk⟩ := h
  exact ⟨d, e, (h1.rv s).dp (SeqAt.canLay_of_shaped s1), (h2.rv s).dp (SeqAt.canLay_of_shaped s2), s1, s2, ret_val s (.bl _) q hk⟩
theorem os_ne : OpS cm X (rNeD X.K) cNe := by
  intro F H x y d e κ Q s h1 h2 h q
  obtain ⟨s1, s2, hk⟩ := h
  exact ⟨d, e, (h1.rv s).dp (SeqAt.canLay_of_shaped s1), (h2.rv s).dp (SeqAt.canLay_of_shaped s2), s1, s2, ret_val s (.bl _) q hk⟩
theorem Rv.non_iff {K : PySem.W.Frag} {H : Hp} {v : V} {d : D} (h : Rv K H v d) : decide (v = .non) = isNonD d := by
  cases h <;> rfl
theorem os_is : OpS cm X (fun x y H Q => y = .non ∧ Q (.bl (decide (x = .non))) H) cIs := by
  intro F H x y d e κ Q s h1 h2 h q
  obtain ⟨rfl, hk⟩ := h
  refine ⟨h2.noni, ?_⟩
  rw [(h1.rv s).non_iff]
  exact ret_val s (.bl _) q hk
theorem os_isnot : OpS cm X (fun x y H Q => y = .non ∧ Q (.bl (!decide (x = .non))) H) cIsNot := by
  intro F H x y d e κ Q s h1 h2 h q
  obtain ⟨rfl, hk⟩ := h
  refine ⟨h2.noni, ?_⟩
  rw [(h1.rv s).non_iff]
  exact ret_val s (.bl _) q hk
/-! in -/
theorem Rv.flat {K : PySem.W.Frag} {H : Hp} {v : V} {d : D} (h : Rv K H v d) (f : flatD d = true) : flatV v = true := by
  cases h <;> first | rfl | cases f
theorem RvAll.flat {K : PySem.W.Frag} {H : Hp} : ∀ {vs : List V} {ds : List D}, RvAll K H vs ds → ds.all flatD = true → vs.all flatV = true
  | _, _, .nil, _ => rfl
  | _, _, .cons h r, f => by
    rw [List.all_cons, Bool.and_eq_true] at f
    rw [List.all_cons, Bool.and_eq_true]
    exact ⟨h.flat f.1, r.flat f.2⟩
theorem Rv.eqV {K : PySem.W.Frag} {H : Hp} {v w : V} {d e : D} (h : Rv K H v d) (h' : Rv K H w e) (f : flatD d = true) (f' : flatD e = true) : L2.eqV v w = PyData.eqv d e := by
  cases h <;> first | cases f | skip
  all_goals (cases h' <;> first | cases f' | skip)
  all_goals rfl
theorem RvAll.inV {K : PySem.W.Frag} {H : Hp} {v : V} {d : D} (h : Rv K H v d) (f : flatD d = true) : ∀ {vs : List V} {ds : List D}, RvAll K H vs ds → ds.all flatD = true → L2.inV v vs = ds.any (fun y => PyData.eqv y d)
  | _, _, .nil, _ => rfl
  | _, _, .cons h2 r, f2 => by
    rw [List.all_cons, Bool.and_eq_true] at f2
    have ih := RvAll.inV h f r f2.2
    unfold L2.inV at ih ⊢
    rw [List.any_cons, List.any_cons, ih, h2.eqV h f2.1 f]
def rInAll (K : PySem.W.Frag) (neg : Bool) : R2 := fun x y H Q => rIn K neg x y H Q ∨ (if neg then rNotInD K else rInD K) x y H Q
theorem op_inAll (hu : X.A.units + 65 < cLine) : OpR X (compareOp .In) (rInAll X.K false) := op_in_seq.or (op_inD hu)
theorem op_notInAll (hu : X.A.units + 65 < cLine) : OpR X (compareOp .NotIn) (rInAll X.K true) := op_notIn_seq.or (op_notInD hu)
theorem os_in {neg : Bool} : OpS cm X (rInAll X.K neg) (cIn neg) := by
  intro F H x y d e κ Q s h1 h2 h q
  unfold cIn at h
  split at h
  · obtain ⟨f1, f2, hk⟩ := h
    obtain ⟨b, ws, rfl, rb, rb', vb⟩ := h2.tupi s
    have z := RvAll.inV (h1.rv s) f1 (vb.mono s) f2
    refine .inl ⟨b, ws, rfl, .inr rb, (h1.rv s).flat f1, vb.flat f2, ?_⟩
    rw [z]
    exact ret_val s (.bl _) q hk
  · obtain ⟨f, hk⟩ := h
    obtain ⟨b, ws, rfl, rb, vb⟩ := h2.lsti s
    rcases f with ⟨f1, f2⟩ | ⟨f1, f2⟩
    · have z := RvAll.inV (h1.rv s) f1 (vb.mono s) f2
      refine .inl ⟨b, ws, rfl, .inl rb.sq, (h1.rv s).flat f1, vb.flat f2, ?_⟩
      rw [z]
      exact ret_val s (.bl _) q hk
    · cases neg with
      | true => exact .inr ⟨d, _, (h1.rv s).dp (SeqAt.canLay_of_shaped f1), (h2.rv s).dp (SeqAt.canLay_of_shaped f2), f1, f2, ret_val s (.bl _) q hk⟩
      | false => exact .inr ⟨d, _, (h1.rv s).dp (SeqAt.canLay_of_shaped f1), (h2.rv s).dp (SeqAt.canLay_of_shaped f2), f1, f2, ret_val s (.bl _) q hk⟩
  · exact h.elim
/-! items -/
def cIx : C2 := fun d e κ => match d, e with
  | .list xs, .int i => ∃ z, atI xs i = some z ∧ κ (.val z)
  | .tuple xs, .int i => ∃ z, atI xs i = some z ∧ κ (.val z)
  | .str x, .int i => x.length ≤ sizeLine ∧ ∃ c, atI x.cps.toList i = some c ∧ κ (.val (.str ⟨#[c]⟩))
  | _, _ => False
theorem RvAll.atI {K : PySem.W.Frag} {F : Hp} {vs : List V} {ds : List D} {i : Int} {z : D} (h : RvAll K F vs ds) (e : L2.atI ds i = some z) : ∃ v, L2.atI vs i = some v ∧ Rv K F v z := by
  unfold L2.atI at e ⊢
  rw [h.length]
  cases q : ixN ds.length i with
  | none => rw [q] at e; cases e
  | some j =>
    rw [q] at e
    exact h.get e
theorem os_ix : OpS cm X (rIx X.K) cIx := by
  intro F H x y d e κ Q s h1 h2 h q
  unfold cIx at h
  split at h
  · obtain ⟨z, hz, hk⟩ := h
    obtain ⟨b, ws, rfl, rb, vb⟩ := h1.lsti s
    obtain ⟨v, hv, rv⟩ := vb.atI hz
    exact .inl ⟨b, ws, _, v, rfl, h2.inti, rb.sq, hv, ret_val s rv q hk⟩
  · obtain ⟨z, hz, hk⟩ := h
    obtain ⟨b, ws, rfl, rb, rb', vb⟩ := h1.tupi s
    obtain ⟨v, hv, rv⟩ := vb.atI hz
    exact .inr (.inl ⟨b, ws, _, v, rfl, h2.inti, rb, hv, ret_val s rv q hk⟩)
  · obtain ⟨hl, c, hc, hk⟩ := h
    exact .inr (.inr ⟨_, _, c, h1.stri, h2.inti, hl, hc, ret_val s (.str _) q hk⟩)
  · exact h.elim
/-! -x, abs .. -/
def cNeg : D → (R → Prop) → Prop := fun d κ => match d with
  | .int i => κ (.val (.int (-i)))
  | _ => False
def fNeg (f : FR) : FR := fun ρ k => f ρ fun r ρ1 => r.as fun d => cNeg d fun z => k z ρ1
theorem re_neg {a : Expr} {f : FR} (h : RE cm E X a f) : RE cm E X (.UnaryOp .USub a pos) (fNeg f) := fun G =>
  (pe_un un_neg (h G)).via fun σ H Q ⟨ρ, F, fps, k, g, hk, q⟩ => ⟨ρ, F, fps, _, g, hk, fun r ρ1 F1 fps1 v fp H1 g1 l1 t hk1 => by
    obtain ⟨d, e, hk1⟩ := R.as_dat hk1
    unfold cNeg at hk1
    split at hk1
    · have := (t.rl.lk e).inti
      exact ⟨_, this, q _ _ _ _ _ _ _ g1 l1 (Tmp.val (.int _)) hk1⟩
    · exact hk1.elim⟩

/-! ### built-in functions -/
abbrev CN := List D → (R → Prop) → Prop
def CallS (cm : CM) (X : Cx) (r : List V → Hp → VK → Prop) (c : CN) : Prop := ∀ (F H : Hp) (xs : List V) (ds : List D) (κ : R → Prop) (Q : VK), Le F H → LkAll X.K F H xs ds → c ds κ →
  (∀ z v F' H' fp, Res ⟨X.K, cm⟩ F H z v F' H' fp → κ z → Q v H') → r xs H Q
def rdAll : List RdF → Ev → (List D → Prop) → Prop
  | [], _, κ => κ []
  | rd :: rs, ρ, κ => rd ρ fun d => rdAll rs ρ fun ds => κ (d :: ds)
theorem RdAll.get {Z : KC} {G : Addr → HO → Prop} {σ : L2.St} {F : Hp} {ρe : Ev} {He Fe : Hp} {fpse : Nat → List Addr} (g : Good Z E G ρe σ He Fe fpse) (l : Le F Fe) :
    ∀ {rds : List RdF} {vs : List V}, RdAll Z E G σ F rds vs → ∀ {κ : List D → Prop}, rdAll rds ρe κ → ∃ ds, LkAll Z.K Fe He vs ds ∧ κ ds
  | _, _, .nil, κ, h => ⟨[], .nil, h⟩
  | _, _, .cons ok r, κ, h => by
    obtain ⟨d, lk, h⟩ := ok _ _ _ _ g l _ h
    obtain ⟨ds, lks, h⟩ := RdAll.get g l r h
    exact ⟨d :: ds, .cons lk lks, h⟩
def fCB (c : CN) (fs : FOs) : FR := fun ρ k => fs ρ fun rds ρ1 => rdAll rds ρ1 fun ds => c ds fun z => k z ρ1
theorem tCB_of {r : List V → Hp → VK → Prop} {c : CN} {fs : FOs} (hc : CallS cm X r c) (G : Addr → HO → Prop) (σ : L2.St) (H : Hp) (Q : VK) (h : tR ⟨X.K, cm⟩ E G (fCB c fs) σ H Q) : tCB r (tOs ⟨X.K, cm⟩ E G fs) σ H Q := by
  obtain ⟨ρ, F, fps, k, g, hk, q⟩ := h
  refine ⟨ρ, F, fps, _, g, hk, fun rds ρ1 F1 fps1 vs H1 g1 l1 ok hk1 => ?_⟩
  obtain ⟨ds, lk, hk1⟩ := RdAll.get g1 (Le.refl F1) ok hk1
  refine hc F1 H1 vs ds _ Q g1.sub lk hk1 fun z v F' H' fp res hκ => ?_
  obtain ⟨g', t⟩ := g1.res res
  exact q _ _ _ _ _ _ _ g' (l1.trans res.leF) t hκ
theorem re_callB {x : Str} {p : Pos} {e : Expr} {es : List Expr} {id : String} {r : List V → Hp → VK → Prop} {c : CN} {fs : FOs} (hr : CallR X (.builtin id) r) (hc : CallS cm X r c) (hg : Gl X x) (hm : X.mg x = none) (hv : bootBuiltins x = some (.builtin id)) (ha : OA cm E X (e :: es) fs) (hn : x ≠ "__name__" := by decide) (hdb : (x == ("__debug__" : Str)) = false := by decide)
    (he : starEach (e :: es) X.env = (false, eval e X.env) :: starEach es X.env := by rfl) (hpl : (backTo pos (starEach es X.env)).any (·.1) = false := by rfl) : RE cm E X (.Call (.Name x p) (e :: es) [] pos) (fCB c fs) := fun G =>
  (pe_callB hr hg hm hv (ha G) hn hdb he hpl).via fun σ H Q h => tCB_of hc G σ H Q h
theorem re_callTy {x : Str} {p : Pos} {e : Expr} {es : List Expr} {T : String} {r : List V → Hp → VK → Prop} {c : CN} {fs : FOs} (hr : CallR X (.type T) r) (hc : CallS cm X r c) (hg : Gl X x) (hm : X.mg x = none) (hv : bootBuiltins x = some (.type T)) (ha : OA cm E X (e :: es) fs) (hn : x ≠ "__name__" := by decide) (hdb : (x == ("__debug__" : Str)) = false := by decide)
    (he : starEach (e :: es) X.env = (false, eval e X.env) :: starEach es X.env := by rfl) (hpl : (backTo pos (starEach es X.env)).any (·.1) = false := by rfl) : RE cm E X (.Call (.Name x p) (e :: es) [] pos) (fCB c fs) := fun G =>
  (pe_callTy hr hg hm hv (ha G) hn hdb he hpl).via fun σ H Q h => tCB_of hc G σ H Q h
/-! the functions -/
def cLen : CN := fun ds κ => match ds with
  | [.list xs] => κ (.val (.int xs.length))
  | [.tuple xs] => κ (.val (.int xs.length))
  | [.str x] => x.length ≤ sizeLine ∧ κ (.val (.int x.length))
  | _ => False
theorem cs_len : CallS cm X (fun xs H Q => ∃ x n, xs = [x] ∧ LenV X.K x H n ∧ Q (.int n) H) cLen := by
  intro F H xs ds κ Q s lk h q
  unfold cLen at h
  split at h
  · obtain ⟨v, r, rfl, lk1, lr⟩ := lk.consi
    obtain rfl := lr.nili
    obtain ⟨a, vs, rfl, ra, va⟩ := lk1.lsti s
    refine ⟨_, vs.length, rfl, .inl ⟨vs, ra.sq, rfl⟩, ?_⟩
    rw [va.length]
    exact ret_val s (.int _) q h
  · obtain ⟨v, r, rfl, lk1, lr⟩ := lk.consi
    obtain rfl := lr.nili
    obtain ⟨a, vs, rfl, ra, ra', va⟩ := lk1.tupi s
    refine ⟨_, vs.length, rfl, .inr ⟨vs, ra, rfl⟩, ?_⟩
    rw [va.length]
    exact ret_val s (.int _) q h
  · obtain ⟨v, r, rfl, lk1, lr⟩ := lk.consi
    obtain rfl := lr.nili
    refine ⟨_, _, rfl, ?_, ret_val s (.int _) q h.2⟩
    rw [lk1.stri]
    exact ⟨h.1, rfl⟩
  · exact h.elim
def cList : CN := fun ds κ => match ds with
  | [.list xs] => κ (.olst xs)
  | [.tuple xs] => κ (.olst xs)
  | _ => False
theorem cs_list : CallS cm X (fun xs H Q => ∃ p ys, xs = [.ref p] ∧ (SqL X.K H p ys ∨ SqT X.K H p ys) ∧ ∀ l, H l = none → Q (.ref l) (upd H l (.lst ys))) cList := by
  intro F H xs ds κ Q s lk h q
  unfold cList at h
  split at h
  · obtain ⟨v, r, rfl, lk1, lr⟩ := lk.consi
    obtain rfl := lr.nili
    obtain ⟨a, vs, rfl, ra, va⟩ := lk1.lsti s
    exact ⟨a, vs, rfl, .inl ra.sq, fun p np => q _ _ _ _ _ (Res.newL s np va) h⟩
  · obtain ⟨v, r, rfl, lk1, lr⟩ := lk.consi
    obtain rfl := lr.nili
    obtain ⟨a, vs, rfl, ra, ra', va⟩ := lk1.tupi s
    exact ⟨a, vs, rfl, .inr ra, fun p np => q _ _ _ _ _ (Res.newL s np va) h⟩
  · exact h.elim
def cTuple : CN := fun ds κ => match ds with
  | [.list xs] => κ (.val (.tuple xs))
  | [.tuple xs] => κ (.val (.tuple xs))
  | _ => False
theorem cs_tuple : CallS cm X (fun xs H Q => ∃ p ys, xs = [.ref p] ∧ ((SqL X.K H p ys ∧ ∀ l, H l = none → Q (.ref l) (upd H l (.tup ys))) ∨ (SqT X.K H p ys ∧ Q (.ref p) H))) cTuple := by
  intro F H xs ds κ Q s lk h q
  unfold cTuple at h
  split at h
  · obtain ⟨v, r, rfl, lk1, lr⟩ := lk.consi
    obtain rfl := lr.nili
    obtain ⟨a, vs, rfl, ra, va⟩ := lk1.lsti s
    exact ⟨a, vs, rfl, .inl ⟨ra.sq, fun p np => q _ _ _ _ _ (Res.newT s np va) h⟩⟩
  · obtain ⟨v, r, rfl, lk1, lr⟩ := lk.consi
    obtain rfl := lr.nili
    obtain ⟨a, vs, rfl, ra, ra', va⟩ := lk1.tupi s
    exact ⟨a, vs, rfl, .inr ⟨ra, ret_val s (.tup ra' va) q h⟩⟩
  · exact h.elim
def cAll : CN := fun ds κ => match ds with
  | [.list xs] => ∃ bs : List Bool, xs = bs.map PyData.bool ∧ κ (.val (.bool (bs.all id)))
  | _ => False
def cAny : CN := fun ds κ => match ds with
  | [.list xs] => ∃ bs : List Bool, xs = bs.map PyData.bool ∧ κ (.val (.bool (bs.any id)))
  | _ => False
theorem cs_all : CallS cm X (rAll X.K) cAll := by
  intro F H xs ds κ Q s lk h q
  unfold cAll at h
  split at h
  · obtain ⟨v, r, rfl, lk1, lr⟩ := lk.consi
    obtain rfl := lr.nili
    obtain ⟨bs, e, h⟩ := h
    obtain ⟨a, vs, rfl, ra, va⟩ := lk1.lsti s
    subst e
    obtain rfl := va.bls
    exact ⟨a, bs, rfl, ra.sq, ret_val s (.bl _) q h⟩
  · exact h.elim
theorem cs_any : CallS cm X (rAny X.K) cAny := by
  intro F H xs ds κ Q s lk h q
  unfold cAny at h
  split at h
  · obtain ⟨v, r, rfl, lk1, lr⟩ := lk.consi
    obtain rfl := lr.nili
    obtain ⟨bs, e, h⟩ := h
    obtain ⟨a, vs, rfl, ra, va⟩ := lk1.lsti s
    subst e
    obtain rfl := va.bls
    exact ⟨a, bs, rfl, ra.sq, ret_val s (.bl _) q h⟩
  · exact h.elim
def cSum : CN := fun ds κ => match ds with
  | [.list xs] => ∃ ns : List Int, xs = ns.map PyData.int ∧ κ (.val (.int ns.sum))
  | _ => False
theorem cs_sum : CallS cm X (rSum X.K) cSum := by
  intro F H xs ds κ Q s lk h q
  unfold cSum at h
  split at h
  · obtain ⟨v, r, rfl, lk1, lr⟩ := lk.consi
    obtain rfl := lr.nili
    obtain ⟨bs, e, h⟩ := h
    obtain ⟨a, vs, rfl, ra, va⟩ := lk1.lsti s
    subst e
    obtain rfl := va.ints
    exact ⟨a, bs, rfl, ra.sq, ret_val s (.int _) q h⟩
  · exact h.elim
def cAbs : CN := fun ds κ => match ds with
  | [.int i] => κ (.val (.int (if i < 0 then -i else i)))
  | _ => False
theorem cs_abs : CallS cm X (fun xs H Q => ∃ i, xs = [.int i] ∧ Q (.int (if i < 0 then -i else i)) H) cAbs := by
  intro F H xs ds κ Q s lk h q
  unfold cAbs at h
  split at h
  · obtain ⟨v, r, rfl, lk1, lr⟩ := lk.consi
    obtain rfl := lr.nili
    exact ⟨_, by rw [lk1.inti], ret_val s (.int _) q h⟩
  · exact h.elim
def cMin2 : CN := fun ds κ => match ds with
  | [.int i, .int j] => κ (.val (.int (if j < i then j else i)))
  | _ => False
def cMax2 : CN := fun ds κ => match ds with
  | [.int i, .int j] => κ (.val (.int (if j > i then j else i)))
  | _ => False
theorem cs_min2 : CallS cm X (fun xs H Q => ∃ i j, xs = [.int i, .int j] ∧ Q (.int (if j < i then j else i)) H) cMin2 := by
  intro F H xs ds κ Q s lk h q
  unfold cMin2 at h
  split at h
  · obtain ⟨v, r, rfl, lk1, lr⟩ := lk.consi
    obtain ⟨v', r, rfl, lk', lr⟩ := lr.consi
    obtain rfl := lr.nili
    exact ⟨_, _, by rw [lk1.inti, lk'.inti], ret_val s (.int _) q h⟩
  · exact h.elim
theorem cs_max2 : CallS cm X (fun xs H Q => ∃ i j, xs = [.int i, .int j] ∧ Q (.int (if j > i then j else i)) H) cMax2 := by
  intro F H xs ds κ Q s lk h q
  unfold cMax2 at h
  split at h
  · obtain ⟨v, r, rfl, lk1, lr⟩ := lk.consi
    obtain ⟨v', r, rfl, lk', lr⟩ := lr.consi
    obtain rfl := lr.nili
    exact ⟨_, _, by rw [lk1.inti, lk'.inti], ret_val s (.int _) q h⟩
  · exact h.elim
def cDivmod : CN := fun ds κ => match ds with
  | [.int i, .int j] => DivOk i j ∧ κ (.val (.tuple [.int (i / j), .int (i % j)]))
  | _ => False
theorem cs_divmod : CallS cm X (fun xs H Q => ∃ i j, xs = [.int i, .int j] ∧ CDivP i j ∧ ∀ p, H p = none → Q (.ref p) (upd H p (.tup [.int (i / j), .int (i % j)]))) cDivmod := by
  intro F H xs ds κ Q s lk h q
  unfold cDivmod at h
  split at h
  · obtain ⟨v, r, rfl, lk1, lr⟩ := lk.consi
    obtain ⟨v', r, rfl, lk', lr⟩ := lr.consi
    obtain rfl := lr.nili
    refine ⟨_, _, by rw [lk1.inti, lk'.inti], ⟨h.1.1, PyProof.noPylong_of_log2 h.1.2⟩, fun p np => ?_⟩
    exact q _ _ _ _ _ (Res.newT s np (.cons (.int _) (.cons (.int _) .nil))) h.2
  · exact h.elim
def cInt : CN := fun ds κ => match ds with
  | [.int i] => κ (.val (.int i))
  | [.bool b] => κ (.val (.int (if b then 1 else 0)))
  | _ => False
theorem cs_int : CallS cm X (fun xs H Q => (∃ i, xs = [.int i] ∧ Q (.int i) H) ∨ ∃ k, xs = [.bl k] ∧ Q (.int (if k then 1 else 0)) H) cInt := by
  intro F H xs ds κ Q s lk h q
  unfold cInt at h
  split at h
  · obtain ⟨v, r, rfl, lk1, lr⟩ := lk.consi
    obtain rfl := lr.nili
    exact .inl ⟨_, by rw [lk1.inti], ret_val s (.int _) q h⟩
  · obtain ⟨v, r, rfl, lk1, lr⟩ := lk.consi
    obtain rfl := lr.nili
    exact .inr ⟨_, by rw [lk1.bli], ret_val s (.int _) q h⟩
  · exact h.elim
def cStrI : CN := fun ds κ => match ds with
  | [.int i] => i.natAbs.log2 < 1920 ∧ κ (.val (.str (toString i)))
  | _ => False
theorem cs_strI : CallS cm X (fun xs H Q => ∃ i, xs = [.int i] ∧ i.natAbs.log2 < 1920 ∧ Q (.str (toString i)) H) cStrI := by
  intro F H xs ds κ Q s lk h q
  unfold cStrI at h
  split at h
  · obtain ⟨v, r, rfl, lk1, lr⟩ := lk.consi
    obtain rfl := lr.nili
    exact ⟨_, by rw [lk1.inti], h.1, ret_val s (.str _) q h.2⟩
  · exact h.elim
/-! isinstance, of built-in classes -/
def tyD : D → String
  | .none => "NoneType"
  | .bool _ => "bool"
  | .int _ => "int"
  | .str _ => "str"
  | .list _ => "list"
  | .tuple _ => "tuple"
  | .dict _ => "dict"
def isTy (t c : String) : Bool := t == c || (t == "bool" && c == "int")
/-- not a dict by tuples -/
def dkD : D → Bool
  | .dict ((.tuple _, _) :: _) => false
  | _ => true
def fIsI (c : String) (f : FO) : FR := fun ρ k => f ρ fun rd ρ1 => rd ρ1 fun d => dkD d = true ∧ k (.val (.bool (isTy (tyD d) c))) ρ1
theorem Rv.tyx {K : PySem.W.Frag} {H : Hp} {v : V} {d : D} (h : Rv K H v d) (hd : dkD d = true) : TyX K H v (.type (tyD d)) := by
  cases h with
  | non => exact .base .non
  | bl b => exact .base (.bl b)
  | int i => exact .base (.int i)
  | str x => exact .base (.str x)
  | lst h r =>
    rcases h with (h | ⟨o, h⟩) | ⟨its, n, h, _⟩
    · exact .base (.lst h)
    · exact .base (.frz h)
    · exact .kList h rfl
  | tup h r => exact .base (.tup h)
  | dicK h r => exact .fDict h
  | dicT h n r =>
    cases r with
    | nil => exact absurd rfl n
    | cons h r => cases hd
theorem kit_ty (K : PySem.W.Frag) (d : D) (c : String) (hc : c = "int" ∨ c = "bool" ∨ c = "tuple" ∨ c = "list" ∨ c = "str" ∨ c = "dict") : PySem.W.kitOne K (.type (tyD d)) (.type c) = some (isTy (tyD d) c) := by
  cases d <;> (rcases hc with rfl | rfl | rfl | rfl | rfl | rfl) <;> kernel_rfl
theorem re_isi {p : Pos} {e : Expr} {c : String} {f : FO} (hg : Gl X "isinstance") (hm : X.mg "isinstance" = none) (hv : bootBuiltins "isinstance" = some (.builtin "isinstance")) (ha : OE cm E X e f) {tn : Expr} (ht : PE X tn (tC (.ty c)))
    (hc : c = "int" ∨ c = "bool" ∨ c = "tuple" ∨ c = "list" ∨ c = "str" ∨ c = "dict")
    (he : starEach (e :: [tn]) X.env = (false, eval e X.env) :: starEach [tn] X.env := by rfl) (he2 : starEach [tn] X.env = (false, eval tn X.env) :: starEach [] X.env := by rfl) (hpl : (backTo pos (starEach [tn] X.env)).any (·.1) = false := by rfl) :
    RE cm E X (.Call (.Name "isinstance" p) [e, tn] [] pos) (fIsI c f) := fun G =>
  (pe_callB call_isi hg hm hv (pa_cons (ha G) (pa_cons ht pa_nil he2) he) (by decide) (by decide) he hpl).via fun σ H Q ⟨ρ, F, fps, k, g, hk, q⟩ => by
    refine ⟨ρ, F, fps, _, g, hk, fun rd ρ1 F1 fps1 v H1 g1 l1 ok hk1 => ?_⟩
    obtain ⟨d, lk, hk1⟩ := ok _ _ _ _ g1 (Le.refl F1) _ hk1
    exact ⟨v, .ty c, .type (tyD d), .type c, _, rfl, .ty c, (lk.rv g1.sub).tyx hk1.1, kit_ty X.K d c hc, q _ _ _ _ _ _ _ g1 l1 (Tmp.val (.bl _)) hk1.2⟩
end
end Cr
end

section
set_option maxRecDepth 100000
/-! Cor4: targets, statements, loops, comprehensions. -/
namespace Cr
open PySem PySem.Spec PyProof.Rows L2

structure Dn where
  nx : Ev → Prop
  rt : R → Ev → Prop
  bk : Ev → Prop := fun _ => False
  ct : Ev → Prop := fun _ => False
abbrev FS := Dn → Ev → Prop
structure Lnk (Z : KC) (E : Ent) (F : Hp) (dn : Dn) (Dd : Ends) : Prop where
  nx : ∀ ρ' σ' H' F' fps', Good Z E NoG ρ' σ' H' F' fps' → Le F F' → dn.nx ρ' → Dd.nx σ' H'
  rt : ∀ r ρ' σ' H' F' fps' v fp, Good Z E NoG ρ' σ' H' F' fps' → Le F F' → Tmp Z E NoG H' F' fps' r v fp → dn.rt r ρ' → Dd.rt v H'
  bk : ∀ ρ' σ' H' F' fps', Good Z E NoG ρ' σ' H' F' fps' → Le F F' → dn.bk ρ' → Dd.bk σ' H'
  ct : ∀ ρ' σ' H' F' fps', Good Z E NoG ρ' σ' H' F' fps' → Le F F' → dn.ct ρ' → Dd.ct σ' H'
theorem Lnk.mono {Z : KC} {E : Ent} {F F1 : Hp} {dn : Dn} {Dd : Ends} (l : Lnk Z E F dn Dd) (le : Le F F1) : Lnk Z E F1 dn Dd :=
  ⟨fun _ _ _ _ _ g e => l.nx _ _ _ _ _ g (le.trans e), fun _ _ _ _ _ _ _ _ g e => l.rt _ _ _ _ _ _ _ _ g (le.trans e), fun _ _ _ _ _ g e => l.bk _ _ _ _ _ g (le.trans e), fun _ _ _ _ _ g e => l.ct _ _ _ _ _ g (le.trans e)⟩
def tSt (Z : KC) (E : Ent) (f : FS) : TS := fun Dd σ H => ∃ ρ F fps dn, Good Z E NoG ρ σ H F fps ∧ f dn ρ ∧ Lnk Z E F dn Dd
def SE (cm : CM) (E : Ent) (X : Cx) (st : Stmt) (f : FS) : Prop := PS X st (tSt ⟨X.K, cm⟩ E f)
def SEs (cm : CM) (E : Ent) (X : Cx) (sts : List Stmt) (f : FS) : Prop := PSs X sts (tSt ⟨X.K, cm⟩ E f)
theorem _root_.L2.PS.via {X : Cx} {st : Stmt} {t t' : TS} (h : PS X st t) (i : ∀ D σ H, σ.length = X.N.length → t' D σ H → t D σ H) : PS X st t' := ⟨fun pins s σ H D I q => h.run pins s σ H D I (i D σ H I.len q)⟩
theorem _root_.L2.PSs.via {X : Cx} {st : List Stmt} {t t' : TS} (h : PSs X st t) (i : ∀ D σ H, t' D σ H → t D σ H) : PSs X st t' := ⟨fun pins s σ H D I q => h.run pins s σ H D I (i D σ H q)⟩

section
variable {cm : CM} {E : Ent} {X : Cx} {pos : Pos}
def sNil : FS := fun dn ρ => dn.nx ρ
def sCons (f g : FS) : FS := fun dn ρ => f { dn with nx := g dn } ρ
theorem ss_nil : SEs cm E X [] sNil := pss_nil.via fun D σ H ⟨ρ, F, fps, dn, g, hk, l⟩ => l.nx _ _ _ _ _ g (Le.refl F) hk
theorem ss_cons {st : Stmt} {rest : List Stmt} {f g : FS} (h1 : SE cm E X st f) (h2 : SEs cm E X rest g) : SEs cm E X (st :: rest) (sCons f g) :=
  (pss_cons h1 h2).via fun D σ H ⟨ρ, F, fps, dn, g, hk, l⟩ => ⟨ρ, F, fps, _, g, hk, ⟨fun ρ' σ' H' F' fps' g' le hk' => ⟨ρ', F', fps', dn, g', hk', l.mono le⟩, l.rt, l.bk, l.ct⟩⟩
theorem ss_one {st : Stmt} {f : FS} (h : SE cm E X st f) : SEs cm E X [st] f := pss_one h
def sRet (f : FR) : FS := fun dn ρ => f ρ dn.rt
theorem se_ret {e : Expr} {f : FR} (h : RE cm E X e f) : SE cm E X (.Return (some e) pos) (sRet f) :=
  (ps_ret (h NoG)).via fun D σ H _ ⟨ρ, F, fps, dn, g, hk, l⟩ => ⟨ρ, F, fps, dn.rt, g, hk, fun r ρ' F' fps' v fp H' g' le t hk' => l.rt _ _ _ _ _ _ _ _ g' le t hk'⟩
def sRetN : FS := fun dn ρ => dn.rt (.val .none) ρ
theorem se_retN : SE cm E X (.Return none pos) sRetN :=
  ps_retN.via fun D σ H _ ⟨ρ, F, fps, dn, g, hk, l⟩ => l.rt _ _ _ _ _ _ _ _ g (Le.refl F) (Tmp.val .non) hk
def sIf (c : FB) (f g : FS) : FS := fun dn ρ => c ρ fun b ρ1 => if b = true then f dn ρ1 else g dn ρ1
theorem se_if {c : Expr} {a b : List Stmt} {fc : FB} {fa fb : FS} (hc : BE cm E X c fc) (ha : SEs cm E X a fa) (hb : SEs cm E X b fb) : SE cm E X (.If c a b pos) (sIf fc fa fb) :=
  (ps_if (hc NoG) ha hb).via fun D σ H _ ⟨ρ, F, fps, dn, g, hk, l⟩ => ⟨ρ, F, fps, _, g, hk, fun b ρ' F' fps' H' g' le hk' => by
    cases b with
    | true => exact ⟨ρ', F', fps', dn, g', hk', l.mono le⟩
    | false => exact ⟨ρ', F', fps', dn, g', hk', l.mono le⟩⟩
def sPass : FS := fun dn ρ => dn.nx ρ
theorem se_pass : SE cm E X (.Pass pos) sPass := ps_pass.via fun D σ H _ ⟨ρ, F, fps, dn, g, hk, l⟩ => l.nx _ _ _ _ _ g (Le.refl F) hk
def sExpr (f : FR) : FS := fun dn ρ => f ρ fun _ ρ1 => dn.nx ρ1
theorem se_expr {e : Expr} {f : FR} (h : RE cm E X e f) (hs : swapsWith e none pos.line X.env = pure false := by rfl) : SE cm E X (.Expr e pos) (sExpr f) :=
  (ps_expr (h NoG) hs).via fun D σ H _ ⟨ρ, F, fps, dn, g, hk, l⟩ => ⟨ρ, F, fps, _, g, hk, fun r ρ' F' fps' v fp H' g' le t hk' => l.nx _ _ _ _ _ g' le hk'⟩
def NoPin (E : Ent) (i : Nat) : Prop := ∀ p ∈ E.pin, p.1 ≠ i
theorem nopin {is : List Nat} {i : Nat} (h : E.pin.map (·.1) = is) (d : i ∉ is) : NoPin E i := fun p hp e => d (by rw [← h, ← e]; exact List.mem_map_of_mem hp)
def sAsg (i : Nat) (f : FR) : FS := fun dn ρ => f ρ fun r ρ1 => dn.nx (ρ1.set i (some r))
theorem se_asg {i : Nat} {x : Str} {e : Expr} {f : FR} {pos' : Pos} (hN : X.N.Nodup) (hi : X.N[i]? = some x) (hx : Loc X.env.scope x) (hp : NoPin E i) (he : RE cm E X e f) (hs : swapsWith e (some (.Name x pos')) pos.line X.env = pure false := by rfl)
    (hf : X.fn x = true ∨ X.env.scope.names.lookup x = some .local := by first | exact .inl rfl | exact .inr rfl | assumption) : SE cm E X (.Assign [.Name x pos'] e pos) (sAsg i f) :=
  (ps_set hN hi hx (he NoG) hs hf).via fun D σ H len ⟨ρ, F, fps, dn, g, hk, l⟩ => ⟨ρ, F, fps, _, g, hk, fun r ρ' F' fps' v fp H' g' le t hk' =>
    l.nx _ _ _ _ _ (g'.store t (by rw [len]; exact (List.getElem?_eq_some_iff.mp hi).1) hp) le hk'⟩

/-! ### targets -/
abbrev FT := D → Ev → (Ev → Prop) → Prop
abbrev FTs := List D → Ev → (Ev → Prop) → Prop
def tGt (Z : KC) (E : Ent) (G : Addr → HO → Prop) (is : List Nat) (n : Nat) (f : FT) : TG := fun v σ H Q => ∃ d ρ F fps κ, σ.length = n ∧ Good Z E G ρ σ H F fps ∧ Rv Z.K F v d ∧ f d ρ κ ∧
  ∀ ρ' σ' F' fps' H', Good Z E G ρ' σ' H' F' fps' → Le F F' → (∀ j, j ∉ is → σ'[j]? = σ[j]?) → σ'.length = n → κ ρ' → Q σ' H'
def tGts (Z : KC) (E : Ent) (G : Addr → HO → Prop) (is : List Nat) (n : Nat) (f : FTs) : TGs := fun vs σ H Q => ∃ ds ρ F fps κ, σ.length = n ∧ Good Z E G ρ σ H F fps ∧ RvAll Z.K F vs ds ∧ f ds ρ κ ∧
  ∀ ρ' σ' F' fps' H', Good Z E G ρ' σ' H' F' fps' → Le F F' → (∀ j, j ∉ is → σ'[j]? = σ[j]?) → σ'.length = n → κ ρ' → Q σ' H'
def TE' (cm : CM) (E : Ent) (X : Cx) (tg : Expr) (is : List Nat) (f : FT) : Prop := ∀ G, PG X tg (tGt ⟨X.K, cm⟩ E G is X.N.length f)
def TEs (cm : CM) (E : Ent) (X : Cx) (tgs : List Expr) (is : List Nat) (f : FTs) : Prop := ∀ G, PGs X tgs (tGts ⟨X.K, cm⟩ E G is X.N.length f)
theorem _root_.L2.PG.via {X : Cx} {tg : Expr} {t t' : TG} (h : PG X tg t) (i : ∀ v σ H Q, t' v σ H Q → t v σ H Q) : PG X tg t' := ⟨fun pins s σ H v u Q I r q => h.run pins s σ H v u Q I r (i v σ H Q q)⟩
theorem _root_.L2.PGs.via {X : Cx} {tgs : List Expr} {t t' : TGs} (h : PGs X tgs t) (i : ∀ v σ H Q, t' v σ H Q → t v σ H Q) : PGs X tgs t' := ⟨fun pins s σ H v u Q I r q => h.run pins s σ H v u Q I r (i v σ H Q q)⟩
def fTName (i : Nat) : FT := fun d ρ κ => κ (ρ.set i (some (.val d)))
theorem te_name {i : Nat} {x : Str} (hN : X.N.Nodup) (hi : X.N[i]? = some x) (hx : Loc X.env.scope x) (hp : NoPin E i) (hf : X.fn x = true ∨ X.env.scope.names.lookup x = some .local := by first | exact .inl rfl | exact .inr rfl | assumption) : TE' cm E X (.Name x pos) [i] (fTName i) := fun G =>
  (pg_name hN hi hx hf).via fun v σ H Q ⟨d, ρ, F, fps, κ, len, g, rv, hk, q⟩ =>
    q _ _ _ _ _ (g.store (Tmp.val rv) (by rw [len]; exact (List.getElem?_eq_some_iff.mp hi).1) hp) (Le.refl F) (fun j hj => List.getElem?_set_ne (fun e => hj (by simp [e]))) (by rw [List.length_set]; exact len) hk
def fTsNil : FTs := fun ds ρ κ => ds = [] ∧ κ ρ
def fTsCons (f : FT) (fs : FTs) : FTs := fun ds ρ κ => match ds with
  | d :: r => f d ρ fun ρ1 => fs r ρ1 κ
  | [] => False
theorem tes_nil : TEs cm E X [] [] fTsNil := fun G => pgs_nil.via fun vs σ H Q ⟨ds, ρ, F, fps, κ, len, g, rv, hk, q⟩ => by
  obtain ⟨rfl, hk⟩ := hk
  cases rv
  exact ⟨rfl, q _ _ _ _ _ g (Le.refl F) (fun _ _ => rfl) len hk⟩
theorem tes_cons {e : Expr} {es : List Expr} {is js : List Nat} {f : FT} {fs : FTs} (h1 : TE' cm E X e is f) (h2 : TEs cm E X es js fs) (hs : (assignEach (e :: es) X.env).map (·.2) = assign e X.env :: (assignEach es X.env).map (·.2) := by rfl) : TEs cm E X (e :: es) (is ++ js) (fTsCons f fs) := fun G =>
  (pgs_cons (h1 G) (h2 G) hs).via fun vs σ H Q ⟨ds, ρ, F, fps, κ, len, g, rv, hk, q⟩ => by
    unfold fTsCons at hk
    split at hk
    · cases rv with
      | cons r rr =>
        refine ⟨_, _, rfl, ⟨_, ρ, F, fps, _, len, g, r, hk, fun ρ' σ' F' fps' H' g' le hj len' hk' => ?_⟩⟩
        exact ⟨_, ρ', F', fps', _, len', g', rr.mono le, hk', fun ρ'' σ'' F'' fps'' H'' g'' le' hj' len'' hk'' => q _ _ _ _ _ g'' (le.trans le') (fun j hn => by
          rw [List.mem_append, not_or] at hn
          rw [hj' j hn.2, hj j hn.1]) len'' hk''⟩
    · exact hk.elim
def fTTup (n : Nat) (fs : FTs) : FT := fun d ρ κ => match d with
  | .tuple ds => ds.length = n ∧ fs ds ρ κ
  | _ => False
theorem te_tup {es : List Expr} {k n : Nat} {is : List Nat} {fs : FTs} (hc : X.calm = true) (h : TEs cm E X es is fs) (hn : (assignEach es X.env).length = n := by rfl) (hst : (assignEach es X.env).findIdx? (·.1) = none := by rfl) : TE' cm E X (.Tuple es k pos) is (fTTup n fs) := fun G =>
  (pg_tup hc (h G) hn hst).via fun v σ H Q ⟨d, ρ, F, fps, κ, len, g, rv, hk, q⟩ => by
    unfold fTTup at hk
    split at hk
    · cases rv with
      | tup hq ra => exact ⟨_, _, rfl, SqT.of (g.sub _ _ hq), by rw [ra.length]; exact hk.1, ⟨_, ρ, F, fps, κ, len, g, ra, hk.2, q⟩⟩
    · exact hk.elim
/-- a list's or dict's place, of a name -/
def isK : D → Bool
  | .int _ => true
  | .str _ => true
  | _ => false
/-- an instance's: the key put -/
def putD (es : List (D × D)) (k d : D) : List (D × D) := if es.any (fun p => PyData.eqv p.1 k) then es.map (fun p => if PyData.eqv p.1 k then (p.1, d) else p) else es ++ [(k, d)]
def valD (es : List (D × D)) (k : D) : Option D := (es.find? fun p => PyData.eqv p.1 k).map (·.2)
def isT : D → Bool
  | .tuple ks => ks.all isK
  | _ => false
theorem isK_key {d : D} (h : isK d = true) : ∃ k, d = keyD k := by
  cases d with
  | int i => exact ⟨.inl i, rfl⟩
  | str x => exact ⟨.inr x, rfl⟩
  | _ => cases h
theorem isT_key {d : D} (h : isT d = true) : ∃ ks, d = tkeyD ks := by
  cases d with
  | tuple ks =>
    refine ?_
    have : ∀ ks : List D, ks.all isK = true → ∃ l : List Key, ks = l.map keyD := by
      intro ks
      induction ks with
      | nil => intro _; exact ⟨[], rfl⟩
      | cons a r ih =>
        intro q
        rw [List.all_cons, Bool.and_eq_true] at q
        obtain ⟨k, e⟩ := isK_key q.1
        obtain ⟨l, e2⟩ := ih q.2
        exact ⟨k :: l, by rw [e, e2]; rfl⟩
    obtain ⟨l, e⟩ := this ks h
    exact ⟨l, by rw [e]; rfl⟩
  | _ => cases h
theorem eqv_key (a b : Key) : PyData.eqv (keyD a) (keyD b) = decide (a = b) := by
  cases a <;> cases b
  · show (_ == _) = _
    rw [key_ll]
  · rw [key_lr]; rfl
  · rw [key_rl]; rfl
  · show (_ == _) = _
    rw [key_rr, Bool.beq_eq_decide_eq]
theorem eqv_tkey : ∀ a b : List Key, PyData.eqv (tkeyD a) (tkeyD b) = decide (a = b) := by
  have h : ∀ a b : List Key, PyData.eqvAll (a.map keyD) (b.map keyD) = decide (a = b) := by
    intro a
    induction a with
    | nil => intro b; cases b <;> rfl
    | cons x r ih =>
      intro b
      cases b with
      | nil => rfl
      | cons y s =>
        rw [List.map_cons, List.map_cons, PyData.eqvAll, eqv_key, ih]
        by_cases h1 : x = y <;> by_cases h2 : r = s <;> simp [h1, h2]
  intro a b
  exact h a b
end

/-! ### dicts: what the layer holds, what they tell -/
section
variable {K : PySem.W.Frag} {F : Hp}
theorem Rv.ofKey (k : Key) : Rv K F (kV k) (keyD k) := by
  cases k with
  | inl i => exact .int i
  | inr x => exact .str x
theorem Rv.key {v : V} {k : Key} (h : Rv K F v (keyD k)) : v = kV k := by
  cases k with
  | inl i => exact h.inti
  | inr x => exact h.stri
theorem RvKs.val {v : Key} : ∀ {kvs : List (Key × V)} {es : List (D × D)} {d : D}, RvKs K F kvs es → valD es (keyD v) = some d → ∃ x, valV kvs v = some x ∧ Rv K F x d
  | _, _, _, .nil, h => by cases h
  | (k, x) :: r, _, d, .cons (er := er) (d := d') h rr, e => by
    unfold valD at e
    unfold valV
    rw [List.find?_cons] at e ⊢
    rw [eqv_key] at e
    by_cases q : k = v
    · rw [decide_eq_true q] at e
      rw [decide_eq_true (show (k, x).1 = v from q)]
      cases e
      exact ⟨x, rfl, h⟩
    · rw [decide_eq_false q] at e
      rw [decide_eq_false (show ¬ (k, x).1 = v from q)]
      exact RvKs.val rr e
theorem RvKs.non {v : Key} : ∀ {kvs : List (Key × V)} {es : List (D × D)}, RvKs K F kvs es → valD es (keyD v) = none → valV kvs v = none
  | _, _, .nil, h => rfl
  | (k, x) :: r, _, .cons (er := er) (d := d') h rr, e => by
    unfold valD at e
    unfold valV
    rw [List.find?_cons] at e ⊢
    rw [eqv_key] at e
    by_cases q : k = v
    · rw [decide_eq_true q] at e
      cases e
    · rw [decide_eq_false q] at e
      rw [decide_eq_false (show ¬ (k, x).1 = v from q)]
      exact RvKs.non rr e
theorem RvTs.val {v : List Key} : ∀ {kvs : List (List Key × V)} {es : List (D × D)} {d : D}, RvTs K F kvs es → valD es (tkeyD v) = some d → ∃ x, valV kvs v = some x ∧ Rv K F x d
  | _, _, _, .nil, h => by cases h
  | (k, x) :: r, _, d, .cons (er := er) (d := d') h rr, e => by
    unfold valD at e
    unfold valV
    rw [List.find?_cons] at e ⊢
    rw [eqv_tkey] at e
    by_cases q : k = v
    · rw [decide_eq_true q] at e
      rw [decide_eq_true (show (k, x).1 = v from q)]
      cases e
      exact ⟨x, rfl, h⟩
    · rw [decide_eq_false q] at e
      rw [decide_eq_false (show ¬ (k, x).1 = v from q)]
      exact RvTs.val rr e
theorem RvTs.non {v : List Key} : ∀ {kvs : List (List Key × V)} {es : List (D × D)}, RvTs K F kvs es → valD es (tkeyD v) = none → valV kvs v = none
  | _, _, .nil, h => rfl
  | (k, x) :: r, _, .cons (er := er) (d := d') h rr, e => by
    unfold valD at e
    unfold valV
    rw [List.find?_cons] at e ⊢
    rw [eqv_tkey] at e
    by_cases q : k = v
    · rw [decide_eq_true q] at e
      cases e
    · rw [decide_eq_false q] at e
      rw [decide_eq_false (show ¬ (k, x).1 = v from q)]
      exact RvTs.non rr e
theorem RvKs.length : ∀ {kvs : List (Key × V)} {es : List (D × D)}, RvKs K F kvs es → kvs.length = es.length
  | _, _, .nil => rfl
  | _, _, .cons _ r => by rw [List.length_cons, List.length_cons, RvKs.length r]
theorem RvTs.length : ∀ {kvs : List (List Key × V)} {es : List (D × D)}, RvTs K F kvs es → kvs.length = es.length
  | _, _, .nil => rfl
  | _, _, .cons _ r => by rw [List.length_cons, List.length_cons, RvTs.length r]
theorem RvKs.append : ∀ {a b : List (Key × V)} {c d : List (D × D)}, RvKs K F a c → RvKs K F b d → RvKs K F (a ++ b) (c ++ d)
  | _, _, _, _, .nil, h => h
  | _, _, _, _, .cons h r, h' => .cons h (RvKs.append r h')
theorem RvTs.append : ∀ {a b : List (List Key × V)} {c d : List (D × D)}, RvTs K F a c → RvTs K F b d → RvTs K F (a ++ b) (c ++ d)
  | _, _, _, _, .nil, h => h
  | _, _, _, _, .cons h r, h' => .cons h (RvTs.append r h')
theorem RvKs.anyK {v : Key} : ∀ {kvs : List (Key × V)} {es : List (D × D)}, RvKs K F kvs es → es.any (fun p => PyData.eqv p.1 (keyD v)) = kvs.any fun kv => decide (kv.1 = v)
  | _, _, .nil => rfl
  | _, _, .cons _ r => by rw [List.any_cons, List.any_cons, eqv_key, RvKs.anyK r]
theorem RvTs.anyK {v : List Key} : ∀ {kvs : List (List Key × V)} {es : List (D × D)}, RvTs K F kvs es → es.any (fun p => PyData.eqv p.1 (tkeyD v)) = kvs.any fun kv => decide (kv.1 = v)
  | _, _, .nil => rfl
  | _, _, .cons _ r => by rw [List.any_cons, List.any_cons, eqv_tkey, RvTs.anyK r]
theorem RvKs.repl {v : Key} {x : V} {d : D} (h : Rv K F x d) : ∀ {kvs : List (Key × V)} {es : List (D × D)}, RvKs K F kvs es →
    RvKs K F (kvs.map fun kv => if kv.1 = v then (kv.1, x) else kv) (es.map fun p => if PyData.eqv p.1 (keyD v) then (p.1, d) else p)
  | _, _, .nil => .nil
  | (k, y) :: r, _, .cons (d := d') h' rr => by
    rw [List.map_cons, List.map_cons, eqv_key]
    by_cases q : k = v
    · rw [if_pos (show (k, y).1 = v from q), if_pos (decide_eq_true q)]
      exact .cons h (RvKs.repl h rr)
    · rw [if_neg (show ¬ (k, y).1 = v from q), if_neg (by simp [q])]
      exact .cons h' (RvKs.repl h rr)
theorem RvTs.repl {v : List Key} {x : V} {d : D} (h : Rv K F x d) : ∀ {kvs : List (List Key × V)} {es : List (D × D)}, RvTs K F kvs es →
    RvTs K F (kvs.map fun kv => if kv.1 = v then (kv.1, x) else kv) (es.map fun p => if PyData.eqv p.1 (tkeyD v) then (p.1, d) else p)
  | _, _, .nil => .nil
  | (k, y) :: r, _, .cons (d := d') h' rr => by
    rw [List.map_cons, List.map_cons, eqv_tkey]
    by_cases q : k = v
    · rw [if_pos (show (k, y).1 = v from q), if_pos (decide_eq_true q)]
      exact .cons h (RvTs.repl h rr)
    · rw [if_neg (show ¬ (k, y).1 = v from q), if_neg (by simp [q])]
      exact .cons h' (RvTs.repl h rr)
theorem RvKs.put {kvs : List (Key × V)} {es : List (D × D)} {v : Key} {x : V} {d : D} (r : RvKs K F kvs es) (h : Rv K F x d) : RvKs K F (putK kvs v x) (putD es (keyD v) d) := by
  unfold putK putD
  rw [r.anyK]
  split
  · exact r.repl h
  · exact r.append (.cons h .nil)
theorem RvTs.put {kvs : List (List Key × V)} {es : List (D × D)} {v : List Key} {x : V} {d : D} (r : RvTs K F kvs es) (h : Rv K F x d) : RvTs K F (putK kvs v x) (putD es (tkeyD v) d) := by
  unfold putK putD
  rw [r.anyK]
  split
  · exact r.repl h
  · exact r.append (.cons h .nil)
end
end Cr
end

section
set_option maxRecDepth 100000
/-! Cor5: what a name owns is changed; loops; comprehensions. -/
namespace Cr
open PySem PySem.Spec PyProof.Rows L2

section
variable {Z : KC} {E : Ent} {G : Addr → HO → Prop} {ρ : Ev} {σ : L2.St} {H F : Hp} {fps : Nat → List Addr}
/-- the object at a, owned by slot i, is changed -/
theorem Good.write (g : Good Z E G ρ σ H F fps) {i : Nat} {a : Addr} {o : HO} {r r' : R} {v : V} (e : ρ[i]? = some (some r)) (hv : σ[i]? = some (some v)) (ha : a ∈ fps i) (hr : Rl Z F (upd H a o) r' v (fps i)) :
    Good Z E G (ρ.set i (some r')) σ (upd H a o) F fps := by
  have hi : i < ρ.length := (List.getElem?_eq_some_iff.mp e).1
  have na : ∀ b, b ≠ a → (upd H a o) b = H b := fun b h => upd_ne h
  refine ⟨fun b x q => ?_, fun j r2 q => ?_, fun j q => ?_, g.nd, g.dis, g.off, g.own, g.frz, g.le0, fun b x q n => ?_, fun b x q => ?_, by rw [List.length_set]; exact g.len, g.sl, g.pin⟩
  · have : b ≠ a := fun z => by subst z; rw [g.off i b ha] at q; cases q
    rw [na b this]; exact g.sub b x q
  · by_cases h : j = i
    · subst h
      rw [List.getElem?_set_self hi] at q
      cases q
      exact ⟨v, hv, hr⟩
    · rw [get_set_ne h] at q
      obtain ⟨w, h1, h2⟩ := g.env j r2 q
      exact ⟨w, h1, h2.mono (Le.refl F) fun b hb => na b fun z => by subst z; exact h (g.dis j i b hb ha)⟩
  · by_cases h : j = i
    · subst h
      exact absurd (by rw [List.getElem?_set_self hi]) (q r')
    · exact g.emp j fun r2 z => q r2 (by rw [get_set_ne h]; exact z)
  · have : b ≠ a := fun z => by
      subst z
      rcases g.own i b ha with w | w
      · exact n w
      · rw [w] at q; cases q
    rw [na b this]; exact g.keep b x q n
  · obtain ⟨h1, h2, h3⟩ := g.fr b x q
    have : b ≠ a := fun z => by subst z; exact h3 i ha
    exact ⟨by rw [na b this]; exact h1, h2, h3⟩
/-- slots are forgotten -/
theorem Good.drop (g : Good Z E G ρ σ H F fps) (i : Nat) : Good Z E G (ρ.set i none) σ H F (updN fps i []) := by
  refine ⟨g.sub, fun j r' q => ?_, fun j q => ?_, fun j => ?_, fun j k a h1 h2 => ?_, fun j a ha => ?_, fun j a ha => ?_, g.frz, g.le0, g.keep, fun a o q => ?_, by rw [List.length_set]; exact g.len, g.sl, g.pin⟩
  · by_cases hj : j = i
    · subst hj
      by_cases hl : j < ρ.length
      · rw [List.getElem?_set_self hl] at q; cases q
      · rw [List.getElem?_eq_none (by rw [List.length_set]; omega)] at q; cases q
    · rw [get_set_ne hj] at q
      obtain ⟨w, h1, h2⟩ := g.env j r' q
      exact ⟨w, h1, by rw [updN_ne hj]; exact h2⟩
  · by_cases hj : j = i
    · subst hj; exact updN_same
    · rw [updN_ne hj]; exact g.emp j fun r' e => q r' (by rw [get_set_ne hj]; exact e)
  · by_cases hj : j = i
    · subst hj; rw [updN_same]; exact List.nodup_nil
    · rw [updN_ne hj]; exact g.nd j
  · by_cases hj : j = i
    · subst hj; rw [updN_same] at h1; simp at h1
    · by_cases hk : k = i
      · subst hk; rw [updN_same] at h2; simp at h2
      · rw [updN_ne hj] at h1; rw [updN_ne hk] at h2; exact g.dis j k a h1 h2
  · by_cases hj : j = i
    · subst hj; rw [updN_same] at ha; simp at ha
    · rw [updN_ne hj] at ha; exact g.off j a ha
  · by_cases hj : j = i
    · subst hj; rw [updN_same] at ha; simp at ha
    · rw [updN_ne hj] at ha; exact g.own j a ha
  · obtain ⟨h1, h2, h3⟩ := g.fr a o q
    refine ⟨h1, h2, fun j hj => ?_⟩
    by_cases hk : j = i
    · subst hk; rw [updN_same] at hj; simp at hj
    · rw [updN_ne hk] at hj; exact h3 j hj
/-- other slots of the frame -/
theorem Good.sigma (g : Good Z E G ρ σ H F fps) {σ' : L2.St} (h : ∀ (j : Nat) (r : R), ρ[j]? = some (some r) → σ'[j]? = σ[j]?) (hl : σ'.length = σ.length) (hp : ∀ p ∈ E.pin, σ'[p.1]? = σ[p.1]?) : Good Z E G ρ σ' H F fps :=
  ⟨g.sub, fun i r e => by obtain ⟨v, h1, h2⟩ := g.env i r e; exact ⟨v, by rw [h i r e]; exact h1, h2⟩, g.emp, g.nd, g.dis, g.off, g.own, g.frz, g.le0, g.keep, g.fr, by rw [hl]; exact g.len, by rw [hl]; exact g.sl, fun p q => by rw [hp p q]; exact g.pin p q⟩
/-- another frame of kept objects -/
theorem Good.reframe (g : Good Z E G ρ σ H F fps) {G' : Addr → HO → Prop} (h : ∀ a o, G' a o → H a = some o ∧ F a = none ∧ ∀ i, a ∉ fps i) : Good Z E G' ρ σ H F fps :=
  ⟨g.sub, g.env, g.emp, g.nd, g.dis, g.off, g.own, g.frz, g.le0, g.keep, h, g.len, g.sl, g.pin⟩
theorem Rl.olsti {r : List D} {v : V} {fp : List Addr} (h : Rl Z F H (.olst r) v fp) : ∃ a vs, v = .ref a ∧ H a = some (.lst vs) ∧ RvAll Z.K F vs r ∧ fp = [a] := by
  cases h with | olst h q => exact ⟨_, _, rfl, h, q, rfl⟩
theorem Rl.odicKi {r : List (D × D)} {v : V} {fp : List Addr} (h : Rl Z F H (.odic false r) v fp) : ∃ a kvs, v = .ref a ∧ H a = some (.dK kvs) ∧ RvKs Z.K F kvs r ∧ fp = [a] := by
  cases h with | odicK h q => exact ⟨_, _, rfl, h, q, rfl⟩
theorem Rl.odicTi {r : List (D × D)} {v : V} {fp : List Addr} (h : Rl Z F H (.odic true r) v fp) : ∃ a kvs, v = .ref a ∧ H a = some (.dT kvs) ∧ RvTs Z.K F kvs r ∧ fp = [a] := by
  cases h with | odicT h q => exact ⟨_, _, rfl, h, q, rfl⟩
end

section
variable {cm : CM} {E : Ent} {X : Cx} {pos : Pos}

/-! ### a list's methods that change it -/
abbrev CMu := List D → List D → (D → List D → Prop) → Prop
def fMut (i : Nat) (op : CMu) (fl : FL) : FR := fun ρ k => match ρ[i]? with
  | some (some (.olst _)) => fl ρ fun as ρ1 => match ρ1[i]? with
    | some (some (.olst ds)) => op ds as fun z ds' => k (.val z) (ρ1.set i (some (.olst ds')))
    | _ => False
  | _ => False
def MutS (X : Cx) (r : V → List V → Hp → VK → Prop) (op : CMu) : Prop := ∀ (F H : Hp) (a : Addr) (vs : List V) (ds : List D) (xs : List V) (as : List D) (κ : D → List D → Prop) (Q : VK), Le F H → H a = some (.lst vs) → RvAll X.K F vs ds → RvAll X.K F xs as → op ds as κ →
  (∀ z v vs' ds', Rv X.K F v z → RvAll X.K F vs' ds' → κ z ds' → Q v (upd H a (.lst vs'))) → r (.ref a) xs H Q
theorem tMut {r : V → List V → Hp → VK → Prop} {op : CMu} {fl : FL} {i n : Nat} (hr : MutS X r op) (G : Addr → HO → Prop) (σ : L2.St) (H : Hp) (Q : VK) (h : tR ⟨X.K, cm⟩ E G (fMut i op fl) σ H Q) : tBM X.K "list" r (tVar i) (tLs ⟨X.K, cm⟩ E G n fl) σ H Q := by
  obtain ⟨ρ, F, fps, k, g, hk, q⟩ := h
  unfold fMut at hk
  split at hk
  · rename_i ds0 e0
    obtain ⟨v, hv, rl⟩ := g.env i _ e0
    obtain ⟨a, vs, rfl, ha, ra, efp⟩ := rl.olsti
    refine ⟨_, hv, .inl ⟨rfl, _, .inl (.inl ha)⟩, ρ, F, fps, _, g, hk, fun as ρ1 F1 fps1 xs H1 g1 l1 rx hn hk1 => ?_⟩
    split at hk1
    · rename_i ds e1
      obtain ⟨v', hv', rl'⟩ := g1.env i _ e1
      obtain ⟨a', vs', rfl, ha', ra', efp'⟩ := rl'.olsti
      rw [hv] at hv'
      cases hv'
      refine hr F1 H1 a vs' ds xs as _ Q g1.sub ha' ra' rx hk1 fun z v vs'' ds'' rz rds hκ => ?_
      have hm : a ∈ fps1 i := by rw [efp']; simp
      have g2 := g1.write e1 hv hm (show Rl ⟨X.K, cm⟩ F1 (upd H1 a (.lst vs'')) (.olst ds'') (.ref a) (fps1 i) by rw [efp']; exact .olst upd_same rds)
      exact q _ _ _ _ _ _ _ g2 l1 (Tmp.val rz) hκ
    · exact hk1.elim
  · exact hk.elim
theorem re_mut {o : Expr} {es : List Expr} {name : Str} {apos : Pos} {r : V → List V → Hp → VK → Prop} {op : CMu} {fl : FL} {i n : Nat} (hpe : ∀ G, PE X (.Call (.Attribute o name apos) es [] pos) (tBM X.K "list" r (tVar i) (tLs ⟨X.K, cm⟩ E G n fl))) (hr : MutS X r op) :
    RE cm E X (.Call (.Attribute o name apos) es [] pos) (fMut i op fl) := fun G => (hpe G).via fun σ H Q h => tMut hr G σ H Q h
def mAppend : CMu := fun ds as κ => match as with
  | [d] => ds.length < sizeLine ∧ κ .none (ds ++ [d])
  | _ => False
theorem ms_append : MutS X rAppend mAppend := by
  intro F H a vs ds xs as κ Q s ha ra rx h q
  unfold mAppend at h
  split at h
  · cases rx with
    | cons h1 r =>
      cases r
      exact ⟨a, vs, _, rfl, rfl, ha, by rw [ra.length]; exact h.1, q _ _ _ _ .non (ra.append (.one h1)) h.2⟩
  · exact h.elim
def mPop : CMu := fun ds as κ => as = [] ∧ ∃ z, ds[ds.length - 1]? = some z ∧ κ z ds.dropLast
theorem ms_pop : MutS X rPop mPop := by
  intro F H a vs ds xs as κ Q s ha ra rx h q
  obtain ⟨rfl, z, hz, hk⟩ := h
  cases rx
  obtain ⟨v, hv, rv⟩ := ra.get hz
  exact ⟨a, vs, v, rfl, rfl, ha, by rw [ra.length]; exact hv, q _ _ _ _ rv ra.dropLast hk⟩
def mPopAt : CMu := fun ds as κ => match as with
  | [.int i] => -(2 ^ 63) ≤ i ∧ i < 2 ^ 63 ∧ ∃ k z, seqIndex? i ds.length = some k ∧ ds[k]? = some z ∧ κ z (ds.eraseIdx k)
  | _ => False
theorem ms_popAt : MutS X rPopAt mPopAt := by
  intro F H a vs ds xs as κ Q s ha ra rx h q
  unfold mPopAt at h
  split at h
  · cases rx with
    | cons h1 r =>
      cases r
      obtain ⟨b1, b2, k, z, hk, hz, hκ⟩ := h
      obtain ⟨v, hv, rv⟩ := ra.get hz
      exact ⟨a, vs, _, k, v, rfl, by rw [h1.inti], ha, b1, b2, by rw [ra.length]; exact hk, hv, q _ _ _ _ rv (ra.eraseIdx k) hκ⟩
  · exact h.elim
def mReverse : CMu := fun ds as κ => as = [] ∧ κ .none ds.reverse
theorem ms_reverse : MutS X rReverse mReverse := by
  intro F H a vs ds xs as κ Q s ha ra rx h q
  obtain ⟨rfl, hk⟩ := h
  cases rx
  exact ⟨a, vs, rfl, rfl, ha, q _ _ _ _ .non ra.reverse hk⟩
def mClear : CMu := fun _ as κ => as = [] ∧ κ .none []
theorem ms_clear : MutS X rClear mClear := by
  intro F H a vs ds xs as κ Q s ha ra rx h q
  obtain ⟨rfl, hk⟩ := h
  cases rx
  exact ⟨a, vs, rfl, rfl, ha, q _ _ _ _ .non .nil hk⟩

/-! ### a place stored -/
def putIx (ρ : Ev) (i : Nat) (ix d : D) (κ : Ev → Prop) : Prop := match ρ[i]? with
  | some (some (.olst ds)) => match ix with
    | .int z => ∃ j, ixN ds.length z = some j ∧ κ (ρ.set i (some (.olst (ds.set j d))))
    | _ => False
  | some (some (.odic false es)) => isK ix = true ∧ es.length < sizeLine ∧ κ (ρ.set i (some (.odic false (putD es ix d))))
  | some (some (.odic true es)) => isT ix = true ∧ es.length < sizeLine ∧ κ (ρ.set i (some (.odic true (putD es ix d))))
  | _ => False
def rSetA : TSet := fun o i v H Q => rSetL o i v H Q ∨ rSetD o i v H Q
theorem set_any (hu : X.A.units + 1 < cLine) : PSet X rSetA := by
  intro pins s σ H o i v ov iv u Q I ro ri rv h
  rcases h with h | h
  · exact set_list pins s σ H o i v ov iv u Q I ro ri rv h
  · exact set_dict hu pins s σ H o i v ov iv u Q I ro ri rv h
theorem Rv.tkey {K : PySem.W.Frag} {F : Hp} {v : V} {ks : List Key} (h : Rv K F v (tkeyD ks)) : ∃ a, v = .ref a ∧ F a = some (.tup (ks.map kV)) := by
  unfold tkeyD at h
  cases h with
  | tup h r =>
    have : ∀ {vs : List V} {ks : List Key}, RvAll K F vs (ks.map keyD) → vs = ks.map kV := by
      intro vs ks
      induction ks generalizing vs with
      | nil => intro q; cases q; rfl
      | cons k r ih =>
        intro q
        cases q with
        | cons h1 r1 => rw [h1.key, ih r1]; rfl
    exact ⟨_, rfl, by rw [h, this r]⟩
/-- a tuple key's tuple stands in the heap itself (not in the written part, not locked) -/
def fTIx (i : Nat) (fi : FR) : FT := fun d ρ κ => match ρ[i]? with
  | some (some _) => fi ρ fun r ρ1 => r.as fun ix => putIx ρ1 i ix d κ
  | _ => False
end
end Cr
end

section
set_option maxRecDepth 100000
/-! Cor6: places stored, dicts asked; what loops walk; loops; comprehensions. -/
namespace Cr
open PySem PySem.Spec PyProof.Rows L2

section
variable {cm : CM} {E : Ent} {X : Cx} {pos : Pos}

theorem te_ix {o i : Expr} {j : Nat} {fi : FR} (hu : X.A.units + 1 < cLine) (ho : PE X o (tVar j)) (hi : RE cm E X i fi)
    (ha : ∀ v, assign (.Subscript o i pos) X.env v = (do
      let ov ← holding [v] (eval o X.env)
      let iv ← holding [v, ov] (eval i X.env)
      standAt pos
      holding [v, ov, iv] (setItem ov iv v)
      release [v, ov, iv] []) := by intro _; rfl) : TE' cm E X (.Subscript o i pos) [] (fTIx j fi) := fun G =>
  (pg_sub ho (hi G) (set_any hu) ha).via fun v σ H Q ⟨d, ρ, F, fps, κ, len, g, rv, hk, q⟩ => by
    unfold fTIx at hk
    split at hk
    · rename_i r0 e0
      obtain ⟨ov, hv, rl⟩ := g.env j _ e0
      refine ⟨ov, hv, ρ, F, fps, _, g, hk, fun r ρ1 F1 fps1 iv fp H1 g1 l1 t hk1 => ?_⟩
      obtain ⟨ix, ex, hk1⟩ := R.as_dat hk1
      obtain ⟨F2, l2, g2, ri⟩ := g1.freeze t ex
      have rd : Rv X.K F2 v d := (rv.mono l1).mono l2
      have fin : ∀ {r r' : R} {a : Addr} {o' : HO}, ρ1[j]? = some (some r) → ov = .ref a → fps1 j = [a] → Rl ⟨X.K, cm⟩ F2 (upd H1 a o') r' (.ref a) [a] → κ (ρ1.set j (some r')) → Q σ (upd H1 a o') := fun {r r' a o'} e1 eo efp hr hκ => by
        subst eo
        have hm : a ∈ fps1 j := by rw [efp]; simp
        exact q _ _ _ _ _ (g2.write e1 hv hm (by rw [efp]; exact hr)) (l1.trans l2) (fun _ _ => rfl) len hκ
      unfold putIx at hk1
      split at hk1
      · rename_i ds e1
        split at hk1
        · obtain ⟨k, hk2, hκ⟩ := hk1
          obtain ⟨v', hv', rl'⟩ := g2.env j _ e1
          obtain ⟨a, vs, rfl, ha', ra, efp⟩ := rl'.olsti
          rw [hv] at hv'
          cases hv'
          exact .inl ⟨a, vs, _, k, rfl, ri.inti, ha', by rw [ra.length]; exact hk2, fin e1 rfl efp (.olst upd_same (ra.set rd k)) hκ⟩
        · exact hk1.elim
      · rename_i es e1
        obtain ⟨ik, hl, hκ⟩ := hk1
        obtain ⟨v', hv', rl'⟩ := g2.env j _ e1
        obtain ⟨a, kvs, rfl, ha', ra, efp⟩ := rl'.odicKi
        rw [hv] at hv'
        cases hv'
        obtain ⟨key, rfl⟩ := isK_key ik
        refine .inr ⟨a, _, rfl, ?_, fin e1 rfl efp (.odicK upd_same (ra.put rd)) hκ⟩
        rw [ri.key]
        exact DPut.k ha' (by rw [ra.length]; exact hl)
      · rename_i es e1
        obtain ⟨ik, hl, hκ⟩ := hk1
        obtain ⟨v', hv', rl'⟩ := g2.env j _ e1
        obtain ⟨a, kvs, rfl, ha', ra, efp⟩ := rl'.odicTi
        rw [hv] at hv'
        cases hv'
        obtain ⟨key, rfl⟩ := isT_key ik
        obtain ⟨b, rfl, hb⟩ := ri.tkey
        exact .inr ⟨a, _, rfl, DPut.t ha' (g2.sub _ _ hb) (by rw [ra.length]; exact hl), fin e1 rfl efp (.odicT upd_same (ra.put rd)) hκ⟩
      · exact hk1.elim
    · exact hk.elim
/-- an assignment to a target that is no name -/
def sTgt (f : FR) (ft : FT) : FS := fun dn ρ => f ρ fun r ρ1 => r.as fun d => ft d ρ1 dn.nx
theorem se_tgt {tg e : Expr} {is : List Nat} {f : FR} {ft : FT} (he : RE cm E X e f) (hg : TE' cm E X tg is ft) (hs : swapsWithSole [tg] e pos.line X.env = pure false := by rfl) (hw : swappedStores [tg] e X.env = pure none := by rfl)
    (h1 : (assignEach [tg] X.env).map (·.2) = [assign tg X.env] := by rfl) : SE cm E X (.Assign [tg] e pos) (sTgt f ft) :=
  (ps_asg (he NoG) (hg NoG) hs hw h1).via fun D σ H len ⟨ρ, F, fps, dn, g, hk, l⟩ => ⟨ρ, F, fps, _, g, hk, fun r ρ1 F1 fps1 v fp H1 g1 l1 t hk1 => by
    obtain ⟨d, ex, hk1⟩ := R.as_dat hk1
    obtain ⟨F2, l2, g2, rv⟩ := g1.freeze t ex
    exact ⟨d, ρ1, F2, fps1, _, len, g2, rv, hk1, fun ρ' σ' F' fps' H' g' le hj len' hκ => l.nx _ _ _ _ _ g' ((l1.trans l2).trans le) hκ⟩⟩
/-- a, b = c, d: stored from the right -/
def sPar (i j : Nat) (fl : FL) : FS := fun dn ρ => fl ρ fun ds ρ1 => match ds with
  | [d, e] => dn.nx ((ρ1.set i (some (.val d))).set j (some (.val e)))
  | _ => False
theorem se_par {i j n : Nat} {x y : Str} {a b : Expr} {fl : FL} {px py pt : Pos} {kt k2 pt2} (hc : X.calm = true) (hN : X.N.Nodup) (hi : X.N[i]? = some x) (hj : X.N[j]? = some y) (hij : i ≠ j)
    (hx : X.env.scope.names.lookup x = some .local) (hy : X.env.scope.names.lookup y = some .local) (hpi : NoPin E i) (hpj : NoPin E j) (ha : LA cm E X [a, b] n fl)
    (hw : swappedStores [.Tuple [.Name x px, .Name y py] kt pt] (.Tuple [a, b] k2 pt2) X.env = pure (some [x, y]))
    (hs : swapsWithSole [.Tuple [.Name x px, .Name y py] kt pt] (.Tuple [a, b] k2 pt2) pos.line X.env = pure false := by rfl) :
    SE cm E X (.Assign [.Tuple [.Name x px, .Name y py] kt pt] (.Tuple [a, b] k2 pt2) pos) (sPar i j fl) :=
  (ps_par hc hN hi hj hij hx hy (ha NoG) hw hs).via fun D σ H len ⟨ρ, F, fps, dn, g, hk, l⟩ => ⟨ρ, F, fps, _, g, hk, fun ds ρ1 F1 fps1 vs H1 g1 l1 rv hn hk1 => by
    split at hk1
    · cases rv with
      | cons r1 rr =>
        cases rr with
        | cons r2 rr =>
          cases rr
          have li : i < σ.length := by rw [len]; exact (List.getElem?_eq_some_iff.mp hi).1
          have lj : j < σ.length := by rw [len]; exact (List.getElem?_eq_some_iff.mp hj).1
          have g2 := g1.store (Tmp.val r1) li hpi
          have g3 := g2.store (Tmp.val r2) (by rw [List.length_set]; exact lj) hpj
          exact ⟨_, _, rfl, l.nx _ _ _ _ _ g3 l1 hk1⟩
    · exact hk1.elim⟩

/-! ### dicts of a name asked -/
def slotD (ρ : Ev) (i : Nat) (kd : Bool → List (D × D) → Prop) : Prop := match ρ[i]? with
  | some (some (.odic t es)) => kd t es
  | _ => False
def keyOk (t : Bool) (d : D) : Bool := if t then isT d else isK d
theorem slot_get {Z : KC} {G : Addr → HO → Prop} {ρ : Ev} {σ : L2.St} {H F : Hp} {fps : Nat → List Addr} (g : Good Z E G ρ σ H F fps) {i : Nat} {kd : Bool → List (D × D) → Prop} (h : slotD ρ i kd) :
    ∃ t es a, σ[i]? = some (some (.ref a)) ∧ kd t es ∧ IsD H a ∧ ∀ k v, keyOk t k = true → Rv Z.K F v k → (∀ d, valD es k = some d → ∃ x, DGet H a v (some x) ∧ Rv Z.K F x d) ∧ (valD es k = none → DGet H a v none) := by
  unfold slotD at h
  split at h
  · rename_i t es e
    obtain ⟨v, hv, rl⟩ := g.env i _ e
    cases t with
    | false =>
      obtain ⟨a, kvs, rfl, ha, ra, efp⟩ := rl.odicKi
      refine ⟨false, es, a, hv, h, .inl ⟨kvs, .inl ha⟩, fun k w hk rk => ?_⟩
      obtain ⟨key, rfl⟩ := isK_key hk
      rw [rk.key]
      refine ⟨fun d hd => ?_, fun hn => ?_⟩
      · obtain ⟨x, hx, rx⟩ := ra.val hd
        have := DGet.k (k := key) ha
        rw [hx] at this
        exact ⟨x, this, rx⟩
      · have := DGet.k (k := key) ha
        rw [ra.non hn] at this
        exact this
    | true =>
      obtain ⟨a, kvs, rfl, ha, ra, efp⟩ := rl.odicTi
      refine ⟨true, es, a, hv, h, .inr ⟨kvs, .inl ha⟩, fun k w hk rk => ?_⟩
      obtain ⟨key, rfl⟩ := isT_key hk
      obtain ⟨b, rfl, hb⟩ := rk.tkey
      have hb' := g.sub _ _ hb
      refine ⟨fun d hd => ?_, fun hn => ?_⟩
      · obtain ⟨x, hx, rx⟩ := ra.val hd
        have := DGet.t (k := key) ha hb'
        rw [hx] at this
        exact ⟨x, this, rx⟩
      · have := DGet.t (k := key) ha hb'
        rw [ra.non hn] at this
        exact this
  · exact h.elim
/-- d[k], k in d, d.get(k, x): d a name's own dict -/
def fDIx (i : Nat) (fk : FR) : FR := fun ρ k => slotD ρ i fun _ _ => fk ρ fun r ρ1 => r.as fun d => slotD ρ1 i fun t es => keyOk t d = true ∧ ∃ z, valD es d = some z ∧ k (.val z) ρ1
def fDIn (neg : Bool) (i : Nat) (fk : FR) : FR := fun ρ k => fk ρ fun r ρ1 => r.as fun d => slotD ρ1 i fun t es => keyOk t d = true ∧ k (.val (.bool (if neg then !(valD es d).isSome else (valD es d).isSome))) ρ1
theorem re_dix {o i : Expr} {j : Nat} {fk : FR} (hu : X.A.units + 1 < cLine) (ho : PE X o (tVar j)) (hi : RE cm E X i fk) (hs : NoSl i) : RE cm E X (.Subscript o i pos) (fDIx j fk) := fun G =>
  (pe_dget hu ho (hi G) hs).via fun σ H Q ⟨ρ, F, fps, k, g, hk, q⟩ => by
    obtain ⟨t0, es0, a0, hv, hk, _⟩ := slot_get g hk
    refine ⟨_, hv, ρ, F, fps, _, g, hk, fun r ρ1 F1 fps1 v fp H1 g1 l1 t hk1 => ?_⟩
    obtain ⟨d, ex, hk1⟩ := R.as_dat hk1
    obtain ⟨F2, l2, g2, rv⟩ := g1.freeze t ex
    obtain ⟨t, es, a, hv', ⟨kok, z, hz, hκ⟩, _, hd⟩ := slot_get g2 hk1
    rw [hv] at hv'
    cases hv'
    obtain ⟨x, hx, rx⟩ := (hd d v kok rv).1 z hz
    exact ⟨_, x, rfl, hx, q _ _ _ _ _ _ _ g2 (l1.trans l2) (Tmp.val rx) hκ⟩
theorem isSome_some {α : Type} {o : Option α} : o.isSome = true → ∃ x, o = some x := fun h => Option.isSome_iff_exists.mp h
theorem re_din {o i : Expr} {j : Nat} {fk : FR} (hu : X.A.units + 1 < cLine) (hi : RE cm E X i fk) (ho : PE X o (tVar j)) (h1 : behindInMarks .In o = false) : RE cm E X (.Compare i [.In] [o] pos) (fDIn false j fk) := fun G =>
  (pe_cmp (pc_din hu (hi G) ho) h1).via fun σ H Q ⟨ρ, F, fps, k, g, hk, q⟩ => by
    refine ⟨ρ, F, fps, _, g, hk, fun r ρ1 F1 fps1 v fp H1 g1 l1 t hk1 => ?_⟩
    obtain ⟨d, ex, hk1⟩ := R.as_dat hk1
    obtain ⟨F2, l2, g2, rv⟩ := g1.freeze t ex
    obtain ⟨t, es, a, hv', ⟨kok, hκ⟩, _, hd⟩ := slot_get g2 hk1
    cases e : valD es d with
    | none =>
      rw [e] at hκ
      exact ⟨_, hv', a, none, rfl, (hd d v kok rv).2 e, q _ _ _ _ _ _ _ g2 (l1.trans l2) (Tmp.val (.bl _)) hκ⟩
    | some z =>
      rw [e] at hκ
      obtain ⟨x, hx, rx⟩ := (hd d v kok rv).1 z e
      exact ⟨_, hv', a, some x, rfl, hx, q _ _ _ _ _ _ _ g2 (l1.trans l2) (Tmp.val (.bl _)) hκ⟩
theorem re_dnotin {o i : Expr} {j : Nat} {fk : FR} (hu : X.A.units + 1 < cLine) (hi : RE cm E X i fk) (ho : PE X o (tVar j)) (h1 : behindInMarks .NotIn o = false) : RE cm E X (.Compare i [.NotIn] [o] pos) (fDIn true j fk) := fun G =>
  (pe_cmp (pc_dnotin hu (hi G) ho) h1).via fun σ H Q ⟨ρ, F, fps, k, g, hk, q⟩ => by
    refine ⟨ρ, F, fps, _, g, hk, fun r ρ1 F1 fps1 v fp H1 g1 l1 t hk1 => ?_⟩
    obtain ⟨d, ex, hk1⟩ := R.as_dat hk1
    obtain ⟨F2, l2, g2, rv⟩ := g1.freeze t ex
    obtain ⟨t, es, a, hv', ⟨kok, hκ⟩, _, hd⟩ := slot_get g2 hk1
    cases e : valD es d with
    | none =>
      rw [e] at hκ
      exact ⟨_, hv', a, none, rfl, (hd d v kok rv).2 e, q _ _ _ _ _ _ _ g2 (l1.trans l2) (Tmp.val (.bl _)) hκ⟩
    | some z =>
      rw [e] at hκ
      obtain ⟨x, hx, rx⟩ := (hd d v kok rv).1 z e
      exact ⟨_, hv', a, some x, rfl, hx, q _ _ _ _ _ _ _ g2 (l1.trans l2) (Tmp.val (.bl _)) hκ⟩
/-- as tests -/
theorem be_din {o i : Expr} {j : Nat} {fk : FR} (hu : X.A.units + 1 < cLine) (hi : RE cm E X i fk) (ho : PE X o (tVar j)) (h1 : behindInMarks .In o = false) : BE cm E X (.Compare i [.In] [o] pos) (fBo (fDIn false j fk)) := fun G =>
  (pt_cmp (pc_din hu (hi G) ho) h1).via fun σ H Q h => by
    obtain ⟨ρ, F, fps, k, g, hk, q⟩ := tR_bo h
    refine ⟨ρ, F, fps, _, g, hk, fun r ρ1 F1 fps1 v fp H1 g1 l1 t hk1 => ?_⟩
    obtain ⟨d, ex, hk1⟩ := R.as_dat hk1
    obtain ⟨F2, l2, g2, rv⟩ := g1.freeze t ex
    obtain ⟨t, es, a, hv', ⟨kok, hκ⟩, _, hd⟩ := slot_get g2 hk1
    cases e : valD es d with
    | none =>
      rw [e] at hκ
      exact ⟨_, hv', a, none, rfl, (hd d v kok rv).2 e, q _ _ _ _ _ _ _ g2 (l1.trans l2) (Tmp.val (.bl _)) hκ⟩
    | some z =>
      rw [e] at hκ
      obtain ⟨x, hx, rx⟩ := (hd d v kok rv).1 z e
      exact ⟨_, hv', a, some x, rfl, hx, q _ _ _ _ _ _ _ g2 (l1.trans l2) (Tmp.val (.bl _)) hκ⟩
theorem be_dnotin {o i : Expr} {j : Nat} {fk : FR} (hu : X.A.units + 1 < cLine) (hi : RE cm E X i fk) (ho : PE X o (tVar j)) (h1 : behindInMarks .NotIn o = false) : BE cm E X (.Compare i [.NotIn] [o] pos) (fBo (fDIn true j fk)) := fun G =>
  (pt_cmp (pc_dnotin hu (hi G) ho) h1).via fun σ H Q h => by
    obtain ⟨ρ, F, fps, k, g, hk, q⟩ := tR_bo h
    refine ⟨ρ, F, fps, _, g, hk, fun r ρ1 F1 fps1 v fp H1 g1 l1 t hk1 => ?_⟩
    obtain ⟨d, ex, hk1⟩ := R.as_dat hk1
    obtain ⟨F2, l2, g2, rv⟩ := g1.freeze t ex
    obtain ⟨t, es, a, hv', ⟨kok, hκ⟩, _, hd⟩ := slot_get g2 hk1
    cases e : valD es d with
    | none =>
      rw [e] at hκ
      exact ⟨_, hv', a, none, rfl, (hd d v kok rv).2 e, q _ _ _ _ _ _ _ g2 (l1.trans l2) (Tmp.val (.bl _)) hκ⟩
    | some z =>
      rw [e] at hκ
      obtain ⟨x, hx, rx⟩ := (hd d v kok rv).1 z e
      exact ⟨_, hv', a, some x, rfl, hx, q _ _ _ _ _ _ _ g2 (l1.trans l2) (Tmp.val (.bl _)) hκ⟩

/-! ### what a loop walks -/
structure ItOk (Z : KC) (F : Hp) (J : It) (items : List D) : Prop where
  go : ∀ i H F', Le F F' → Le F' H → i < items.length → J.go i H
  stop : ∀ H F', Le F F' → Le F' H → J.stop items.length H
  yld : ∀ i H F' x H' d, Le F F' → Le F' H → items[i]? = some d → J.yld i H x H' → ∃ F'', Res Z F' H (.val d) x F'' H' []
theorem ItOk.mono {Z : KC} {F F1 : Hp} {J : It} {items : List D} (h : ItOk Z F J items) (l : Le F F1) : ItOk Z F1 J items :=
  ⟨fun i H F' l' => h.go i H F' (l.trans l'), fun H F' l' => h.stop H F' (l.trans l'), fun i H F' x H' d l' => h.yld i H F' x H' d (l.trans l')⟩
abbrev FI := Ev → (List D → Ev → Prop) → Prop
def tIt (Z : KC) (E : Ent) (G : Addr → HO → Prop) (f : FI) : TI := fun σ H Rr => ∃ ρ F fps k, Good Z E G ρ σ H F fps ∧ f ρ k ∧
  ∀ items ρ' F' fps' J H', Good Z E G ρ' σ H' F' fps' → Le F F' → ItOk Z F' J items → k items ρ' → Rr J H'
def IE (cm : CM) (E : Ent) (X : Cx) (tg iter : Expr) (f : FI) : Prop := ∀ G, PI X tg iter (tIt ⟨X.K, cm⟩ E G f)
theorem _root_.L2.PI.via {X : Cx} {tg it : Expr} {t t' : TI} (h : PI X tg it t) (i : ∀ σ H Q, t' σ H Q → t σ H Q) : PI X tg it t' := ⟨fun pins s σ H R I q => h.run pins s σ H R I (i σ H R q)⟩
section
variable {Z : KC} {F : Hp}
theorem ItOk.list {a : Addr} {vs : List V} {ds : List D} (h : RdL Z.K F a vs) (r : RvAll Z.K F vs ds) : ItOk Z F (Itl Z.K a) ds where
  go := fun i H F' l l' hi => by
    have hi' : i < vs.length := by rw [r.length]; exact hi
    exact ⟨vs, vs[i], (l'.rdl (l.rdl h)).sq, List.getElem?_eq_getElem hi'⟩
  stop := fun H F' l l' => ⟨vs, (l'.rdl (l.rdl h)).sq, by rw [r.length]; exact Nat.le_refl _⟩
  yld := fun i H F' x H' d l l' hd ⟨e, hx⟩ => by
    subst e
    obtain ⟨u, hu, ru⟩ := r.get hd
    have := hx vs (l'.rdl (l.rdl h)).sq
    rw [hu] at this
    cases this
    exact ⟨F', Res.val l' (ru.mono l)⟩
theorem ItOk.tup {a : Addr} {vs : List V} {ds : List D} (h : F a = some (.tup vs)) (r : RvAll Z.K F vs ds) : ItOk Z F (Itt Z.K a) ds where
  go := fun i H F' l l' hi => by
    have hi' : i < vs.length := by rw [r.length]; exact hi
    exact ⟨vs, vs[i], SqT.of (l' _ _ (l _ _ h)), List.getElem?_eq_getElem hi'⟩
  stop := fun H F' l l' => ⟨vs, SqT.of (l' _ _ (l _ _ h)), by rw [r.length]; exact Nat.le_refl _⟩
  yld := fun i H F' x H' d l l' hd ⟨e, hx⟩ => by
    subst e
    obtain ⟨u, hu, ru⟩ := r.get hd
    have := hx vs (SqT.of (l' _ _ (l _ _ h)))
    rw [hu] at this
    cases this
    exact ⟨F', Res.val l' (ru.mono l)⟩
def signsD (x : Str) : List D := x.cps.toList.map fun c => .str ⟨#[c]⟩
theorem ItOk.str (x : Str) : ItOk Z F (Its x) (signsD x) where
  go := fun i H F' l l' hi => by
    have : i < x.cps.size := by simpa [signsD] using hi
    exact this
  stop := fun H F' l l' => by
    show x.cps.size ≤ _
    simp [signsD]
  yld := fun i H F' v H' d l l' hd ⟨e, c, hc, hv⟩ => by
    subst e
    subst hv
    have : d = .str ⟨#[c]⟩ := by
      unfold signsD at hd
      rw [List.getElem?_map] at hd
      have e2 : x.cps.toList[i]? = some c := by simpa using hc
      rw [e2] at hd
      cases hd
      rfl
    subst this
    exact ⟨F', Res.val l' (.str _)⟩
def rangeD (lo : Int) (n : Nat) : List D := (List.range n).map fun i => .int (lo + (i : Nat))
theorem rangeD_len (lo : Int) (n : Nat) : (rangeD lo n).length = n := by simp [rangeD]
theorem ItOk.range (lo : Int) (n : Nat) : ItOk Z F (Itr lo n) (rangeD lo n) where
  go := fun i H F' l l' hi => by rw [rangeD_len] at hi; exact hi
  stop := fun H F' l l' => by rw [rangeD_len]; exact Nat.le_refl n
  yld := fun i H F' x H' d l l' hd ⟨e, hx⟩ => by
    subst e
    subst hx
    unfold rangeD at hd
    rw [List.getElem?_map] at hd
    have hi : i < n := by
      cases q : (List.range n)[i]? with
      | none => rw [q] at hd; cases hd
      | some j => have := (List.getElem?_eq_some_iff.mp q).1; simpa using this
    rw [List.getElem?_range hi] at hd
    cases hd
    exact ⟨F', Res.val l' (.int _)⟩
/-- 0, x0; 1, x1; .. -/
def enumD (ds : List D) : List D := ds.zipIdx.map fun p => .tuple [.int (p.2 : Nat), p.1]
theorem enumD_len (ds : List D) : (enumD ds).length = ds.length := by simp [enumD]
theorem enumD_get {ds : List D} {i : Nat} {d : D} (h : (enumD ds)[i]? = some d) : ∃ x, ds[i]? = some x ∧ d = .tuple [.int (i : Nat), x] := by
  unfold enumD at h
  rw [List.getElem?_map, List.getElem?_zipIdx] at h
  cases q : ds[i]? with
  | none => rw [q] at h; cases h
  | some x => rw [q] at h; cases h; exact ⟨x, rfl, by simp⟩
theorem ItOk.enum {a : Addr} {vs : List V} {ds : List D} (h : RdL Z.K F a vs) (r : RvAll Z.K F vs ds) : ItOk Z F (Ite Z.K a) (enumD ds) where
  go := fun i H F' l l' hi => by
    have hi' : i < vs.length := by rw [r.length]; rw [enumD_len] at hi; exact hi
    exact ⟨vs, vs[i], (l'.rdl (l.rdl h)).sq, List.getElem?_eq_getElem hi'⟩
  stop := fun H F' l l' => ⟨vs, (l'.rdl (l.rdl h)).sq, by rw [r.length, enumD_len]; exact Nat.le_refl _⟩
  yld := fun i H F' v H' d l l' hd ⟨T, x, e1, nT, e2, hx⟩ => by
    subst e1
    subst e2
    obtain ⟨y, hy, rfl⟩ := enumD_get hd
    obtain ⟨u, hu, ru⟩ := r.get hy
    have := hx vs (l'.rdl (l.rdl h)).sq
    rw [hu] at this
    cases this
    exact ⟨_, Res.newT l' nT (.cons (.int _) (.cons (ru.mono l) .nil))⟩
def zipD (xs ys : List D) : List D := (xs.zip ys).map fun p => .tuple [p.1, p.2]
theorem zipD_get {xs ys : List D} {i : Nat} {d : D} (h : (zipD xs ys)[i]? = some d) : ∃ x y, xs[i]? = some x ∧ ys[i]? = some y ∧ d = .tuple [x, y] := by
  unfold zipD at h
  rw [List.getElem?_map] at h
  cases q : (xs.zip ys)[i]? with
  | none => rw [q] at h; cases h
  | some p =>
    rw [q] at h
    cases h
    obtain ⟨h1, h2⟩ := List.getElem?_zip_eq_some.mp q
    exact ⟨p.1, p.2, h1, h2, rfl⟩
theorem ItOk.zip {a b : Addr} {vs ws : List V} {ds es : List D} (h : RdL Z.K F a vs) (r : RvAll Z.K F vs ds) (h' : RdL Z.K F b ws) (r' : RvAll Z.K F ws es) : ItOk Z F (Itz Z.K a b) (zipD ds es) where
  go := fun i H F' l l' hi => by
    have hi' : i < ds.length ∧ i < es.length := by
      unfold zipD at hi
      rw [List.length_map, List.length_zip] at hi
      omega
    have h1 : i < vs.length := by rw [r.length]; exact hi'.1
    have h2 : i < ws.length := by rw [r'.length]; exact hi'.2
    exact ⟨vs, ws, vs[i], ws[i], (l'.rdl (l.rdl h)).sq, (l'.rdl (l.rdl h')).sq, List.getElem?_eq_getElem h1, List.getElem?_eq_getElem h2⟩
  stop := fun H F' l l' => ⟨vs, ws, (l'.rdl (l.rdl h)).sq, (l'.rdl (l.rdl h')).sq, by
    unfold zipD
    rw [List.length_map, List.length_zip, r.length, r'.length]
    omega⟩
  yld := fun i H F' v H' d l l' hd ⟨T, x, y, e1, nT, e2, hx, hy⟩ => by
    subst e1
    subst e2
    obtain ⟨p, q, hp, hq, rfl⟩ := zipD_get hd
    obtain ⟨u, hu, ru⟩ := r.get hp
    obtain ⟨w, hw, rw'⟩ := r'.get hq
    have e1 := hx vs (l'.rdl (l.rdl h)).sq
    rw [hu] at e1
    cases e1
    have e2 := hy ws (l'.rdl (l.rdl h')).sq
    rw [hw] at e2
    cases e2
    exact ⟨_, Res.newT l' nT (.cons (ru.mono l) (.cons (rw'.mono l) .nil))⟩
end
/-- a list, a tuple or a text, whichever it is -/
def iSeq (K : PySem.W.Frag) (tl : TE) : TI := fun σ H R => tl σ H fun x H1 => (∃ a xs, x = .ref a ∧ SqL K H1 a xs ∧ R (Itl K a) H1) ∨ (∃ a xs, x = .ref a ∧ SqT K H1 a xs ∧ R (Itt K a) H1) ∨ ∃ x', x = .str x' ∧ R (Its x') H1
theorem pi_seq {tg l : Expr} {tl : TE} (hl : PE X l tl) : PI X tg l (iSeq X.K tl) := by
  refine ⟨fun pins s σ H R I h => ?_⟩
  refine thn (hl.run pins s σ H _ I h) fun v s1 ⟨x, H1, I1, r1, q1⟩ => ?_
  rcases q1 with ⟨a, xs, e, hq, q⟩ | ⟨a, xs, e, hq, q⟩ | ⟨y, e, q⟩
  · subst e
    cases r1
    obtain ⟨its, rv, p, hz⟩ := I1.list hq
    refine wpAny_pyIter_list p.isList ?_
    refine ⟨s1.heap.objs.size, [s1.heap.objs.size], _, _, H1, rfl, I1.kept (t' := s1.toks) fun b o e => Heap.get?_push_of_some _ e, turn_list a _, ⟨_, Heap.get?_push_size _ rfl, rfl, rfl⟩, fun b hb => ?_, q⟩
    have e : b = s1.heap.objs.size := by simpa using hb
    subst e
    exact I1.fpOk (Nat.le_refl _) (I1.hok.fresh (Nat.le_refl _))
  · subst e
    cases r1
    obtain ⟨its, rv, p, hz⟩ := I1.tuple hq
    refine wpAny_pyIter_tuple (show s1.heap.IsTuple a its.toArray from p) ?_
    refine ⟨s1.heap.objs.size, [s1.heap.objs.size], _, _, H1, rfl, I1.kept (t' := s1.toks) fun b o e => Heap.get?_push_of_some _ e, turn_tuple a _, ⟨_, Heap.get?_push_size _ rfl, rfl, rfl⟩, fun b hb => ?_, q⟩
    have e : b = s1.heap.objs.size := by simpa using hb
    subst e
    exact I1.fpOk (Nat.le_refl _) (I1.hok.fresh (Nat.le_refl _))
  · subst e
    obtain ⟨t, rfl⟩ := r1
    cases ha : y.cps.all (· < 128)
    · exact wpAny_pyIter_wide ha (pi_one (tk := s1.toks) I1 _ (turn_str _ y t "str_iterator" (.inr rfl)) ⟨_, Heap.get?_push_size _ rfl, rfl, rfl⟩ q)
    · exact wpAny_pyIter_ascii ha (pi_one (tk := s1.toks) I1 _ (turn_str _ y t "str_ascii_iterator" (.inl rfl)) ⟨_, Heap.get?_push_size _ rfl, rfl, rfl⟩ q)
def fISeq (f : FR) : FI := fun ρ k => f ρ fun r ρ1 => r.as fun d => match d with
  | .list ds => k ds ρ1
  | .tuple ds => k ds ρ1
  | .str x => k (signsD x) ρ1
  | _ => False
theorem ie_seq {tg e : Expr} {f : FR} (h : RE cm E X e f) : IE cm E X tg e (fISeq f) := fun G => (pi_seq (h G)).via fun σ H Q ⟨ρ, F, fps, k, g, hk, q⟩ => ⟨ρ, F, fps, _, g, hk, fun r ρ1 F1 fps1 v fp H1 g1 l1 t hk1 => by
  obtain ⟨d, ex, hk1⟩ := R.as_dat hk1
  obtain ⟨F2, l2, g2, rv⟩ := g1.freeze t ex
  split at hk1
  · cases rv with
    | lst h r => exact .inl ⟨_, _, rfl, (g2.sub.rdl h).sq, q _ _ _ _ _ _ g2 (l1.trans l2) (ItOk.list h r) hk1⟩
  · cases rv with
    | tup h r => exact .inr (.inl ⟨_, _, rfl, SqT.of (g2.sub _ _ h), q _ _ _ _ _ _ g2 (l1.trans l2) (ItOk.tup h r) hk1⟩)
  · cases rv with
    | str => exact .inr (.inr ⟨_, rfl, q _ _ _ _ _ _ g2 (l1.trans l2) (ItOk.str _) hk1⟩)
  · exact hk1.elim⟩
def IntOk (j : Int) : Prop := -(2 ^ 62) ≤ j ∧ j < 2 ^ 62
def fIRng1 (f : FL) : FI := fun ρ k => f ρ fun ds ρ1 => match ds with
  | [.int j] => IntOk j ∧ k (rangeD 0 j.toNat) ρ1
  | _ => False
def fIRng2 (f : FL) : FI := fun ρ k => f ρ fun ds ρ1 => match ds with
  | [.int i, .int j] => IntOk i ∧ IntOk j ∧ k (rangeD i (j - i).toNat) ρ1
  | _ => False
theorem ie_range1 {tg a : Expr} {f : FL} {p : Pos} {n : Nat} (hg : Gl X "range") (hm : X.mg "range" = none) (ha : LA cm E X [a] n f) (hs : starEach [a] X.env = [(false, eval a X.env)] := by rfl) : IE cm E X tg (.Call (.Name "range" p) [a] [] pos) (fIRng1 f) := fun G =>
  (pi_range1 hg hm (ha G) hs).via fun σ H Q ⟨ρ, F, fps, k, g, hk, q⟩ => ⟨ρ, F, fps, _, g, hk, fun ds ρ1 F1 fps1 vs H1 g1 l1 rv hn hk1 => by
    split at hk1
    · cases rv with
      | cons h r =>
        cases r
        exact ⟨_, by rw [h.inti], hk1.1.1, hk1.1.2, q _ _ _ _ _ _ g1 l1 (ItOk.range 0 _) hk1.2⟩
    · exact hk1.elim⟩
theorem ie_range2 {tg a b : Expr} {f : FL} {p : Pos} {n : Nat} (hg : Gl X "range") (hm : X.mg "range" = none) (ha : LA cm E X [a, b] n f) (hs : starEach [a, b] X.env = [(false, eval a X.env), (false, eval b X.env)] := by rfl) (hs2 : starEach [b] X.env = [(false, eval b X.env)] := by rfl) : IE cm E X tg (.Call (.Name "range" p) [a, b] [] pos) (fIRng2 f) := fun G =>
  (pi_range2 hg hm (ha G) hs hs2).via fun σ H Q ⟨ρ, F, fps, k, g, hk, q⟩ => ⟨ρ, F, fps, _, g, hk, fun ds ρ1 F1 fps1 vs H1 g1 l1 rv hn hk1 => by
    split at hk1
    · cases rv with
      | cons h r =>
        cases r with
        | cons h' r =>
          cases r
          exact ⟨_, _, by rw [h.inti, h'.inti], ⟨hk1.1.1, hk1.1.2, hk1.2.1.1, hk1.2.1.2⟩, q _ _ _ _ _ _ g1 l1 (ItOk.range _ _) hk1.2.2⟩
    · exact hk1.elim⟩
def fIEnum (f : FL) : FI := fun ρ k => f ρ fun ds ρ1 => match ds with
  | [.list xs] => k (enumD xs) ρ1
  | _ => False
theorem ie_enum {a : Expr} {f : FL} {p tpos : Pos} {n kk : Nat} {elts : List Expr} (hg : Gl X "enumerate") (hm : X.mg "enumerate" = none) (ha : LA cm E X [a] n f) (hs : starEach [a] X.env = [(false, eval a X.env)] := by rfl) : IE cm E X (.Tuple elts kk tpos) (.Call (.Name "enumerate" p) [a] [] pos) (fIEnum f) := fun G =>
  (pi_enum hg hm (ha G) hs).via fun σ H Q ⟨ρ, F, fps, k, g, hk, q⟩ => ⟨ρ, F, fps, _, g, hk, fun ds ρ1 F1 fps1 vs H1 g1 l1 rv hn hk1 => by
    split at hk1
    · cases rv with
      | cons h r =>
        cases r
        cases h with
        | lst h r => exact ⟨_, _, rfl, (g1.sub.rdl h).sq, q _ _ _ _ _ _ g1 l1 (ItOk.enum h r) hk1⟩
    · exact hk1.elim⟩
def fIZip (f : FL) : FI := fun ρ k => f ρ fun ds ρ1 => match ds with
  | [.list xs, .list ys] => k (zipD xs ys) ρ1
  | _ => False
theorem ie_zip {a b : Expr} {f : FL} {p tpos : Pos} {n kk : Nat} {elts : List Expr} (hg : Gl X "zip") (hm : X.mg "zip" = none) (ha : LA cm E X [a, b] n f) (hs : starEach [a, b] X.env = (false, eval a X.env) :: starEach [b] X.env := by rfl) (hpl : (backTo pos (starEach [b] X.env)).any (·.1) = false := by rfl) : IE cm E X (.Tuple elts kk tpos) (.Call (.Name "zip" p) [a, b] [] pos) (fIZip f) := fun G =>
  (pi_zip hg hm (ha G) hs hpl).via fun σ H Q ⟨ρ, F, fps, k, g, hk, q⟩ => ⟨ρ, F, fps, _, g, hk, fun ds ρ1 F1 fps1 vs H1 g1 l1 rv hn hk1 => by
    split at hk1
    · cases rv with
      | cons h r =>
        cases r with
        | cons h' r =>
          cases r
          cases h with
          | lst h r =>
            cases h' with
            | lst h' r' => exact ⟨_, _, _, _, rfl, (g1.sub.rdl h).sq, (g1.sub.rdl h').sq, q _ _ _ _ _ _ g1 l1 (ItOk.zip h r h' r') hk1⟩
    · exact hk1.elim⟩

/-! ### for -/
def forGo (ft : FT) (body : FS) : List D → Dn → Ev → Prop
  | [], dn, ρ => dn.nx ρ
  | d :: r, dn, ρ => ft d ρ fun ρ1 => body { dn with nx := forGo ft body r dn, ct := forGo ft body r dn, bk := dn.nx } ρ1
def sFor (fi : FI) (ft : FT) (body : FS) : FS := fun dn ρ => fi ρ fun items ρ1 => forGo ft body items dn ρ1
theorem drop_cons {α : Type} {l : List α} {i : Nat} (h : i < l.length) : ∃ d, l[i]? = some d ∧ l.drop i = d :: l.drop (i + 1) := ⟨l[i], List.getElem?_eq_getElem h, List.drop_eq_getElem_cons h⟩
theorem se_for {tg iter : Expr} {body : List Stmt} {is : List Nat} {fi : FI} {ft : FT} {fb : FS} (hE : E.n = X.N.length) (hp : PassesOwn (model X.prog X.w) X.A X.env X.xe) (hc : X.calm = true) (hi : IE cm E X tg iter fi) (hg : TE' cm E X tg is ft) (hb : SEs cm E X body fb)
    (hs : ∀ x, foldedSetIterable iter X.env x = pure x := by intro _; rfl) : SE cm E X (.For tg iter body [] pos) (sFor fi ft fb) :=
  (ps_for hp hc (hi NoG) (hg NoG) hb hs).via fun D σ H len ⟨ρ, F, fps, dn, g, hk, l⟩ => ⟨ρ, F, fps, _, g, hk, fun items ρ1 F1 fps1 J H1 g1 l1 ok hk1 => by
    refine ⟨fun i m σ H => m = items.length - i ∧ i ≤ items.length ∧ σ.length = X.N.length ∧ ∃ ρ F' fps, Good ⟨X.K, cm⟩ E NoG ρ σ H F' fps ∧ Le F1 F' ∧ forGo ft fb (items.drop i) dn ρ, ⟨_, rfl, Nat.zero_le _, len, ρ1, F1, fps1, g1, Le.refl _, hk1⟩, ?_⟩
    rintro i m σ2 H2 ⟨rfl, hle, len2, ρ2, F2, fps2, g2, l2, h2⟩
    by_cases hlt : i < items.length
    · obtain ⟨d, hd, ed⟩ := drop_cons hlt
      rw [ed] at h2
      refine .inr ⟨ok.go i H2 F2 l2 g2.sub hlt, fun σ' H' => σ'.length = X.N.length ∧ ∃ ρ F' fps, Good ⟨X.K, cm⟩ E NoG ρ σ' H' F' fps ∧ Le F1 F' ∧ forGo ft fb (items.drop (i + 1)) dn ρ, fun σ' H' ⟨len', w⟩ => ⟨items.length - (i + 1), by omega, rfl, hlt, len', w⟩, fun x H' hy => ?_⟩
      obtain ⟨F3, res⟩ := ok.yld i H2 F2 x H' d l2 g2.sub hd hy
      obtain ⟨g3, t3⟩ := g2.res res
      refine ⟨d, ρ2, F3, fps2, _, len2, g3, t3.rl.vali, h2, fun ρ4 σ4 F4 fps4 H4 g4 l4 hj len4 h4 => ?_⟩
      have lall : Le F1 F4 := (l2.trans res.leF).trans l4
      refine ⟨ρ4, F4, fps4, _, g4, h4, ⟨fun ρ' σ' H' F' fps' g' le hk' => ⟨?_, ρ', F', fps', g', lall.trans le, hk'⟩, fun r ρ' σ' H' F' fps' v fp g' le t hk' => l.rt _ _ _ _ _ _ _ _ g' ((l1.trans lall).trans le) t hk',
        fun ρ' σ' H' F' fps' g' le hk' => l.nx _ _ _ _ _ g' ((l1.trans lall).trans le) hk', fun ρ' σ' H' F' fps' g' le hk' => ⟨?_, ρ', F', fps', g', lall.trans le, hk'⟩⟩⟩
      · rw [g'.sl, hE]
      · rw [g'.sl, hE]
    · have e : i = items.length := by omega
      subst e
      rw [List.drop_length] at h2
      exact .inl ⟨ok.stop H2 F2 l2 g2.sub, l.nx _ _ _ _ _ g2 (l1.trans l2) h2⟩⟩
end
end Cr
end

section
set_option maxRecDepth 100000
/-! Cor7: while, comprehensions. -/
namespace Cr
open PySem PySem.Spec PyProof.Rows L2

section
variable {cm : CM} {E : Ent} {X : Cx} {pos : Pos}
/-! ### while -/
def whGo (fc : FB) (body : FS) : Nat → Dn → Ev → Prop
  | 0, _, _ => False
  | n + 1, dn, ρ => fc ρ fun b ρ1 => if b = true then body { dn with nx := whGo fc body n dn, ct := whGo fc body n dn, bk := dn.nx } ρ1 else dn.nx ρ1
def sWhile (fc : FB) (body : FS) : FS := fun dn ρ => ∃ n, whGo fc body n dn ρ
theorem se_while {c : Expr} {body : List Stmt} {fc : FB} {fb : FS} (hp : PassesOwn (model X.prog X.w) X.A X.env X.xe) (hc : BE cm E X c fc) (hb : SEs cm E X body fb) : SE cm E X (.While c body [] pos) (sWhile fc fb) :=
  (ps_while hp (hc NoG) hb).via fun D σ H len ⟨ρ, F, fps, dn, g, ⟨n, hk⟩, l⟩ => by
    refine ⟨fun m σ H => ∃ ρ F' fps, Good ⟨X.K, cm⟩ E NoG ρ σ H F' fps ∧ Le F F' ∧ whGo fc fb m dn ρ, ⟨n, ρ, F, fps, g, Le.refl _, hk⟩, ?_⟩
    rintro m σ2 H2 ⟨ρ2, F2, fps2, g2, l2, h2⟩
    cases m with
    | zero => exact h2.elim
    | succ m =>
      refine ⟨ρ2, F2, fps2, _, g2, h2, fun b ρ3 F3 fps3 H3 g3 l3 h3 => ?_⟩
      have lall := l2.trans l3
      cases b with
      | true =>
        refine ⟨fun σ' H' => ∃ ρ F' fps, Good ⟨X.K, cm⟩ E NoG ρ σ' H' F' fps ∧ Le F F' ∧ whGo fc fb m dn ρ, fun σ' H' w => ⟨m, Nat.lt_succ_self m, w⟩, ?_⟩
        exact ⟨ρ3, F3, fps3, _, g3, h3, ⟨fun ρ' σ' H' F' fps' g' le hk' => ⟨ρ', F', fps', g', lall.trans le, hk'⟩, fun r ρ' σ' H' F' fps' v fp g' le t hk' => l.rt _ _ _ _ _ _ _ _ g' (lall.trans le) t hk',
          fun ρ' σ' H' F' fps' g' le hk' => l.nx _ _ _ _ _ g' (lall.trans le) hk', fun ρ' σ' H' F' fps' g' le hk' => ⟨ρ', F', fps', g', lall.trans le, hk'⟩⟩⟩
      | false => exact l.nx _ _ _ _ _ g3 lall h3

/-! ### comprehensions -/
def wipeE (vs : List Nat) (ρ : Ev) : Ev := vs.foldr (fun v ρ => ρ.set v none) ρ
def keepE (vs : List Nat) (ρ : Ev) : Bool := vs.all fun i => match ρ[i]? with
  | some (some (.val _)) => true
  | some none => true
  | none => true
  | _ => false
/-- the slots vs as they were in ρ -/
def restE (vs : List Nat) (ρ ρ' : Ev) : Ev := vs.foldr (fun v ρ' => match ρ[v]? with
  | some x => ρ'.set v x
  | none => ρ') ρ'
def BTs (cm : CM) (E : Ent) (X : Cx) (ifs : List Expr) (f : FB) : Prop := ∀ G, PTs X ifs (tBo ⟨X.K, cm⟩ E G f)
def fYes : FB := fun ρ k => k true ρ
theorem _root_.L2.PTs.via {X : Cx} {es : List Expr} {t t' : TT} (h : PTs X es t) (i : ∀ σ H Q, t' σ H Q → t σ H Q) : PTs X es t' := ⟨fun pins s σ H Q I q => h.run pins s σ H Q I (i σ H Q q)⟩
theorem bts_nil : BTs cm E X [] fYes := fun G => pts_nil.via fun σ H Q ⟨ρ, F, fps, k, g, hk, q⟩ => q _ _ _ _ _ g (Le.refl F) hk
theorem bts_one {c : Expr} {f : FB} (h : BE cm E X c f) : BTs cm E X [c] f := fun G => pts_one (h G)
def compGo (vs : List Nat) (ft : FT) (fc : FB) (fe : FR) : List D → Ev → List D → (List D → Ev → Prop) → Prop
  | [], ρ, acc, κ => κ acc ρ
  | d :: r, ρ, acc, κ => ft d ρ fun ρ1 => fc ρ1 fun b ρ2 => if b = true then fe ρ2 fun z ρ3 => z.as fun y => compGo vs ft fc fe r (wipeE vs ρ3) (acc ++ [y]) κ else compGo vs ft fc fe r (wipeE vs ρ2) acc κ
def fComp (vs : List Nat) (fi : FI) (ft : FT) (fc : FB) (fe : FR) : FR := fun ρ k => fi ρ fun items ρ1 => keepE vs ρ1 = true ∧ items.length ≤ sizeLine ∧ compGo vs ft fc fe items (wipeE vs ρ1) [] fun acc ρ2 => k (.olst acc) (restE vs ρ1 ρ2)

section
variable {Z : KC} {G : Addr → HO → Prop} {ρ : Ev} {σ : L2.St} {H F : Hp} {fps : Nat → List Addr}
theorem wipeE_get {vs : List Nat} {ρ : Ev} {j : Nat} : (wipeE vs ρ)[j]? = if j ∈ vs ∧ j < ρ.length then some none else ρ[j]? := by
  induction vs with
  | nil => simp [wipeE]
  | cons v r ih =>
    show ((wipeE r ρ).set v none)[j]? = _
    have hl : (wipeE r ρ).length = ρ.length := by
      clear ih
      induction r with
      | nil => rfl
      | cons a b ih2 => show ((wipeE b ρ).set a none).length = _; rw [List.length_set, ih2]
    by_cases h : j = v
    · subst h
      by_cases hj : j < ρ.length
      · rw [List.getElem?_set_self (by rw [hl]; exact hj), if_pos ⟨by simp, hj⟩]
      · rw [List.getElem?_eq_none (by rw [List.length_set, hl]; omega), if_neg (fun z => hj z.2), List.getElem?_eq_none (by omega)]
    · rw [get_set_ne h, ih]
      by_cases hm : j ∈ r <;> simp [hm, h]
theorem wipeE_len {vs : List Nat} {ρ : Ev} : (wipeE vs ρ).length = ρ.length := by
  induction vs with
  | nil => rfl
  | cons a b ih2 => show ((wipeE b ρ).set a none).length = _; rw [List.length_set, ih2]
theorem wipe_get {vs : List Nat} {σ : L2.St} {j : Nat} : (wipe σ vs)[j]? = if j ∈ vs ∧ j < σ.length then some none else σ[j]? := by
  induction vs with
  | nil => simp [wipe]
  | cons v r ih =>
    show ((wipe σ r).set v none)[j]? = _
    by_cases h : j = v
    · subst h
      by_cases hj : j < σ.length
      · rw [List.getElem?_set_self (by rw [wipe_length]; exact hj), if_pos ⟨by simp, hj⟩]
      · rw [List.getElem?_eq_none (by rw [List.length_set, wipe_length]; omega), if_neg (fun z => hj z.2), List.getElem?_eq_none (by omega)]
    · rw [get_set_ne h, ih]
      by_cases hm : j ∈ r <;> simp [hm, h]
/-- a block's slots, forgotten in both -/
theorem Good.wiped (g : Good Z E G ρ σ H F fps) {vs : List Nat} (hp : ∀ v ∈ vs, NoPin E v) : ∃ fps', Good Z E G (wipeE vs ρ) (wipe σ vs) H F fps' := by
  have : ∃ fps', Good Z E G (wipeE vs ρ) σ H F fps' := by
    clear hp
    induction vs with
    | nil => exact ⟨fps, g⟩
    | cons v r ih =>
      obtain ⟨fps', g'⟩ := ih
      exact ⟨_, g'.drop v⟩
  obtain ⟨fps', g'⟩ := this
  refine ⟨fps', g'.sigma (fun j r e => ?_) (wipe_length σ vs) fun p hp' => ?_⟩
  · rw [wipeE_get] at e
    rw [wipe_get]
    split at e
    · cases e
    · rename_i h
      rw [if_neg]
      intro z
      exact h ⟨z.1, by rw [g.len]; exact z.2⟩
  · rw [wipe_get, if_neg]
    intro z
    exact hp p.1 z.1 p hp' rfl
/-- what differs only in the block's slots -/
theorem wipe_eq {σ σ' : L2.St} {vs : List Nat} (h : ∀ j, j ∉ vs → σ'[j]? = (wipe σ vs)[j]?) (hl : σ'.length = σ.length) : wipe σ' vs = wipe σ vs := by
  apply List.ext_getElem?
  intro j
  rw [wipe_get, wipe_get, hl]
  by_cases hm : j ∈ vs
  · by_cases hj : j < σ.length
    · rw [if_pos ⟨hm, hj⟩, if_pos ⟨hm, hj⟩]
    · rw [if_neg (fun z => hj z.2), if_neg (fun z => hj z.2), List.getElem?_eq_none (by omega), List.getElem?_eq_none (by omega)]
  · rw [if_neg (fun z => hm z.1), if_neg (fun z => hm z.1), h j hm, wipe_get, if_neg (fun z => hm z.1)]
theorem restE_get {vs : List Nat} {ρ ρ' : Ev} (hl : ρ'.length = ρ.length) {j : Nat} : (restE vs ρ ρ')[j]? = if j ∈ vs then ρ[j]? else ρ'[j]? := by
  have hlen : ∀ vs : List Nat, (restE vs ρ ρ').length = ρ'.length := by
    intro vs
    induction vs with
    | nil => rfl
    | cons v r ih =>
      show (match ρ[v]? with | some x => (restE r ρ ρ').set v x | none => restE r ρ ρ').length = _
      split
      · rw [List.length_set, ih]
      · exact ih
  induction vs with
  | nil => simp [restE]
  | cons v r ih =>
    show (match ρ[v]? with | some x => (restE r ρ ρ').set v x | none => restE r ρ ρ')[j]? = _
    by_cases h : j = v
    · subst h
      rw [if_pos (by simp)]
      split
      · rename_i x e
        have hj : j < ρ.length := (List.getElem?_eq_some_iff.mp e).1
        rw [List.getElem?_set_self (by rw [hlen, hl]; exact hj), e]
      · rename_i e
        rw [e]
        have : ρ.length ≤ j := List.getElem?_eq_none_iff.mp e
        exact List.getElem?_eq_none (by rw [hlen, hl]; exact this)
    · have hm : (j ∈ v :: r) ↔ j ∈ r := by simp [h]
      have e : (match ρ[v]? with | some x => (restE r ρ ρ').set v x | none => restE r ρ ρ')[j]? = (restE r ρ ρ')[j]? := by
        split
        · rw [get_set_ne h]
        · rfl
      rw [e, ih]
      by_cases hj : j ∈ r <;> simp [hj, h]
theorem restE_len {vs : List Nat} {ρ ρ' : Ev} : (restE vs ρ ρ').length = ρ'.length := by
  induction vs with
  | nil => rfl
  | cons v r ih =>
    show (match ρ[v]? with | some x => (restE r ρ ρ').set v x | none => restE r ρ ρ').length = _
    split
    · rw [List.length_set, ih]
    · exact ih
/-- behind a block: the outer slots again -/
theorem Good.restored {ρ1 ρ2 : Ev} {σ : L2.St} {H1 F1 : Hp} {fps1 : Nat → List Addr} (g1 : Good Z E G ρ1 σ H1 F1 fps1) {vs : List Nat} (hk : keepE vs ρ1 = true) {H2 F2 : Hp} {fps2 : Nat → List Addr} {G2 : Addr → HO → Prop}
    (g2 : Good Z E G2 (wipeE vs ρ2) (wipe σ vs) H2 F2 fps2) (l : Le F1 F2) (hl : ρ2.length = ρ1.length) (hg : ∀ a o, G a o → G2 a o) : Good Z E G (restE vs ρ1 (wipeE vs ρ2)) σ H2 F2 fps2 where
  sub := g2.sub
  env := fun i r e => by
    rw [restE_get (by rw [wipeE_len, hl])] at e
    by_cases hm : i ∈ vs
    · rw [if_pos hm] at e
      have hv : ∃ d, r = .val d := by
        have := List.all_eq_true.mp hk i hm
        rw [e] at this
        cases r with
        | val d => exact ⟨d, rfl⟩
        | _ => simp at this
      obtain ⟨d, rfl⟩ := hv
      obtain ⟨v, h1, h2⟩ := g1.env i _ e
      have he : fps2 i = [] := g2.emp i fun r q => by
        rw [wipeE_get] at q
        split at q
        · cases q
        · rename_i z
          have hi : i < ρ1.length := (List.getElem?_eq_some_iff.mp e).1
          exact z ⟨hm, by rw [hl]; exact hi⟩
      exact ⟨v, h1, by rw [he]; exact .val (h2.vali.mono l)⟩
    · rw [if_neg hm] at e
      obtain ⟨v, h1, h2⟩ := g2.env i r e
      rw [wipe_get, if_neg (fun z => hm z.1)] at h1
      exact ⟨v, h1, h2⟩
  emp := fun i q => by
    by_cases hm : i ∈ vs
    · refine g2.emp i fun r e => ?_
      rw [wipeE_get] at e
      split at e
      · cases e
      · rename_i z
        have hi : i < ρ2.length := (List.getElem?_eq_some_iff.mp e).1
        exact z ⟨hm, hi⟩
    · refine g2.emp i fun r e => q r ?_
      rw [restE_get (by rw [wipeE_len, hl]), if_neg hm]
      exact e
  nd := g2.nd
  dis := g2.dis
  off := g2.off
  own := g2.own
  frz := g2.frz
  le0 := g2.le0
  keep := g2.keep
  fr := fun a o h => g2.fr a o (hg a o h)
  len := by rw [restE_len, wipeE_len, hl]; exact g1.len
  sl := g1.sl
  pin := g1.pin
end
/-- the frame with one list more -/
abbrev GA (G : Addr → HO → Prop) (D : Addr) (acc : List V) : Addr → HO → Prop := fun a o => G a o ∨ (a = D ∧ o = .lst acc)
theorem comp_go {elt tg iter : Expr} {ifs : List Expr} {scope : Scope} {own : List (Str × Nat)} {is : List Nat} {fi : FI} {ft : FT} {fc : FB} {fe : FR} (hE : E.n = X.N.length) (hc : X.calm = true) (hN : X.N.Nodup) (hi : IE cm E X tg iter fi) (ok : BlkOk X.N X.env.scope scope own)
    (hg : ∀ (s : Shared) (H : Hp) (C : Addr) (cl : List (Str × Addr)) (fp : List Addr), TE' cm E (X.blk s H scope (compEnvC scope cl C X.env) fp) tg is ft) (ht : ∀ (s : Shared) (H : Hp) (C : Addr) (cl : List (Str × Addr)) (fp : List Addr), BTs cm E (X.blk s H scope (compEnvC scope cl C X.env) fp) ifs fc)
    (he : ∀ (s : Shared) (H : Hp) (C : Addr) (cl : List (Str × Addr)) (fp : List Addr), RE cm E (X.blk s H scope (compEnvC scope cl C X.env) fp) elt fe) (his : ∀ i ∈ is, i ∈ own.map (·.2)) (hp : ∀ v ∈ own.map (·.2), NoPin E v) (hs : ∀ x, foldedSetIterable iter X.env x = pure x := by intro _; rfl) :
    ∀ G σ H Q, tR ⟨X.K, cm⟩ E G (fComp (own.map (·.2)) fi ft fc fe) σ H Q → tLc (tIt ⟨X.K, cm⟩ E G fi) (fun v σ H Q => ∃ D acc, tGt ⟨X.K, cm⟩ E (GA G D acc) is X.N.length ft v σ H Q) (fun σ H Q => ∃ D acc, tBo ⟨X.K, cm⟩ E (GA G D acc) fc σ H Q) (fun σ H Q => ∃ D acc, tR ⟨X.K, cm⟩ E (GA G D acc) fe σ H Q) (own.map (·.2)) σ H Q := by
  intro G σ H Q ⟨ρ, F, fps, k, g, hk, q⟩
  refine ⟨ρ, F, fps, _, g, hk, fun items ρ1 F1 fps1 J H1 g1 l1 okJ ⟨hkeep, hsz, hk1⟩ D nD => ?_⟩
  obtain ⟨fps1', g1'⟩ := g1.wiped hp
  have le1 : Le H1 (upd H1 D (.lst [])) := Le.upd nD
  refine ⟨fun i m H => m = items.length - i ∧ i ≤ items.length ∧ ∃ (ρ2 : Ev) (F' : Hp) (fps' : Nat → List Addr) (acc : List V) (ds : List PyData), ρ2.length = ρ1.length ∧ Good ⟨X.K, cm⟩ E (GA G D acc) (wipeE (own.map (·.2)) ρ2) (wipe σ (own.map (·.2))) H F' fps' ∧ Le F1 F' ∧ RvAll X.K F' acc ds ∧ acc.length ≤ i ∧
      compGo (own.map (·.2)) ft fc fe (items.drop i) (wipeE (own.map (·.2)) ρ2) ds (fun acc ρ2 => k (.olst acc) (restE (own.map (·.2)) ρ1 ρ2)) ∧ (D ∈ E.fp0 ∨ E.H0 D = none), ⟨_, rfl, Nat.zero_le _, ρ1, F1, fps1', [], [], rfl, ?_, Le.refl _, .nil, Nat.le_refl _, hk1, ?_⟩, ?_⟩
  · refine (g1'.ext le1).reframe fun a o h => ?_
    rcases h with h | ⟨rfl, rfl⟩
    · obtain ⟨h1, h2, h3⟩ := g1'.fr a o h
      exact ⟨le1 a o h1, h2, h3⟩
    · exact ⟨upd_same, g1.sub.free nD, fun i hi => g1'.there hi nD⟩
  · cases z : E.H0 D with
    | none => exact .inr rfl
    | some o =>
      by_cases w : D ∈ E.fp0
      · exact .inl w
      · have := g1.keep D o z w
        rw [nD] at this; cases this
  · rintro i m H2 ⟨rfl, hle, ρ2, F2, fps2, acc, ds, hlen2, g2, l2, ra, hai, h2, hD0⟩
    have hDat : H2 D = some (.lst acc) := (g2.fr D _ (.inr ⟨rfl, rfl⟩)).1
    by_cases hlt : i < items.length
    · obtain ⟨d, hd, ed⟩ := drop_cons hlt
      rw [ed] at h2
      refine .inr ⟨okJ.go i H2 F2 l2 g2.sub hlt, _, fun H' w => ⟨items.length - (i + 1), by omega, rfl, hlt, w⟩, fun x H3 hy => ?_⟩
      obtain ⟨F3, res⟩ := okJ.yld i H2 F2 x H3 d l2 g2.sub hd hy
      obtain ⟨g3, t3⟩ := g2.res res
      have wl : (wipe σ (own.map (·.2))).length = X.N.length := by rw [g3.sl, hE]
      refine ⟨D, acc, d, _, F3, fps2, _, wl, g3, t3.rl.vali, h2, fun ρ4 σ4 F4 fps4 H4 g4 l4 hj4 len4 h4 => ?_⟩
      have wσ : wipe σ4 (own.map (·.2)) = wipe σ (own.map (·.2)) := wipe_eq (fun j hn => hj4 j fun z => hn (his j z)) (by rw [len4, ← wl, wipe_length])
      refine ⟨wσ, D, acc, ρ4, F4, fps4, _, g4, h4, fun b ρ5 F5 fps5 H5 g5 l5 h5 => ?_⟩
      have lall : Le F2 F5 := (res.leF.trans l4).trans l5
      cases b with
      | false =>
        rw [if_neg Bool.false_ne_true] at h5
        show (if false = true then _ else _)
        rw [if_neg Bool.false_ne_true]
        obtain ⟨fps6, g6⟩ := g5.wiped hp
        rw [wσ] at g6
        refine ⟨ρ5, F5, fps6, acc, ds, ?_, g6, l2.trans lall, ra.mono lall, by omega, h5, hD0⟩
        rw [g5.len, g5.sl, g1.len, g1.sl]
      | true =>
        rw [if_pos rfl] at h5
        show (if true = true then _ else _)
        rw [if_pos rfl]
        refine ⟨D, acc, ρ5, F5, fps5, _, g5, h5, fun z ρ6 F6 fps6 v fp H6 g6 l6 t6 h6 => ?_⟩
        obtain ⟨y, ey, h6⟩ := R.as_dat h6
        obtain ⟨F7, l7, g7, ry⟩ := g6.freeze t6 ey
        obtain ⟨hD1, hD2, hD3⟩ := g7.fr D _ (.inr ⟨rfl, rfl⟩)
        refine ⟨acc, hD1, by omega, ?_⟩
        obtain ⟨fps8, g8⟩ := g7.wiped hp
        rw [wσ] at g8
        obtain ⟨hD1', hD2', hD3'⟩ := g8.fr D _ (.inr ⟨rfl, rfl⟩)
        have ltot : Le F2 F7 := (lall.trans l6).trans l7
        refine ⟨ρ6, F7, fps8, acc ++ [v], ds ++ [y], ?_, ?_, l2.trans ltot, (ra.mono ltot).append (.one ry), by rw [List.length_append, List.length_singleton]; omega, h6, hD0⟩
        · rw [g6.len, g6.sl, g1.len, g1.sl]
        · -- the list grows
          refine ⟨fun a o e => ?_, fun j r e => ?_, g8.emp, g8.nd, g8.dis, g8.off, g8.own, g8.frz, g8.le0, fun a o e n => ?_, fun a o e => ?_, g8.len, g8.sl, g8.pin⟩
          · have : a ≠ D := fun z => by rw [z, hD2'] at e; cases e
            rw [upd_ne this]; exact g8.sub a o e
          · obtain ⟨w, h1, h2⟩ := g8.env j r e
            exact ⟨w, h1, h2.mono (Le.refl _) fun a ha => upd_ne fun z => hD3' j (z ▸ ha)⟩
          · have : a ≠ D := fun z => by
              rcases hD0 with w | w
              · exact n (z ▸ w)
              · rw [z, w] at e; cases e
            rw [upd_ne this]; exact g8.keep a o e n
          · rcases e with e | ⟨rfl, rfl⟩
            · obtain ⟨h1, h2, h3⟩ := g8.fr a o (.inl e)
              have : a ≠ D := fun z => by
                subst z
                have hg : H1 a = some o := (g1.fr a o e).1
                rw [nD] at hg; cases hg
              exact ⟨by rw [upd_ne this]; exact h1, h2, h3⟩
            · exact ⟨upd_same, hD2', hD3'⟩
    · have e : i = items.length := by omega
      subst e
      rw [List.drop_length] at h2
      refine .inl ⟨okJ.stop H2 F2 l2 g2.sub, ?_⟩
      have g3 := g1.restored hkeep g2 l2 hlen2 (fun a o h => .inl h)
      obtain ⟨hD1, hD2, hD3⟩ := g2.fr D _ (.inr ⟨rfl, rfl⟩)
      refine q _ _ _ _ _ [D] _ g3 (l1.trans l2) ⟨.olst hD1 ra, by simp, fun a ha => ?_⟩ h2
      have ea : a = D := by simpa using ha
      subst ea
      exact ⟨hD2, hD3, fun o ho => (by have := (g1.fr a o ho).1; rw [nD] at this; cases this), hD0⟩

theorem re_comp {elt tg iter : Expr} {ifs : List Expr} {scope : Scope} {own : List (Str × Nat)} {is : List Nat} {fi : FI} {ft : FT} {fc : FB} {fe : FR} (hE : E.n = X.N.length) (hc : X.calm = true) (hN : X.N.Nodup) (hi : IE cm E X tg iter fi) (ok : BlkOk X.N X.env.scope scope own)
    (hg : ∀ (s : Shared) (H : Hp) (C : Addr) (cl : List (Str × Addr)) (fp : List Addr), TE' cm E (X.blk s H scope (compEnvC scope cl C X.env) fp) tg is ft) (ht : ∀ (s : Shared) (H : Hp) (C : Addr) (cl : List (Str × Addr)) (fp : List Addr), BTs cm E (X.blk s H scope (compEnvC scope cl C X.env) fp) ifs fc)
    (he : ∀ (s : Shared) (H : Hp) (C : Addr) (cl : List (Str × Addr)) (fp : List Addr), RE cm E (X.blk s H scope (compEnvC scope cl C X.env) fp) elt fe) (his : ∀ i ∈ is, i ∈ own.map (·.2)) (hp : ∀ v ∈ own.map (·.2), NoPin E v) (hs : ∀ x, foldedSetIterable iter X.env x = pure x := by intro _; rfl) :
    RE cm E X (.ListComp elt [⟨tg, iter, ifs, 0⟩] scope pos) (fComp (own.map (·.2)) fi ft fc fe) := fun G =>
  (pe_lc (g := fun v σ H Q => ∃ D acc, tGt ⟨X.K, cm⟩ E (GA G D acc) is X.N.length ft v σ H Q) (tt := fun σ H Q => ∃ D acc, tBo ⟨X.K, cm⟩ E (GA G D acc) fc σ H Q) (te := fun σ H Q => ∃ D acc, tR ⟨X.K, cm⟩ E (GA G D acc) fe σ H Q) hc hN (hi G) ok
    (fun s H C cl fp => ⟨fun pins s' σ H' v u Q I r ⟨D, acc, q⟩ => (hg s H C cl fp (GA G D acc)).run pins s' σ H' v u Q I r q⟩)
    (fun s H C cl fp => ⟨fun pins s' σ H' Q I ⟨D, acc, q⟩ => (ht s H C cl fp (GA G D acc)).run pins s' σ H' Q I q⟩)
    (fun s H C cl fp => ⟨fun pins s' σ H' Q I ⟨D, acc, q⟩ => (he s H C cl fp (GA G D acc)).run pins s' σ H' Q I q⟩) hs).via
    fun σ H Q h => comp_go hE hc hN hi ok hg ht he his hp hs G σ H Q h
/-- name = [..] -/
theorem se_setComp {i : Nat} {y : Str} {py spos : Pos} {elt tg iter : Expr} {ifs : List Expr} {scope : Scope} {own : List (Str × Nat)} {is : List Nat} {fi : FI} {ft : FT} {fc : FB} {fe : FR} (hE : E.n = X.N.length) (hc : X.calm = true) (hN : X.N.Nodup) (hy : X.N[i]? = some y) (hyl : X.env.scope.names.lookup y = some .local) (hpi : NoPin E i)
    (hsw : swapsWith (.ListComp elt [⟨tg, iter, ifs, 0⟩] scope pos) (some (.Name y py)) spos.line X.env = pure true) (hi : IE cm E X tg iter fi) (ok : BlkOk X.N X.env.scope scope own)
    (hg : ∀ (s : Shared) (H : Hp) (C : Addr) (cl : List (Str × Addr)) (fp : List Addr), TE' cm E (X.blk s H scope (compEnvC scope cl C X.env) fp) tg is ft) (ht : ∀ (s : Shared) (H : Hp) (C : Addr) (cl : List (Str × Addr)) (fp : List Addr), BTs cm E (X.blk s H scope (compEnvC scope cl C X.env) fp) ifs fc)
    (he : ∀ (s : Shared) (H : Hp) (C : Addr) (cl : List (Str × Addr)) (fp : List Addr), RE cm E (X.blk s H scope (compEnvC scope cl C X.env) fp) elt fe) (his : ∀ i ∈ is, i ∈ own.map (·.2)) (hp : ∀ v ∈ own.map (·.2), NoPin E v) (hs : ∀ x, foldedSetIterable iter X.env x = pure x := by intro _; rfl) :
    SE cm E X (.Assign [.Name y py] (.ListComp elt [⟨tg, iter, ifs, 0⟩] scope pos) spos) (sAsg i (fComp (own.map (·.2)) fi ft fc fe)) :=
  (ps_setLc (g := fun v σ H Q => ∃ D acc, tGt ⟨X.K, cm⟩ E (GA NoG D acc) is X.N.length ft v σ H Q) (tt := fun σ H Q => ∃ D acc, tBo ⟨X.K, cm⟩ E (GA NoG D acc) fc σ H Q) (te := fun σ H Q => ∃ D acc, tR ⟨X.K, cm⟩ E (GA NoG D acc) fe σ H Q) hc hN hy hyl hsw (hi NoG) ok
    (fun s H C cl fp => ⟨fun pins s' σ H' v u Q I r ⟨D, acc, q⟩ => (hg s H C cl fp (GA NoG D acc)).run pins s' σ H' v u Q I r q⟩)
    (fun s H C cl fp => ⟨fun pins s' σ H' Q I ⟨D, acc, q⟩ => (ht s H C cl fp (GA NoG D acc)).run pins s' σ H' Q I q⟩)
    (fun s H C cl fp => ⟨fun pins s' σ H' Q I ⟨D, acc, q⟩ => (he s H C cl fp (GA NoG D acc)).run pins s' σ H' Q I q⟩) hs).via
    fun D σ H len ⟨ρ, F, fps, dn, g, hk, l⟩ => comp_go hE hc hN hi ok hg ht he his hp hs NoG σ H _ ⟨ρ, F, fps, _, g, hk, fun r ρ' F' fps' v fp H' g' le t hk' =>
      l.nx _ _ _ _ _ (g'.store t (by rw [len]; exact (List.getElem?_eq_some_iff.mp hy).1) hpi) le hk'⟩
end
end Cr
end

section
set_option maxRecDepth 100000
/-! Cor8: what a def means; calls of defs. -/
namespace Cr
open PySem PySem.Spec PyProof.Rows L2

abbrev KXc := Str → List R → Prop
abbrev Mean := List R → (R → List R → Prop) → KXc → Prop
abbrev KE := Str → Ev → Prop

/-- arguments at the entry: the owned ones (true) with what they own -/
inductive AR (Z : KC) (F H : Hp) : List Bool → List R → List V → List Addr → Prop
  | nil : AR Z F H [] [] [] []
  | cv {br : List Bool} {rs : List R} {vs : List V} {fp : List Addr} {v : V} {d : D} : Rv Z.K F v d → AR Z F H br rs vs fp → AR Z F H (false :: br) (.val d :: rs) (v :: vs) fp
  | co {br : List Bool} {rs : List R} {vs : List V} {p fp : List Addr} {v : V} {r : R} : Rl Z F H r v p → AR Z F H br rs vs fp → AR Z F H (true :: br) (r :: rs) (v :: vs) (p ++ fp)
/-- .. and the owned ones behind it -/
inductive ARf (Z : KC) (F H : Hp) : List Bool → List R → List V → List Addr → Prop
  | nil : ARf Z F H [] [] [] []
  | cv {br : List Bool} {rs : List R} {vs : List V} {fp : List Addr} {v : V} : ARf Z F H br rs vs fp → ARf Z F H (false :: br) rs (v :: vs) fp
  | co {br : List Bool} {rs : List R} {vs : List V} {p fp : List Addr} {v : V} {r : R} : Rl Z F H r v p → ARf Z F H br rs vs fp → ARf Z F H (true :: br) (r :: rs) (v :: vs) (p ++ fp)
structure Post (F H : Hp) (fp0 : List Addr) (F' H' : Hp) : Prop where
  le : Le F F'
  sub : Le F' H'
  keep : ∀ a o, H a = some o → a ∉ fp0 → H' a = some o
  frz : ∀ a o, F' a = some o → F a = some o ∨ a ∈ fp0 ∨ H a = none
def spD (Z : KC) (br : List Bool) (M : Mean) : Sp := fun vs H Q Ex => ∃ F rs fp0 k kx, Le F H ∧ AR Z F H br rs vs fp0 ∧ fp0.Nodup ∧ (∀ a ∈ fp0, F a = none) ∧ M rs k kx ∧
  (∀ r fs v fp fp1 F' H', Post F H fp0 F' H' → Rl Z F' H' r v fp → ARf Z F' H' br fs vs fp1 → (fp ++ fp1).Nodup → (∀ a ∈ fp ++ fp1, F' a = none ∧ (a ∈ fp0 ∨ H a = none)) → k r fs → Q v H') ∧
  (∀ c C fs fp1 F' H', Post F H fp0 F' H' → Z.cm c = some C → ARf Z F' H' br fs vs fp1 → fp1.Nodup → (∀ a ∈ fp1, F' a = none ∧ (a ∈ fp0 ∨ H a = none)) → kx c fs → Ex (.ref C) none H')
theorem AR.len {Z : KC} {F H : Hp} : ∀ {br : List Bool} {rs : List R} {vs : List V} {fp : List Addr}, AR Z F H br rs vs fp → rs.length = br.length ∧ vs.length = br.length
  | _, _, _, _, .nil => ⟨rfl, rfl⟩
  | _, _, _, _, .cv _ r => by have := r.len; exact ⟨by rw [List.length_cons, List.length_cons, this.1], by rw [List.length_cons, List.length_cons, this.2]⟩
  | _, _, _, _, .co _ r => by have := r.len; exact ⟨by rw [List.length_cons, List.length_cons, this.1], by rw [List.length_cons, List.length_cons, this.2]⟩
/-- each argument's own -/
theorem AR.each {Z : KC} {F H : Hp} : ∀ {br : List Bool} {rs : List R} {vs : List V} {fp : List Addr}, AR Z F H br rs vs fp → fp.Nodup →
    ∃ f : Nat → List Addr, (∀ i r, rs[i]? = some r → ∃ v, vs[i]? = some v ∧ Rl Z F H r v (f i)) ∧ (∀ i, rs.length ≤ i → f i = []) ∧ (∀ i a, a ∈ f i → a ∈ fp) ∧ (∀ i, (f i).Nodup) ∧ ∀ i j a, a ∈ f i → a ∈ f j → i = j
  | _, _, _, _, .nil, _ => ⟨fun _ => [], fun i r h => by simp at h, fun _ _ => rfl, fun _ _ h => by simp at h, fun _ => List.nodup_nil, fun _ _ _ h => by simp at h⟩
  | _, _, _, _, @AR.cv _ _ _ _ rs vs _ v d h t, nd => by
    obtain ⟨f, h1, h2, h3, h4, h5⟩ := t.each nd
    refine ⟨fun i => match i with | 0 => [] | i + 1 => f i, fun i r e => ?_, fun i hi => ?_, fun i a ha => ?_, fun i => ?_, fun i j a ha hb => ?_⟩
    · cases i with
      | zero => simp at e; subst e; exact ⟨v, rfl, .val h⟩
      | succ i => obtain ⟨w, a, b⟩ := h1 i r (by simpa using e); exact ⟨w, by simpa using a, b⟩
    · cases i with
      | zero => rfl
      | succ i => exact h2 i (by simpa using hi)
    · cases i with
      | zero => simp at ha
      | succ i => exact h3 i a ha
    · cases i with
      | zero => exact List.nodup_nil
      | succ i => exact h4 i
    · cases i with
      | zero => simp at ha
      | succ i =>
        cases j with
        | zero => simp at hb
        | succ j => rw [h5 i j a ha hb]
  | _, _, _, _, @AR.co _ _ _ _ rs vs p _ v r0 h t, nd => by
    rw [List.nodup_append] at nd
    obtain ⟨n1, n2, n3⟩ := nd
    obtain ⟨f, h1, h2, h3, h4, h5⟩ := t.each n2
    refine ⟨fun i => match i with | 0 => p | i + 1 => f i, fun i r e => ?_, fun i hi => ?_, fun i a ha => ?_, fun i => ?_, fun i j a ha hb => ?_⟩
    · cases i with
      | zero => simp at e; subst e; exact ⟨v, rfl, h⟩
      | succ i => obtain ⟨w, a, b⟩ := h1 i r (by simpa using e); exact ⟨w, by simpa using a, b⟩
    · cases i with
      | zero => simp at hi
      | succ i => exact h2 i (by simpa using hi)
    · cases i with
      | zero => exact List.mem_append_left _ ha
      | succ i => exact List.mem_append_right _ (h3 i a ha)
    · cases i with
      | zero => exact n1
      | succ i => exact h4 i
    · cases i with
      | zero =>
        cases j with
        | zero => rfl
        | succ j => exact absurd rfl (n3 a ha a (h3 j a hb))
      | succ i =>
        cases j with
        | zero => exact absurd rfl (n3 a hb a (h3 i a ha))
        | succ j => rw [h5 i j a ha hb]

/-- the places of the owned parameters -/
def idxs : Nat → List Bool → List Nat
  | _, [] => []
  | i, false :: r => idxs (i + 1) r
  | i, true :: r => i :: idxs (i + 1) r
def finK : List Nat → Ev → (List R → Prop) → Prop
  | [], _, κ => κ []
  | i :: r, ρ, κ => match ρ[i]? with
    | some (some x) => finK r ρ fun xs => κ (x :: xs)
    | _ => False
def startE (n : Nat) (rs : List R) : Ev := rs.map some ++ List.replicate (n - rs.length) none
def fnM (n : Nat) (br : List Bool) (body : KE → FS) : Mean := fun rs k kx =>
  body (fun c ρ => finK (idxs 0 br) ρ fun fs => kx c fs) { nx := fun ρ => finK (idxs 0 br) ρ fun fs => k (.val .none) fs, rt := fun r ρ => finK (idxs 0 br) ρ fun fs => k r fs } (startE n rs)
/-- the owned parameters' own objects, behind the body -/
theorem fin_of {Z : KC} {E : Ent} {G : Addr → HO → Prop} {ρ : Ev} {σ : L2.St} {H F : Hp} {fps : Nat → List Addr} (g : Good Z E G ρ σ H F fps) : ∀ {br : List Bool} {vs : List V} {i : Nat} {κ : List R → Prop}, br.length = vs.length →
    (∀ j v, br[j]? = some true → vs[j]? = some v → σ[i + j]? = some (some v)) → finK (idxs i br) ρ κ → ∃ fs fp, ARf Z F H br fs vs fp ∧ fp.Nodup ∧ (∀ a ∈ fp, ∃ j, i ≤ j ∧ a ∈ fps j) ∧ κ fs
  | [], [], i, κ, _, _, h => ⟨[], [], .nil, List.nodup_nil, fun _ h => by simp at h, h⟩
  | [], _ :: _, _, _, h, _, _ => by simp at h
  | _ :: _, [], _, _, h, _, _ => by simp at h
  | false :: br, v :: vs, i, κ, hl, hs, h => by
    obtain ⟨fs, fp, h1, h2, h3, h4⟩ := fin_of g (br := br) (vs := vs) (i := i + 1) (by simpa using hl) (fun j w e1 e2 => by
      have := hs (j + 1) w (by simpa using e1) (by simpa using e2)
      rw [show i + 1 + j = i + (j + 1) by omega]; exact this) h
    exact ⟨fs, fp, .cv h1, h2, fun a ha => by obtain ⟨j, hj, hm⟩ := h3 a ha; exact ⟨j, by omega, hm⟩, h4⟩
  | true :: br, v :: vs, i, κ, hl, hs, h => by
    unfold idxs finK at h
    split at h
    · rename_i x e
      obtain ⟨fs, fp, h1, h2, h3, h4⟩ := fin_of g (br := br) (vs := vs) (i := i + 1) (by simpa using hl) (fun j w e1 e2 => by
        have := hs (j + 1) w (by simpa using e1) (by simpa using e2)
        rw [show i + 1 + j = i + (j + 1) by omega]; exact this) h
      obtain ⟨w, hw, rl⟩ := g.env i x e
      have hv := hs 0 v rfl rfl
      rw [Nat.add_zero, hw] at hv
      cases hv
      refine ⟨x :: fs, fps i ++ fp, .co rl h1, ?_, fun a ha => ?_, h4⟩
      · rw [List.nodup_append]
        refine ⟨g.nd i, h2, fun a ha b hb z => ?_⟩
        subst z
        obtain ⟨j, hj, hm⟩ := h3 a hb
        have := g.dis i j a ha hm
        omega
      · rcases List.mem_append.mp ha with ha | ha
        · exact ⟨i, Nat.le_refl _, ha⟩
        · obtain ⟨j, hj, hm⟩ := h3 a ha
          exact ⟨j, by omega, hm⟩
    · exact h.elim

/-- an exception leaves: its class is one of the text's own -/
def WX (Z : KC) (E : Ent) (kx : KE) : L2.WX := fun cls d σ H => d = none ∧ ∃ c C G ρ F fps, Z.cm c = some C ∧ cls = .ref C ∧ Good Z E G ρ σ H F fps ∧ kx c ρ
/-- what a context does with exceptions -/
def RX (cm : CM) (E : Ent) (X : Cx) (kx : KE) : Prop := Takes X (WX ⟨X.K, cm⟩ E kx)
theorem rx_none {cm : CM} {E : Ent} {X : Cx} : RX cm E X (fun _ _ => False) := (takes0 (X := X)).imp fun _ _ _ _ ⟨_, _, _, _, _, _, _, _, _, _, z⟩ => z

theorem pin_of : ∀ {br : List Bool} {vs : List V} {i : Nat}, br.length = vs.length → (((idxs i br).zip (idxs i br)).length = (idxs i br).length)
  | _, _, _, _ => by simp
def pinsOf : Nat → List Bool → List V → List (Nat × V)
  | i, true :: br, v :: vs => (i, v) :: pinsOf (i + 1) br vs
  | i, false :: br, _ :: vs => pinsOf (i + 1) br vs
  | _, _, _ => []
theorem pinsOf_fst : ∀ {br : List Bool} {vs : List V} {i : Nat}, br.length = vs.length → (pinsOf i br vs).map (·.1) = idxs i br
  | [], [], _, _ => rfl
  | [], _ :: _, _, h => by simp at h
  | _ :: _, [], _, h => by simp at h
  | true :: br, v :: vs, i, h => by
    show i :: _ = i :: _
    rw [pinsOf_fst (by simpa using h)]
  | false :: br, v :: vs, i, h => pinsOf_fst (br := br) (by simpa using h)
theorem pinsOf_mem : ∀ {br : List Bool} {vs : List V} {i j : Nat} {v : V}, br[j]? = some true → vs[j]? = some v → (i + j, v) ∈ pinsOf i br vs
  | [], _, _, _, _, h, _ => by simp at h
  | _ :: _, [], _, _, _, _, h => by simp at h
  | true :: br, w :: vs, i, 0, v, h, e => by simp at e; subst e; exact List.mem_cons_self
  | true :: br, w :: vs, i, j + 1, v, h, e => by
    rw [show i + (j + 1) = i + 1 + j by omega]
    exact List.mem_cons_of_mem _ (pinsOf_mem (by simpa using h) (by simpa using e))
  | false :: br, w :: vs, i, 0, v, h, e => by simp at h
  | false :: br, w :: vs, i, j + 1, v, h, e => by
    rw [show i + (j + 1) = i + 1 + j by omega]
    exact pinsOf_mem (br := br) (by simpa using h) (by simpa using e)
theorem of_pinsOf : ∀ {br : List Bool} {vs : List V} {i : Nat} {p : Nat × V}, p ∈ pinsOf i br vs → ∃ j, p.1 = i + j ∧ vs[j]? = some p.2
  | [], [], _, _, h => by simp [pinsOf] at h
  | [], _ :: _, _, _, h => by simp [pinsOf] at h
  | true :: _, [], _, _, h => by simp [pinsOf] at h
  | false :: _, [], _, _, h => by simp [pinsOf] at h
  | true :: br, w :: vs, i, p, h => by
    rcases List.mem_cons.mp h with e | h
    · subst e; exact ⟨0, rfl, rfl⟩
    · obtain ⟨j, e1, e2⟩ := of_pinsOf h
      exact ⟨j + 1, by omega, by simpa using e2⟩
  | false :: br, w :: vs, i, p, h => by
    obtain ⟨j, e1, e2⟩ := of_pinsOf (br := br) h
    exact ⟨j + 1, by omega, by simpa using e2⟩

section
variable {P : Program} {w : World} {K : PySem.W.Frag} {mg : Str → Option Value} {base : Heap} {cm : CM}
/-- THE RULE for a def -/
theorem fn_ok {x qual : Str} {st : Stmt} {f : Addr} {fd : FuncData} {N ps : List Str} {k : Nat} {br : List Bool} {body : KE → FS} (F : Fun K x qual st f fd) (S : FnScope N ps (defScope st)) (hbr : br.length = ps.length)
    (hb : ∀ (cdv : Value) (A : Around) (outer : List Env) (s : Shared) (H : Hp) (Ex : XK) (E : Ent) (kx : KE), E.n = N.length → E.pin.map (·.1) = idxs 0 br → Room k (A.deeper (envOfC qual (defScope st) s.heap.objs.size f cdv)) →
      RX cm E (cxOf (L2.CX P w) P w K mg base N qual (defScope st) f cdv A outer s H Ex) kx → SEs cm E (cxOf (L2.CX P w) P w K mg base N qual (defScope st) f cdv A outer s H Ex) (defBody st) (body kx)) :
    FnOk P w K mg base (L2.CX P w) (k + 1) f fd ps (spD ⟨K, cm⟩ br (fnM N.length br body)) := by
  refine F.okX S (fun vs H Q E ⟨F, rs, fp0, k, kx, _, h, _⟩ => by rw [h.len.2, hbr]) (fun cdv A outer s H vs Q Ex hr ⟨F0, rs, fp0, k, kx, hF, har, hnd, hoff, hM, hk, hkx⟩ => ?_)
  obtain ⟨f0, e1, e2, e3, e4, e5⟩ := har.each hnd
  obtain ⟨lr, lv⟩ := har.len
  have hpl : ps.length ≤ N.length := by have := congrArg List.length S.pre; rw [List.length_take] at this; omega
  let E : Ent := ⟨F0, H, fp0, pinsOf 0 br vs, N.length⟩
  have hpin : ∀ p ∈ E.pin, (L2.start N vs)[p.1]? = some (some p.2) := fun p hp => by
    obtain ⟨j, q1, q2⟩ := of_pinsOf hp
    rw [q1, Nat.zero_add]
    unfold L2.start
    rw [List.getElem?_append_left (by rw [List.length_map]; exact (List.getElem?_eq_some_iff.mp q2).1), List.getElem?_map, q2]
    rfl
  have g0 : Good ⟨K, cm⟩ E NoG (startE N.length rs) (L2.start N vs) H F0 f0 := by
    refine ⟨hF, fun i r q => ?_, fun i q => ?_, e4, e5, fun i a ha => hoff a (e3 i a ha), fun i a ha => .inl (e3 i a ha), fun a o q => .inl q, Le.refl _, fun a o q _ => q, fun a o q => q.elim, ?_, ?_, hpin⟩
    · have hi : rs[i]? = some r := by
        unfold startE at q
        by_cases hi : i < rs.length
        · rw [List.getElem?_append_left (by rw [List.length_map]; exact hi), List.getElem?_map] at q
          cases z : rs[i]? with
          | none => rw [z] at q; cases q
          | some y => rw [z] at q; cases q; rfl
        · rw [List.getElem?_append_right (by rw [List.length_map]; omega), List.getElem?_replicate] at q
          split at q <;> cases q
      obtain ⟨v, hv, rl⟩ := e1 i r hi
      refine ⟨v, ?_, rl⟩
      unfold L2.start
      rw [List.getElem?_append_left (by rw [List.length_map]; exact (List.getElem?_eq_some_iff.mp hv).1), List.getElem?_map, hv]
      rfl
    · by_cases hi : i < rs.length
      · have := q rs[i]
        exfalso
        apply this
        unfold startE
        rw [List.getElem?_append_left (by rw [List.length_map]; exact hi), List.getElem?_map, List.getElem?_eq_getElem hi]
        rfl
      · exact e2 i (by omega)
    · unfold startE L2.start
      rw [List.length_append, List.length_append, List.length_map, List.length_map, List.length_replicate, List.length_replicate, lr, lv]
    · unfold L2.start
      rw [List.length_append, List.length_map, List.length_replicate]
      show _ = N.length
      omega
  -- what leaves
  have post : ∀ {G : Addr → HO → Prop} {ρ' : Ev} {σ' : L2.St} {H' F' : Hp} {fps' : Nat → List Addr}, Good ⟨K, cm⟩ E G ρ' σ' H' F' fps' → Post F0 H fp0 F' H' := fun g' => ⟨g'.le0, g'.sub, g'.keep, g'.frz⟩
  have pins : ∀ {G : Addr → HO → Prop} {ρ' : Ev} {σ' : L2.St} {H' F' : Hp} {fps' : Nat → List Addr}, Good ⟨K, cm⟩ E G ρ' σ' H' F' fps' → ∀ j v, br[j]? = some true → vs[j]? = some v → σ'[0 + j]? = some (some v) := fun g' j v h1 h2 => g'.pin (0 + j, v) (pinsOf_mem h1 h2)
  let kxE : KE := fun c ρ => finK (idxs 0 br) ρ fun fs => kx c fs
  have hW : ∀ cls d σ H', WX ⟨K, cm⟩ E kxE cls d σ H' → Ex cls d H' := fun cls d σ' H' ⟨ed, c, C, G, ρ', F', fps', hc, ecl, g', hk'⟩ => by
    subst ed
    subst ecl
    obtain ⟨fs, fp1, h1, h2, h3, h4⟩ := fin_of g' (by rw [lv]) (pins g') hk'
    exact hkx c C fs fp1 F' H' (post g') hc h1 h2 (fun a ha => by obtain ⟨j, _, hm⟩ := h3 a ha; exact ⟨g'.off j a hm, g'.own j a hm⟩) h4
  refine ⟨_, hb cdv A outer s H Ex E kxE rfl (pinsOf_fst (by rw [lv])) hr ((takes_of rfl rfl rfl rfl).imp fun c d σ H h => hW c d σ H h), ?_⟩
  refine ⟨startE N.length rs, F0, f0, { nx := fun ρ => finK (idxs 0 br) ρ fun fs => k (.val .none) fs, rt := fun r ρ => finK (idxs 0 br) ρ fun fs => k r fs }, g0, hM, ⟨fun ρ' σ' H' F' fps' g' le hk' => ?_, fun r ρ' σ' H' F' fps' v fp g' le t hk' => ?_, fun _ _ _ _ _ _ _ z => z.elim, fun _ _ _ _ _ _ _ z => z.elim⟩⟩
  · obtain ⟨fs, fp1, h1, h2, h3, h4⟩ := fin_of g' (by rw [lv]) (pins g') hk'
    exact hk _ fs .non [] fp1 F' H' (post g') (.val .non) h1 h2 (fun a ha => by obtain ⟨j, _, hm⟩ := h3 a ha; exact ⟨g'.off j a hm, g'.own j a hm⟩) h4
  · obtain ⟨fs, fp1, h1, h2, h3, h4⟩ := fin_of g' (by rw [lv]) (pins g') hk'
    refine hk r fs v fp fp1 F' H' (post g') t.rl h1 ?_ (fun a ha => ?_) h4
    · rw [List.nodup_append]
      refine ⟨t.nd, h2, fun a ha b hb z => ?_⟩
      subst z
      obtain ⟨j, _, hm⟩ := h3 a hb
      exact (t.off a ha).2.1 j hm
    · rcases List.mem_append.mp ha with ha | ha
      · exact ⟨(t.off a ha).1, (t.off a ha).2.2.2⟩
      · obtain ⟨j, _, hm⟩ := h3 a ha
        exact ⟨g'.off j a hm, g'.own j a hm⟩
end

/-! ### calls -/
inductive AV where
  | v (d : D)
  | s (j : Nat)
abbrev FAs := Ev → (List AV → Ev → Prop) → Prop
inductive AVs (Z : KC) (F : Hp) (σ : L2.St) : List Bool → List Nat → List AV → List V → Prop
  | nil : AVs Z F σ [] [] [] []
  | cv {br : List Bool} {js : List Nat} {as : List AV} {vs : List V} {d : D} {v : V} : Rv Z.K F v d → AVs Z F σ br js as vs → AVs Z F σ (false :: br) js (.v d :: as) (v :: vs)
  | co {br : List Bool} {js : List Nat} {as : List AV} {vs : List V} {j : Nat} {v : V} : σ[j]? = some (some v) → AVs Z F σ br js as vs → AVs Z F σ (true :: br) (j :: js) (.s j :: as) (v :: vs)
theorem AVs.mono {Z : KC} {F F' : Hp} {σ : L2.St} (l : Le F F') : ∀ {br : List Bool} {js : List Nat} {as : List AV} {vs : List V}, AVs Z F σ br js as vs → AVs Z F' σ br js as vs
  | _, _, _, _, .nil => .nil
  | _, _, _, _, .cv h t => .cv (h.mono l) (t.mono l)
  | _, _, _, _, .co h t => .co h (t.mono l)
def tAs (Z : KC) (E : Ent) (G : Addr → HO → Prop) (br : List Bool) (js : List Nat) (f : FAs) : TA := fun σ H Q => ∃ ρ F fps k, Good Z E G ρ σ H F fps ∧ f ρ k ∧
  ∀ as ρ' F' fps' vs H', Good Z E G ρ' σ H' F' fps' → Le F F' → AVs Z F' σ br js as vs → k as ρ' → Q vs H'
def CA (cm : CM) (E : Ent) (X : Cx) (es : List Expr) (br : List Bool) (js : List Nat) (f : FAs) : Prop := ∀ G, PA X es (tAs ⟨X.K, cm⟩ E G br js f)
def inR : List AV → Ev → (List R → Prop) → Prop
  | [], _, κ => κ []
  | .v d :: t, ρ, κ => inR t ρ fun rs => κ (.val d :: rs)
  | .s j :: t, ρ, κ => match ρ[j]? with
    | some (some r) => inR t ρ fun rs => κ (r :: rs)
    | _ => False
def dropE : List AV → Ev → Ev
  | [], ρ => ρ
  | .v _ :: t, ρ => dropE t ρ
  | .s j :: t, ρ => dropE t (ρ.set j none)
def outE : List AV → List R → Ev → (Ev → Prop) → Prop
  | [], _, ρ, κ => κ ρ
  | .v _ :: t, fs, ρ, κ => outE t fs ρ κ
  | .s j :: t, f :: fs, ρ, κ => outE t fs (ρ.set j (some f)) κ
  | .s _ :: _, [], _, _ => False
def fCall (M : Mean) (fas : FAs) (kx : KE) : FR := fun ρ k => fas ρ fun as ρ1 => inR as ρ1 fun rs => M rs (fun r fs => outE as fs (dropE as ρ1) fun ρ2 => k r ρ2) (fun c fs => outE as fs (dropE as ρ1) fun ρ2 => kx c ρ2)
def fANil : FAs := fun ρ k => k [] ρ
def fAV (f : FR) (fs : FAs) : FAs := fun ρ k => f ρ fun r ρ1 => r.as fun d => fs ρ1 fun as ρ2 => k (.v d :: as) ρ2
def fAS (j : Nat) (fs : FAs) : FAs := fun ρ k => match ρ[j]? with
  | some (some _) => fs ρ fun as ρ2 => k (.s j :: as) ρ2
  | _ => False
section
variable {cm : CM} {E : Ent} {X : Cx} {pos : Pos}
theorem ca_nil : CA cm E X [] [] [] fANil := fun G => pa_nil.via fun σ H Q ⟨ρ, F, fps, k, g, hk, q⟩ => q _ _ _ _ _ _ g (Le.refl F) .nil hk
theorem ca_v {e : Expr} {es : List Expr} {br : List Bool} {js : List Nat} {f : FR} {fs : FAs} (ha : RE cm E X e f) (hr : CA cm E X es br js fs) (hs : starEach (e :: es) X.env = (false, eval e X.env) :: starEach es X.env := by rfl) : CA cm E X (e :: es) (false :: br) js (fAV f fs) := fun G =>
  (pa_cons (ha G) (hr G) hs).via fun σ H Q ⟨ρ, F, fps, k, g, hk, q⟩ => ⟨ρ, F, fps, _, g, hk, fun r ρ1 F1 fps1 v fp H1 g1 l1 t hk1 => by
    obtain ⟨d, e, hk1⟩ := R.as_dat hk1
    obtain ⟨F1', l1', g1', rv⟩ := g1.freeze t e
    exact ⟨ρ1, F1', fps1, _, g1', hk1, fun as ρ2 F2 fps2 vs H2 g2 l2 ok2 hk2 => q _ _ _ _ _ _ g2 ((l1.trans l1').trans l2) (.cv (rv.mono l2) ok2) hk2⟩⟩
theorem ca_s {e : Expr} {es : List Expr} {br : List Bool} {js : List Nat} {j : Nat} {fs : FAs} (ha : PE X e (tVar j)) (hr : CA cm E X es br js fs) (hs : starEach (e :: es) X.env = (false, eval e X.env) :: starEach es X.env := by rfl) : CA cm E X (e :: es) (true :: br) (j :: js) (fAS j fs) := fun G =>
  (pa_cons ha (hr G) hs).via fun σ H Q ⟨ρ, F, fps, k, g, hk, q⟩ => by
    unfold fAS at hk
    split at hk
    · rename_i r e
      obtain ⟨v, hv, rl⟩ := g.env j _ e
      exact ⟨v, hv, ρ, F, fps, _, g, hk, fun as ρ2 F2 fps2 vs H2 g2 l2 ok2 hk2 => q _ _ _ _ _ _ g2 l2 (.co hv ok2) hk2⟩
    · exact hk.elim
/-- the owned slots' contents go in -/
theorem in_of {Z : KC} {G : Addr → HO → Prop} {ρ : Ev} {σ : L2.St} {H F : Hp} {fps : Nat → List Addr} (g : Good Z E G ρ σ H F fps) : ∀ {br : List Bool} {js : List Nat} {as : List AV} {vs : List V} {κ : List R → Prop}, AVs Z F σ br js as vs → js.Nodup → inR as ρ κ →
    ∃ rs fp, AR Z F H br rs vs fp ∧ fp.Nodup ∧ (∀ a ∈ fp, ∃ j ∈ js, a ∈ fps j) ∧ κ rs
  | _, _, _, _, κ, .nil, _, h => ⟨[], [], .nil, List.nodup_nil, fun _ h => by simp at h, h⟩
  | _, _, _, _, κ, .cv h t, nd, hk => by
    obtain ⟨rs, fp, h1, h2, h3, h4⟩ := in_of g t nd hk
    exact ⟨_, fp, .cv h h1, h2, h3, h4⟩
  | _, _, _, _, κ, @AVs.co _ _ _ br js as vs j v h t, nd, hk => by
    unfold inR at hk
    split at hk
    · rename_i r e
      have nd' := List.nodup_cons.mp nd
      obtain ⟨rs, fp, h1, h2, h3, h4⟩ := in_of g t nd'.2 hk
      obtain ⟨v', hv', rl⟩ := g.env j _ e
      rw [h] at hv'
      cases hv'
      refine ⟨_, fps j ++ fp, .co rl h1, ?_, fun a ha => ?_, h4⟩
      · rw [List.nodup_append]
        refine ⟨g.nd j, h2, fun a ha b hb z => ?_⟩
        subst z
        obtain ⟨i, hi, hm⟩ := h3 a hb
        have := g.dis j i a ha hm
        subst this
        exact nd'.1 hi
      · rcases List.mem_append.mp ha with ha | ha
        · exact ⟨j, List.mem_cons_self, ha⟩
        · obtain ⟨i, hi, hm⟩ := h3 a ha
          exact ⟨i, List.mem_cons_of_mem _ hi, hm⟩
    · exact hk.elim
theorem drop_of {Z : KC} {G : Addr → HO → Prop} {σ : L2.St} {H F F0 : Hp} : ∀ {br : List Bool} {js : List Nat} {as : List AV} {vs : List V} {ρ : Ev} {fps : Nat → List Addr}, AVs Z F0 σ br js as vs → Good Z E G ρ σ H F fps →
    ∃ fps', Good Z E G (dropE as ρ) σ H F fps' ∧ (∀ j ∈ js, fps' j = []) ∧ ∀ j, j ∉ js → fps' j = fps j
  | _, _, _, _, ρ, fps, .nil, g => ⟨fps, g, fun _ h => by simp at h, fun _ _ => rfl⟩
  | _, _, _, _, ρ, fps, @AVs.cv _ _ _ br js as vs d v h t, g => drop_of (as := as) t g
  | _, _, _, _, ρ, fps, @AVs.co _ _ _ br js as vs j v h t, g => by
    obtain ⟨fps', g', h1, h2⟩ := drop_of t (g.drop j)
    refine ⟨fps', g', fun i hi => ?_, fun i hi => ?_⟩
    · by_cases hm : i ∈ js
      · exact h1 i hm
      · rw [h2 i hm]
        have : i = j := by
          rcases List.mem_cons.mp hi with e | e
          · exact e
          · exact absurd e hm
        subst this
        exact updN_same
    · have n1 : i ≠ j := fun e => hi (by simp [e])
      have n2 : i ∉ js := fun e => hi (by simp [e])
      rw [h2 i n2, updN_ne n1]
theorem set_same {α : Type} {l : List α} {i : Nat} {x : α} (h : l[i]? = some x) : l.set i x = l := by
  apply List.ext_getElem?
  intro j
  by_cases e : j = i
  · subst e
    rw [List.getElem?_set_self (List.getElem?_eq_some_iff.mp h).1, h]
  · rw [get_set_ne e]
theorem out_of {Z : KC} {G : Addr → HO → Prop} {σ : L2.St} {H F F0 : Hp} (hpin : ∀ j, j < E.n → True) : ∀ {br : List Bool} {js : List Nat} {as : List AV} {vs : List V} {fs : List R} {fp : List Addr} {ρ : Ev} {fps : Nat → List Addr} {κ : Ev → Prop}, AVs Z F0 σ br js as vs → ARf Z F H br fs vs fp → Good Z E G ρ σ H F fps → (∀ j ∈ js, fps j = []) → js.Nodup → fp.Nodup →
    (∀ a ∈ fp, F a = none ∧ (∀ i, a ∉ fps i) ∧ (∀ o, ¬ G a o) ∧ (a ∈ E.fp0 ∨ E.H0 a = none)) → outE as fs ρ κ → ∃ ρ' fps', Good Z E G ρ' σ H F fps' ∧ (∀ i a, a ∈ fps' i → a ∈ fps i ∨ a ∈ fp) ∧ κ ρ'
  | _, _, _, _, _, _, ρ, fps, κ, .nil, .nil, g, _, _, _, _, hk => ⟨ρ, fps, g, fun _ _ h => .inl h, hk⟩
  | _, _, _, _, _, _, ρ, fps, κ, .cv h t, .cv f, g, he, nj, nf, ho, hk => out_of hpin t f g he nj nf ho hk
  | _, _, _, _, _, _, ρ, fps, κ, @AVs.co _ _ _ br js as vs j v h t, @ARf.co _ _ _ _ fs _ p fp _ r rl f, g, he, nj, nf, ho, hk => by
    have nj' := List.nodup_cons.mp nj
    rw [List.nodup_append] at nf
    obtain ⟨n1, n2, n3⟩ := nf
    have hjl : j < σ.length := (List.getElem?_eq_some_iff.mp h).1
    have g1 : Good Z E G (ρ.set j (some r)) σ H F (updN fps j p) := by
      refine ⟨g.sub, fun i r' e => ?_, fun i q => ?_, fun i => ?_, fun i k a h1 h2 => ?_, fun i a ha => ?_, fun i a ha => ?_, g.frz, g.le0, g.keep, fun a o q => ?_, by rw [List.length_set]; exact g.len, g.sl, g.pin⟩
      · by_cases hi : i = j
        · subst hi
          rw [List.getElem?_set_self (by rw [g.len]; exact hjl)] at e
          cases e
          exact ⟨v, h, by rw [updN_same]; exact rl⟩
        · rw [get_set_ne hi] at e
          obtain ⟨w, h1, h2⟩ := g.env i r' e
          exact ⟨w, h1, by rw [updN_ne hi]; exact h2⟩
      · by_cases hi : i = j
        · subst hi
          exact absurd (by rw [List.getElem?_set_self (by rw [g.len]; exact hjl)]) (q r)
        · rw [updN_ne hi]
          exact g.emp i fun r' e => q r' (by rw [get_set_ne hi]; exact e)
      · by_cases hi : i = j
        · subst hi; rw [updN_same]; exact n1
        · rw [updN_ne hi]; exact g.nd i
      · by_cases hi : i = j <;> by_cases hk : k = j
        · rw [hi, hk]
        · subst hi; rw [updN_same] at h1; rw [updN_ne hk] at h2
          exact absurd h2 ((ho a (List.mem_append_left _ h1)).2.1 k)
        · subst hk; rw [updN_same] at h2; rw [updN_ne hi] at h1
          exact absurd h1 ((ho a (List.mem_append_left _ h2)).2.1 i)
        · rw [updN_ne hi] at h1; rw [updN_ne hk] at h2
          exact g.dis i k a h1 h2
      · by_cases hi : i = j
        · subst hi; rw [updN_same] at ha; exact (ho a (List.mem_append_left _ ha)).1
        · rw [updN_ne hi] at ha; exact g.off i a ha
      · by_cases hi : i = j
        · subst hi; rw [updN_same] at ha; exact (ho a (List.mem_append_left _ ha)).2.2.2
        · rw [updN_ne hi] at ha; exact g.own i a ha
      · obtain ⟨h1, h2, h3⟩ := g.fr a o q
        refine ⟨h1, h2, fun i hi => ?_⟩
        by_cases z : i = j
        · subst z; rw [updN_same] at hi; exact (ho a (List.mem_append_left _ hi)).2.2.1 o q
        · rw [updN_ne z] at hi; exact h3 i hi
    obtain ⟨ρ', fps', g', h1, h2⟩ := out_of hpin t f g1 (fun i hi => by
      have : i ≠ j := fun e => nj'.1 (e ▸ hi)
      rw [updN_ne this]; exact he i (List.mem_cons_of_mem _ hi)) nj'.2 n2 (fun a ha => by
      obtain ⟨o1, o2, o3, o4⟩ := ho a (List.mem_append_right _ ha)
      refine ⟨o1, fun i hi => ?_, o3, o4⟩
      by_cases z : i = j
      · subst z; rw [updN_same] at hi; exact n3 a hi a ha rfl
      · rw [updN_ne z] at hi; exact o2 i hi) hk
    refine ⟨ρ', fps', g', fun i a ha => ?_, h2⟩
    rcases h1 i a ha with w | w
    · by_cases z : i = j
      · subst z; rw [updN_same] at w; exact .inr (List.mem_append_left _ w)
      · rw [updN_ne z] at w; exact .inl w
    · exact .inr (List.mem_append_right _ w)
/-- behind a call, what it was not given stands -/
theorem Good.behind {Z : KC} {G : Addr → HO → Prop} {ρ : Ev} {σ : L2.St} {H F H' F' : Hp} {fps : Nat → List Addr} {fp0 : List Addr} (g : Good Z E G ρ σ H F fps) (p : Post F H fp0 F' H') (h : ∀ a ∈ fp0, (∀ i, a ∉ fps i) ∧ (∀ o, ¬ G a o) ∧ F a = none ∧ (a ∈ E.fp0 ∨ E.H0 a = none)) : Good Z E G ρ σ H' F' fps := by
  have fresh : ∀ a, H a = none → (a ∈ E.fp0 ∨ E.H0 a = none) := fun a q => by
    cases z : E.H0 a with
    | none => exact .inr rfl
    | some o =>
      by_cases w : a ∈ E.fp0
      · exact .inl w
      · have := g.keep a o z w
        rw [q] at this; cases this
  refine ⟨p.sub, fun i r e => ?_, g.emp, g.nd, g.dis, fun i a ha => ?_, g.own, fun a o q => ?_, g.le0.trans p.le, fun a o q n => ?_, fun a o q => ?_, g.len, g.sl, g.pin⟩
  · obtain ⟨v, h1, h2⟩ := g.env i r e
    refine ⟨v, h1, h2.mono p.le fun a ha => ?_⟩
    cases z : H a with
    | none => exact absurd z (h2.there a ha)
    | some o => exact p.keep a o z fun w => (h a w).1 i ha
  · cases z : F' a with
    | none => rfl
    | some o =>
      rcases p.frz a o z with w | w | w
      · rw [g.off i a ha] at w; cases w
      · exact absurd ha ((h a w).1 i)
      · exact absurd w (g.there ha)
  · rcases p.frz a o q with w | w | w
    · exact g.frz a o w
    · exact .inr (h a w).2.2.2
    · exact .inr (fresh a w)
  · have := g.keep a o q n
    exact p.keep a o this fun w => by
      rcases (h a w).2.2.2 with z | z
      · exact n z
      · rw [z] at q; cases q
  · obtain ⟨h1, h2, h3⟩ := g.fr a o q
    refine ⟨p.keep a o h1 fun w => (h a w).2.1 o q, ?_, h3⟩
    cases z : F' a with
    | none => rfl
    | some o' =>
      rcases p.frz a o' z with w | w | w
      · rw [h2] at w; cases w
      · exact absurd q ((h a w).2.1 o)
      · rw [w] at h1; cases h1
theorem call_go {br : List Bool} {js : List Nat} {M : Mean} {fas : FAs} {kx : KE} {W : L2.WX} (hjs : js.Nodup) (hW : ∀ cls d σ H, WX ⟨X.K, cm⟩ E kx cls d σ H → W cls d σ H) (G : Addr → HO → Prop) (σ : L2.St) (H : Hp) (Q : VK) (h : tR ⟨X.K, cm⟩ E G (fCall M fas kx) σ H Q) :
    tCallS (spD ⟨X.K, cm⟩ br M) (WE W) (tAs ⟨X.K, cm⟩ E G br js fas) σ H Q := by
  obtain ⟨ρ, F, fps, k, g, hk, q⟩ := h
  refine ⟨ρ, F, fps, _, g, hk, fun as ρ1 F1 fps1 vs H1 g1 l1 av hk1 => ?_⟩
  obtain ⟨rs, fp0, har, hnd, hmem, hM⟩ := in_of g1 av hjs hk1
  obtain ⟨fpsd, gd, hd1, hd2⟩ := drop_of av g1
  have hin : ∀ a ∈ fp0, (∀ i, a ∉ fpsd i) ∧ (∀ o, ¬ G a o) ∧ F1 a = none ∧ (a ∈ E.fp0 ∨ E.H0 a = none) := fun a ha => by
    obtain ⟨j, hj, hm⟩ := hmem a ha
    refine ⟨fun i hi => ?_, fun o ho => (g1.fr a o ho).2.2 j hm, g1.off j a hm, g1.own j a hm⟩
    by_cases z : i ∈ js
    · rw [hd1 i z] at hi; simp at hi
    · rw [hd2 i z] at hi
      have := g1.dis i j a hi hm
      subst this
      exact z hj
  have fresh : ∀ a, H1 a = none → (∀ i, a ∉ fpsd i) ∧ (∀ o, ¬ G a o) ∧ (a ∈ E.fp0 ∨ E.H0 a = none) := fun a q => by
    refine ⟨fun i hi => gd.there hi q, fun o ho => (by have := (g1.fr a o ho).1; rw [q] at this; cases this), ?_⟩
    cases z : E.H0 a with
    | none => exact .inr rfl
    | some o =>
      by_cases w : a ∈ E.fp0
      · exact .inl w
      · have := g1.keep a o z w
        rw [q] at this; cases this
  have own : ∀ a, (a ∈ fp0 ∨ H1 a = none) → (∀ i, a ∉ fpsd i) ∧ (∀ o, ¬ G a o) ∧ (a ∈ E.fp0 ∨ E.H0 a = none) := fun a z => by
    rcases z with z | z
    · obtain ⟨h1, h2, _, h3⟩ := hin a z
      exact ⟨h1, h2, h3⟩
    · exact fresh a z
  refine ⟨F1, rs, fp0, _, _, g1.sub, har, hnd, fun a ha => (hin a ha).2.2.1, hM, fun r fs v fp fp1 F' H' post rl arf nd2 off2 hk2 => ?_, fun c C fs fp1 F' H' post hC arf nd2 off2 hk2 => ?_⟩
  · have gb := gd.behind post hin
    rw [List.nodup_append] at nd2
    obtain ⟨n1, n2, n3⟩ := nd2
    obtain ⟨ρ2, fps2, g2, hm2, hk3⟩ := out_of (fun _ _ => trivial) av arf gb hd1 hjs n2 (fun a ha => by
      obtain ⟨z1, z2⟩ := off2 a (List.mem_append_right _ ha)
      obtain ⟨w1, w2, w3⟩ := own a z2
      exact ⟨z1, w1, w2, w3⟩) hk2
    refine q _ _ _ _ _ _ _ g2 (l1.trans post.le) ⟨rl, n1, fun a ha => ?_⟩ hk3
    obtain ⟨z1, z2⟩ := off2 a (List.mem_append_left _ ha)
    obtain ⟨w1, w2, w3⟩ := own a z2
    refine ⟨z1, fun i hi => ?_, w2, w3⟩
    rcases hm2 i a hi with z | z
    · exact w1 i z
    · exact n3 a ha a z rfl
  · have gb := gd.behind post hin
    obtain ⟨ρ2, fps2, g2, hm2, hk3⟩ := out_of (fun _ _ => trivial) av arf gb hd1 hjs nd2 (fun a ha => by
      obtain ⟨z1, z2⟩ := off2 a ha
      obtain ⟨w1, w2, w3⟩ := own a z2
      exact ⟨z1, w1, w2, w3⟩) hk2
    exact hW _ _ _ _ ⟨rfl, c, C, G, ρ2, F', fps2, hC, rfl, g2, hk3⟩
theorem re_call {k : Nat} {f : Addr} {fd : FuncData} {ps : List Str} {br : List Bool} {js : List Nat} {M : Mean} {fas : FAs} {kx : KE} {x : Str} {p : Pos} {e : Expr} {es : List Expr} (Fo : FnOk X.prog X.w X.K X.mg X.base (L2.CX X.prog X.w) k f fd ps (spD ⟨X.K, cm⟩ br M)) (hr : Room k X.A) (hg : Gl X x) (hm : X.mg x = some (.ref f)) (hk : PySem.W.keepIn X.K (.ref f) = true) (hb : Binds X.K fd ps [])
    (rx : RX cm E X kx) (hjs : js.Nodup) (ha : CA cm E X (e :: es) br js fas) (hdb : (x == ("__debug__" : Str)) = false := by decide) (he : starEach (e :: es) X.env = (false, eval e X.env) :: starEach es X.env := by rfl) (hpl : (backTo pos (starEach es X.env)).any (·.1) = false := by rfl) :
    RE cm E X (.Call (.Name x p) (e :: es) [] pos) (fCall M fas kx) := fun G =>
  (pe_callS Fo hr hg hm hk hb (fun σ => passAt rx σ) (ha G) hdb he hpl).via fun σ H Q h => call_go hjs (fun _ _ _ _ z => z) G σ H Q h
end
end Cr
end

section
set_option maxRecDepth 100000
/-! Cor9: slices, texts, more built-ins. -/
namespace Cr
open PySem PySem.Spec PyProof.Rows L2

section
variable {cm : CM} {E : Ent} {X : Cx} {pos : Pos}
/-! ### slices -/
abbrev FP := Ev → (Option Int → Ev → Prop) → Prop
def tP (Z : KC) (E : Ent) (G : Addr → HO → Prop) (f : FP) : TO := fun σ H Q => ∃ ρ F fps k, Good Z E G ρ σ H F fps ∧ f ρ k ∧
  ∀ o ρ' F' fps' H', Good Z E G ρ' σ H' F' fps' → Le F F' → k o ρ' → Q o H'
def PE' (cm : CM) (E : Ent) (X : Cx) (e : Option Expr) (f : FP) : Prop := ∀ G, PO X e (tP ⟨X.K, cm⟩ E G f)
theorem _root_.L2.PO.via {X : Cx} {e : Option Expr} {t t' : TO} (h : PO X e t) (i : ∀ σ H Q, t' σ H Q → t σ H Q) : PO X e t' := ⟨fun pins s σ H Q I q => h.run pins s σ H Q I (i σ H Q q)⟩
def fPNo : FP := fun ρ k => k none ρ
def R.iv (r : R) (k : Int → Prop) : Prop := match r with
  | .val (.int i) => k i
  | _ => False
def fPInt (f : FR) : FP := fun ρ k => f ρ fun r ρ1 => r.iv fun i => k (some i) ρ1
theorem iv_q {Z : KC} {G : Addr → HO → Prop} {k : Int → Prop} {r : R} {v : V} {fp : List Addr} {H F : Hp} {fps : Nat → List Addr} (t : Tmp Z E G H F fps r v fp) (h : r.iv k) : ∃ b, v = .int b ∧ k b := by
  unfold R.iv at h
  split at h
  · exact ⟨_, t.rl.vali.inti, h⟩
  · exact h.elim
theorem po_no : PE' cm E X none fPNo := fun G => po_none.via fun σ H Q ⟨ρ, F, fps, k, g, hk, q⟩ => q _ _ _ _ _ g (Le.refl F) hk
theorem po_int {e : Expr} {f : FR} (h : RE cm E X e f) : PE' cm E X (some e) (fPInt f) := fun G => (po_some (h G)).via fun σ H Q ⟨ρ, F, fps, k, g, hk, q⟩ => ⟨ρ, F, fps, _, g, hk, fun r ρ1 F1 fps1 v fp H1 g1 l1 t hk1 => by
  obtain ⟨i, e, hk1⟩ := iv_q t hk1
  exact ⟨i, e, q _ _ _ _ _ g1 l1 hk1⟩⟩
def cutL {α : Type} (xs : List α) (lo hi : Option Int) : List α := (xs.drop (HT.sIx xs.length 0 lo)).take (HT.sIx xs.length xs.length hi - HT.sIx xs.length 0 lo)
theorem RvAll.cut {K : PySem.W.Frag} {F : Hp} {vs : List V} {ds : List D} (h : RvAll K F vs ds) (lo hi : Option Int) : RvAll K F (cutV vs lo hi) (cutL ds lo hi) := by
  unfold cutV cutL
  rw [h.length]
  exact (h.drop _).take _
def cSl : D → Option Int → Option Int → (R → Prop) → Prop := fun d lo hi κ => match d with
  | .list xs => κ (.olst (cutL xs lo hi))
  | .tuple xs => κ (.val (.tuple (cutL xs lo hi)))
  | .str x => x.length ≤ sizeLine ∧ κ (.val (.str (cutS x lo hi)))
  | _ => False
def rSlAll (K : PySem.W.Frag) : V → Option Int → Option Int → Hp → VK → Prop := fun x lo hi H Q => rSlL K x lo hi H Q ∨ rSlA K x lo hi H Q ∨ rSlS x lo hi H Q
theorem sl_all : SlR X (rSlAll X.K) := sl_list.or (sl_tupA.or sl_str)
def fSl (fo : FO) (fl fh : FP) : FR := fun ρ k => fo ρ fun rd ρ1 => fl ρ1 fun l ρ2 => fh ρ2 fun u ρ3 => rd ρ3 fun d => cSl d l u fun z => k z ρ3
theorem re_slice {e : Expr} {lo hi : Option Expr} {fo : FO} {fl fh : FP} {p2 : Pos} (he : OE cm E X e fo) (hl : PE' cm E X lo fl) (hu : PE' cm E X hi fh) : RE cm E X (.Subscript e (.Slice lo hi none p2) pos) (fSl fo fl fh) := fun G =>
  (pe_slice sl_all (he G) (hl G) (hu G)).via fun σ H Q ⟨ρ, F, fps, k, g, hk, q⟩ => ⟨ρ, F, fps, _, g, hk, fun rd ρ1 F1 fps1 v H1 g1 l1 ok hk1 => ⟨ρ1, F1, fps1, _, g1, hk1, fun l ρ2 F2 fps2 H2 g2 l2 hk2 => ⟨ρ2, F2, fps2, _, g2, hk2, fun u ρ3 F3 fps3 H3 g3 l3 hk3 => by
    obtain ⟨d, lk, hk3⟩ := ok _ _ _ _ g3 (l2.trans l3) _ hk3
    have fin : ∀ {z v F' H' fp}, Res ⟨X.K, cm⟩ F3 H3 z v F' H' fp → k z ρ3 → Q v H' := fun {z v F' H' fp} res hκ => by
      obtain ⟨g', t⟩ := g3.res res
      exact q _ _ _ _ _ _ _ g' (((l1.trans l2).trans l3).trans res.leF) t hκ
    unfold cSl at hk3
    split at hk3
    · obtain ⟨a, vs, rfl, ra, va⟩ := lk.lsti g3.sub
      exact .inl ⟨a, vs, rfl, ra.sq, fun p np => fin (Res.newL g3.sub np (va.cut l u)) hk3⟩
    · obtain ⟨a, vs, rfl, ra, ra', va⟩ := lk.tupi g3.sub
      refine .inr (.inl ⟨a, vs, rfl, ra, fun hw => ?_, fun hw p np => fin (Res.newT g3.sub np (va.cut l u)) hk3⟩)
      have e : ∀ {α : Type} (xs : List α), xs.length = vs.length → cutL xs l u = xs := fun xs hx => by
        unfold cutL
        rw [hx, hw.1, hw.2]
        simp [← hx]
      rw [e _ va.length.symm] at hk3
      exact fin (Res.val g3.sub (.tup ra' va)) hk3
    · refine .inr (.inr ⟨_, lk.stri, hk3.1, fin (Res.val g3.sub (.str _)) hk3.2⟩)
    · exact hk3.elim⟩⟩⟩

/-! ### texts -/
def R.sv (r : R) (k : Str → Prop) : Prop := match r with
  | .val (.str i) => k i
  | _ => False
theorem sv_q {Z : KC} {G : Addr → HO → Prop} {k : Str → Prop} {r : R} {v : V} {fp : List Addr} {H F : Hp} {fps : Nat → List Addr} (t : Tmp Z E G H F fps r v fp) (h : r.sv k) : ∃ b, v = .str b ∧ k b := by
  unfold R.sv at h
  split at h
  · exact ⟨_, t.rl.vali.stri, h⟩
  · exact h.elim
abbrev CS1 := Str → D → (R → Prop) → Prop
abbrev CS0 := Str → (R → Prop) → Prop
def fM1 (c : CS1) (fo : FR) (fe : FO) : FR := fun ρ k => fo ρ fun r ρ1 => r.sv fun a => fe ρ1 fun rd ρ2 => rd ρ2 fun d => c a d fun z => k z ρ2
def fM0 (c : CS0) (fo : FR) : FR := fun ρ k => fo ρ fun r ρ1 => r.sv fun a => c a fun z => k z ρ1
def MS1 (cm : CM) (X : Cx) (r : V → List V → Hp → VK → Prop) (c : CS1) : Prop := ∀ (F H : Hp) (a : Str) (y : V) (d : D) (κ : R → Prop) (Q : VK), Le F H → Lk X.K F H y d → c a d κ →
  (∀ z v F' H' fp, Res ⟨X.K, cm⟩ F H z v F' H' fp → κ z → Q v H') → r (.str a) [y] H Q
def MS0 (cm : CM) (X : Cx) (r : V → List V → Hp → VK → Prop) (c : CS0) : Prop := ∀ (F H : Hp) (a : Str) (κ : R → Prop) (Q : VK), Le F H → c a κ →
  (∀ z v F' H' fp, Res ⟨X.K, cm⟩ F H z v F' H' fp → κ z → Q v H') → r (.str a) [] H Q
theorem re_m1 {o e : Expr} {name : Str} {apos : Pos} {r : V → List V → Hp → VK → Prop} {c : CS1} {fo : FR} {fe : FO} (hpe : ∀ {to te : TE}, PE X o to → PE X e te → PE X (.Call (.Attribute o name apos) [e] [] pos) (tM1 r to te)) (hr : MS1 cm X r c) (ho : RE cm E X o fo) (he : OE cm E X e fe) :
    RE cm E X (.Call (.Attribute o name apos) [e] [] pos) (fM1 c fo fe) := fun G => (hpe (ho G) (he G)).via fun σ H Q ⟨ρ, F, fps, k, g, hk, q⟩ => ⟨ρ, F, fps, _, g, hk, fun r0 ρ1 F1 fps1 v fp H1 g1 l1 t hk1 => by
  obtain ⟨a, rfl, hk1⟩ := sv_q t hk1
  refine ⟨⟨a, rfl⟩, ρ1, F1, fps1, _, g1, hk1, fun rd ρ2 F2 fps2 y H2 g2 l2 ok hk2 => ?_⟩
  obtain ⟨d, lk, hk2⟩ := ok _ _ _ _ g2 (Le.refl F2) _ hk2
  refine hr F2 H2 a y d _ Q g2.sub lk hk2 fun z v F' H' fp res hκ => ?_
  obtain ⟨g', t'⟩ := g2.res res
  exact q _ _ _ _ _ _ _ g' ((l1.trans l2).trans res.leF) t' hκ⟩
theorem re_m0 {o : Expr} {name : Str} {apos : Pos} {r : V → List V → Hp → VK → Prop} {c : CS0} {fo : FR} (hpe : ∀ {to : TE}, PE X o to → PE X (.Call (.Attribute o name apos) [] [] pos) (tM0 r to)) (hr : MS0 cm X r c) (ho : RE cm E X o fo) :
    RE cm E X (.Call (.Attribute o name apos) [] [] pos) (fM0 c fo) := fun G => (hpe (ho G)).via fun σ H Q ⟨ρ, F, fps, k, g, hk, q⟩ => ⟨ρ, F, fps, _, g, hk, fun r0 ρ1 F1 fps1 v fp H1 g1 l1 t hk1 => by
  obtain ⟨a, rfl, hk1⟩ := sv_q t hk1
  refine ⟨⟨a, rfl⟩, hr F1 H1 a _ Q g1.sub hk1 fun z v F' H' fp res hκ => ?_⟩
  obtain ⟨g', t'⟩ := g1.res res
  exact q _ _ _ _ _ _ _ g' (l1.trans res.leF) t' hκ⟩
def cSplit : CS1 := fun a d κ => match d with
  | .str b => (b.length == 0) = false ∧ a.length + 2 ≤ sizeLine ∧ κ (.olst ((Txt.split a b).map PyData.str))
  | _ => False
theorem ms_split : MS1 cm X (fun x xs H Q => ∃ a b, x = .str a ∧ xs = [.str b] ∧ (b.length == 0) = false ∧ a.length + 2 ≤ sizeLine ∧ rNewStrs (Txt.split a b) H Q) cSplit := by
  intro F H a y d κ Q s lk h q
  unfold cSplit at h
  split at h
  · refine ⟨a, _, rfl, by rw [lk.stri], h.1, h.2.1, fun p np => q _ _ _ _ _ (Res.newL s np RvAll.ofStrs) h.2.2⟩
  · exact h.elim
def cJoin : CS1 := fun a d κ => ∃ ys : List Str, (d = .list (ys.map PyData.str) ∨ d = .tuple (ys.map PyData.str)) ∧ (ys.map (·.length)).sum + ys.length * a.length ≤ 16777216 ∧ κ (.val (.str (Txt.join a ys)))
theorem ms_join : MS1 cm X (fun x xs H Q => ∃ a p, ∃ ys : List Str, x = .str a ∧ xs = [.ref p] ∧ (SqL X.K H p (ys.map V.str) ∨ SqT X.K H p (ys.map V.str)) ∧
      (ys.map (·.length)).sum + ys.length * a.length ≤ 16777216 ∧ Q (.str (Txt.join a ys)) H) cJoin := by
  intro F H a y d κ Q s lk ⟨ys, hd, hl, hk⟩ q
  rcases hd with rfl | rfl
  · obtain ⟨p, vs, rfl, ra, va⟩ := lk.lsti s
    obtain rfl := va.strs
    exact ⟨a, p, ys, rfl, rfl, .inl ra.sq, hl, q _ _ _ _ _ (Res.val s (.str _)) hk⟩
  · obtain ⟨p, vs, rfl, ra, ra', va⟩ := lk.tupi s
    obtain rfl := va.strs
    exact ⟨a, p, ys, rfl, rfl, .inr ra, hl, q _ _ _ _ _ (Res.val s (.str _)) hk⟩
def cIntS : CN := fun ds κ => match ds with
  | [.str a] => ∃ n, PySem.intText? a = some n ∧ a.length ≤ 640 ∧ κ (.val (.int n))
  | _ => False
theorem cs_intS : CallS cm X (fun xs H Q => ∃ a n, xs = [.str a] ∧ PySem.intText? a = some n ∧ a.length ≤ 640 ∧ Q (.int n) H) cIntS := by
  intro F H xs ds κ Q s lk h q
  unfold cIntS at h
  split at h
  · obtain ⟨v, r, rfl, lk1, lr⟩ := lk.consi
    obtain rfl := lr.nili
    obtain ⟨n, h1, h2, h3⟩ := h
    exact ⟨_, n, by rw [lk1.stri], h1, h2, q _ _ _ _ _ (Res.val s (.int _)) h3⟩
  · exact h.elim
/-- one sign in a text -/
def cInS (neg : Bool) : C2 := fun d e κ => match d, e with
  | .str x, .str z => ∃ c, x = ⟨#[c]⟩ ∧ κ (.val (.bool (if neg then !decide (c ∈ z.cps.toList) else decide (c ∈ z.cps.toList))))
  | _, _ => False
theorem os_inS : OpS cm X (fun x y H Q => ∃ (c : Nat) (z : Str), x = .str ⟨#[c]⟩ ∧ y = .str z ∧ Q (.bl (decide (c ∈ z.cps.toList))) H) (cInS false) := by
  intro F H x y d e κ Q s h1 h2 h q
  unfold cInS at h
  split at h
  · obtain ⟨c, rfl, hk⟩ := h
    exact ⟨c, _, h1.stri, h2.stri, q _ _ _ _ _ (Res.val s (.bl _)) hk⟩
  · exact h.elim
theorem os_ninS : OpS cm X (fun x y H Q => ∃ (c : Nat) (z : Str), x = .str ⟨#[c]⟩ ∧ y = .str z ∧ Q (.bl (!decide (c ∈ z.cps.toList))) H) (cInS true) := by
  intro F H x y d e κ Q s h1 h2 h q
  unfold cInS at h
  split at h
  · obtain ⟨c, rfl, hk⟩ := h
    exact ⟨c, _, h1.stri, h2.stri, q _ _ _ _ _ (Res.val s (.bl _)) hk⟩
  · exact h.elim
end

/-! ### a list shown, so many times -/
section
variable {cm : CM} {E : Ent} {X : Cx} {pos : Pos}
def R.ol (r : R) (k : List D → Prop) : Prop := match r with
  | .olst ds => k ds
  | _ => False
def fRep (fa fb : FR) : FR := fun ρ k => fa ρ fun r ρ1 => r.ol fun ds => fb ρ1 fun r2 ρ2 => r2.iv fun n => (-(2 ^ 63) ≤ n ∧ n < 2 ^ 63 ∧ ds.length * n.toNat ≤ sizeLine) ∧ k (.olst (List.replicate n.toNat ds).flatten) ρ2
theorem re_rep {a b : Expr} {fa fb : FR} (ha : RE cm E X a fa) (hb : RE cm E X b fb) : RE cm E X (.BinOp a .Mult b pos) (fRep fa fb) := fun G =>
  (pe_op op_rep (ha G) (hb G)).via fun σ H Q ⟨ρ, F, fps, k, g, hk, q⟩ => ⟨ρ, F, fps, _, g, hk, fun r ρ1 F1 fps1 v fp H1 g1 l1 t hk1 => by
    unfold R.ol at hk1
    split at hk1
    · rename_i ds
      obtain ⟨p, vs, rfl, hp, rv, rfl⟩ := t.rl.olsti
      have le := froze_le (F := F1) (H := H1) (fp := [p]) fun a ha => (t.off a ha).1
      have g2 := g1.share le (froze_sub g1.sub) fun a o h => by
        rcases froze_or h with h | h
        · exact .inl h
        · exact .inr (t.off a h).2
      refine ⟨ρ1, _, fps1, _, g2, hk1, fun r2 ρ2 F2 fps2 v2 fp2 H2 g3 l2 t2 hk2 => ?_⟩
      obtain ⟨n, rfl, hb, hk2⟩ := iv_q t2 hk2
      have h2 : H2 p = some (.lst vs) := g3.sub _ _ (l2 _ _ ((froze_in (by simp)).trans hp))
      refine ⟨p, n, vs, rfl, rfl, h2, hb.1, hb.2.1, by rw [rv.length]; exact hb.2.2, fun z nz => ?_⟩
      obtain ⟨g', t'⟩ := g3.res (Res.newL g3.sub nz (((rv.mono le).mono l2).rep n.toNat))
      exact q _ _ _ _ _ _ _ g' ((l1.trans le).trans l2) t' hk2
    · exact hk1.elim⟩
end

/-! ### the law: its one argument, and what it hands back -/
theorem lawD {K : PySem.W.Frag} {cm : CM} {M : Mean} {H : Hp} {a : Addr} {ns : List Int} (hO : Only H) (hS : RdL K H a (ns.map V.int)) (h : M [.val (.list (ns.map PyData.int))] (fun r _ => r = .val (.bool true)) (fun _ _ => False)) :
    spD ⟨K, cm⟩ [false] M [.ref a] H (fun v _ => v = .bl true) (fun _ _ _ => False) := by
  refine ⟨fun b => if b = a then H a else none, _, [], _, _, fun b o e => ?_, .cv (.lst ?_ .ofInts) .nil, List.nodup_nil, fun _ h => by simp at h, h, fun r fs v fp fp1 F' H' post rl arf nd off e => ?_, fun c C fs fp1 F' H' _ _ _ _ _ z => z⟩
  · have e : (if b = a then H a else none) = some o := e
    split at e
    · rename_i z; rw [z]; exact e
    · cases e
  · rcases hS with (hS | ⟨o, hS⟩) | hS
    · exact .inl (.inl (by show (if a = a then H a else none) = _; rw [if_pos rfl]; exact hS))
    · exact .inl (.inr ⟨o, by show (if a = a then H a else none) = _; rw [if_pos rfl]; exact hS⟩)
    · exact .inr hS
  · subst e
    exact rl.vali.bli
/-- the script is a plain list, wherever it stands -/
theorem RdL.of_sq {K : PySem.W.Frag} {H : Hp} {h : Heap} {a : Addr} {xs : List V} {its : Array Value} (KX : K.In h) (e : h.get? a = some { cls := .type "list", data := .seq its }) (s : SqL K H a xs) : RdL K H a xs := by
  rcases s with s | ⟨o, its', n, hk, _, _, hd, hz, r⟩
  · exact .inl s
  · have := KX a o hk
    rw [e] at this
    cases this
    cases hd
    exact .inr ⟨_, _, hk, hz, r⟩
/-- the goal that the head leaves, from the law's meaning -/
theorem walk_law {l : PySem.W.OpenLaw} {k : Nat} {q : Program} {loose : List Str} {XP : (Str → Option Value) → Heap → Prop} {YP : World → Heap → Prop} {d : DefRec} {K : Params → PySem.W.Frag} {x : Str} {M : Mean}
    (hn : l.most = some 63) (hdf : d.params.defaults = []) (hr : Room k callerA) (hY : ∀ (w : World) (h : Heap), YP w h → (K w.params).In h)
    (F : ∀ (w : World) (mg : Str → Option Value) (fa : Addr) (h : Heap), (K w.params).In h → h.Ns mainGlobals mg → mg d.name = some (.ref fa) →
      ∃ (cm : CM) (fd : FuncData), (∀ (s : Shared) (u : Value), BindsTo s fd ⟨[u], []⟩ [(x, u)]) ∧
        ∀ base : Heap, (K w.params).In base → base.Ns mainGlobals mg → FnOk l.prog w (K w.params) mg base (L2.CX l.prog w) k fa fd [x] (spD ⟨K w.params, cm⟩ [false] M))
    (hM : ∀ ns : List Int, ns.length ≤ 63 → M [.val (.list (ns.map PyData.int))] (fun r _ => r = .val (.bool true)) (fun _ _ => False)) :
    PySem.W.WalkO q loose XP YP l.row.toRowW d [] (fun f vs => PySem.call f vs) := by
  refine Att.attach_call hn hdf fun w s₀ s₁ mg mb fa o pm cd doc a vs ns G Y ho hd hcd hmg hobj hints hlen hg => ?_
  have KX := hY w _ Y
  obtain ⟨cm, fd, hb, hF⟩ := F w mg fa _ KX G.T.g hmg
  refine law_call KX G.T.g G.T.b G.T.builtins G.T.nolimit hg hobj hints (Nat.le_trans hlen (by decide)) hr hF hb (fun H hO hS => lawD hO (RdL.of_sq KX hobj hS) (hM ns hlen)) fun H e s' c => ?_
  obtain ⟨_, _, _, _, _, _, _, _, _, _, _, _, z⟩ := c
  exact z.elim
end Cr
end

section
set_option maxRecDepth 100000
/-! Cor10: defs by name; code that is never come to. -/
namespace Cr
open PySem PySem.Spec PyProof.Rows L2
/-- the def that the module's name x holds keeps M, by at most k calls -/
structure FnAt (P : Program) (w : World) (K : PySem.W.Frag) (mg : Str → Option Value) (base : Heap) (cm : CM) (k : Nat) (x : Str) (ps : List Str) (br : List Bool) (M : Mean) : Prop where
  ex : ∃ f fd, FnOk P w K mg base (L2.CX P w) k f fd ps (spD ⟨K, cm⟩ br M) ∧ mg x = some (.ref f) ∧ PySem.W.keepIn K (.ref f) = true ∧ Binds K fd ps []
section
variable {cm : CM} {E : Ent} {X : Cx} {pos : Pos}
theorem re_callA {k : Nat} {ps : List Str} {br : List Bool} {js : List Nat} {M : Mean} {fas : FAs} {kx : KE} {x : Str} {p : Pos} {e : Expr} {es : List Expr} (Fo : FnAt X.prog X.w X.K X.mg X.base cm k x ps br M) (hr : Room k X.A) (hg : Gl X x)
    (rx : RX cm E X kx) (hjs : js.Nodup) (ha : CA cm E X (e :: es) br js fas) (hdb : (x == ("__debug__" : Str)) = false := by decide) (he : starEach (e :: es) X.env = (false, eval e X.env) :: starEach es X.env := by rfl) (hpl : (backTo pos (starEach es X.env)).any (·.1) = false := by rfl) :
    RE cm E X (.Call (.Name x p) (e :: es) [] pos) (fCall M fas kx) := by
  obtain ⟨f, fd, F, hm, hk, hb⟩ := Fo.ex
  exact re_call F hr hg hm hk hb rx hjs ha hdb he hpl
theorem re_globI {x : Str} {i : Int} (hg : Gl X x) (h : ∃ t, X.mg x = some (.int i t)) (hd : (x == ("__debug__" : Str)) = false := by decide) : RE cm E X (.Name x pos) (fCst (.int i)) := by
  obtain ⟨t, h⟩ := h
  exact re_glob (v := .int i) (pe_glob hg h ⟨t, rfl⟩ hd) fun _ => .int _
theorem re_globS {x y : Str} (hg : Gl X x) (h : ∃ t, X.mg x = some (.str y t)) (hd : (x == ("__debug__" : Str)) = false := by decide) : RE cm E X (.Name x pos) (fCst (.str y)) := by
  obtain ⟨t, h⟩ := h
  exact re_glob (v := .str y) (pe_glob hg h ⟨t, rfl⟩ hd) fun _ => .str _
theorem pinsAll {is vs : List Nat} (h : E.pin.map (·.1) = is) (d : ∀ v ∈ vs, v ∉ is) : ∀ v ∈ vs, NoPin E v := fun v hv => nopin h (d v hv)
theorem hu65 {k : Nat} {A : Around} (hr : Room k A) : A.units + 65 < cLine := by have := hr.un; omega
def sNever : FS := fun _ _ => False
theorem se_never {st : Stmt} : SE cm E X st sNever := ps_never.via fun _ _ _ _ ⟨_, _, _, _, _, h, _⟩ => h
end
end Cr
end

section

namespace Cr
open PySem
/-! ### texts as lists of signs -/
def mkS (l : List Nat) : Str := ⟨⟨l⟩⟩
@[simp] theorem mkS_toList (l : List Nat) : (mkS l).cps.toList = l := rfl
@[simp] theorem mkS_len (l : List Nat) : (mkS l).length = l.length := rfl
theorem mkS_of (x : Str) : x = mkS x.cps.toList := by obtain ⟨⟨l⟩⟩ := x; rfl
theorem mkS_app (a b : List Nat) : mkS a ++ mkS b = mkS (a ++ b) := by
  apply Str.ext'
  show (⟨a⟩ : Array Nat) ++ ⟨b⟩ = ⟨a ++ b⟩
  simp
theorem mkS_inj {a b : List Nat} (h : mkS a = mkS b) : a = b := by
  have := congrArg (fun s : Str => s.cps.toList) h
  simpa using this
def cutOn (c : Nat) : List Nat → List (List Nat)
  | [] => [[]]
  | a :: r => if a = c then [] :: cutOn c r else match cutOn c r with
    | [] => [[a]]
    | p :: ps => (a :: p) :: ps
theorem cutOn_ne (c : Nat) (l : List Nat) : ∃ p ps, cutOn c l = p :: ps := by
  cases l with
  | nil => exact ⟨_, _, rfl⟩
  | cons a r =>
    unfold cutOn
    split
    · exact ⟨_, _, rfl⟩
    · split <;> exact ⟨_, _, rfl⟩
theorem cutOn_free {c : Nat} : ∀ {l : List Nat}, c ∉ l → cutOn c l = [l]
  | [], _ => rfl
  | a :: r, h => by
    rw [List.mem_cons, not_or] at h
    unfold cutOn
    rw [if_neg (fun e => h.1 e.symm), cutOn_free h.2]
theorem cutOn_app {c : Nat} : ∀ {l r : List Nat}, c ∉ l → cutOn c (l ++ c :: r) = l :: cutOn c r
  | [], r, _ => by simp [cutOn]
  | a :: l, r, h => by
    rw [List.mem_cons, not_or] at h
    show (if a = c then [] :: cutOn c (l ++ c :: r) else match cutOn c (l ++ c :: r) with
    | [] => [[a]]
    | p :: ps => (a :: p) :: ps) = _
    rw [if_neg (fun e => h.1 e.symm), cutOn_app h.2]
def pos (c : Nat) : List Nat → Nat → List Nat
  | [], _ => []
  | a :: r, i => if a = c then i :: pos c r (i + 1) else pos c r (i + 1)
open StrLaws Builtin Builtin.Str in
theorem occ_one (c : Nat) (x : Str) : occurrences x ⟨#[c]⟩ 0 x.length (x.length + 1) = pos c x.cps.toList 0 := by
  rw [occ_eq]
  have key : ∀ (k i f : Nat) (acc : Array Nat), i + k = x.length + 1 → f ≤ i → acc.size ≤ i → (forIn (m := Id) (List.range' i k) (acc, f) (occBody x ⟨#[c]⟩ x.length (x.length + 1))).run.fst.toList = acc.toList ++ pos c (x.cps.toList.drop i) i := by
    intro k
    induction k with
    | zero =>
      intro i f acc hi hf ha
      have : x.cps.toList.drop i = [] := List.drop_eq_nil_of_le (by simp [Str.length] at hi ⊢; omega)
      simp [this, pos]
    | succ k ih =>
      intro i f acc hi hf ha
      rw [List.range'_succ, List.forIn_cons]
      unfold occBody
      by_cases hk : k = 0
      · subst hk
        have : x.cps.toList.drop i = [] := List.drop_eq_nil_of_le (by simp [Str.length] at hi ⊢; omega)
        have h1 : ¬(((acc.size < x.length + 1 ∧ f ≤ i) ∧ i + (⟨#[c]⟩ : Str).length ≤ x.length) ∧ subAt x ⟨#[c]⟩ i = true) := by
          intro h
          have := h.1.2
          simp [Str.length] at this hi
          omega
        simp [this, pos, h1]
      · have hlt : i < x.cps.toList.length := by simp [Str.length] at hi ⊢; omega
        have hd := List.drop_eq_getElem_cons hlt
        have hs : subAt x ⟨#[c]⟩ i = (x.cps.toList[i] == c) := by
          rw [subAt_eq, hd]
          show ([x.cps.toList[i]] == [c]) = _
          simp
        have e1 : (i + (⟨#[c]⟩ : Str).length ≤ x.length) = True := by
          simp [Str.length] at hlt ⊢; omega
        rw [hs, hd]
        unfold pos
        by_cases hc : x.cps.toList[i] = c
        · have hcond : (((acc.size < x.length + 1 ∧ f ≤ i) ∧ i + (⟨#[c]⟩ : Str).length ≤ x.length) ∧ (x.cps.toList[i] == c) = true) := ⟨⟨⟨by omega, hf⟩, by rw [e1]; trivial⟩, by simp [hc]⟩
          rw [if_pos hcond, if_pos hc]
          show (forIn (m := Id) (List.range' (i + 1) k) (acc.push i, i + 1) (occBody x ⟨#[c]⟩ x.length (x.length + 1))).run.fst.toList = _
          rw [ih (i + 1) (i + 1) (acc.push i) (by omega) (Nat.le_refl _) (by simp; omega)]
          simp
        · have hcond : ¬(((acc.size < x.length + 1 ∧ f ≤ i) ∧ i + (⟨#[c]⟩ : Str).length ≤ x.length) ∧ (x.cps.toList[i] == c) = true) := by
            intro h; exact hc (by simpa using h.2)
          rw [if_neg hcond, if_neg hc]
          exact ih (i + 1) f acc (by omega) (by omega) (by omega)
  have := key (x.length + 1) 0 0 #[] (by omega) (Nat.le_refl _) (by simp)
  simpa using this
open StrLaws Builtin Builtin.Str in
theorem parts_one (c : Nat) (x : Str) : ∀ (k i : Nat) (a : Nat), i + k = x.cps.toList.length → a ≤ i → partsFrom x 1 a (pos c (x.cps.toList.drop i) i) =
    match cutOn c (x.cps.toList.drop i) with
    | [] => []
    | p :: ps => mkS (((x.cps.toList.drop a).take (i - a)) ++ p) :: ps.map mkS := by
  intro k
  induction k with
  | zero =>
    intro i a hi ha
    have : x.cps.toList.drop i = [] := List.drop_eq_nil_of_le (by omega)
    rw [this]
    simp only [pos, partsFrom, cutOn]
    refine congrArg (· :: []) ?_
    rw [mkS_of (strSub _ _ _), strSub_toList]
    have : x.length = i := by simp [Str.length] at hi ⊢; omega
    simp [this]
  | succ k ih =>
    intro i a hi ha
    have hlt : i < x.cps.toList.length := by omega
    have hd := List.drop_eq_getElem_cons hlt
    rw [hd]
    unfold pos cutOn
    by_cases hc : x.cps.toList[i] = c
    · rw [if_pos hc, if_pos hc]
      unfold partsFrom
      rw [ih (i + 1) (i + 1) (by omega) (Nat.le_refl _)]
      obtain ⟨p, ps, e⟩ := cutOn_ne c (x.cps.toList.drop (i + 1))
      rw [e]
      simp only [List.map_cons, Nat.sub_self, List.take_zero, List.nil_append, List.append_nil]
      refine congrArg (· :: _) ?_
      rw [mkS_of (strSub _ _ _), strSub_toList]
    · rw [if_neg hc, if_neg hc]
      rw [ih (i + 1) a (by omega) (by omega)]
      obtain ⟨p, ps, e⟩ := cutOn_ne c (x.cps.toList.drop (i + 1))
      rw [e]
      simp only
      refine congrArg (· :: _) (congrArg mkS ?_)
      have : i + 1 - a = (i - a) + 1 := by omega
      rw [this, List.take_add_one]
      have hg : (x.cps.toList.drop a)[i - a]? = some x.cps.toList[i] := by
        rw [List.getElem?_drop, show a + (i - a) = i by omega, List.getElem?_eq_getElem hlt]
      rw [hg]
      simp
open StrLaws Builtin Builtin.Str in
/-- a text split at one sign -/
theorem split_one (c : Nat) (x : Str) : Txt.split x ⟨#[c]⟩ = (cutOn c x.cps.toList).map mkS := by
  have hp : partsBetween x (occurrences x ⟨#[c]⟩ 0 x.length (x.length + 1)) 1 = (cutOn c x.cps.toList).map mkS := by
    rw [partsBetween_eq, occ_one]
    have := parts_one c x x.cps.toList.length 0 0 (by omega) (Nat.le_refl _)
    simp only [List.drop_zero, Nat.sub_self, List.take_zero, List.nil_append] at this
    rw [this]
    obtain ⟨p, ps, e⟩ := cutOn_ne c x.cps.toList
    rw [e]; rfl
  unfold Txt.split
  split
  · rename_i h
    rw [← hp]
    have hn : occurrences x ⟨#[c]⟩ 0 x.length (x.length + 1) = [] := by
      refine W.occ_nil_of_no x _ _ fun i hi => ?_
      rcases Bool.or_eq_true_iff.mp h with h | h
      · have := of_decide_eq_true h; omega
      · cases e : subAt x ⟨#[c]⟩ i
        · rfl
        · have := W.kind_le x _ e; have := of_decide_eq_true h; omega
    rw [hn, W.parts_nil]
  · split
    · rename_i h
      rw [← hp, List.isEmpty_iff.mp h, W.parts_nil]
    · exact hp
def joinL (c : Nat) : List (List Nat) → List Nat
  | [] => []
  | [x] => x
  | x :: y :: r => x ++ c :: joinL c (y :: r)
theorem cutOn_joinL {c : Nat} : ∀ {ps : List (List Nat)}, ps ≠ [] → (∀ p ∈ ps, c ∉ p) → cutOn c (joinL c ps) = ps
  | [], h, _ => absurd rfl h
  | [x], _, h => cutOn_free (h x (by simp))
  | x :: y :: r, _, h => by
    unfold joinL
    rw [cutOn_app (h x (by simp)), cutOn_joinL (by simp) (fun p hp => h p (List.mem_cons_of_mem _ hp))]
theorem join_one (c : Nat) : ∀ (ps : List (List Nat)), Txt.join ⟨#[c]⟩ (ps.map mkS) = mkS (joinL c ps) := by
  intro ps
  show Builtin.Str.glued _ _ = _
  rw [StrLaws.glued_eq_join]
  induction ps with
  | nil => rfl
  | cons x r ih =>
    cases r with
    | nil => rfl
    | cons y r =>
      show mkS x ++ (⟨#[c]⟩ : Str) ++ Str.join ⟨#[c]⟩ ((y :: r).map mkS) = _
      rw [ih]
      show mkS x ++ mkS [c] ++ _ = _
      rw [mkS_app, mkS_app]
      simp [joinL]
/-! ### numbers in figures -/
def digN (n : Nat) : List Nat := (Nat.toDigits 10 n).map Char.toNat
theorem str_nat (n : Nat) : (toString ((n : Nat) : Int) : Str) = mkS (digN n) := by
  rw [mkS_of (Str.ofString _)]
  exact congrArg mkS (W.KIN.signs_num n)
theorem digN_ne (n : Nat) : digN n ≠ [] := by
  unfold digN
  intro e
  have := List.map_eq_nil_iff.mp e
  have h := Nat.toDigits_ne_nil (n := n) (b := 10)
  exact h this
theorem digN_dig {n c : Nat} (h : c ∈ digN n) : 48 ≤ c ∧ c ≤ 57 := by
  obtain ⟨ch, hch, e⟩ := List.mem_map.mp h
  have := PyProof.Rows.digit_range (Nat.isDigit_of_mem_toDigits (by decide) (by decide) hch)
  rw [← e]; exact this
theorem digN_lt {n : Nat} (h : n < 10) : digN n = [48 + n] := by
  unfold digN
  rw [Nat.toDigits_of_lt_base h]
  show [(Nat.digitChar n).toNat] = _
  have : ∀ d : Nat, d < 10 → (Nat.digitChar d).toNat = 48 + d := by decide
  rw [this n h]
theorem digN_ge {n : Nat} (h : 10 ≤ n) : digN n = digN (n / 10) ++ [48 + n % 10] := by
  have hm : n % 10 < 10 := Nat.mod_lt n (by decide)
  have t : Nat.toDigits 10 (n / 10) ++ Nat.toDigits 10 (n % 10) = Nat.toDigits 10 (10 * (n / 10) + n % 10) := Nat.toDigits_append_toDigits (by decide) (by omega) hm
  rw [Nat.div_add_mod] at t
  rw [← digN_lt hm]
  unfold digN
  rw [← t, List.map_append]
theorem digN_val (n : Nat) : NumText.digitsVal (digN n) = n := W.KIN.val_back n
theorem digN_len {n k : Nat} (hk : 1 ≤ k) (h : n < 10 ^ k) : (digN n).length ≤ k := by
  induction k generalizing n with
  | zero => omega
  | succ k ih =>
    by_cases h9 : n < 10
    · rw [digN_lt h9]; simp
    · rw [digN_ge (by omega)]
      by_cases hk1 : k = 0
      · subst hk1; omega
      · have := ih (n := n / 10) (by omega) (by rw [Nat.pow_succ] at h; omega)
        simp only [List.length_append, List.length_cons, List.length_nil]
        omega
theorem digN_head (n : Nat) : ∀ r, digN n = 48 :: r → n = 0 := by
  induction n using Nat.strongRecOn with
  | _ n ih =>
    intro r e
    by_cases h9 : n < 10
    · rw [digN_lt h9] at e
      injection e with e1 e2
      omega
    · rw [digN_ge (by omega)] at e
      obtain ⟨c, t, e2⟩ : ∃ c t, digN (n / 10) = c :: t := by
        cases h : digN (n / 10) with
        | nil => exact absurd h (digN_ne _)
        | cons c t => exact ⟨c, t, rfl⟩
      rw [e2, List.cons_append] at e
      injection e with e1 e3
      subst e1
      have := ih (n / 10) (by omega) t e2
      omega
theorem digN_zero : digN 0 = [48] := digN_lt (by decide)
theorem digN_inj {m n : Nat} (h : digN m = digN n) : m = n := by
  rw [← digN_val m, h, digN_val]
/-- a whole number's text -/
def digI (i : Int) : List Nat := if i < 0 then 45 :: digN i.natAbs else digN i.natAbs
theorem str_int (i : Int) : (toString i : Str) = mkS (digI i) := by
  unfold digI
  split
  · rename_i h
    obtain ⟨n, rfl⟩ : ∃ n : Nat, i = -((n + 1 : Nat) : Int) := ⟨i.natAbs - 1, by omega⟩
    have e1 : (-((n + 1 : Nat) : Int)).natAbs = n + 1 := by omega
    rw [e1, mkS_of (Str.ofString _)]
    refine congrArg mkS ?_
    rw [PyProof.Rows.signs_ofString]
    show ("-" ++ Nat.repr (n + 1)).toList.map Char.toNat = _
    rw [String.toList_append, Nat.toList_repr]
    rfl
  · rename_i h
    obtain ⟨n, rfl⟩ := Int.eq_ofNat_of_zero_le (show 0 ≤ i by omega)
    exact str_nat n
theorem int_of_digN {n : Nat} (h : (digN n).length ≤ 4300) : intText? (mkS (digN n)) = some (n : Int) := by
  have := intText_digits (x := mkS (digN n)) (fun c hc => digN_dig hc) (digN_ne n) h
  rw [this]
  rw [mkS_toList, digN_val]
end Cr
end

section

namespace Cr
open PySem PySem.Spec PyProof.Rows L2
/-! ### running the plain meanings -/
section
variable {ρ : Ev} {dn : Dn} {k : R → Ev → Prop}
theorem sNil_e : sNil dn ρ = dn.nx ρ := propext Iff.rfl
theorem sCons_e {f g : FS} : sCons f g dn ρ = f { dn with nx := g dn } ρ := propext Iff.rfl
theorem sRet_e {f : FR} : sRet f dn ρ = f ρ dn.rt := propext Iff.rfl
theorem sRetN_e : sRetN dn ρ = dn.rt (.val .none) ρ := propext Iff.rfl
theorem sIf_e {c : FB} {f g : FS} : sIf c f g dn ρ = c ρ (fun b ρ1 => if b = true then f dn ρ1 else g dn ρ1) := propext Iff.rfl
theorem sPass_e : sPass dn ρ = dn.nx ρ := propext Iff.rfl
theorem sNever_e : sNever dn ρ = False := propext Iff.rfl
theorem sExpr_e {f : FR} : sExpr f dn ρ = f ρ (fun _ ρ1 => dn.nx ρ1) := propext Iff.rfl
theorem sAsg_e {i : Nat} {f : FR} : sAsg i f dn ρ = f ρ (fun r ρ1 => dn.nx (ρ1.set i (some r))) := propext Iff.rfl
theorem sTgt_e {f : FR} {ft : FT} : sTgt f ft dn ρ = f ρ (fun r ρ1 => r.as fun d => ft d ρ1 dn.nx) := propext Iff.rfl
theorem sPar_e {i j : Nat} {fl : FL} : sPar i j fl dn ρ = fl ρ (fun ds ρ1 => match ds with
  | [d, e] => dn.nx ((ρ1.set i (some (.val d))).set j (some (.val e)))
  | _ => False) := by
  exact propext Iff.rfl
theorem fCst_e {d : D} : fCst d ρ k = k (.val d) ρ := propext Iff.rfl
theorem fVar_e {i : Nat} : fVar i ρ k = match ρ[i]? with
  | some (some (.val d)) => k (.val d) ρ
  | some (some (.olst ds)) => k (.val (.list ds)) (ρ.set i (some (.val (.list ds))))
  | _ => False := propext Iff.rfl
theorem fMov_e {i : Nat} : fMov i ρ k = match ρ[i]? with
  | some (some r) => k r (ρ.set i none)
  | _ => False := propext Iff.rfl
theorem fOV_e {f : FR} {k : RdF → Ev → Prop} : fOV f ρ k = f ρ (fun r ρ1 => r.as fun d => k (fun _ κ => κ d) ρ1) := propext Iff.rfl
theorem rdSlot_e {i : Nat} {κ : D → Prop} : rdSlot i ρ κ = match ρ[i]? with
  | some (some r) => r.as κ
  | _ => False := propext Iff.rfl
theorem fOP_e {i : Nat} {k : RdF → Ev → Prop} : fOP i ρ k = match ρ[i]? with
  | some (some _) => k (rdSlot i) ρ
  | _ => False := propext Iff.rfl
theorem as_val {d : D} {κ : D → Prop} : R.as (.val d) κ = κ d := propext Iff.rfl
theorem as_lst {ds : List D} {κ : D → Prop} : R.as (.olst ds) κ = κ (.list ds) := propext Iff.rfl
theorem bo_e {b : Bool} {κ : Bool → Prop} : R.bo (.val (.bool b)) κ = κ b := propext Iff.rfl
theorem sv_e {b : Str} {κ : Str → Prop} : R.sv (.val (.str b)) κ = κ b := propext Iff.rfl
theorem iv_e {b : Int} {κ : Int → Prop} : R.iv (.val (.int b)) κ = κ b := propext Iff.rfl
theorem ol_e {b : List D} {κ : List D → Prop} : R.ol (.olst b) κ = κ b := propext Iff.rfl
theorem fO2_e {c : C2} {fa fb : FO} : fO2 c fa fb ρ k = fa ρ (fun ra ρ1 => fb ρ1 fun rb ρ2 => ra ρ2 fun d => rb ρ2 fun e => c d e fun r => k r ρ2) := propext Iff.rfl
theorem fBo_e {f : FR} {k : Bool → Ev → Prop} : fBo f ρ k = f ρ (fun r ρ1 => r.bo fun b => k b ρ1) := propext Iff.rfl
theorem fNot_e {f : FB} {k : Bool → Ev → Prop} : fNot f ρ k = f ρ (fun b ρ1 => k (!b) ρ1) := propext Iff.rfl
theorem fAnd_e {fa fb : FB} {k : Bool → Ev → Prop} : fAnd fa fb ρ k = fa ρ (fun b ρ1 => if b = true then fb ρ1 k else k false ρ1) := propext Iff.rfl
theorem fOr_e {fa fb : FB} {k : Bool → Ev → Prop} : fOr fa fb ρ k = fa ρ (fun b ρ1 => if b = true then k true ρ1 else fb ρ1 k) := propext Iff.rfl
theorem fAndV_e {fa fb : FR} : fAndV fa fb ρ k = fa ρ (fun r ρ1 => r.bo fun b => if b = true then fb ρ1 k else k (.val (.bool false)) ρ1) := propext Iff.rfl
theorem fOrV_e {fa fb : FR} : fOrV fa fb ρ k = fa ρ (fun r ρ1 => r.bo fun b => if b = true then k (.val (.bool true)) ρ1 else fb ρ1 k) := propext Iff.rfl
theorem fNotV_e {fa : FR} : fNotV fa ρ k = fa ρ (fun r ρ1 => r.bo fun b => k (.val (.bool (!b))) ρ1) := propext Iff.rfl
theorem fIf_e {fc : FB} {fa fb : FR} : fIf fc fa fb ρ k = fc ρ (fun b ρ1 => if b = true then fa ρ1 k else fb ρ1 k) := propext Iff.rfl
theorem fONil_e {k : List RdF → Ev → Prop} : fONil ρ k = k [] ρ := propext Iff.rfl
theorem fOCons_e {f : FO} {fs : FOs} {k : List RdF → Ev → Prop} : fOCons f fs ρ k = f ρ (fun rd ρ1 => fs ρ1 fun rds ρ2 => k (rd :: rds) ρ2) := propext Iff.rfl
theorem fLNil_e {k : List D → Ev → Prop} : fLNil ρ k = k [] ρ := propext Iff.rfl
theorem fLCons_e {f : FR} {fs : FL} {k : List D → Ev → Prop} : fLCons f fs ρ k = f ρ (fun r ρ1 => r.as fun d => fs ρ1 fun ds ρ2 => k (d :: ds) ρ2) := propext Iff.rfl
theorem fTup_e {f : FL} : fTup f ρ k = f ρ (fun ds ρ1 => k (.val (.tuple ds)) ρ1) := propext Iff.rfl
theorem fLst_e {f : FL} : fLst f ρ k = f ρ (fun ds ρ1 => k (.olst ds) ρ1) := propext Iff.rfl
theorem fNeg_e {f : FR} : fNeg f ρ k = f ρ (fun r ρ1 => r.as fun d => cNeg d fun z => k z ρ1) := propext Iff.rfl
theorem rdAll_nil {κ : List D → Prop} : rdAll [] ρ κ = κ [] := propext Iff.rfl
theorem rdAll_cons {rd : RdF} {r : List RdF} {κ : List D → Prop} : rdAll (rd :: r) ρ κ = rd ρ (fun d => rdAll r ρ fun ds => κ (d :: ds)) := propext Iff.rfl
theorem fCB_e {c : CN} {fs : FOs} : fCB c fs ρ k = fs ρ (fun rds ρ1 => rdAll rds ρ1 fun ds => c ds fun z => k z ρ1) := propext Iff.rfl
theorem fIsI_e {c : String} {f : FO} : fIsI c f ρ k = f ρ (fun rd ρ1 => rd ρ1 fun d => dkD d = true ∧ k (.val (.bool (isTy (tyD d) c))) ρ1) := propext Iff.rfl
theorem fTName_e {i : Nat} {d : D} {κ : Ev → Prop} : fTName i d ρ κ = κ (ρ.set i (some (.val d))) := propext Iff.rfl
theorem fTsNil_e {ds : List D} {κ : Ev → Prop} : fTsNil ds ρ κ = (ds = [] ∧ κ ρ) := propext Iff.rfl
theorem fTsCons_e {f : FT} {fs : FTs} {d : D} {r : List D} {κ : Ev → Prop} : fTsCons f fs (d :: r) ρ κ = f d ρ (fun ρ1 => fs r ρ1 κ) := propext Iff.rfl
theorem fTTup_e {n : Nat} {fs : FTs} {ds : List D} {κ : Ev → Prop} : fTTup n fs (.tuple ds) ρ κ = (ds.length = n ∧ fs ds ρ κ) := propext Iff.rfl
theorem fMut_e {i : Nat} {op : CMu} {fl : FL} : fMut i op fl ρ k = match ρ[i]? with
  | some (some (.olst _)) => fl ρ fun as ρ1 => match ρ1[i]? with
    | some (some (.olst ds)) => op ds as fun z ds' => k (.val z) (ρ1.set i (some (.olst ds')))
    | _ => False
  | _ => False := propext Iff.rfl
theorem sFor_e {fi : FI} {ft : FT} {body : FS} : sFor fi ft body dn ρ = fi ρ (fun items ρ1 => forGo ft body items dn ρ1) := propext Iff.rfl
theorem sWhile_e {fc : FB} {body : FS} : sWhile fc body dn ρ = ∃ n, whGo fc body n dn ρ := propext Iff.rfl
theorem fYes_e {k : Bool → Ev → Prop} : fYes ρ k = k true ρ := propext Iff.rfl
theorem fComp_e {vs : List Nat} {fi : FI} {ft : FT} {fc : FB} {fe : FR} : fComp vs fi ft fc fe ρ k = fi ρ (fun items ρ1 => keepE vs ρ1 = true ∧ items.length ≤ sizeLine ∧ compGo vs ft fc fe items (wipeE vs ρ1) [] fun acc ρ2 => k (.olst acc) (restE vs ρ1 ρ2)) := propext Iff.rfl
theorem fISeq_e {f : FR} {k : List D → Ev → Prop} : fISeq f ρ k = f ρ (fun r ρ1 => r.as fun d => match d with
  | .list ds => k ds ρ1
  | .tuple ds => k ds ρ1
  | .str x => k (signsD x) ρ1
  | _ => False) := by
  exact propext Iff.rfl
theorem fIRng1_e {f : FL} {k : List D → Ev → Prop} : fIRng1 f ρ k = f ρ (fun ds ρ1 => match ds with
  | [.int j] => IntOk j ∧ k (rangeD 0 j.toNat) ρ1
  | _ => False) := by
  exact propext Iff.rfl
theorem fCall_e {M : Mean} {fas : FAs} {kx : KE} : fCall M fas kx ρ k = fas ρ (fun as ρ1 => inR as ρ1 fun rs => M rs (fun r fs => outE as fs (dropE as ρ1) fun ρ2 => k r ρ2) (fun c fs => outE as fs (dropE as ρ1) fun ρ2 => kx c ρ2)) := propext Iff.rfl
theorem fANil_e {k : List AV → Ev → Prop} : fANil ρ k = k [] ρ := propext Iff.rfl
theorem fAV_e {f : FR} {fs : FAs} {k : List AV → Ev → Prop} : fAV f fs ρ k = f ρ (fun r ρ1 => r.as fun d => fs ρ1 fun as ρ2 => k (.v d :: as) ρ2) := propext Iff.rfl
theorem inR_nil {κ : List R → Prop} : inR [] ρ κ = κ [] := propext Iff.rfl
theorem inR_v {d : D} {t : List AV} {κ : List R → Prop} : inR (.v d :: t) ρ κ = inR t ρ (fun rs => κ (.val d :: rs)) := propext Iff.rfl
theorem inR_s {j : Nat} {t : List AV} {κ : List R → Prop} : inR (.s j :: t) ρ κ = match ρ[j]? with
  | some (some r) => inR t ρ fun rs => κ (r :: rs)
  | _ => False := propext Iff.rfl
theorem dropE_nil : dropE [] ρ = ρ := rfl
theorem dropE_v {d : D} {t : List AV} : dropE (.v d :: t) ρ = dropE t ρ := rfl
theorem dropE_s {j : Nat} {t : List AV} : dropE (.s j :: t) ρ = dropE t (ρ.set j none) := rfl
theorem outE_nil {fs : List R} {κ : Ev → Prop} : outE [] fs ρ κ = κ ρ := by cases fs <;> exact propext Iff.rfl
theorem outE_v {d : D} {t : List AV} {fs : List R} {κ : Ev → Prop} : outE (.v d :: t) fs ρ κ = outE t fs ρ κ := by cases fs <;> exact propext Iff.rfl
theorem outE_s {j : Nat} {t : List AV} {f : R} {fs : List R} {κ : Ev → Prop} : outE (.s j :: t) (f :: fs) ρ κ = outE t fs (ρ.set j (some f)) κ := propext Iff.rfl
theorem fPNo_e {k : Option Int → Ev → Prop} : fPNo ρ k = k none ρ := propext Iff.rfl
theorem fPInt_e {f : FR} {k : Option Int → Ev → Prop} : fPInt f ρ k = f ρ (fun r ρ1 => r.iv fun i => k (some i) ρ1) := propext Iff.rfl
theorem fSl_e {fo : FO} {fl fh : FP} : fSl fo fl fh ρ k = fo ρ (fun rd ρ1 => fl ρ1 fun l ρ2 => fh ρ2 fun u ρ3 => rd ρ3 fun d => cSl d l u fun z => k z ρ3) := propext Iff.rfl
theorem fM1_e {c : CS1} {fo : FR} {fe : FO} : fM1 c fo fe ρ k = fo ρ (fun r ρ1 => r.sv fun a => fe ρ1 fun rd ρ2 => rd ρ2 fun d => c a d fun z => k z ρ2) := propext Iff.rfl
theorem fTIx_e {i : Nat} {fi : FR} {d : D} {κ : Ev → Prop} : fTIx i fi d ρ κ = match ρ[i]? with
  | some (some _) => fi ρ fun r ρ1 => r.as fun ix => putIx ρ1 i ix d κ
  | _ => False := propext Iff.rfl
theorem compGo_nil {vs : List Nat} {ft : FT} {fc : FB} {fe : FR} {acc : List D} {κ : List D → Ev → Prop} : compGo vs ft fc fe [] ρ acc κ = κ acc ρ := propext Iff.rfl
theorem compGo_cons {vs : List Nat} {ft : FT} {fc : FB} {fe : FR} {d : D} {r acc : List D} {κ : List D → Ev → Prop} : compGo vs ft fc fe (d :: r) ρ acc κ = ft d ρ (fun ρ1 => fc ρ1 fun b ρ2 => if b = true then fe ρ2 fun z ρ3 => z.as fun y => compGo vs ft fc fe r (wipeE vs ρ3) (acc ++ [y]) κ else compGo vs ft fc fe r (wipeE vs ρ2) acc κ) := propext Iff.rfl
theorem forGo_nil {ft : FT} {body : FS} : forGo ft body [] dn ρ = dn.nx ρ := propext Iff.rfl
theorem forGo_cons {ft : FT} {body : FS} {d : D} {r : List D} : forGo ft body (d :: r) dn ρ = ft d ρ (fun ρ1 => body { dn with nx := forGo ft body r dn, ct := forGo ft body r dn, bk := dn.nx } ρ1) := propext Iff.rfl
theorem whGo_succ {fc : FB} {body : FS} {n : Nat} : whGo fc body (n + 1) dn ρ = fc ρ (fun b ρ1 => if b = true then body { dn with nx := whGo fc body n dn, ct := whGo fc body n dn, bk := dn.nx } ρ1 else dn.nx ρ1) := propext Iff.rfl
end
section
variable {i j : Int} {κ : R → Prop} {d e : D} {x y : Str} {xs ys : List D}
theorem cAdd_i : cAdd (.int i) (.int j) κ = κ (.val (.int (i + j))) := propext Iff.rfl
theorem cAdd_s : cAdd (.str x) (.str y) κ = (x.length + y.length ≤ sizeLine ∧ κ (.val (.str (x ++ y)))) := propext Iff.rfl
theorem cAdd_l : cAdd (.list xs) (.list ys) κ = (xs.length + ys.length ≤ sizeLine ∧ κ (.olst (xs ++ ys))) := propext Iff.rfl
theorem cAdd_t : cAdd (.tuple xs) (.tuple ys) κ = (xs.length + ys.length ≤ sizeLine ∧ κ (.val (.tuple (xs ++ ys)))) := propext Iff.rfl
theorem cSub_i : cSub (.int i) (.int j) κ = κ (.val (.int (i - j))) := propext Iff.rfl
theorem cMul_i : cMul (.int i) (.int j) κ = (MulOk i j ∧ κ (.val (.int (i * j)))) := propext Iff.rfl
theorem cFdiv_i : cFdiv (.int i) (.int j) κ = (DivOk i j ∧ κ (.val (.int (i / j)))) := propext Iff.rfl
theorem cMod_i : cMod (.int i) (.int j) κ = (0 < j ∧ κ (.val (.int (i % j)))) := propext Iff.rfl
theorem cPow_i : cPow (.int i) (.int j) κ = (CPow i j ∧ κ (.val (.int (i ^ j.toNat)))) := propext Iff.rfl
theorem cLt_i : cLt (.int i) (.int j) κ = κ (.val (.bool (decide (i < j)))) := propext Iff.rfl
theorem cLe_i : cLe (.int i) (.int j) κ = κ (.val (.bool (decide (i ≤ j)))) := propext Iff.rfl
theorem cGt_i : cGt (.int i) (.int j) κ = κ (.val (.bool (decide (j < i)))) := propext Iff.rfl
theorem cGe_i : cGe (.int i) (.int j) κ = κ (.val (.bool (decide (j ≤ i)))) := propext Iff.rfl
theorem cEq_e : cEq d e κ = (SeqAt.shaped d = true ∧ SeqAt.shaped e = true ∧ κ (.val (.bool (PyData.eqv d e)))) := propext Iff.rfl
theorem cNe_e : cNe d e κ = (SeqAt.shaped d = true ∧ SeqAt.shaped e = true ∧ κ (.val (.bool (!PyData.eqv d e)))) := propext Iff.rfl
theorem cIs_e : cIs d e κ = (e = .none ∧ κ (.val (.bool (isNonD d)))) := propext Iff.rfl
theorem cIsNot_e : cIsNot d e κ = (e = .none ∧ κ (.val (.bool (!isNonD d)))) := propext Iff.rfl
theorem cIx_l : cIx (.list xs) (.int i) κ = ∃ z, atI xs i = some z ∧ κ (.val z) := propext Iff.rfl
theorem cIx_t : cIx (.tuple xs) (.int i) κ = ∃ z, atI xs i = some z ∧ κ (.val z) := propext Iff.rfl
theorem cIx_s : cIx (.str x) (.int i) κ = (x.length ≤ sizeLine ∧ ∃ c, atI x.cps.toList i = some c ∧ κ (.val (.str ⟨#[c]⟩))) := propext Iff.rfl
theorem cNeg_i : cNeg (.int i) κ = κ (.val (.int (-i))) := propext Iff.rfl
theorem cLen_l : cLen [.list xs] κ = κ (.val (.int xs.length)) := propext Iff.rfl
theorem cLen_t : cLen [.tuple xs] κ = κ (.val (.int xs.length)) := propext Iff.rfl
theorem cLen_s : cLen [.str x] κ = (x.length ≤ sizeLine ∧ κ (.val (.int x.length))) := propext Iff.rfl
theorem cList_l : cList [.list xs] κ = κ (.olst xs) := propext Iff.rfl
theorem cList_t : cList [.tuple xs] κ = κ (.olst xs) := propext Iff.rfl
theorem cTuple_l : cTuple [.list xs] κ = κ (.val (.tuple xs)) := propext Iff.rfl
theorem cTuple_t : cTuple [.tuple xs] κ = κ (.val (.tuple xs)) := propext Iff.rfl
theorem cAll_e : cAll [.list xs] κ = ∃ bs : List Bool, xs = bs.map PyData.bool ∧ κ (.val (.bool (bs.all id))) := propext Iff.rfl
theorem cAny_e : cAny [.list xs] κ = ∃ bs : List Bool, xs = bs.map PyData.bool ∧ κ (.val (.bool (bs.any id))) := propext Iff.rfl
theorem cAbs_i : cAbs [.int i] κ = κ (.val (.int (if i < 0 then -i else i))) := propext Iff.rfl
theorem cDivmod_i : cDivmod [.int i, .int j] κ = (DivOk i j ∧ κ (.val (.tuple [.int (i / j), .int (i % j)]))) := propext Iff.rfl
theorem cInt_b {b : Bool} : cInt [.bool b] κ = κ (.val (.int (if b then 1 else 0))) := propext Iff.rfl
theorem cInt_i : cInt [.int i] κ = κ (.val (.int i)) := propext Iff.rfl
theorem cStrI_i : cStrI [.int i] κ = (i.natAbs.log2 < 1920 ∧ κ (.val (.str (toString i)))) := propext Iff.rfl
theorem cIntS_s : cIntS [.str x] κ = ∃ n, PySem.intText? x = some n ∧ x.length ≤ 640 ∧ κ (.val (.int n)) := propext Iff.rfl
theorem cSplit_s : cSplit x (.str y) κ = ((y.length == 0) = false ∧ x.length + 2 ≤ sizeLine ∧ κ (.olst ((Txt.split x y).map PyData.str))) := propext Iff.rfl
theorem cJoin_e : cJoin x d κ = ∃ ys : List Str, (d = .list (ys.map PyData.str) ∨ d = .tuple (ys.map PyData.str)) ∧ (ys.map (·.length)).sum + ys.length * x.length ≤ 16777216 ∧ κ (.val (.str (Txt.join x ys))) := propext Iff.rfl
theorem cSl_l {lo hi : Option Int} : cSl (.list xs) lo hi κ = κ (.olst (cutL xs lo hi)) := propext Iff.rfl
theorem cSl_t {lo hi : Option Int} : cSl (.tuple xs) lo hi κ = κ (.val (.tuple (cutL xs lo hi))) := propext Iff.rfl
theorem cSl_s {lo hi : Option Int} : cSl (.str x) lo hi κ = (x.length ≤ sizeLine ∧ κ (.val (.str (cutS x lo hi)))) := propext Iff.rfl
theorem mAppend_e {ds : List D} {κ : D → List D → Prop} : mAppend ds [d] κ = (ds.length < sizeLine ∧ κ .none (ds ++ [d])) := propext Iff.rfl
theorem fnM_e {n : Nat} {br : List Bool} {body : KE → FS} {rs : List R} {k : R → List R → Prop} {kx : KXc} : fnM n br body rs k kx = body (fun c ρ => finK (idxs 0 br) ρ fun fs => kx c fs) { nx := fun ρ => finK (idxs 0 br) ρ fun fs => k (.val .none) fs, rt := fun r ρ => finK (idxs 0 br) ρ fun fs => k r fs } (startE n rs) := propext Iff.rfl
theorem finK_nil {ρ : Ev} {κ : List R → Prop} : finK [] ρ κ = κ [] := propext Iff.rfl
end
/-! ### shaped data -/
def Sh (n : Nat) (d : D) : Prop := d.canLay0 = true ∧ d.depth ≤ n
theorem Sh.shaped {n : Nat} {d : D} (h : Sh n d) (hn : n ≤ 64 := by decide) : SeqAt.shaped d = true := by
  unfold SeqAt.shaped
  rw [h.1, Bool.true_and, decide_eq_true_eq]
  exact Nat.le_trans h.2 hn
theorem Sh.int {n : Nat} (i : Int) : Sh n (.int i) := ⟨rfl, Nat.zero_le _⟩
theorem Sh.bl {n : Nat} (i : Bool) : Sh n (.bool i) := ⟨rfl, Nat.zero_le _⟩
theorem Sh.non {n : Nat} : Sh n .none := ⟨rfl, Nat.zero_le _⟩
theorem Sh.str {n : Nat} {x : Str} (h : PyData.strOk x = true) : Sh n (.str x) := ⟨by simp only [PyData.canLay0]; exact h, Nat.zero_le _⟩
theorem Sh.all {n : Nat} : ∀ {xs : List D}, (∀ x ∈ xs, Sh n x) → PyData.canLayAll0 xs = true ∧ PyData.depthAll xs ≤ n
  | [], _ => ⟨rfl, Nat.zero_le _⟩
  | x :: r, h => by
    have h1 := h x (by simp)
    have h2 := Sh.all (xs := r) fun y hy => h y (List.mem_cons_of_mem _ hy)
    simp only [PyData.canLayAll0, PyData.depthAll, h1.1, h2.1, Bool.and_self, true_and]
    have a := h1.2
    have b := h2.2
    omega
theorem Sh.list {n : Nat} {xs : List D} (h : ∀ x ∈ xs, Sh n x) : Sh (n + 1) (.list xs) := by
  have := Sh.all h
  exact ⟨by simp only [PyData.canLay0]; exact this.1, by simp only [PyData.depth]; omega⟩
theorem Sh.tuple {n : Nat} {xs : List D} (h : ∀ x ∈ xs, Sh n x) : Sh (n + 1) (.tuple xs) := by
  have := Sh.all h
  exact ⟨by simp only [PyData.canLay0]; exact this.1, by simp only [PyData.depth]; omega⟩
theorem Sh.nilL {n : Nat} : Sh (n + 1) (.list []) := Sh.list fun _ h => by simp at h
/-! ### data without truths and dicts: eqv is equality -/
mutual
def nb : D → Bool
  | .none => true
  | .int _ => true
  | .str _ => true
  | .list xs => nbs xs
  | .tuple xs => nbs xs
  | _ => false
def nbs : List D → Bool
  | [] => true
  | x :: xs => nb x && nbs xs
end
mutual
theorem eqv_nb : ∀ (d e : D), nb d = true → nb e = true → (PyData.eqv d e = true ↔ d = e)
  | .none, e, _, h => by cases e <;> simp_all [PyData.eqv, nb]
  | .bool _, _, h, _ => by simp [nb] at h
  | .int i, e, _, h => by cases e <;> simp_all [PyData.eqv, nb]
  | .str x, e, _, h => by cases e <;> simp_all [PyData.eqv, nb]
  | .list xs, e, h1, h2 => by
    cases e with
    | list ys =>
      simp only [nb] at h1 h2
      rw [PyData.eqv, eqvs_nb xs ys h1 h2, PyData.list.injEq]
    | _ => simp_all [PyData.eqv, nb]
  | .tuple xs, e, h1, h2 => by
    cases e with
    | tuple ys =>
      simp only [nb] at h1 h2
      rw [PyData.eqv, eqvs_nb xs ys h1 h2, PyData.tuple.injEq]
    | _ => simp_all [PyData.eqv, nb]
  | .dict _, _, h, _ => by simp [nb] at h
theorem eqvs_nb : ∀ (xs ys : List D), nbs xs = true → nbs ys = true → (PyData.eqvAll xs ys = true ↔ xs = ys)
  | [], [], _, _ => by simp [PyData.eqvAll]
  | [], _ :: _, _, _ => by simp [PyData.eqvAll]
  | _ :: _, [], _, _ => by simp [PyData.eqvAll]
  | x :: xs, y :: ys, h1, h2 => by
    simp only [nbs, Bool.and_eq_true] at h1 h2
    rw [PyData.eqvAll, Bool.and_eq_true, eqv_nb x y h1.1 h2.1, eqvs_nb xs ys h1.2 h2.2, List.cons.injEq]
end
theorem eqv_of {d e : D} (h1 : nb d = true) (h2 : nb e = true) (h : d = e) : PyData.eqv d e = true := (eqv_nb d e h1 h2).mpr h
theorem eqv_no {d e : D} (h1 : nb d = true) (h2 : nb e = true) (h : d ≠ e) : PyData.eqv d e = false := by
  cases q : PyData.eqv d e with
  | false => rfl
  | true => exact absurd ((eqv_nb d e h1 h2).mp q) h
theorem nbs_of {xs : List D} (h : ∀ x ∈ xs, nb x = true) : nbs xs = true := by
  induction xs with
  | nil => rfl
  | cons x r ih =>
    simp only [nbs, Bool.and_eq_true]
    exact ⟨h x (by simp), ih fun y hy => h y (List.mem_cons_of_mem _ hy)⟩
/-- the kernel compares i / j with i % j for long: name them -/
theorem cDivmod_g {i j : Int} {κ : R → Prop} (h : DivOk i j) (hk : ∀ q r : Int, q = i / j → r = i % j → κ (.val (.tuple [.int q, .int r]))) : cDivmod [.int i, .int j] κ := ⟨h, hk _ _ rfl rfl⟩
theorem atI_zero {α : Type} {a : α} {r : List α} : atI (a :: r) 0 = some a := by
  unfold atI ixN
  rw [if_pos (Int.le_refl _), if_pos (by simp only [List.length_cons]; omega)]
  rfl
theorem atI_one {α : Type} {a b : α} {r : List α} : atI (a :: b :: r) 1 = some b := by
  unfold atI ixN
  rw [if_pos (by decide), if_pos (by simp only [List.length_cons]; omega)]
  rfl
theorem atI_nat {α : Type} {xs : List α} {i : Int} {n : Nat} (hi : i = n) (h : n < xs.length) : atI xs i = xs[n]? := by
  subst hi
  unfold atI ixN
  rw [if_pos (by omega), if_pos (by omega)]
  rfl
theorem ex_some {α : Type} {a : α} {P : α → Prop} : (∃ z, some a = some z ∧ P z) = P a := by
  apply propext
  constructor
  · rintro ⟨z, e, h⟩
    cases e
    exact h
  · exact fun h => ⟨a, rfl, h⟩
/-- a def's answer, its arguments shared -/
def Ret (M : Mean) (rs : List R) (r : R) : Prop := ∀ k kx, k r [] → M rs k kx
theorem set_kept {α : Type} {l : List α} {i : Nat} {x : α} (h : l[i]? = some x) : l.set i x = l := by
  apply List.ext_getElem?
  intro j
  rw [List.getElem?_set]
  split
  · rename_i e
    subst e
    rw [h, if_pos (List.getElem?_eq_some_iff.mp h).1]
  · rfl
theorem compGo_map {i : Nat} {fe : FR} {f : D → D} {ρ : Ev} {κ : List D → Ev → Prop} (hi : ρ[i]? = some none) : ∀ (items acc : List D),
    (∀ d ∈ items, ∀ k : R → Ev → Prop, k (.val (f d)) (ρ.set i (some (.val d))) → fe (ρ.set i (some (.val d))) k) → κ (acc ++ items.map f) ρ → compGo [i] (fTName i) fYes fe items ρ acc κ
  | [], acc, _, h => by simpa [compGo] using h
  | d :: r, acc, hf, h => by
    rw [compGo_cons]
    simp only [fTName_e, fYes_e, if_true]
    refine hf d (by simp) _ ?_
    rw [as_val]
    have e : wipeE [i] (ρ.set i (some (.val d))) = ρ := by
      show (ρ.set i (some (.val d))).set i none = ρ
      rw [List.set_set]
      exact set_kept hi
    rw [e]
    refine compGo_map hi r _ (fun x hx => hf x (List.mem_cons_of_mem _ hx)) ?_
    simpa using h
/-! ### one statement at a time: what follows is named, not run -/
section
variable {ρ : Ev} {dn : Dn} {g : FS}
theorem scAsg {i : Nat} {f : FR} (h : ∀ κ : R → Ev → Prop, (∀ r ρ1, g dn (ρ1.set i (some r)) → κ r ρ1) → f ρ κ) : sCons (sAsg i f) g dn ρ := h _ fun _ _ h => h
theorem scTgt {f : FR} {ft : FT} (h : ∀ κ : R → Ev → Prop, (∀ r ρ1, (r.as fun d => ft d ρ1 (g dn)) → κ r ρ1) → f ρ κ) : sCons (sTgt f ft) g dn ρ := h _ fun _ _ h => h
theorem scExpr {f : FR} (h : ∀ κ : R → Ev → Prop, (∀ r ρ1, g dn ρ1 → κ r ρ1) → f ρ κ) : sCons (sExpr f) g dn ρ := h _ fun _ _ h => h
theorem scPar {i j : Nat} {f : FL} (h : ∀ κ : List D → Ev → Prop, (∀ d e ρ1, g dn ((ρ1.set i (some (.val d))).set j (some (.val e))) → κ [d, e] ρ1) → f ρ κ) : sCons (sPar i j f) g dn ρ := by
  rw [sCons_e, sPar_e]
  exact h _ fun _ _ _ h => h
theorem scIf {c : FB} {a b : FS} (h : ∀ κ : Bool → Ev → Prop, (∀ ρ1, a { dn with nx := g dn } ρ1 → κ true ρ1) → (∀ ρ1, b { dn with nx := g dn } ρ1 → κ false ρ1) → c ρ κ) : sCons (sIf c a b) g dn ρ :=
  h (fun b' ρ1 => if b' = true then a { dn with nx := g dn } ρ1 else b { dn with nx := g dn } ρ1) (fun _ h => by simpa using h) (fun _ h => by simpa using h)
theorem scFor {fi : FI} {ft : FT} {body : FS} (h : ∀ κ : List D → Ev → Prop, (∀ ds ρ1, forGo ft body ds { dn with nx := g dn } ρ1 → κ ds ρ1) → fi ρ κ) : sCons (sFor fi ft body) g dn ρ := h _ fun _ _ h => h
theorem sgAsg {i : Nat} {f : FR} (h : ∀ κ : R → Ev → Prop, (∀ r ρ1, dn.nx (ρ1.set i (some r)) → κ r ρ1) → f ρ κ) : sAsg i f dn ρ := h _ fun _ _ h => h
theorem sgTgt {f : FR} {ft : FT} (h : ∀ κ : R → Ev → Prop, (∀ r ρ1, (r.as fun d => ft d ρ1 dn.nx) → κ r ρ1) → f ρ κ) : sTgt f ft dn ρ := h _ fun _ _ h => h
theorem sgExpr {f : FR} (h : ∀ κ : R → Ev → Prop, (∀ r ρ1, dn.nx ρ1 → κ r ρ1) → f ρ κ) : sExpr f dn ρ := h _ fun _ _ h => h
theorem sgRet {f : FR} (h : ∀ κ : R → Ev → Prop, (∀ r ρ1, dn.rt r ρ1 → κ r ρ1) → f ρ κ) : sRet f dn ρ := h _ fun _ _ h => h
theorem sgIf {c : FB} {a b : FS} (h : ∀ κ : Bool → Ev → Prop, (∀ ρ1, a dn ρ1 → κ true ρ1) → (∀ ρ1, b dn ρ1 → κ false ρ1) → c ρ κ) : sIf c a b dn ρ :=
  h (fun b' ρ1 => if b' = true then a dn ρ1 else b dn ρ1) (fun _ h => by simpa using h) (fun _ h => by simpa using h)
end
end Cr
end

section
set_option maxRecDepth 100000
set_option maxHeartbeats 4000000
namespace K77
open PySem PySem.Spec PyProof.Rows L2 Cr
def topS (i : Nat) : Stmt := PySem.Challenge.pw_twainhoard_k77_ratios_written_and_read.main.body.getD i (.Pass ⟨0, 0, 0, 0⟩)
/-- what the names of the module hold: built-ins, constants -/
structure Gs (mg : Str → Option Value) : Prop where
  abs : mg "abs" = none
  all : mg "all" = none
  bool : mg "bool" = none
  divmod : mg "divmod" = none
  int : mg "int" = none
  isinstance : mg "isinstance" = none
  len : mg "len" = none
  list : mg "list" = none
  range : mg "range" = none
  str : mg "str" = none
  tuple : mg "tuple" = none
  EMPTY : ∃ t, mg "EMPTY" = some (.str "." t)
  FIGURES : ∃ t, mg "FIGURES" = some (.str "0123456789" t)
  MOST_FIGURES : ∃ t, mg "MOST_FIGURES" = some (.int 60 t)
  MOST_THINGS : ∃ t, mg "MOST_THINGS" = some (.int 100 t)
abbrev st_is_whole : Stmt := topS 5
abbrev N_is_whole : List Str := ["thing"]
theorem sc_is_whole : FnScope N_is_whole ["thing"] (defScope st_is_whole) := ⟨rfl, rfl, rfl, by decide +kernel, rfl, by decide +kernel, by decide +kernel⟩
def F_is_whole (kx : KE) : FS :=
 (sRet (fAndV (fIsI "int" (fOP 0)) (fNotV (fIsI "bool" (fOP 0)))))
def M_is_whole : Mean := fnM 1 [false] F_is_whole
abbrev st_common : Stmt := topS 6
abbrev N_common : List Str := ["one", "other"]
theorem sc_common : FnScope N_common ["one", "other"] (defScope st_common) := ⟨rfl, rfl, rfl, by decide +kernel, rfl, by decide +kernel, by decide +kernel⟩
def F_common (kx : KE) : FS :=
 (sCons (sAsg 0 (fCB cAbs (fOCons (fOP 0) fONil)))
  (sCons (sAsg 1 (fCB cAbs (fOCons (fOP 1) fONil)))
  (sCons (sWhile (fBo (fO2 cGt (fOP 1) (fOV (fCst (.int 0)))))
  (sPar 0 1 (fLCons (fVar 1) (fLCons (fO2 cMod (fOP 0) (fOP 1)) fLNil))))
  (sRet (fMov 0)))))
def M_common : Mean := fnM 2 [false, false] F_common
abbrev st_ratio : Stmt := topS 7
abbrev N_ratio : List Str := ["top", "bottom", "by"]
theorem sc_ratio : FnScope N_ratio ["top", "bottom"] (defScope st_ratio) := ⟨rfl, rfl, rfl, by decide +kernel, rfl, by decide +kernel, by decide +kernel⟩
def F_ratio (kx : KE) : FS :=
 (sCons (sIf (fBo (fO2 cEq (fOP 1) (fOV (fCst (.int 0)))))
  sNever
  sNil)
  (sCons (sIf (fBo (fO2 cLt (fOP 1) (fOV (fCst (.int 0)))))
  (sCons (sAsg 0 (fO2 cSub (fOV (fCst (.int 0))) (fOP 0)))
  (sAsg 1 (fO2 cSub (fOV (fCst (.int 0))) (fOP 1))))
  sNil)
  (sCons (sAsg 2 (fCall M_common (fAV (fVar 0) (fAV (fVar 1) fANil)) (fun _ _ => False)))
  (sRet (fTup (fLCons (fO2 cFdiv (fOP 0) (fOP 2)) (fLCons (fO2 cFdiv (fOP 1) (fOP 2)) fLNil)))))))
def M_ratio : Mean := fnM 3 [false, false] F_ratio
abbrev st_is_ratio : Stmt := topS 8
abbrev N_is_ratio : List Str := ["thing"]
theorem sc_is_ratio : FnScope N_is_ratio ["thing"] (defScope st_is_ratio) := ⟨rfl, rfl, rfl, by decide +kernel, rfl, by decide +kernel, by decide +kernel⟩
def F_is_ratio (kx : KE) : FS :=
 (sCons (sIf (fOr (fNot (fBo (fIsI "tuple" (fOP 0)))) (fOr (fBo (fO2 cNe (fOV (fCB cLen (fOCons (fOP 0) fONil))) (fOV (fCst (.int 2))))) (fOr (fNot (fBo (fCall M_is_whole (fAV (fO2 cIx (fOP 0) (fOV (fCst (.int 0)))) fANil) (fun _ _ => False)))) (fNot (fBo (fCall M_is_whole (fAV (fO2 cIx (fOP 0) (fOV (fCst (.int 1)))) fANil) (fun _ _ => False)))))))
  (sRet (fCst (.bool false)))
  sNil)
  (sRet (fAndV (fO2 cGt (fOV (fO2 cIx (fOP 0) (fOV (fCst (.int 1))))) (fOV (fCst (.int 0)))) (fO2 cEq (fOV (fCall M_common (fAV (fO2 cIx (fOP 0) (fOV (fCst (.int 0)))) (fAV (fO2 cIx (fOP 0) (fOV (fCst (.int 1)))) fANil)) (fun _ _ => False))) (fOV (fCst (.int 1)))))))
def M_is_ratio : Mean := fnM 1 [false] F_is_ratio
abbrev st_ratio_text : Stmt := topS 14
abbrev N_ratio_text : List Str := ["one"]
theorem sc_ratio_text : FnScope N_ratio_text ["one"] (defScope st_ratio_text) := ⟨rfl, rfl, rfl, by decide +kernel, rfl, by decide +kernel, by decide +kernel⟩
def F_ratio_text (kx : KE) : FS :=
 (sCons (sIf (fBo (fO2 cEq (fOV (fO2 cIx (fOP 0) (fOV (fCst (.int 1))))) (fOV (fCst (.int 1)))))
  (sRet (fCB cStrI (fOCons (fOV (fO2 cIx (fOP 0) (fOV (fCst (.int 0))))) fONil)))
  sNil)
  (sRet (fO2 cAdd (fOV (fO2 cAdd (fOV (fCB cStrI (fOCons (fOV (fO2 cIx (fOP 0) (fOV (fCst (.int 0))))) fONil))) (fOV (fCst (.str "/"))))) (fOV (fCB cStrI (fOCons (fOV (fO2 cIx (fOP 0) (fOV (fCst (.int 1))))) fONil))))))
def M_ratio_text : Mean := fnM 1 [false] F_ratio_text
abbrev st_words_text : Stmt := topS 15
abbrev N_words_text : List Str := ["words"]
theorem sc_words_text : FnScope N_words_text ["words"] (defScope st_words_text) := ⟨rfl, rfl, rfl, by decide +kernel, rfl, by decide +kernel, by decide +kernel⟩
def F_words_text (kx : KE) : FS :=
 (sCons (sIf (fBo (fO2 cEq (fOP 0) (fOV (fLst fLNil))))
  (sRet (fCst (.str ".")))
  sNil)
  (sRet (fM1 cJoin (fCst (.str " ")) (fOP 0))))
def M_words_text : Mean := fnM 1 [false] F_words_text
abbrev st_ratios_text : Stmt := topS 16
abbrev N_ratios_text : List Str := ["some", "one"]
theorem sc_ratios_text : FnScope N_ratios_text ["some"] (defScope st_ratios_text) := ⟨rfl, rfl, rfl, by decide +kernel, rfl, by decide +kernel, by decide +kernel⟩
def F_ratios_text (kx : KE) : FS :=
 (sRet (fCall M_words_text (fAV (fComp [1] (fISeq (fVar 0)) (fTName 1) fYes (fCall M_ratio_text (fAV (fVar 1) fANil) (fun _ _ => False))) fANil) (fun _ _ => False)))
def M_ratios_text : Mean := fnM 2 [false] F_ratios_text
abbrev st_number_read : Stmt := topS 17
abbrev N_number_read : List Str := ["word", "sign"]
theorem sc_number_read : FnScope N_number_read ["word"] (defScope st_number_read) := ⟨rfl, rfl, rfl, by decide +kernel, rfl, by decide +kernel, by decide +kernel⟩
def F_number_read (kx : KE) : FS :=
 (sCons (sIf (fOr (fBo (fO2 cEq (fOP 0) (fOV (fCst (.str ""))))) (fOr (fBo (fO2 cGt (fOV (fCB cLen (fOCons (fOP 0) fONil))) (fOV (fCst (.int 60))))) (fNot (fBo (fCB cAll (fOCons (fOV (fComp [1] (fISeq (fVar 0)) (fTName 1) fYes (fO2 (cInS false) (fOP 1) (fOV (fCst (.str "0123456789")))))) fONil))))))
  (sRet (fCst .none))
  sNil)
  (sCons (sIf (fAnd (fBo (fO2 cEq (fOV (fO2 cIx (fOP 0) (fOV (fCst (.int 0))))) (fOV (fCst (.str "0"))))) (fBo (fO2 cNe (fOP 0) (fOV (fCst (.str "0"))))))
  (sRet (fCst .none))
  sNil)
  (sRet (fCB cIntS (fOCons (fOP 0) fONil)))))
def M_number_read : Mean := fnM 2 [false] F_number_read
abbrev st_ratio_of_word : Stmt := topS 18
abbrev N_ratio_of_word : List Str := ["word", "parts", "sign", "numbers", "found", "part"]
theorem sc_ratio_of_word : FnScope N_ratio_of_word ["word"] (defScope st_ratio_of_word) := ⟨rfl, rfl, rfl, by decide +kernel, rfl, by decide +kernel, by decide +kernel⟩
def F_ratio_of_word (kx : KE) : FS :=
 (sCons (sAsg 1 (fM1 cSplit (fVar 0) (fOV (fCst (.str "/")))))
  (sCons (sAsg 2 (fCst (.int 1)))
  (sCons (sIf (fBo (fO2 cEq (fOV (fSl (fOV (fO2 cIx (fOP 1) (fOV (fCst (.int 0))))) fPNo (fPInt (fCst (.int 1))))) (fOV (fCst (.str "-")))))
  (sCons (sAsg 2 (fNeg (fCst (.int 1))))
  (sTgt (fSl (fOV (fO2 cIx (fOP 1) (fOV (fCst (.int 0))))) (fPInt (fCst (.int 1))) fPNo) (fTIx 1 (fCst (.int 0)))))
  sNil)
  (sCons (sAsg 3 (fComp [5] (fISeq (fVar 1)) (fTName 5) fYes (fCall M_number_read (fAV (fVar 5) fANil) (fun _ _ => False))))
  (sCons (sIf (fOr (fBo (fO2 cGt (fOV (fCB cLen (fOCons (fOP 1) fONil))) (fOV (fCst (.int 2))))) (fOr (fBo (fO2 (cIn false) (fOV (fCst .none)) (fOP 3))) (fAnd (fBo (fO2 cEq (fOV (fO2 cIx (fOP 3) (fOV (fCst (.int 0))))) (fOV (fCst (.int 0))))) (fBo (fO2 cLt (fOP 2) (fOV (fCst (.int 0))))))))
  (sRet (fCst .none))
  sNil)
  (sCons (sAsg 4 (fTup (fLCons (fO2 cMul (fOP 2) (fOV (fO2 cIx (fOP 3) (fOV (fCst (.int 0)))))) (fLCons (fCst (.int 1)) fLNil))))
  (sCons (sIf (fBo (fO2 cEq (fOV (fCB cLen (fOCons (fOP 3) fONil))) (fOV (fCst (.int 2)))))
  (sCons (sAsg 4 (fTup (fLCons (fO2 cMul (fOP 2) (fOV (fO2 cIx (fOP 3) (fOV (fCst (.int 0)))))) (fLCons (fO2 cIx (fOP 3) (fOV (fCst (.int 1)))) fLNil))))
  (sIf (fOr (fBo (fO2 cLt (fOV (fO2 cIx (fOP 3) (fOV (fCst (.int 1))))) (fOV (fCst (.int 2))))) (fNot (fBo (fCall M_is_ratio (fAV (fVar 4) fANil) (fun _ _ => False)))))
  (sRet (fCst .none))
  sNil))
  sNil)
  (sRet (fMov 4)))))))))
def M_ratio_of_word : Mean := fnM 6 [false] F_ratio_of_word
abbrev st_words_of : Stmt := topS 19
abbrev N_words_of : List Str := ["thing"]
theorem sc_words_of : FnScope N_words_of ["thing"] (defScope st_words_of) := ⟨rfl, rfl, rfl, by decide +kernel, rfl, by decide +kernel, by decide +kernel⟩
def F_words_of (kx : KE) : FS :=
 (sCons (sIf (fNot (fBo (fIsI "str" (fOP 0))))
  sNever
  sNil)
  (sRet (fM1 cSplit (fVar 0) (fOV (fCst (.str " "))))))
def M_words_of : Mean := fnM 1 [false] F_words_of
abbrev st_row_of_words : Stmt := topS 20
abbrev N_row_of_words : List Str := ["words"]
theorem sc_row_of_words : FnScope N_row_of_words ["words"] (defScope st_row_of_words) := ⟨rfl, rfl, rfl, by decide +kernel, rfl, by decide +kernel, by decide +kernel⟩
def F_row_of_words (kx : KE) : FS :=
 (sCons (sIf (fBo (fO2 cEq (fOP 0) (fOV (fLst (fLCons (fCst (.str ".")) fLNil)))))
  (sRet (fLst fLNil))
  sNil)
  (sCons (sIf (fBo (fO2 cGt (fOV (fCB cLen (fOCons (fOP 0) fONil))) (fOV (fCst (.int 100)))))
  sNever
  sNil)
  (sRet (fMov 0))))
def M_row_of_words : Mean := fnM 1 [false] F_row_of_words
abbrev st_read_ratio : Stmt := topS 21
abbrev N_read_ratio : List Str := ["thing", "words", "found"]
theorem sc_read_ratio : FnScope N_read_ratio ["thing"] (defScope st_read_ratio) := ⟨rfl, rfl, rfl, by decide +kernel, rfl, by decide +kernel, by decide +kernel⟩
def F_read_ratio (kx : KE) : FS :=
 (sCons (sAsg 1 (fCall M_words_of (fAV (fVar 0) fANil) (fun _ _ => False)))
  (sCons (sAsg 2 (fCall M_ratio_of_word (fAV (fO2 cIx (fOP 1) (fOV (fCst (.int 0)))) fANil) (fun _ _ => False)))
  (sCons (sIf (fOr (fBo (fO2 cNe (fOV (fCB cLen (fOCons (fOP 1) fONil))) (fOV (fCst (.int 1))))) (fBo (fO2 cIs (fOP 2) (fOV (fCst .none)))))
  sNever
  sNil)
  (sRet (fCall M_ratio (fAV (fO2 cIx (fOP 2) (fOV (fCst (.int 0)))) (fAV (fO2 cIx (fOP 2) (fOV (fCst (.int 1)))) fANil)) (fun _ _ => False))))))
def M_read_ratio : Mean := fnM 3 [false] F_read_ratio
abbrev st_read_ratios : Stmt := topS 22
abbrev N_read_ratios : List Str := ["thing", "found", "word", "one"]
theorem sc_read_ratios : FnScope N_read_ratios ["thing"] (defScope st_read_ratios) := ⟨rfl, rfl, rfl, by decide +kernel, rfl, by decide +kernel, by decide +kernel⟩
def F_read_ratios (kx : KE) : FS :=
 (sCons (sAsg 1 (fComp [2] (fISeq (fCall M_row_of_words (fAV (fCall M_words_of (fAV (fVar 0) fANil) (fun _ _ => False)) fANil) (fun _ _ => False))) (fTName 2) fYes (fCall M_ratio_of_word (fAV (fVar 2) fANil) (fun _ _ => False))))
  (sCons (sIf (fOr (fBo (fO2 (cIn false) (fOV (fCst .none)) (fOP 1))) (fNot (fBo (fCB cAll (fOCons (fOV (fComp [3] (fISeq (fVar 1)) (fTName 3) fYes (fO2 cGe (fOV (fO2 cIx (fOP 3) (fOV (fCst (.int 0))))) (fOV (fCst (.int 0)))))) fONil)))))
  sNever
  sNil)
  (sRet (fCB cTuple (fOCons (fOP 1) fONil)))))
def M_read_ratios : Mean := fnM 4 [false] F_read_ratios
abbrev st__law_cell : Stmt := topS 24
abbrev N__law_cell : List Str := ["script", "k"]
theorem sc__law_cell : FnScope N__law_cell ["script", "k"] (defScope st__law_cell) := ⟨rfl, rfl, rfl, by decide +kernel, rfl, by decide +kernel, by decide +kernel⟩
def F__law_cell (kx : KE) : FS :=
 (sCons (sIf (fBo (fO2 cLt (fOP 1) (fOV (fCB cLen (fOCons (fOP 0) fONil)))))
  (sRet (fO2 cIx (fOP 0) (fOP 1)))
  sNil)
  (sRet (fCst (.int 0))))
def M__law_cell : Mean := fnM 2 [false, false] F__law_cell
abbrev st__law_deal : Stmt := topS 25
abbrev N__law_deal : List Str := ["cell", "salt", "one", "number", "j"]
theorem sc__law_deal : FnScope N__law_deal ["cell", "salt"] (defScope st__law_deal) := ⟨rfl, rfl, rfl, by decide +kernel, rfl, by decide +kernel, by decide +kernel⟩
def F__law_deal (kx : KE) : FS :=
 (sCons (sIf (fBo (fO2 cGe (fOP 0) (fOV (fO2 cPow (fOV (fCst (.int 10))) (fOV (fCst (.int 18)))))))
  (sRet (fO2 cSub (fOP 0) (fOV (fO2 cPow (fOV (fCst (.int 10))) (fOV (fCst (.int 18)))))))
  sNil)
  (sCons (sAsg 2 (fO2 cMod (fOP 0) (fOV (fCst (.int 2147483629)))))
  (sCons (sAsg 3 (fCst (.int 0)))
  (sCons (sFor (fIRng1 (fLCons (fCst (.int 30)) fLNil)) (fTName 4)
  (sCons (sAsg 2 (fO2 cMod (fOV (fO2 cMul (fOV (fO2 cAdd (fOV (fO2 cAdd (fOV (fO2 cAdd (fOP 2) (fOV (fO2 cMul (fOV (fO2 cMul (fOV (fCst (.int 17))) (fOP 4))) (fOP 4))))) (fOV (fO2 cMul (fOV (fCst (.int 29))) (fOP 1))))) (fOV (fCst (.int 7))))) (fOV (fCst (.int 48271))))) (fOV (fCst (.int 2147483647)))))
  (sCons (sAsg 2 (fO2 cMod (fOV (fO2 cMul (fOP 2) (fOP 2))) (fOV (fCst (.int 2147483629)))))
  (sAsg 3 (fO2 cAdd (fOV (fO2 cMul (fOP 3) (fOV (fCst (.int 998244353))))) (fOV (fO2 cFdiv (fOV (fO2 cMod (fOV (fO2 cMul (fOP 2) (fOV (fCst (.int 69621))))) (fOV (fCst (.int 2147483587))))) (fOV (fCst (.int 7))))))))))
  (sRet (fMov 3))))))
def M__law_deal : Mean := fnM 5 [false, false] F__law_deal
abbrev st__law_common : Stmt := topS 26
abbrev N__law_common : List Str := ["one", "other"]
theorem sc__law_common : FnScope N__law_common ["one", "other"] (defScope st__law_common) := ⟨rfl, rfl, rfl, by decide +kernel, rfl, by decide +kernel, by decide +kernel⟩
def F__law_common (kx : KE) : FS :=
 (sCons (sPar 0 1 (fLCons (fCB cAbs (fOCons (fOP 0) fONil)) (fLCons (fCB cAbs (fOCons (fOP 1) fONil)) fLNil)))
  (sCons (sWhile (fBo (fO2 cGt (fOP 1) (fOV (fCst (.int 0)))))
  (sPar 0 1 (fLCons (fVar 1) (fLCons (fO2 cMod (fOP 0) (fOP 1)) fLNil))))
  (sRet (fMov 0))))
def M__law_common : Mean := fnM 2 [false, false] F__law_common
abbrev st__law_some_ratio : Stmt := topS 27
abbrev N__law_some_ratio : List Str := ["number", "by", "way", "top", "bottom"]
theorem sc__law_some_ratio : FnScope N__law_some_ratio ["number"] (defScope st__law_some_ratio) := ⟨rfl, rfl, rfl, by decide +kernel, rfl, by decide +kernel, by decide +kernel⟩
def F__law_some_ratio (kx : KE) : FS :=
 (sCons (sTgt (fCB cDivmod (fOCons (fOP 0) (fOCons (fOV (fCst (.int 5))) fONil))) (fTTup 2 (fTsCons (fTName 0) (fTsCons (fTName 2) fTsNil))))
  (sCons (sTgt (fCB cDivmod (fOCons (fOP 0) (fOCons (fOV (fO2 cIx (fOV (fLst (fLCons (fCst (.int 10)) (fLCons (fCst (.int 61)) (fLCons (fO2 cPow (fOV (fCst (.int 10))) (fOV (fCst (.int 12)))) (fLCons (fO2 cPow (fOV (fCst (.int 10))) (fOV (fCst (.int 60)))) (fLCons (fO2 cPow (fOV (fCst (.int 10))) (fOV (fCst (.int 60)))) fLNil))))))) (fOP 2))) fONil))) (fTTup 2 (fTsCons (fTName 0) (fTsCons (fTName 3) fTsNil))))
  (sCons (sTgt (fCB cDivmod (fOCons (fOP 0) (fOCons (fOV (fO2 cIx (fOV (fLst (fLCons (fCst (.int 6)) (fLCons (fCst (.int 12)) (fLCons (fO2 cPow (fOV (fCst (.int 10))) (fOV (fCst (.int 12)))) (fLCons (fO2 cSub (fOV (fO2 cPow (fOV (fCst (.int 10))) (fOV (fCst (.int 60))))) (fOV (fCst (.int 1)))) (fLCons (fCst (.int 1)) fLNil))))))) (fOP 2))) fONil))) (fTTup 2 (fTsCons (fTName 0) (fTsCons (fTName 4) fTsNil))))
  (sCons (sAsg 1 (fCall M__law_common (fAV (fVar 3) (fAV (fO2 cAdd (fOP 4) (fOV (fCst (.int 1)))) fANil)) (fun _ _ => False)))
  (sRet (fTup (fLCons (fTup (fLCons (fO2 cFdiv (fOP 3) (fOP 1)) (fLCons (fO2 cFdiv (fOV (fO2 cAdd (fOP 4) (fOV (fCst (.int 1))))) (fOP 1)) fLNil))) (fLCons (fVar 0) fLNil))))))))
def M__law_some_ratio : Mean := fnM 5 [false] F__law_some_ratio
abbrev st__law_text : Stmt := topS 28
abbrev N__law_text : List Str := ["one"]
theorem sc__law_text : FnScope N__law_text ["one"] (defScope st__law_text) := ⟨rfl, rfl, rfl, by decide +kernel, rfl, by decide +kernel, by decide +kernel⟩
def F__law_text (kx : KE) : FS :=
 (sCons (sIf (fBo (fO2 cEq (fOV (fO2 cIx (fOP 0) (fOV (fCst (.int 1))))) (fOV (fCst (.int 1)))))
  (sRet (fCB cStrI (fOCons (fOV (fO2 cIx (fOP 0) (fOV (fCst (.int 0))))) fONil)))
  sNil)
  (sRet (fO2 cAdd (fOV (fO2 cAdd (fOV (fCB cStrI (fOCons (fOV (fO2 cIx (fOP 0) (fOV (fCst (.int 0))))) fONil))) (fOV (fCst (.str "/"))))) (fOV (fCB cStrI (fOCons (fOV (fO2 cIx (fOP 0) (fOV (fCst (.int 1))))) fONil))))))
def M__law_text : Mean := fnM 1 [false] F__law_text
abbrev st__law_row : Stmt := topS 29
abbrev N__law_row : List Str := ["number", "row", "k", "way", "count", "one"]
theorem sc__law_row : FnScope N__law_row ["number"] (defScope st__law_row) := ⟨rfl, rfl, rfl, by decide +kernel, rfl, by decide +kernel, by decide +kernel⟩
def F__law_row (kx : KE) : FS :=
 (sCons (sTgt (fCB cDivmod (fOCons (fOP 0) (fOCons (fOV (fCst (.int 8))) fONil))) (fTTup 2 (fTsCons (fTName 0) (fTsCons (fTName 3) fTsNil))))
  (sCons (sTgt (fCB cDivmod (fOCons (fOP 0) (fOCons (fOV (fO2 cIx (fOV (fLst (fLCons (fCst (.int 7)) (fLCons (fCst (.int 101)) fLNil)))) (fOV (fCB cInt (fOCons (fOV (fO2 cEq (fOP 3) (fOV (fCst (.int 3))))) fONil))))) fONil))) (fTTup 2 (fTsCons (fTName 0) (fTsCons (fTName 4) fTsNil))))
  (sCons (sAsg 1 (fLst fLNil))
  (sCons (sFor (fIRng1 (fLCons (fVar 4) fLNil)) (fTName 2)
  (sCons (sTgt (fCall M__law_some_ratio (fAV (fVar 0) fANil) (fun _ _ => False)) (fTTup 2 (fTsCons (fTName 5) (fTsCons (fTName 0) fTsNil))))
  (sExpr (fMut 1 mAppend (fLCons (fVar 5) fLNil)))))
  (sRet (fMov 1))))))
def M__law_row : Mean := fnM 6 [false] F__law_row
abbrev st_law : Stmt := topS 30
abbrev N_law : List Str := ["script", "cell", "one", "text", "found", "row", "due", "handed", "number", "sign"]
theorem sc_law : FnScope N_law ["script"] (defScope st_law) := ⟨rfl, rfl, rfl, by decide +kernel, rfl, by decide +kernel, by decide +kernel⟩
def F_law (kx : KE) : FS :=
 (sCons (sFor (fISeq (fO2 cAdd (fOV (fLst (fLCons (fCall M__law_cell (fAV (fVar 0) (fAV (fCst (.int 0)) fANil)) (fun _ _ => False)) fLNil))) (fOV (fSl (fOP 0) (fPInt (fCst (.int 1))) (fPInt (fCst (.int 30))))))) (fTName 1)
  (sCons (sTgt (fCB cDivmod (fOCons (fOV (fCall M__law_deal (fAV (fVar 1) (fAV (fCst (.int 1)) fANil)) (fun _ _ => False))) (fOCons (fOV (fCst (.int 2))) fONil))) (fTTup 2 (fTsCons (fTName 8) (fTsCons (fTName 9) fTsNil))))
  (sCons (sTgt (fCall M__law_some_ratio (fAV (fVar 8) fANil) (fun _ _ => False)) (fTTup 2 (fTsCons (fTName 2) (fTsCons (fTName 8) fTsNil))))
  (sCons (sAsg 2 (fTup (fLCons (fO2 cMul (fOV (fO2 cIx (fOV (fLst (fLCons (fCst (.int 1)) (fLCons (fNeg (fCst (.int 1))) fLNil)))) (fOP 9))) (fOV (fO2 cIx (fOP 2) (fOV (fCst (.int 0)))))) (fLCons (fO2 cIx (fOP 2) (fOV (fCst (.int 1)))) fLNil))))
  (sCons (sAsg 3 (fCall M_ratio_text (fAV (fVar 2) fANil) (fun _ _ => False)))
  (sCons (sIf (fOr (fNot (fBo (fIsI "str" (fOP 3)))) (fBo (fO2 cNe (fOP 3) (fOV (fCall M__law_text (fAV (fVar 2) fANil) (fun _ _ => False))))))
  (sRet (fCst (.bool false)))
  sNil)
  (sCons (sAsg 4 (fCall M_read_ratio (fAV (fVar 3) fANil) (fun _ _ => False)))
  (sCons (sIf (fOr (fNot (fBo (fIsI "tuple" (fOP 4)))) (fOr (fBo (fO2 cNe (fOP 4) (fOP 2))) (fBo (fO2 cNe (fOV (fCall M_read_ratio (fAV (fVar 3) fANil) (fun _ _ => False))) (fOP 2)))))
  (sRet (fCst (.bool false)))
  sNil)
  (sCons (sAsg 5 (fCall M__law_row (fAV (fVar 8) fANil) (fun _ _ => False)))
  (sCons (sAsg 6 (fM1 cJoin (fCst (.str " ")) (fOV (fComp [2] (fISeq (fVar 5)) (fTName 2) fYes (fCall M__law_text (fAV (fVar 2) fANil) (fun _ _ => False))))))
  (sCons (sIf (fBo (fO2 cEq (fOP 5) (fOV (fLst fLNil))))
  (sAsg 6 (fCst (.str ".")))
  sNil)
  (sCons (sAsg 7 (fCB cList (fOCons (fOP 5) fONil)))
  (sCons (sIf (fOr (fBo (fO2 cNe (fOV (fCall M_ratios_text (fAV (fVar 7) fANil) (fun _ _ => False))) (fOP 6))) (fOr (fBo (fO2 cNe (fOV (fCall M_ratios_text (fAV (fCB cTuple (fOCons (fOP 5) fONil)) fANil) (fun _ _ => False))) (fOP 6))) (fBo (fO2 cNe (fOP 7) (fOP 5)))))
  (sRet (fCst (.bool false)))
  sNil)
  (sCons (sAsg 4 (fCall M_read_ratios (fAV (fVar 6) fANil) (fun _ _ => False)))
  (sIf (fOr (fNot (fBo (fIsI "tuple" (fOP 4)))) (fBo (fO2 cNe (fOP 4) (fOV (fCB cTuple (fOCons (fOP 5) fONil))))))
  (sRet (fCst (.bool false)))
  sNil)))))))))))))))
  (sRet (fCst (.bool true))))
def M_law : Mean := fnM 10 [false] F_law
section
variable {P : Program} {w : World} {K : PySem.W.Frag} {mg : Str → Option Value} {base : Heap} {cm : CM}
theorem ok_is_whole (g : Gs mg)  {f : Addr} {fd : FuncData} (F : Fun K "is_whole" "is_whole" st_is_whole f fd) : FnOk P w K mg base (L2.CX P w) 1 f fd ["thing"] (spD ⟨K, cm⟩ [false] M_is_whole) :=
  fn_ok F sc_is_whole rfl fun cdv A outer s H Ex E kx hE hpin hr rx =>
 (ss_one (se_ret (re_and (re_isi (c := "int") (by rfl) g.isinstance (by decide +kernel) (oe_p (pv 0)) (pe_bltn (by rfl) g.int (by decide +kernel) rfl) (by decide)) (re_one (re_not (re_isi (c := "bool") (by rfl) g.isinstance (by decide +kernel) (oe_p (pv 0)) (pe_bltn (by rfl) g.bool (by decide +kernel) rfl) (by decide)))))))
theorem ok_common (g : Gs mg)  {f : Addr} {fd : FuncData} (F : Fun K "common" "common" st_common f fd) : FnOk P w K mg base (L2.CX P w) 1 f fd ["one", "other"] (spD ⟨K, cm⟩ [false, false] M_common) :=
  fn_ok F sc_common rfl fun cdv A outer s H Ex E kx hE hpin hr rx =>
 (ss_cons (se_asg (i := 0) sc_common.nd rfl (by first | exact Or.inl rfl | exact Or.inr rfl) (nopin hpin (by decide)) (re_callB call_abs cs_abs (by rfl) g.abs (by decide +kernel) (oa_cons (oe_p (pv 0)) oa_nil)))
  (ss_cons (se_asg (i := 1) sc_common.nd rfl (by first | exact Or.inl rfl | exact Or.inr rfl) (nopin hpin (by decide)) (re_callB call_abs cs_abs (by rfl) g.abs (by decide +kernel) (oa_cons (oe_p (pv 1)) oa_nil)))
  (ss_cons (se_while (passes_of rfl) (be_cmp op_gt os_gt (oe_p (pv 1)) (oe_v re_int) (nomark _))
  (ss_one (se_par (i := 0) (j := 1) rfl sc_common.nd rfl rfl (by decide) rfl rfl (nopin hpin (by decide)) (nopin hpin (by decide)) (la_cons (re_var (pv 1)) (la_cons (re_op op_mod os_mod (oe_p (pv 0)) (oe_p (pv 1))) la_nil)) rfl)))
  (ss_one (se_ret (re_mov (pv 0)))))))
theorem ok_ratio (g : Gs mg) (A_common : FnAt P w K mg base cm 1 "common" ["one", "other"] [false, false] M_common) {f : Addr} {fd : FuncData} (F : Fun K "ratio" "ratio" st_ratio f fd) : FnOk P w K mg base (L2.CX P w) 2 f fd ["top", "bottom"] (spD ⟨K, cm⟩ [false, false] M_ratio) :=
  fn_ok F sc_ratio rfl fun cdv A outer s H Ex E kx hE hpin hr rx =>
 (ss_cons (se_if (be_cmp (op_eqD hr.units) os_eq (oe_p (pv 1)) (oe_v re_int) (nomark _))
  (ss_one se_never)
  ss_nil)
  (ss_cons (se_if (be_cmp op_lt os_lt (oe_p (pv 1)) (oe_v re_int) (nomark _))
  (ss_cons (se_asg (i := 0) sc_ratio.nd rfl (by first | exact Or.inl rfl | exact Or.inr rfl) (nopin hpin (by decide)) (re_op op_sub os_sub (oe_v re_int) (oe_p (pv 0))))
  (ss_one (se_asg (i := 1) sc_ratio.nd rfl (by first | exact Or.inl rfl | exact Or.inr rfl) (nopin hpin (by decide)) (re_op op_sub os_sub (oe_v re_int) (oe_p (pv 1))))))
  ss_nil)
  (ss_cons (se_asg (i := 2) sc_ratio.nd rfl (by first | exact Or.inl rfl | exact Or.inr rfl) (nopin hpin (by decide)) (re_callA A_common (hr.mono (by decide)) (by rfl) rx_none (by decide) (ca_v (re_var (pv 0)) (ca_v (re_var (pv 1)) ca_nil))))
  (ss_one (se_ret (re_tup (la_cons (re_op op_fdivW os_fdiv (oe_p (pv 0)) (oe_p (pv 2))) (la_cons (re_op op_fdivW os_fdiv (oe_p (pv 1)) (oe_p (pv 2))) la_nil))))))))
theorem ok_is_ratio (g : Gs mg) (A_is_whole : FnAt P w K mg base cm 1 "is_whole" ["thing"] [false] M_is_whole) (A_common : FnAt P w K mg base cm 1 "common" ["one", "other"] [false, false] M_common) {f : Addr} {fd : FuncData} (F : Fun K "is_ratio" "is_ratio" st_is_ratio f fd) : FnOk P w K mg base (L2.CX P w) 2 f fd ["thing"] (spD ⟨K, cm⟩ [false] M_is_ratio) :=
  fn_ok F sc_is_ratio rfl fun cdv A outer s H Ex E kx hE hpin hr rx =>
 (ss_cons (se_if (be_w (we_or (be_not (be_val (re_isi (c := "tuple") (by rfl) g.isinstance (by decide +kernel) (oe_p (pv 0)) (pe_bltn (by rfl) g.tuple (by decide +kernel) rfl) (by decide)))) (we_or (be_cmp (op_neD hr.units) os_ne (oe_v (re_callB call_len cs_len (by rfl) g.len (PySem.boot_len) (oa_cons (oe_p (pv 0)) oa_nil))) (oe_v re_int) (nomark _)) (we_or (be_not (be_val (re_callA A_is_whole (hr.mono (by decide)) (by rfl) rx_none (by decide) (ca_v (re_ix ix_seq os_ix (oe_p (pv 0)) (oe_v re_int) (fun _ _ => rfl)) ca_nil)))) (we_or1 (be_not (be_val (re_callA A_is_whole (hr.mono (by decide)) (by rfl) rx_none (by decide) (ca_v (re_ix ix_seq os_ix (oe_p (pv 0)) (oe_v re_int) (fun _ _ => rfl)) ca_nil)))))))))
  (ss_one (se_ret re_bl))
  ss_nil)
  (ss_one (se_ret (re_and (re_cmp op_gt os_gt (oe_v (re_ix ix_seq os_ix (oe_p (pv 0)) (oe_v re_int) (fun _ _ => rfl))) (oe_v re_int) (nomark _)) (re_one (re_cmp (op_eqD hr.units) os_eq (oe_v (re_callA A_common (hr.mono (by decide)) (by rfl) rx_none (by decide) (ca_v (re_ix ix_seq os_ix (oe_p (pv 0)) (oe_v re_int) (fun _ _ => rfl)) (ca_v (re_ix ix_seq os_ix (oe_p (pv 0)) (oe_v re_int) (fun _ _ => rfl)) ca_nil)))) (oe_v re_int) (nomark _)))))))
theorem ok_ratio_text (g : Gs mg)  {f : Addr} {fd : FuncData} (F : Fun K "ratio_text" "ratio_text" st_ratio_text f fd) : FnOk P w K mg base (L2.CX P w) 1 f fd ["one"] (spD ⟨K, cm⟩ [false] M_ratio_text) :=
  fn_ok F sc_ratio_text rfl fun cdv A outer s H Ex E kx hE hpin hr rx =>
 (ss_cons (se_if (be_cmp (op_eqD hr.units) os_eq (oe_v (re_ix ix_seq os_ix (oe_p (pv 0)) (oe_v re_int) (fun _ _ => rfl))) (oe_v re_int) (nomark _))
  (ss_one (se_ret (re_callTy call_str_int cs_strI (by rfl) g.str (by decide +kernel) (oa_cons (oe_v (re_ix ix_seq os_ix (oe_p (pv 0)) (oe_v re_int) (fun _ _ => rfl))) oa_nil))))
  ss_nil)
  (ss_one (se_ret (re_op op_addAll os_add (oe_v (re_op op_addAll os_add (oe_v (re_callTy call_str_int cs_strI (by rfl) g.str (by decide +kernel) (oa_cons (oe_v (re_ix ix_seq os_ix (oe_p (pv 0)) (oe_v re_int) (fun _ _ => rfl))) oa_nil))) (oe_v re_str))) (oe_v (re_callTy call_str_int cs_strI (by rfl) g.str (by decide +kernel) (oa_cons (oe_v (re_ix ix_seq os_ix (oe_p (pv 0)) (oe_v re_int) (fun _ _ => rfl))) oa_nil)))))))
theorem ok_words_text (g : Gs mg)  {f : Addr} {fd : FuncData} (F : Fun K "words_text" "words_text" st_words_text f fd) : FnOk P w K mg base (L2.CX P w) 1 f fd ["words"] (spD ⟨K, cm⟩ [false] M_words_text) :=
  fn_ok F sc_words_text rfl fun cdv A outer s H Ex E kx hE hpin hr rx =>
 (ss_cons (se_if (be_cmp (op_eqD hr.units) os_eq (oe_p (pv 0)) (oe_v (re_lst la_nil)) (nomark _))
  (ss_one (se_ret (re_globS (by rfl) g.EMPTY)))
  ss_nil)
  (ss_one (se_ret (re_m1 (fun h1 h2 => pe_join h1 h2) ms_join re_str (oe_p (pv 0))))))
theorem ok_ratios_text (g : Gs mg) (A_words_text : FnAt P w K mg base cm 1 "words_text" ["words"] [false] M_words_text) (A_ratio_text : FnAt P w K mg base cm 1 "ratio_text" ["one"] [false] M_ratio_text) {f : Addr} {fd : FuncData} (F : Fun K "ratios_text" "ratios_text" st_ratios_text f fd) : FnOk P w K mg base (L2.CX P w) 2 f fd ["some"] (spD ⟨K, cm⟩ [false] M_ratios_text) :=
  fn_ok F sc_ratios_text rfl fun cdv A outer s H Ex E kx hE hpin hr rx =>
 (ss_one (se_ret (re_callA A_words_text (hr.mono (by decide)) (by rfl) rx_none (by decide) (ca_v (re_comp hE rfl sc_ratios_text.nd (own := [("one", 1)]) (ie_seq (re_var (pv 0))) (blkOk_by (own := [("one", 1)]) (N := N_ratios_text) (sc := defScope st_ratios_text) (by decide +kernel)) (fun _ _ _ _ _ => (te_name (i := 1) sc_ratios_text.nd rfl (by first | exact Or.inl rfl | exact Or.inr rfl) (nopin hpin (by decide)))) (fun _ _ _ _ _ => bts_nil) (fun _ _ _ _ _ => (re_callA A_ratio_text (hr.mono (by decide)) (by rfl) rx_none (by decide) (ca_v (re_var (pv 1)) ca_nil))) (by decide) (pinsAll hpin (by decide))) ca_nil))))
theorem ok_number_read (g : Gs mg)  {f : Addr} {fd : FuncData} (F : Fun K "number_read" "number_read" st_number_read f fd) : FnOk P w K mg base (L2.CX P w) 1 f fd ["word"] (spD ⟨K, cm⟩ [false] M_number_read) :=
  fn_ok F sc_number_read rfl fun cdv A outer s H Ex E kx hE hpin hr rx =>
 (ss_cons (se_if (be_w (we_or (be_cmp (op_eqD hr.units) os_eq (oe_p (pv 0)) (oe_v re_str) (nomark _)) (we_or (be_cmp op_gt os_gt (oe_v (re_callB call_len cs_len (by rfl) g.len (PySem.boot_len) (oa_cons (oe_p (pv 0)) oa_nil))) (oe_v (re_globI (by rfl) g.MOST_FIGURES)) (nomark _)) (we_or1 (be_not (be_val (re_callB (cr_all rfl) cs_all (by rfl) g.all (by decide +kernel) (oa_cons (oe_v (re_comp hE rfl sc_number_read.nd (own := [("sign", 1)]) (ie_seq (re_var (pv 0))) (blkOk_by (own := [("sign", 1)]) (N := N_number_read) (sc := defScope st_number_read) (by decide +kernel)) (fun _ _ _ _ _ => (te_name (i := 1) sc_number_read.nd rfl (by first | exact Or.inl rfl | exact Or.inr rfl) (nopin hpin (by decide)))) (fun _ _ _ _ _ => bts_nil) (fun _ _ _ _ _ => (re_cmp op_in_sign os_inS (oe_p (pv 1)) (oe_v (re_globS (by rfl) g.FIGURES)) rfl)) (by decide) (pinsAll hpin (by decide)))) oa_nil))))))))
  (ss_one (se_ret re_non))
  ss_nil)
  (ss_cons (se_if (be_w (we_and (be_cmp (op_eqD hr.units) os_eq (oe_v (re_ix ix_seq os_ix (oe_p (pv 0)) (oe_v re_int) (fun _ _ => rfl))) (oe_v re_str) (nomark _)) (we_and1 (be_cmp (op_neD hr.units) os_ne (oe_p (pv 0)) (oe_v re_str) (nomark _)))))
  (ss_one (se_ret re_non))
  ss_nil)
  (ss_one (se_ret (re_callTy call_int_str cs_intS (by rfl) g.int (by decide +kernel) (oa_cons (oe_p (pv 0)) oa_nil))))))
theorem ok_ratio_of_word (g : Gs mg) (A_number_read : FnAt P w K mg base cm 1 "number_read" ["word"] [false] M_number_read) (A_is_ratio : FnAt P w K mg base cm 2 "is_ratio" ["thing"] [false] M_is_ratio) {f : Addr} {fd : FuncData} (F : Fun K "ratio_of_word" "ratio_of_word" st_ratio_of_word f fd) : FnOk P w K mg base (L2.CX P w) 3 f fd ["word"] (spD ⟨K, cm⟩ [false] M_ratio_of_word) :=
  fn_ok F sc_ratio_of_word rfl fun cdv A outer s H Ex E kx hE hpin hr rx =>
 (ss_cons (se_asg (i := 1) sc_ratio_of_word.nd rfl (by first | exact Or.inl rfl | exact Or.inr rfl) (nopin hpin (by decide)) (re_m1 (fun h1 h2 => pe_split h1 h2) ms_split (re_var (pv 0)) (oe_v re_str)))
  (ss_cons (se_asg (i := 2) sc_ratio_of_word.nd rfl (by first | exact Or.inl rfl | exact Or.inr rfl) (nopin hpin (by decide)) re_int)
  (ss_cons (se_if (be_cmp (op_eqD hr.units) os_eq (oe_v (re_slice (oe_v (re_ix ix_seq os_ix (oe_p (pv 1)) (oe_v re_int) (fun _ _ => rfl))) po_no (po_int re_int))) (oe_v re_str) (nomark _))
  (ss_cons (se_asg (i := 2) sc_ratio_of_word.nd rfl (by first | exact Or.inl rfl | exact Or.inr rfl) (nopin hpin (by decide)) (re_neg re_int))
  (ss_one (se_tgt (re_slice (oe_v (re_ix ix_seq os_ix (oe_p (pv 1)) (oe_v re_int) (fun _ _ => rfl))) (po_int re_int) po_no) (te_ix (j := 1) (hu_of hr) (pv 1) re_int))))
  ss_nil)
  (ss_cons (se_setComp (i := 3) hE rfl sc_ratio_of_word.nd rfl rfl (nopin hpin (by decide)) (sw_true rfl rfl rfl (by decide +kernel)) (own := [("part", 5)]) (ie_seq (re_var (pv 1))) (blkOk_by (own := [("part", 5)]) (N := N_ratio_of_word) (sc := defScope st_ratio_of_word) (by decide +kernel)) (fun _ _ _ _ _ => (te_name (i := 5) sc_ratio_of_word.nd rfl (by first | exact Or.inl rfl | exact Or.inr rfl) (nopin hpin (by decide)))) (fun _ _ _ _ _ => bts_nil) (fun _ _ _ _ _ => (re_callA A_number_read (hr.mono (by decide)) (by rfl) rx_none (by decide) (ca_v (re_var (pv 5)) ca_nil))) (by decide) (pinsAll hpin (by decide)))
  (ss_cons (se_if (be_w (we_or (be_cmp op_gt os_gt (oe_v (re_callB call_len cs_len (by rfl) g.len (PySem.boot_len) (oa_cons (oe_p (pv 1)) oa_nil))) (oe_v re_int) (nomark _)) (we_or (be_cmp (op_inAll (hu65 hr)) os_in (oe_v re_non) (oe_p (pv 3)) rfl) (we_or1 (be_w (we_and (be_cmp (op_eqD hr.units) os_eq (oe_v (re_ix ix_seq os_ix (oe_p (pv 3)) (oe_v re_int) (fun _ _ => rfl))) (oe_v re_int) (nomark _)) (we_and1 (be_cmp op_lt os_lt (oe_p (pv 2)) (oe_v re_int) (nomark _)))))))))
  (ss_one (se_ret re_non))
  ss_nil)
  (ss_cons (se_asg (i := 4) sc_ratio_of_word.nd rfl (by first | exact Or.inl rfl | exact Or.inr rfl) (nopin hpin (by decide)) (re_tup (la_cons (re_op op_mulX os_mul (oe_p (pv 2)) (oe_v (re_ix ix_seq os_ix (oe_p (pv 3)) (oe_v re_int) (fun _ _ => rfl)))) (la_cons re_int la_nil))))
  (ss_cons (se_if (be_cmp (op_eqD hr.units) os_eq (oe_v (re_callB call_len cs_len (by rfl) g.len (PySem.boot_len) (oa_cons (oe_p (pv 3)) oa_nil))) (oe_v re_int) (nomark _))
  (ss_cons (se_asg (i := 4) sc_ratio_of_word.nd rfl (by first | exact Or.inl rfl | exact Or.inr rfl) (nopin hpin (by decide)) (re_tup (la_cons (re_op op_mulX os_mul (oe_p (pv 2)) (oe_v (re_ix ix_seq os_ix (oe_p (pv 3)) (oe_v re_int) (fun _ _ => rfl)))) (la_cons (re_ix ix_seq os_ix (oe_p (pv 3)) (oe_v re_int) (fun _ _ => rfl)) la_nil))))
  (ss_one (se_if (be_w (we_or (be_cmp op_lt os_lt (oe_v (re_ix ix_seq os_ix (oe_p (pv 3)) (oe_v re_int) (fun _ _ => rfl))) (oe_v re_int) (nomark _)) (we_or1 (be_not (be_val (re_callA A_is_ratio (hr.mono (by decide)) (by rfl) rx_none (by decide) (ca_v (re_var (pv 4)) ca_nil)))))))
  (ss_one (se_ret re_non))
  ss_nil)))
  ss_nil)
  (ss_one (se_ret (re_mov (pv 4)))))))))))
theorem ok_words_of (g : Gs mg)  {f : Addr} {fd : FuncData} (F : Fun K "words_of" "words_of" st_words_of f fd) : FnOk P w K mg base (L2.CX P w) 1 f fd ["thing"] (spD ⟨K, cm⟩ [false] M_words_of) :=
  fn_ok F sc_words_of rfl fun cdv A outer s H Ex E kx hE hpin hr rx =>
 (ss_cons (se_if (be_not (be_val (re_isi (c := "str") (by rfl) g.isinstance (by decide +kernel) (oe_p (pv 0)) (pe_bltn (by rfl) g.str (by decide +kernel) rfl) (by decide))))
  (ss_one se_never)
  ss_nil)
  (ss_one (se_ret (re_m1 (fun h1 h2 => pe_split h1 h2) ms_split (re_var (pv 0)) (oe_v re_str)))))
theorem ok_row_of_words (g : Gs mg)  {f : Addr} {fd : FuncData} (F : Fun K "row_of_words" "row_of_words" st_row_of_words f fd) : FnOk P w K mg base (L2.CX P w) 1 f fd ["words"] (spD ⟨K, cm⟩ [false] M_row_of_words) :=
  fn_ok F sc_row_of_words rfl fun cdv A outer s H Ex E kx hE hpin hr rx =>
 (ss_cons (se_if (be_cmp (op_eqD hr.units) os_eq (oe_p (pv 0)) (oe_v (re_lst (la_cons (re_globS (by rfl) g.EMPTY) la_nil))) (nomark _))
  (ss_one (se_ret (re_lst la_nil)))
  ss_nil)
  (ss_cons (se_if (be_cmp op_gt os_gt (oe_v (re_callB call_len cs_len (by rfl) g.len (PySem.boot_len) (oa_cons (oe_p (pv 0)) oa_nil))) (oe_v (re_globI (by rfl) g.MOST_THINGS)) (nomark _))
  (ss_one se_never)
  ss_nil)
  (ss_one (se_ret (re_mov (pv 0))))))
theorem ok_read_ratio (g : Gs mg) (A_words_of : FnAt P w K mg base cm 1 "words_of" ["thing"] [false] M_words_of) (A_ratio_of_word : FnAt P w K mg base cm 3 "ratio_of_word" ["word"] [false] M_ratio_of_word) (A_ratio : FnAt P w K mg base cm 2 "ratio" ["top", "bottom"] [false, false] M_ratio) {f : Addr} {fd : FuncData} (F : Fun K "read_ratio" "read_ratio" st_read_ratio f fd) : FnOk P w K mg base (L2.CX P w) 4 f fd ["thing"] (spD ⟨K, cm⟩ [false] M_read_ratio) :=
  fn_ok F sc_read_ratio rfl fun cdv A outer s H Ex E kx hE hpin hr rx =>
 (ss_cons (se_asg (i := 1) sc_read_ratio.nd rfl (by first | exact Or.inl rfl | exact Or.inr rfl) (nopin hpin (by decide)) (re_callA A_words_of (hr.mono (by decide)) (by rfl) rx_none (by decide) (ca_v (re_var (pv 0)) ca_nil)))
  (ss_cons (se_asg (i := 2) sc_read_ratio.nd rfl (by first | exact Or.inl rfl | exact Or.inr rfl) (nopin hpin (by decide)) (re_callA A_ratio_of_word (hr.mono (by decide)) (by rfl) rx_none (by decide) (ca_v (re_ix ix_seq os_ix (oe_p (pv 1)) (oe_v re_int) (fun _ _ => rfl)) ca_nil)))
  (ss_cons (se_if (be_w (we_or (be_cmp (op_neD hr.units) os_ne (oe_v (re_callB call_len cs_len (by rfl) g.len (PySem.boot_len) (oa_cons (oe_p (pv 1)) oa_nil))) (oe_v re_int) (nomark _)) (we_or1 (be_cmp op_isN os_is (oe_p (pv 2)) (oe_v re_non) (nomark _)))))
  (ss_one se_never)
  ss_nil)
  (ss_one (se_ret (re_callA A_ratio (hr.mono (by decide)) (by rfl) rx_none (by decide) (ca_v (re_ix ix_seq os_ix (oe_p (pv 2)) (oe_v re_int) (fun _ _ => rfl)) (ca_v (re_ix ix_seq os_ix (oe_p (pv 2)) (oe_v re_int) (fun _ _ => rfl)) ca_nil))))))))
theorem ok_read_ratios (g : Gs mg) (A_row_of_words : FnAt P w K mg base cm 1 "row_of_words" ["words"] [false] M_row_of_words) (A_words_of : FnAt P w K mg base cm 1 "words_of" ["thing"] [false] M_words_of) (A_ratio_of_word : FnAt P w K mg base cm 3 "ratio_of_word" ["word"] [false] M_ratio_of_word) {f : Addr} {fd : FuncData} (F : Fun K "read_ratios" "read_ratios" st_read_ratios f fd) : FnOk P w K mg base (L2.CX P w) 4 f fd ["thing"] (spD ⟨K, cm⟩ [false] M_read_ratios) :=
  fn_ok F sc_read_ratios rfl fun cdv A outer s H Ex E kx hE hpin hr rx =>
 (ss_cons (se_setComp (i := 1) hE rfl sc_read_ratios.nd rfl rfl (nopin hpin (by decide)) (sw_true rfl rfl rfl (by decide +kernel)) (own := [("word", 2)]) (ie_seq (re_callA A_row_of_words (hr.mono (by decide)) (by rfl) rx_none (by decide) (ca_v (re_callA A_words_of (hr.mono (by decide)) (by rfl) rx_none (by decide) (ca_v (re_var (pv 0)) ca_nil)) ca_nil))) (blkOk_by (own := [("word", 2)]) (N := N_read_ratios) (sc := defScope st_read_ratios) (by decide +kernel)) (fun _ _ _ _ _ => (te_name (i := 2) sc_read_ratios.nd rfl (by first | exact Or.inl rfl | exact Or.inr rfl) (nopin hpin (by decide)))) (fun _ _ _ _ _ => bts_nil) (fun _ _ _ _ _ => (re_callA A_ratio_of_word (hr.mono (by decide)) (by rfl) rx_none (by decide) (ca_v (re_var (pv 2)) ca_nil))) (by decide) (pinsAll hpin (by decide)))
  (ss_cons (se_if (be_w (we_or (be_cmp (op_inAll (hu65 hr)) os_in (oe_v re_non) (oe_p (pv 1)) rfl) (we_or1 (be_not (be_val (re_callB (cr_all rfl) cs_all (by rfl) g.all (by decide +kernel) (oa_cons (oe_v (re_comp hE rfl sc_read_ratios.nd (own := [("one", 3)]) (ie_seq (re_var (pv 1))) (blkOk_by (own := [("one", 3)]) (N := N_read_ratios) (sc := defScope st_read_ratios) (by decide +kernel)) (fun _ _ _ _ _ => (te_name (i := 3) sc_read_ratios.nd rfl (by first | exact Or.inl rfl | exact Or.inr rfl) (nopin hpin (by decide)))) (fun _ _ _ _ _ => bts_nil) (fun _ _ _ _ _ => (re_cmp op_ge os_ge (oe_v (re_ix ix_seq os_ix (oe_p (pv 3)) (oe_v re_int) (fun _ _ => rfl))) (oe_v re_int) (nomark _))) (by decide) (pinsAll hpin (by decide)))) oa_nil)))))))
  (ss_one se_never)
  ss_nil)
  (ss_one (se_ret (re_callTy call_tuple_of cs_tuple (by rfl) g.tuple (by decide +kernel) (oa_cons (oe_p (pv 1)) oa_nil))))))
theorem ok__law_cell (g : Gs mg)  {f : Addr} {fd : FuncData} (F : Fun K "_law_cell" "_law_cell" st__law_cell f fd) : FnOk P w K mg base (L2.CX P w) 1 f fd ["script", "k"] (spD ⟨K, cm⟩ [false, false] M__law_cell) :=
  fn_ok F sc__law_cell rfl fun cdv A outer s H Ex E kx hE hpin hr rx =>
 (ss_cons (se_if (be_cmp op_lt os_lt (oe_p (pv 1)) (oe_v (re_callB call_len cs_len (by rfl) g.len (PySem.boot_len) (oa_cons (oe_p (pv 0)) oa_nil))) (nomark _))
  (ss_one (se_ret (re_ix ix_seq os_ix (oe_p (pv 0)) (oe_p (pv 1)) (fun _ _ => rfl))))
  ss_nil)
  (ss_one (se_ret re_int)))
theorem ok__law_deal (g : Gs mg)  {f : Addr} {fd : FuncData} (F : Fun K "_law_deal" "_law_deal" st__law_deal f fd) : FnOk P w K mg base (L2.CX P w) 1 f fd ["cell", "salt"] (spD ⟨K, cm⟩ [false, false] M__law_deal) :=
  fn_ok F sc__law_deal rfl fun cdv A outer s H Ex E kx hE hpin hr rx =>
 (ss_cons (se_if (be_cmp op_ge os_ge (oe_p (pv 0)) (oe_v (re_op op_pow os_pow (oe_v re_int) (oe_v re_int))) (nomark _))
  (ss_one (se_ret (re_op op_sub os_sub (oe_p (pv 0)) (oe_v (re_op op_pow os_pow (oe_v re_int) (oe_v re_int))))))
  ss_nil)
  (ss_cons (se_asg (i := 2) sc__law_deal.nd rfl (by first | exact Or.inl rfl | exact Or.inr rfl) (nopin hpin (by decide)) (re_op op_mod os_mod (oe_p (pv 0)) (oe_v re_int)))
  (ss_cons (se_asg (i := 3) sc__law_deal.nd rfl (by first | exact Or.inl rfl | exact Or.inr rfl) (nopin hpin (by decide)) re_int)
  (ss_cons (se_for hE (passes_of rfl) rfl (ie_range1 (by rfl) g.range (la_cons re_int la_nil)) (te_name (i := 4) sc__law_deal.nd rfl (by first | exact Or.inl rfl | exact Or.inr rfl) (nopin hpin (by decide)))
  (ss_cons (se_asg (i := 2) sc__law_deal.nd rfl (by first | exact Or.inl rfl | exact Or.inr rfl) (nopin hpin (by decide)) (re_op op_mod os_mod (oe_v (re_op op_mulX os_mul (oe_v (re_op op_addAll os_add (oe_v (re_op op_addAll os_add (oe_v (re_op op_addAll os_add (oe_p (pv 2)) (oe_v (re_op op_mulX os_mul (oe_v (re_op op_mulX os_mul (oe_v re_int) (oe_p (pv 4)))) (oe_p (pv 4)))))) (oe_v (re_op op_mulX os_mul (oe_v re_int) (oe_p (pv 1)))))) (oe_v re_int))) (oe_v re_int))) (oe_v re_int)))
  (ss_cons (se_asg (i := 2) sc__law_deal.nd rfl (by first | exact Or.inl rfl | exact Or.inr rfl) (nopin hpin (by decide)) (re_op op_mod os_mod (oe_v (re_op op_mulX os_mul (oe_p (pv 2)) (oe_p (pv 2)))) (oe_v re_int)))
  (ss_one (se_asg (i := 3) sc__law_deal.nd rfl (by first | exact Or.inl rfl | exact Or.inr rfl) (nopin hpin (by decide)) (re_op op_addAll os_add (oe_v (re_op op_mulX os_mul (oe_p (pv 3)) (oe_v re_int))) (oe_v (re_op op_fdivW os_fdiv (oe_v (re_op op_mod os_mod (oe_v (re_op op_mulX os_mul (oe_p (pv 2)) (oe_v re_int))) (oe_v re_int))) (oe_v re_int)))))))))
  (ss_one (se_ret (re_mov (pv 3))))))))
theorem ok__law_common (g : Gs mg)  {f : Addr} {fd : FuncData} (F : Fun K "_law_common" "_law_common" st__law_common f fd) : FnOk P w K mg base (L2.CX P w) 1 f fd ["one", "other"] (spD ⟨K, cm⟩ [false, false] M__law_common) :=
  fn_ok F sc__law_common rfl fun cdv A outer s H Ex E kx hE hpin hr rx =>
 (ss_cons (se_par (i := 0) (j := 1) rfl sc__law_common.nd rfl rfl (by decide) rfl rfl (nopin hpin (by decide)) (nopin hpin (by decide)) (la_cons (re_callB call_abs cs_abs (by rfl) g.abs (by decide +kernel) (oa_cons (oe_p (pv 0)) oa_nil)) (la_cons (re_callB call_abs cs_abs (by rfl) g.abs (by decide +kernel) (oa_cons (oe_p (pv 1)) oa_nil)) la_nil)) rfl)
  (ss_cons (se_while (passes_of rfl) (be_cmp op_gt os_gt (oe_p (pv 1)) (oe_v re_int) (nomark _))
  (ss_one (se_par (i := 0) (j := 1) rfl sc__law_common.nd rfl rfl (by decide) rfl rfl (nopin hpin (by decide)) (nopin hpin (by decide)) (la_cons (re_var (pv 1)) (la_cons (re_op op_mod os_mod (oe_p (pv 0)) (oe_p (pv 1))) la_nil)) rfl)))
  (ss_one (se_ret (re_mov (pv 0))))))
theorem ok__law_some_ratio (g : Gs mg) (A__law_common : FnAt P w K mg base cm 1 "_law_common" ["one", "other"] [false, false] M__law_common) {f : Addr} {fd : FuncData} (F : Fun K "_law_some_ratio" "_law_some_ratio" st__law_some_ratio f fd) : FnOk P w K mg base (L2.CX P w) 2 f fd ["number"] (spD ⟨K, cm⟩ [false] M__law_some_ratio) :=
  fn_ok F sc__law_some_ratio rfl fun cdv A outer s H Ex E kx hE hpin hr rx =>
 (ss_cons (se_tgt (re_callB call_divmodW cs_divmod (by rfl) g.divmod (by decide +kernel) (oa_cons (oe_p (pv 0)) (oa_cons (oe_v re_int) oa_nil))) (te_tup rfl (tes_cons (te_name (i := 0) sc__law_some_ratio.nd rfl (by first | exact Or.inl rfl | exact Or.inr rfl) (nopin hpin (by decide))) (tes_cons (te_name (i := 2) sc__law_some_ratio.nd rfl (by first | exact Or.inl rfl | exact Or.inr rfl) (nopin hpin (by decide))) tes_nil))))
  (ss_cons (se_tgt (re_callB call_divmodW cs_divmod (by rfl) g.divmod (by decide +kernel) (oa_cons (oe_p (pv 0)) (oa_cons (oe_v (re_ix ix_seq os_ix (oe_v (re_lst (la_cons re_int (la_cons re_int (la_cons (re_op op_pow os_pow (oe_v re_int) (oe_v re_int)) (la_cons (re_op op_pow os_pow (oe_v re_int) (oe_v re_int)) (la_cons (re_op op_pow os_pow (oe_v re_int) (oe_v re_int)) la_nil))))))) (oe_p (pv 2)) (fun _ _ => rfl))) oa_nil))) (te_tup rfl (tes_cons (te_name (i := 0) sc__law_some_ratio.nd rfl (by first | exact Or.inl rfl | exact Or.inr rfl) (nopin hpin (by decide))) (tes_cons (te_name (i := 3) sc__law_some_ratio.nd rfl (by first | exact Or.inl rfl | exact Or.inr rfl) (nopin hpin (by decide))) tes_nil))))
  (ss_cons (se_tgt (re_callB call_divmodW cs_divmod (by rfl) g.divmod (by decide +kernel) (oa_cons (oe_p (pv 0)) (oa_cons (oe_v (re_ix ix_seq os_ix (oe_v (re_lst (la_cons re_int (la_cons re_int (la_cons (re_op op_pow os_pow (oe_v re_int) (oe_v re_int)) (la_cons (re_op op_sub os_sub (oe_v (re_op op_pow os_pow (oe_v re_int) (oe_v re_int))) (oe_v re_int)) (la_cons re_int la_nil))))))) (oe_p (pv 2)) (fun _ _ => rfl))) oa_nil))) (te_tup rfl (tes_cons (te_name (i := 0) sc__law_some_ratio.nd rfl (by first | exact Or.inl rfl | exact Or.inr rfl) (nopin hpin (by decide))) (tes_cons (te_name (i := 4) sc__law_some_ratio.nd rfl (by first | exact Or.inl rfl | exact Or.inr rfl) (nopin hpin (by decide))) tes_nil))))
  (ss_cons (se_asg (i := 1) sc__law_some_ratio.nd rfl (by first | exact Or.inl rfl | exact Or.inr rfl) (nopin hpin (by decide)) (re_callA A__law_common (hr.mono (by decide)) (by rfl) rx_none (by decide) (ca_v (re_var (pv 3)) (ca_v (re_op op_addAll os_add (oe_p (pv 4)) (oe_v re_int)) ca_nil))))
  (ss_one (se_ret (re_tup (la_cons (re_tup (la_cons (re_op op_fdivW os_fdiv (oe_p (pv 3)) (oe_p (pv 1))) (la_cons (re_op op_fdivW os_fdiv (oe_v (re_op op_addAll os_add (oe_p (pv 4)) (oe_v re_int))) (oe_p (pv 1))) la_nil))) (la_cons (re_var (pv 0)) la_nil)))))))))
theorem ok__law_text (g : Gs mg)  {f : Addr} {fd : FuncData} (F : Fun K "_law_text" "_law_text" st__law_text f fd) : FnOk P w K mg base (L2.CX P w) 1 f fd ["one"] (spD ⟨K, cm⟩ [false] M__law_text) :=
  fn_ok F sc__law_text rfl fun cdv A outer s H Ex E kx hE hpin hr rx =>
 (ss_cons (se_if (be_cmp (op_eqD hr.units) os_eq (oe_v (re_ix ix_seq os_ix (oe_p (pv 0)) (oe_v re_int) (fun _ _ => rfl))) (oe_v re_int) (nomark _))
  (ss_one (se_ret (re_callTy call_str_int cs_strI (by rfl) g.str (by decide +kernel) (oa_cons (oe_v (re_ix ix_seq os_ix (oe_p (pv 0)) (oe_v re_int) (fun _ _ => rfl))) oa_nil))))
  ss_nil)
  (ss_one (se_ret (re_op op_addAll os_add (oe_v (re_op op_addAll os_add (oe_v (re_callTy call_str_int cs_strI (by rfl) g.str (by decide +kernel) (oa_cons (oe_v (re_ix ix_seq os_ix (oe_p (pv 0)) (oe_v re_int) (fun _ _ => rfl))) oa_nil))) (oe_v re_str))) (oe_v (re_callTy call_str_int cs_strI (by rfl) g.str (by decide +kernel) (oa_cons (oe_v (re_ix ix_seq os_ix (oe_p (pv 0)) (oe_v re_int) (fun _ _ => rfl))) oa_nil)))))))
theorem ok__law_row (g : Gs mg) (A__law_some_ratio : FnAt P w K mg base cm 2 "_law_some_ratio" ["number"] [false] M__law_some_ratio) {f : Addr} {fd : FuncData} (F : Fun K "_law_row" "_law_row" st__law_row f fd) : FnOk P w K mg base (L2.CX P w) 3 f fd ["number"] (spD ⟨K, cm⟩ [false] M__law_row) :=
  fn_ok F sc__law_row rfl fun cdv A outer s H Ex E kx hE hpin hr rx =>
 (ss_cons (se_tgt (re_callB call_divmodW cs_divmod (by rfl) g.divmod (by decide +kernel) (oa_cons (oe_p (pv 0)) (oa_cons (oe_v re_int) oa_nil))) (te_tup rfl (tes_cons (te_name (i := 0) sc__law_row.nd rfl (by first | exact Or.inl rfl | exact Or.inr rfl) (nopin hpin (by decide))) (tes_cons (te_name (i := 3) sc__law_row.nd rfl (by first | exact Or.inl rfl | exact Or.inr rfl) (nopin hpin (by decide))) tes_nil))))
  (ss_cons (se_tgt (re_callB call_divmodW cs_divmod (by rfl) g.divmod (by decide +kernel) (oa_cons (oe_p (pv 0)) (oa_cons (oe_v (re_ix ix_seq os_ix (oe_v (re_lst (la_cons re_int (la_cons re_int la_nil)))) (oe_v (re_callTy call_int1 cs_int (by rfl) g.int (by decide +kernel) (oa_cons (oe_v (re_cmp (op_eqD hr.units) os_eq (oe_p (pv 3)) (oe_v re_int) (nomark _))) oa_nil))) (fun _ _ => rfl))) oa_nil))) (te_tup rfl (tes_cons (te_name (i := 0) sc__law_row.nd rfl (by first | exact Or.inl rfl | exact Or.inr rfl) (nopin hpin (by decide))) (tes_cons (te_name (i := 4) sc__law_row.nd rfl (by first | exact Or.inl rfl | exact Or.inr rfl) (nopin hpin (by decide))) tes_nil))))
  (ss_cons (se_asg (i := 1) sc__law_row.nd rfl (by first | exact Or.inl rfl | exact Or.inr rfl) (nopin hpin (by decide)) (re_lst la_nil))
  (ss_cons (se_for hE (passes_of rfl) rfl (ie_range1 (by rfl) g.range (la_cons (re_var (pv 4)) la_nil)) (te_name (i := 2) sc__law_row.nd rfl (by first | exact Or.inl rfl | exact Or.inr rfl) (nopin hpin (by decide)))
  (ss_cons (se_tgt (re_callA A__law_some_ratio (hr.mono (by decide)) (by rfl) rx_none (by decide) (ca_v (re_var (pv 0)) ca_nil)) (te_tup rfl (tes_cons (te_name (i := 5) sc__law_row.nd rfl (by first | exact Or.inl rfl | exact Or.inr rfl) (nopin hpin (by decide))) (tes_cons (te_name (i := 0) sc__law_row.nd rfl (by first | exact Or.inl rfl | exact Or.inr rfl) (nopin hpin (by decide))) tes_nil))))
  (ss_one (se_expr (re_mut (n := 1) (fun G => pe_bm PySem.F.plainAttrs_list PySem.F.slot_list_append PySem.F.type_list_append mt_append (pv 1) ((la_cons (re_var (pv 5)) la_nil) G)) ms_append)))))
  (ss_one (se_ret (re_mov (pv 1))))))))
theorem ok_law (g : Gs mg) (A__law_cell : FnAt P w K mg base cm 1 "_law_cell" ["script", "k"] [false, false] M__law_cell) (A__law_deal : FnAt P w K mg base cm 1 "_law_deal" ["cell", "salt"] [false, false] M__law_deal) (A__law_some_ratio : FnAt P w K mg base cm 2 "_law_some_ratio" ["number"] [false] M__law_some_ratio) (A_ratio_text : FnAt P w K mg base cm 1 "ratio_text" ["one"] [false] M_ratio_text) (A__law_text : FnAt P w K mg base cm 1 "_law_text" ["one"] [false] M__law_text) (A_read_ratio : FnAt P w K mg base cm 4 "read_ratio" ["thing"] [false] M_read_ratio) (A__law_row : FnAt P w K mg base cm 3 "_law_row" ["number"] [false] M__law_row) (A_ratios_text : FnAt P w K mg base cm 2 "ratios_text" ["some"] [false] M_ratios_text) (A_read_ratios : FnAt P w K mg base cm 4 "read_ratios" ["thing"] [false] M_read_ratios) {f : Addr} {fd : FuncData} (F : Fun K "law" "law" st_law f fd) : FnOk P w K mg base (L2.CX P w) 5 f fd ["script"] (spD ⟨K, cm⟩ [false] M_law) :=
  fn_ok F sc_law rfl fun cdv A outer s H Ex E kx hE hpin hr rx =>
 (ss_cons (se_for hE (passes_of rfl) rfl (ie_seq (re_op op_addAll os_add (oe_v (re_lst (la_cons (re_callA A__law_cell (hr.mono (by decide)) (by rfl) rx_none (by decide) (ca_v (re_var (pv 0)) (ca_v re_int ca_nil))) la_nil))) (oe_v (re_slice (oe_p (pv 0)) (po_int re_int) (po_int re_int))))) (te_name (i := 1) sc_law.nd rfl (by first | exact Or.inl rfl | exact Or.inr rfl) (nopin hpin (by decide)))
  (ss_cons (se_tgt (re_callB call_divmodW cs_divmod (by rfl) g.divmod (by decide +kernel) (oa_cons (oe_v (re_callA A__law_deal (hr.mono (by decide)) (by rfl) rx_none (by decide) (ca_v (re_var (pv 1)) (ca_v re_int ca_nil)))) (oa_cons (oe_v re_int) oa_nil))) (te_tup rfl (tes_cons (te_name (i := 8) sc_law.nd rfl (by first | exact Or.inl rfl | exact Or.inr rfl) (nopin hpin (by decide))) (tes_cons (te_name (i := 9) sc_law.nd rfl (by first | exact Or.inl rfl | exact Or.inr rfl) (nopin hpin (by decide))) tes_nil))))
  (ss_cons (se_tgt (re_callA A__law_some_ratio (hr.mono (by decide)) (by rfl) rx_none (by decide) (ca_v (re_var (pv 8)) ca_nil)) (te_tup rfl (tes_cons (te_name (i := 2) sc_law.nd rfl (by first | exact Or.inl rfl | exact Or.inr rfl) (nopin hpin (by decide))) (tes_cons (te_name (i := 8) sc_law.nd rfl (by first | exact Or.inl rfl | exact Or.inr rfl) (nopin hpin (by decide))) tes_nil))))
  (ss_cons (se_asg (i := 2) sc_law.nd rfl (by first | exact Or.inl rfl | exact Or.inr rfl) (nopin hpin (by decide)) (re_tup (la_cons (re_op op_mulX os_mul (oe_v (re_ix ix_seq os_ix (oe_v (re_lst (la_cons re_int (la_cons (re_neg re_int) la_nil)))) (oe_p (pv 9)) (fun _ _ => rfl))) (oe_v (re_ix ix_seq os_ix (oe_p (pv 2)) (oe_v re_int) (fun _ _ => rfl)))) (la_cons (re_ix ix_seq os_ix (oe_p (pv 2)) (oe_v re_int) (fun _ _ => rfl)) la_nil))))
  (ss_cons (se_asg (i := 3) sc_law.nd rfl (by first | exact Or.inl rfl | exact Or.inr rfl) (nopin hpin (by decide)) (re_callA A_ratio_text (hr.mono (by decide)) (by rfl) rx_none (by decide) (ca_v (re_var (pv 2)) ca_nil)))
  (ss_cons (se_if (be_w (we_or (be_not (be_val (re_isi (c := "str") (by rfl) g.isinstance (by decide +kernel) (oe_p (pv 3)) (pe_bltn (by rfl) g.str (by decide +kernel) rfl) (by decide)))) (we_or1 (be_cmp (op_neD hr.units) os_ne (oe_p (pv 3)) (oe_v (re_callA A__law_text (hr.mono (by decide)) (by rfl) rx_none (by decide) (ca_v (re_var (pv 2)) ca_nil))) (nomark _)))))
  (ss_one (se_ret re_bl))
  ss_nil)
  (ss_cons (se_asg (i := 4) sc_law.nd rfl (by first | exact Or.inl rfl | exact Or.inr rfl) (nopin hpin (by decide)) (re_callA A_read_ratio (hr.mono (by decide)) (by rfl) rx_none (by decide) (ca_v (re_var (pv 3)) ca_nil)))
  (ss_cons (se_if (be_w (we_or (be_not (be_val (re_isi (c := "tuple") (by rfl) g.isinstance (by decide +kernel) (oe_p (pv 4)) (pe_bltn (by rfl) g.tuple (by decide +kernel) rfl) (by decide)))) (we_or (be_cmp (op_neD hr.units) os_ne (oe_p (pv 4)) (oe_p (pv 2)) (nomark _)) (we_or1 (be_cmp (op_neD hr.units) os_ne (oe_v (re_callA A_read_ratio (hr.mono (by decide)) (by rfl) rx_none (by decide) (ca_v (re_var (pv 3)) ca_nil))) (oe_p (pv 2)) (nomark _))))))
  (ss_one (se_ret re_bl))
  ss_nil)
  (ss_cons (se_asg (i := 5) sc_law.nd rfl (by first | exact Or.inl rfl | exact Or.inr rfl) (nopin hpin (by decide)) (re_callA A__law_row (hr.mono (by decide)) (by rfl) rx_none (by decide) (ca_v (re_var (pv 8)) ca_nil)))
  (ss_cons (se_asg (i := 6) sc_law.nd rfl (by first | exact Or.inl rfl | exact Or.inr rfl) (nopin hpin (by decide)) (re_m1 (fun h1 h2 => pe_join h1 h2) ms_join re_str (oe_v (re_comp hE rfl sc_law.nd (own := [("one", 2)]) (ie_seq (re_var (pv 5))) (blkOk_by (own := [("one", 2)]) (N := N_law) (sc := defScope st_law) (by decide +kernel)) (fun _ _ _ _ _ => (te_name (i := 2) sc_law.nd rfl (by first | exact Or.inl rfl | exact Or.inr rfl) (nopin hpin (by decide)))) (fun _ _ _ _ _ => bts_nil) (fun _ _ _ _ _ => (re_callA A__law_text (hr.mono (by decide)) (by rfl) rx_none (by decide) (ca_v (re_var (pv 2)) ca_nil))) (by decide) (pinsAll hpin (by decide))))))
  (ss_cons (se_if (be_cmp (op_eqD hr.units) os_eq (oe_p (pv 5)) (oe_v (re_lst la_nil)) (nomark _))
  (ss_one (se_asg (i := 6) sc_law.nd rfl (by first | exact Or.inl rfl | exact Or.inr rfl) (nopin hpin (by decide)) re_str))
  ss_nil)
  (ss_cons (se_asg (i := 7) sc_law.nd rfl (by first | exact Or.inl rfl | exact Or.inr rfl) (nopin hpin (by decide)) (re_callTy call_list_of cs_list (by rfl) g.list (by decide +kernel) (oa_cons (oe_p (pv 5)) oa_nil)))
  (ss_cons (se_if (be_w (we_or (be_cmp (op_neD hr.units) os_ne (oe_v (re_callA A_ratios_text (hr.mono (by decide)) (by rfl) rx_none (by decide) (ca_v (re_var (pv 7)) ca_nil))) (oe_p (pv 6)) (nomark _)) (we_or (be_cmp (op_neD hr.units) os_ne (oe_v (re_callA A_ratios_text (hr.mono (by decide)) (by rfl) rx_none (by decide) (ca_v (re_callTy call_tuple_of cs_tuple (by rfl) g.tuple (by decide +kernel) (oa_cons (oe_p (pv 5)) oa_nil)) ca_nil))) (oe_p (pv 6)) (nomark _)) (we_or1 (be_cmp (op_neD hr.units) os_ne (oe_p (pv 7)) (oe_p (pv 5)) (nomark _))))))
  (ss_one (se_ret re_bl))
  ss_nil)
  (ss_cons (se_asg (i := 4) sc_law.nd rfl (by first | exact Or.inl rfl | exact Or.inr rfl) (nopin hpin (by decide)) (re_callA A_read_ratios (hr.mono (by decide)) (by rfl) rx_none (by decide) (ca_v (re_var (pv 6)) ca_nil)))
  (ss_one (se_if (be_w (we_or (be_not (be_val (re_isi (c := "tuple") (by rfl) g.isinstance (by decide +kernel) (oe_p (pv 4)) (pe_bltn (by rfl) g.tuple (by decide +kernel) rfl) (by decide)))) (we_or1 (be_cmp (op_neD hr.units) os_ne (oe_p (pv 4)) (oe_v (re_callTy call_tuple_of cs_tuple (by rfl) g.tuple (by decide +kernel) (oa_cons (oe_p (pv 5)) oa_nil))) (nomark _)))))
  (ss_one (se_ret re_bl))
  ss_nil))))))))))))))))
  (ss_one (se_ret re_bl)))
end
end K77
end

section
set_option maxRecDepth 100000
set_option maxHeartbeats 4000000
namespace K77
open PySem PySem.Spec PyProof.Rows L2 Cr
theorem whole_int (i : Int) : Ret M_is_whole [.val (.int i)] (.val (.bool true)) := by
  intro k kx h
  simp only [M_is_whole, F_is_whole, sNil_e, sCons_e, sRet_e, sRetN_e, sIf_e, sPass_e, sNever_e, sExpr_e, sAsg_e, sTgt_e, sPar_e, fCst_e, fVar_e, fMov_e, fOV_e, rdSlot_e, fOP_e, as_val, as_lst, bo_e, sv_e, iv_e, ol_e, fO2_e, fBo_e, fNot_e, fAnd_e, fOr_e, fAndV_e, fOrV_e, fNotV_e, fIf_e, fONil_e, fOCons_e, fLNil_e, fLCons_e, fTup_e, fLst_e, fNeg_e, rdAll_nil, rdAll_cons, fCB_e, fIsI_e, fTName_e, fTsNil_e, fTsCons_e, fTTup_e, fMut_e, sFor_e, sWhile_e, fYes_e, fComp_e, fISeq_e, fIRng1_e, fCall_e, fANil_e, fAV_e, inR_nil, inR_v, inR_s, dropE_nil, dropE_v, dropE_s, outE_nil, outE_v, outE_s, fPNo_e, fPInt_e, fSl_e, fM1_e, fTIx_e, cAdd_i, cAdd_s, cAdd_l, cAdd_t, cSub_i, cMul_i, cFdiv_i, cMod_i, cPow_i, cLt_i, cLe_i, cGt_i, cGe_i, cEq_e, cNe_e, cIs_e, cIsNot_e, cIx_l, cIx_t, cIx_s, cNeg_i, cLen_l, cLen_t, cLen_s, cList_l, cList_t, cTuple_l, cTuple_t, cAll_e, cAny_e, cAbs_i, cInt_b, cInt_i, cStrI_i, cIntS_s, cSplit_s, cJoin_e, cSl_l, cSl_t, cSl_s, mAppend_e, fnM_e, finK_nil, atI_zero, atI_one, ex_some, keepE, wipeE, restE, List.foldr_cons, List.foldr_nil, List.all_cons, List.all_nil, startE, idxs, List.map_cons, List.map_nil, List.length_cons, List.length_nil, Nat.reduceAdd, Nat.reduceSub, Int.reduceToNat, List.reduceReplicate, List.nil_append, List.cons_append, List.append_nil, List.getElem?_cons_zero, List.getElem?_cons_succ, List.set_cons_zero, List.set_cons_succ, Nat.zero_add, Bool.not_true, Bool.not_false, decide_eq_true_eq, if_true, if_false, Bool.false_eq_true, Bool.true_and, Bool.and_true, ite_true, ite_false, reduceIte, eq_self, true_and, and_true, Bool.not_eq_true', decide_eq_false_iff_not]
  exact ⟨rfl, rfl, h⟩
theorem gcd_loop (dn : Dn) : ∀ (b a : Nat), dn.nx [some (.val (.int (Nat.gcd b a))), some (.val (.int 0))] →
    ∃ n, whGo (fBo (fO2 cGt (fOP 1) (fOV (fCst (.int 0))))) (sPar 0 1 (fLCons (fVar 1) (fLCons (fO2 cMod (fOP 0) (fOP 1)) fLNil))) n dn [some (.val (.int a)), some (.val (.int b))] := by
  intro b
  induction b using Nat.strongRecOn with
  | _ b ih =>
    intro a h
    by_cases hb : b = 0
    · subst hb
      refine ⟨1, ?_⟩
      simp only [whGo_succ, sNil_e, sCons_e, sRet_e, sRetN_e, sIf_e, sPass_e, sNever_e, sExpr_e, sAsg_e, sTgt_e, sPar_e, fCst_e, fVar_e, fMov_e, fOV_e, rdSlot_e, fOP_e, as_val, as_lst, bo_e, sv_e, iv_e, ol_e, fO2_e, fBo_e, fNot_e, fAnd_e, fOr_e, fAndV_e, fOrV_e, fNotV_e, fIf_e, fONil_e, fOCons_e, fLNil_e, fLCons_e, fTup_e, fLst_e, fNeg_e, rdAll_nil, rdAll_cons, fCB_e, fIsI_e, fTName_e, fTsNil_e, fTsCons_e, fTTup_e, fMut_e, sFor_e, sWhile_e, fYes_e, fComp_e, fISeq_e, fIRng1_e, fCall_e, fANil_e, fAV_e, inR_nil, inR_v, inR_s, dropE_nil, dropE_v, dropE_s, outE_nil, outE_v, outE_s, fPNo_e, fPInt_e, fSl_e, fM1_e, fTIx_e, cAdd_i, cAdd_s, cAdd_l, cAdd_t, cSub_i, cMul_i, cFdiv_i, cMod_i, cPow_i, cLt_i, cLe_i, cGt_i, cGe_i, cEq_e, cNe_e, cIs_e, cIsNot_e, cIx_l, cIx_t, cIx_s, cNeg_i, cLen_l, cLen_t, cLen_s, cList_l, cList_t, cTuple_l, cTuple_t, cAll_e, cAny_e, cAbs_i, cInt_b, cInt_i, cStrI_i, cIntS_s, cSplit_s, cJoin_e, cSl_l, cSl_t, cSl_s, mAppend_e, fnM_e, finK_nil, atI_zero, atI_one, ex_some, keepE, wipeE, restE, List.foldr_cons, List.foldr_nil, List.all_cons, List.all_nil, startE, idxs, List.map_cons, List.map_nil, List.length_cons, List.length_nil, Nat.reduceAdd, Nat.reduceSub, Int.reduceToNat, List.reduceReplicate, List.nil_append, List.cons_append, List.append_nil, List.getElem?_cons_zero, List.getElem?_cons_succ, List.set_cons_zero, List.set_cons_succ, Nat.zero_add, Bool.not_true, Bool.not_false, decide_eq_true_eq, if_true, if_false, Bool.false_eq_true, Bool.true_and, Bool.and_true, ite_true, ite_false, reduceIte, eq_self, true_and, and_true, Bool.not_eq_true', decide_eq_false_iff_not]
      simpa using h
    · have h1 : Nat.gcd b a = Nat.gcd (a % b) b := Nat.gcd_rec b a
      rw [h1] at h
      obtain ⟨n, hn⟩ := ih (a % b) (Nat.mod_lt _ (by omega)) b h
      refine ⟨n + 1, ?_⟩
      simp only [whGo_succ, sNil_e, sCons_e, sRet_e, sRetN_e, sIf_e, sPass_e, sNever_e, sExpr_e, sAsg_e, sTgt_e, sPar_e, fCst_e, fVar_e, fMov_e, fOV_e, rdSlot_e, fOP_e, as_val, as_lst, bo_e, sv_e, iv_e, ol_e, fO2_e, fBo_e, fNot_e, fAnd_e, fOr_e, fAndV_e, fOrV_e, fNotV_e, fIf_e, fONil_e, fOCons_e, fLNil_e, fLCons_e, fTup_e, fLst_e, fNeg_e, rdAll_nil, rdAll_cons, fCB_e, fIsI_e, fTName_e, fTsNil_e, fTsCons_e, fTTup_e, fMut_e, sFor_e, sWhile_e, fYes_e, fComp_e, fISeq_e, fIRng1_e, fCall_e, fANil_e, fAV_e, inR_nil, inR_v, inR_s, dropE_nil, dropE_v, dropE_s, outE_nil, outE_v, outE_s, fPNo_e, fPInt_e, fSl_e, fM1_e, fTIx_e, cAdd_i, cAdd_s, cAdd_l, cAdd_t, cSub_i, cMul_i, cFdiv_i, cMod_i, cPow_i, cLt_i, cLe_i, cGt_i, cGe_i, cEq_e, cNe_e, cIs_e, cIsNot_e, cIx_l, cIx_t, cIx_s, cNeg_i, cLen_l, cLen_t, cLen_s, cList_l, cList_t, cTuple_l, cTuple_t, cAll_e, cAny_e, cAbs_i, cInt_b, cInt_i, cStrI_i, cIntS_s, cSplit_s, cJoin_e, cSl_l, cSl_t, cSl_s, mAppend_e, fnM_e, finK_nil, atI_zero, atI_one, ex_some, keepE, wipeE, restE, List.foldr_cons, List.foldr_nil, List.all_cons, List.all_nil, startE, idxs, List.map_cons, List.map_nil, List.length_cons, List.length_nil, Nat.reduceAdd, Nat.reduceSub, Int.reduceToNat, List.reduceReplicate, List.nil_append, List.cons_append, List.append_nil, List.getElem?_cons_zero, List.getElem?_cons_succ, List.set_cons_zero, List.set_cons_succ, Nat.zero_add, Bool.not_true, Bool.not_false, decide_eq_true_eq, if_true, if_false, Bool.false_eq_true, Bool.true_and, Bool.and_true, ite_true, ite_false, reduceIte, eq_self, true_and, and_true, Bool.not_eq_true', decide_eq_false_iff_not]
      have hp : (0 : Int) < (b : Int) := by omega
      rw [if_pos hp]
      refine ⟨hp, ?_⟩
      have : ((a : Int) % (b : Int)) = ((a % b : Nat) : Int) := by simp
      rw [this]
      exact hn
def gcdI (i j : Int) : Int := (Nat.gcd j.natAbs i.natAbs : Nat)
theorem abs_if (i : Int) : (if i < 0 then -i else i) = (i.natAbs : Int) := by split <;> omega
theorem common_ret (i j : Int) : Ret M_common [.val (.int i), .val (.int j)] (.val (.int (gcdI i j))) := by
  intro k kx h
  simp only [M_common, F_common, sNil_e, sCons_e, sRet_e, sRetN_e, sIf_e, sPass_e, sNever_e, sExpr_e, sAsg_e, sTgt_e, sPar_e, fCst_e, fVar_e, fMov_e, fOV_e, rdSlot_e, fOP_e, as_val, as_lst, bo_e, sv_e, iv_e, ol_e, fO2_e, fBo_e, fNot_e, fAnd_e, fOr_e, fAndV_e, fOrV_e, fNotV_e, fIf_e, fONil_e, fOCons_e, fLNil_e, fLCons_e, fTup_e, fLst_e, fNeg_e, rdAll_nil, rdAll_cons, fCB_e, fIsI_e, fTName_e, fTsNil_e, fTsCons_e, fTTup_e, fMut_e, sFor_e, sWhile_e, fYes_e, fComp_e, fISeq_e, fIRng1_e, fCall_e, fANil_e, fAV_e, inR_nil, inR_v, inR_s, dropE_nil, dropE_v, dropE_s, outE_nil, outE_v, outE_s, fPNo_e, fPInt_e, fSl_e, fM1_e, fTIx_e, cAdd_i, cAdd_s, cAdd_l, cAdd_t, cSub_i, cMul_i, cFdiv_i, cMod_i, cPow_i, cLt_i, cLe_i, cGt_i, cGe_i, cEq_e, cNe_e, cIs_e, cIsNot_e, cIx_l, cIx_t, cIx_s, cNeg_i, cLen_l, cLen_t, cLen_s, cList_l, cList_t, cTuple_l, cTuple_t, cAll_e, cAny_e, cAbs_i, cInt_b, cInt_i, cStrI_i, cIntS_s, cSplit_s, cJoin_e, cSl_l, cSl_t, cSl_s, mAppend_e, fnM_e, finK_nil, atI_zero, atI_one, ex_some, keepE, wipeE, restE, List.foldr_cons, List.foldr_nil, List.all_cons, List.all_nil, startE, idxs, List.map_cons, List.map_nil, List.length_cons, List.length_nil, Nat.reduceAdd, Nat.reduceSub, Int.reduceToNat, List.reduceReplicate, List.nil_append, List.cons_append, List.append_nil, List.getElem?_cons_zero, List.getElem?_cons_succ, List.set_cons_zero, List.set_cons_succ, Nat.zero_add, Bool.not_true, Bool.not_false, decide_eq_true_eq, if_true, if_false, Bool.false_eq_true, Bool.true_and, Bool.and_true, ite_true, ite_false, reduceIte, eq_self, true_and, and_true, Bool.not_eq_true', decide_eq_false_iff_not, abs_if]
  exact gcd_loop _ _ _ (by simp only [sNil_e, sCons_e, sRet_e, sRetN_e, sIf_e, sPass_e, sNever_e, sExpr_e, sAsg_e, sTgt_e, sPar_e, fCst_e, fVar_e, fMov_e, fOV_e, rdSlot_e, fOP_e, as_val, as_lst, bo_e, sv_e, iv_e, ol_e, fO2_e, fBo_e, fNot_e, fAnd_e, fOr_e, fAndV_e, fOrV_e, fNotV_e, fIf_e, fONil_e, fOCons_e, fLNil_e, fLCons_e, fTup_e, fLst_e, fNeg_e, rdAll_nil, rdAll_cons, fCB_e, fIsI_e, fTName_e, fTsNil_e, fTsCons_e, fTTup_e, fMut_e, sFor_e, sWhile_e, fYes_e, fComp_e, fISeq_e, fIRng1_e, fCall_e, fANil_e, fAV_e, inR_nil, inR_v, inR_s, dropE_nil, dropE_v, dropE_s, outE_nil, outE_v, outE_s, fPNo_e, fPInt_e, fSl_e, fM1_e, fTIx_e, cAdd_i, cAdd_s, cAdd_l, cAdd_t, cSub_i, cMul_i, cFdiv_i, cMod_i, cPow_i, cLt_i, cLe_i, cGt_i, cGe_i, cEq_e, cNe_e, cIs_e, cIsNot_e, cIx_l, cIx_t, cIx_s, cNeg_i, cLen_l, cLen_t, cLen_s, cList_l, cList_t, cTuple_l, cTuple_t, cAll_e, cAny_e, cAbs_i, cInt_b, cInt_i, cStrI_i, cIntS_s, cSplit_s, cJoin_e, cSl_l, cSl_t, cSl_s, mAppend_e, fnM_e, finK_nil, atI_zero, atI_one, ex_some, keepE, wipeE, restE, List.foldr_cons, List.foldr_nil, List.all_cons, List.all_nil, startE, idxs, List.map_cons, List.map_nil, List.length_cons, List.length_nil, Nat.reduceAdd, Nat.reduceSub, Int.reduceToNat, List.reduceReplicate, List.nil_append, List.cons_append, List.append_nil, List.getElem?_cons_zero, List.getElem?_cons_succ, List.set_cons_zero, List.set_cons_succ, Nat.zero_add, Bool.not_true, Bool.not_false, decide_eq_true_eq, if_true, if_false, Bool.false_eq_true, Bool.true_and, Bool.and_true, ite_true, ite_false, reduceIte, eq_self, true_and, and_true, Bool.not_eq_true', decide_eq_false_iff_not]; exact h)
theorem lcommon_ret (i j : Int) : Ret M__law_common [.val (.int i), .val (.int j)] (.val (.int (gcdI i j))) := by
  intro k kx h
  simp only [M__law_common, F__law_common, sNil_e, sCons_e, sRet_e, sRetN_e, sIf_e, sPass_e, sNever_e, sExpr_e, sAsg_e, sTgt_e, sPar_e, fCst_e, fVar_e, fMov_e, fOV_e, rdSlot_e, fOP_e, as_val, as_lst, bo_e, sv_e, iv_e, ol_e, fO2_e, fBo_e, fNot_e, fAnd_e, fOr_e, fAndV_e, fOrV_e, fNotV_e, fIf_e, fONil_e, fOCons_e, fLNil_e, fLCons_e, fTup_e, fLst_e, fNeg_e, rdAll_nil, rdAll_cons, fCB_e, fIsI_e, fTName_e, fTsNil_e, fTsCons_e, fTTup_e, fMut_e, sFor_e, sWhile_e, fYes_e, fComp_e, fISeq_e, fIRng1_e, fCall_e, fANil_e, fAV_e, inR_nil, inR_v, inR_s, dropE_nil, dropE_v, dropE_s, outE_nil, outE_v, outE_s, fPNo_e, fPInt_e, fSl_e, fM1_e, fTIx_e, cAdd_i, cAdd_s, cAdd_l, cAdd_t, cSub_i, cMul_i, cFdiv_i, cMod_i, cPow_i, cLt_i, cLe_i, cGt_i, cGe_i, cEq_e, cNe_e, cIs_e, cIsNot_e, cIx_l, cIx_t, cIx_s, cNeg_i, cLen_l, cLen_t, cLen_s, cList_l, cList_t, cTuple_l, cTuple_t, cAll_e, cAny_e, cAbs_i, cInt_b, cInt_i, cStrI_i, cIntS_s, cSplit_s, cJoin_e, cSl_l, cSl_t, cSl_s, mAppend_e, fnM_e, finK_nil, atI_zero, atI_one, ex_some, keepE, wipeE, restE, List.foldr_cons, List.foldr_nil, List.all_cons, List.all_nil, startE, idxs, List.map_cons, List.map_nil, List.length_cons, List.length_nil, Nat.reduceAdd, Nat.reduceSub, Int.reduceToNat, List.reduceReplicate, List.nil_append, List.cons_append, List.append_nil, List.getElem?_cons_zero, List.getElem?_cons_succ, List.set_cons_zero, List.set_cons_succ, Nat.zero_add, Bool.not_true, Bool.not_false, decide_eq_true_eq, if_true, if_false, Bool.false_eq_true, Bool.true_and, Bool.and_true, ite_true, ite_false, reduceIte, eq_self, true_and, and_true, Bool.not_eq_true', decide_eq_false_iff_not, abs_if]
  exact gcd_loop _ _ _ (by simp only [sNil_e, sCons_e, sRet_e, sRetN_e, sIf_e, sPass_e, sNever_e, sExpr_e, sAsg_e, sTgt_e, sPar_e, fCst_e, fVar_e, fMov_e, fOV_e, rdSlot_e, fOP_e, as_val, as_lst, bo_e, sv_e, iv_e, ol_e, fO2_e, fBo_e, fNot_e, fAnd_e, fOr_e, fAndV_e, fOrV_e, fNotV_e, fIf_e, fONil_e, fOCons_e, fLNil_e, fLCons_e, fTup_e, fLst_e, fNeg_e, rdAll_nil, rdAll_cons, fCB_e, fIsI_e, fTName_e, fTsNil_e, fTsCons_e, fTTup_e, fMut_e, sFor_e, sWhile_e, fYes_e, fComp_e, fISeq_e, fIRng1_e, fCall_e, fANil_e, fAV_e, inR_nil, inR_v, inR_s, dropE_nil, dropE_v, dropE_s, outE_nil, outE_v, outE_s, fPNo_e, fPInt_e, fSl_e, fM1_e, fTIx_e, cAdd_i, cAdd_s, cAdd_l, cAdd_t, cSub_i, cMul_i, cFdiv_i, cMod_i, cPow_i, cLt_i, cLe_i, cGt_i, cGe_i, cEq_e, cNe_e, cIs_e, cIsNot_e, cIx_l, cIx_t, cIx_s, cNeg_i, cLen_l, cLen_t, cLen_s, cList_l, cList_t, cTuple_l, cTuple_t, cAll_e, cAny_e, cAbs_i, cInt_b, cInt_i, cStrI_i, cIntS_s, cSplit_s, cJoin_e, cSl_l, cSl_t, cSl_s, mAppend_e, fnM_e, finK_nil, atI_zero, atI_one, ex_some, keepE, wipeE, restE, List.foldr_cons, List.foldr_nil, List.all_cons, List.all_nil, startE, idxs, List.map_cons, List.map_nil, List.length_cons, List.length_nil, Nat.reduceAdd, Nat.reduceSub, Int.reduceToNat, List.reduceReplicate, List.nil_append, List.cons_append, List.append_nil, List.getElem?_cons_zero, List.getElem?_cons_succ, List.set_cons_zero, List.set_cons_succ, Nat.zero_add, Bool.not_true, Bool.not_false, decide_eq_true_eq, if_true, if_false, Bool.false_eq_true, Bool.true_and, Bool.and_true, ite_true, ite_false, reduceIte, eq_self, true_and, and_true, Bool.not_eq_true', decide_eq_false_iff_not]; exact h)
theorem cell_ret (d : D) (ns : List D) : Ret M__law_cell [.val (.list (d :: ns)), .val (.int 0)] (.val d) := by
  intro k kx hk
  simp only [M__law_cell, F__law_cell, sNil_e, sCons_e, sRet_e, sRetN_e, sIf_e, sPass_e, sNever_e, sExpr_e, sAsg_e, sTgt_e, sPar_e, fCst_e, fVar_e, fMov_e, fOV_e, rdSlot_e, fOP_e, as_val, as_lst, bo_e, sv_e, iv_e, ol_e, fO2_e, fBo_e, fNot_e, fAnd_e, fOr_e, fAndV_e, fOrV_e, fNotV_e, fIf_e, fONil_e, fOCons_e, fLNil_e, fLCons_e, fTup_e, fLst_e, fNeg_e, rdAll_nil, rdAll_cons, fCB_e, fIsI_e, fTName_e, fTsNil_e, fTsCons_e, fTTup_e, fMut_e, sFor_e, sWhile_e, fYes_e, fComp_e, fISeq_e, fIRng1_e, fCall_e, fANil_e, fAV_e, inR_nil, inR_v, inR_s, dropE_nil, dropE_v, dropE_s, outE_nil, outE_v, outE_s, fPNo_e, fPInt_e, fSl_e, fM1_e, fTIx_e, cAdd_i, cAdd_s, cAdd_l, cAdd_t, cSub_i, cMul_i, cFdiv_i, cMod_i, cPow_i, cLt_i, cLe_i, cGt_i, cGe_i, cEq_e, cNe_e, cIs_e, cIsNot_e, cIx_l, cIx_t, cIx_s, cNeg_i, cLen_l, cLen_t, cLen_s, cList_l, cList_t, cTuple_l, cTuple_t, cAll_e, cAny_e, cAbs_i, cInt_b, cInt_i, cStrI_i, cIntS_s, cSplit_s, cJoin_e, cSl_l, cSl_t, cSl_s, mAppend_e, fnM_e, finK_nil, atI_zero, atI_one, ex_some, keepE, wipeE, restE, List.foldr_cons, List.foldr_nil, List.all_cons, List.all_nil, startE, idxs, List.map_cons, List.map_nil, List.length_cons, List.length_nil, Nat.reduceAdd, Nat.reduceSub, Int.reduceToNat, List.reduceReplicate, List.nil_append, List.cons_append, List.append_nil, List.getElem?_cons_zero, List.getElem?_cons_succ, List.set_cons_zero, List.set_cons_succ, Nat.zero_add, Bool.not_true, Bool.not_false, decide_eq_true_eq, if_true, if_false, Bool.false_eq_true, Bool.true_and, Bool.and_true, ite_true, ite_false, reduceIte, eq_self, true_and, and_true, Bool.not_eq_true', decide_eq_false_iff_not]
  rw [if_pos (by omega)]
  exact hk
theorem cell_ret0 : Ret M__law_cell [.val (.list []), .val (.int 0)] (.val (.int 0)) := by
  intro k kx hk
  simp only [M__law_cell, F__law_cell, sNil_e, sCons_e, sRet_e, sRetN_e, sIf_e, sPass_e, sNever_e, sExpr_e, sAsg_e, sTgt_e, sPar_e, fCst_e, fVar_e, fMov_e, fOV_e, rdSlot_e, fOP_e, as_val, as_lst, bo_e, sv_e, iv_e, ol_e, fO2_e, fBo_e, fNot_e, fAnd_e, fOr_e, fAndV_e, fOrV_e, fNotV_e, fIf_e, fONil_e, fOCons_e, fLNil_e, fLCons_e, fTup_e, fLst_e, fNeg_e, rdAll_nil, rdAll_cons, fCB_e, fIsI_e, fTName_e, fTsNil_e, fTsCons_e, fTTup_e, fMut_e, sFor_e, sWhile_e, fYes_e, fComp_e, fISeq_e, fIRng1_e, fCall_e, fANil_e, fAV_e, inR_nil, inR_v, inR_s, dropE_nil, dropE_v, dropE_s, outE_nil, outE_v, outE_s, fPNo_e, fPInt_e, fSl_e, fM1_e, fTIx_e, cAdd_i, cAdd_s, cAdd_l, cAdd_t, cSub_i, cMul_i, cFdiv_i, cMod_i, cPow_i, cLt_i, cLe_i, cGt_i, cGe_i, cEq_e, cNe_e, cIs_e, cIsNot_e, cIx_l, cIx_t, cIx_s, cNeg_i, cLen_l, cLen_t, cLen_s, cList_l, cList_t, cTuple_l, cTuple_t, cAll_e, cAny_e, cAbs_i, cInt_b, cInt_i, cStrI_i, cIntS_s, cSplit_s, cJoin_e, cSl_l, cSl_t, cSl_s, mAppend_e, fnM_e, finK_nil, atI_zero, atI_one, ex_some, keepE, wipeE, restE, List.foldr_cons, List.foldr_nil, List.all_cons, List.all_nil, startE, idxs, List.map_cons, List.map_nil, List.length_cons, List.length_nil, Nat.reduceAdd, Nat.reduceSub, Int.reduceToNat, List.reduceReplicate, List.nil_append, List.cons_append, List.append_nil, List.getElem?_cons_zero, List.getElem?_cons_succ, List.set_cons_zero, List.set_cons_succ, Nat.zero_add, Bool.not_true, Bool.not_false, decide_eq_true_eq, if_true, if_false, Bool.false_eq_true, Bool.true_and, Bool.and_true, ite_true, ite_false, reduceIte, eq_self, true_and, and_true, Bool.not_eq_true', decide_eq_false_iff_not]
  exact hk
theorem gcdI_pos {i j : Int} (h : 0 < j) : 0 < gcdI i j := by
  unfold gcdI
  have := Nat.gcd_pos_of_pos_left (m := j.natAbs) i.natAbs (by omega)
  omega
theorem div_one_ok (i : Int) : DivOk i 1 := ⟨by decide, by decide⟩
theorem ratio_ret (i j : Int) (hj : 0 < j) (hg : gcdI i j = 1) : Ret M_ratio [.val (.int i), .val (.int j)] (.val (.tuple [.int i, .int j])) := by
  intro k kx h
  simp only [M_ratio, F_ratio, sNil_e, sCons_e, sRet_e, sRetN_e, sIf_e, sPass_e, sNever_e, sExpr_e, sAsg_e, sTgt_e, sPar_e, fCst_e, fVar_e, fMov_e, fOV_e, rdSlot_e, fOP_e, as_val, as_lst, bo_e, sv_e, iv_e, ol_e, fO2_e, fBo_e, fNot_e, fAnd_e, fOr_e, fAndV_e, fOrV_e, fNotV_e, fIf_e, fONil_e, fOCons_e, fLNil_e, fLCons_e, fTup_e, fLst_e, fNeg_e, rdAll_nil, rdAll_cons, fCB_e, fIsI_e, fTName_e, fTsNil_e, fTsCons_e, fTTup_e, fMut_e, sFor_e, sWhile_e, fYes_e, fComp_e, fISeq_e, fIRng1_e, fCall_e, fANil_e, fAV_e, inR_nil, inR_v, inR_s, dropE_nil, dropE_v, dropE_s, outE_nil, outE_v, outE_s, fPNo_e, fPInt_e, fSl_e, fM1_e, fTIx_e, cAdd_i, cAdd_s, cAdd_l, cAdd_t, cSub_i, cMul_i, cFdiv_i, cMod_i, cPow_i, cLt_i, cLe_i, cGt_i, cGe_i, cEq_e, cNe_e, cIs_e, cIsNot_e, cIx_l, cIx_t, cIx_s, cNeg_i, cLen_l, cLen_t, cLen_s, cList_l, cList_t, cTuple_l, cTuple_t, cAll_e, cAny_e, cAbs_i, cInt_b, cInt_i, cStrI_i, cIntS_s, cSplit_s, cJoin_e, cSl_l, cSl_t, cSl_s, mAppend_e, fnM_e, finK_nil, atI_zero, atI_one, ex_some, keepE, wipeE, restE, List.foldr_cons, List.foldr_nil, List.all_cons, List.all_nil, startE, idxs, List.map_cons, List.map_nil, List.length_cons, List.length_nil, Nat.reduceAdd, Nat.reduceSub, Int.reduceToNat, List.reduceReplicate, List.nil_append, List.cons_append, List.append_nil, List.getElem?_cons_zero, List.getElem?_cons_succ, List.set_cons_zero, List.set_cons_succ, Nat.zero_add, Bool.not_true, Bool.not_false, decide_eq_true_eq, if_true, if_false, Bool.false_eq_true, Bool.true_and, Bool.and_true, ite_true, ite_false, reduceIte, eq_self, true_and, and_true, Bool.not_eq_true', decide_eq_false_iff_not]
  refine ⟨Sh.shaped (n := 0) (.int _), Sh.shaped (n := 0) (.int _), ?_⟩
  rw [if_neg (by simp only [PyData.eqv, beq_iff_eq]; omega), if_neg (by omega)]
  refine common_ret _ _ _ _ ?_
  simp only [hg, sNil_e, sCons_e, sRet_e, sRetN_e, sIf_e, sPass_e, sNever_e, sExpr_e, sAsg_e, sTgt_e, sPar_e, fCst_e, fVar_e, fMov_e, fOV_e, rdSlot_e, fOP_e, as_val, as_lst, bo_e, sv_e, iv_e, ol_e, fO2_e, fBo_e, fNot_e, fAnd_e, fOr_e, fAndV_e, fOrV_e, fNotV_e, fIf_e, fONil_e, fOCons_e, fLNil_e, fLCons_e, fTup_e, fLst_e, fNeg_e, rdAll_nil, rdAll_cons, fCB_e, fIsI_e, fTName_e, fTsNil_e, fTsCons_e, fTTup_e, fMut_e, sFor_e, sWhile_e, fYes_e, fComp_e, fISeq_e, fIRng1_e, fCall_e, fANil_e, fAV_e, inR_nil, inR_v, inR_s, dropE_nil, dropE_v, dropE_s, outE_nil, outE_v, outE_s, fPNo_e, fPInt_e, fSl_e, fM1_e, fTIx_e, cAdd_i, cAdd_s, cAdd_l, cAdd_t, cSub_i, cMul_i, cFdiv_i, cMod_i, cPow_i, cLt_i, cLe_i, cGt_i, cGe_i, cEq_e, cNe_e, cIs_e, cIsNot_e, cIx_l, cIx_t, cIx_s, cNeg_i, cLen_l, cLen_t, cLen_s, cList_l, cList_t, cTuple_l, cTuple_t, cAll_e, cAny_e, cAbs_i, cInt_b, cInt_i, cStrI_i, cIntS_s, cSplit_s, cJoin_e, cSl_l, cSl_t, cSl_s, mAppend_e, fnM_e, finK_nil, atI_zero, atI_one, ex_some, keepE, wipeE, restE, List.foldr_cons, List.foldr_nil, List.all_cons, List.all_nil, startE, idxs, List.map_cons, List.map_nil, List.length_cons, List.length_nil, Nat.reduceAdd, Nat.reduceSub, Int.reduceToNat, List.reduceReplicate, List.nil_append, List.cons_append, List.append_nil, List.getElem?_cons_zero, List.getElem?_cons_succ, List.set_cons_zero, List.set_cons_succ, Nat.zero_add, Bool.not_true, Bool.not_false, decide_eq_true_eq, if_true, if_false, Bool.false_eq_true, Bool.true_and, Bool.and_true, ite_true, ite_false, reduceIte, eq_self, true_and, and_true, Bool.not_eq_true', decide_eq_false_iff_not]
  exact ⟨div_one_ok _, div_one_ok _, by simpa using h⟩
theorem is_ratio_ret (i j : Int) (hj : 0 < j) (hg : gcdI i j = 1) : Ret M_is_ratio [.val (.tuple [.int i, .int j])] (.val (.bool true)) := by
  intro k kx h
  simp only [M_is_ratio, F_is_ratio, sNil_e, sCons_e, sRet_e, sRetN_e, sIf_e, sPass_e, sNever_e, sExpr_e, sAsg_e, sTgt_e, sPar_e, fCst_e, fVar_e, fMov_e, fOV_e, rdSlot_e, fOP_e, as_val, as_lst, bo_e, sv_e, iv_e, ol_e, fO2_e, fBo_e, fNot_e, fAnd_e, fOr_e, fAndV_e, fOrV_e, fNotV_e, fIf_e, fONil_e, fOCons_e, fLNil_e, fLCons_e, fTup_e, fLst_e, fNeg_e, rdAll_nil, rdAll_cons, fCB_e, fIsI_e, fTName_e, fTsNil_e, fTsCons_e, fTTup_e, fMut_e, sFor_e, sWhile_e, fYes_e, fComp_e, fISeq_e, fIRng1_e, fCall_e, fANil_e, fAV_e, inR_nil, inR_v, inR_s, dropE_nil, dropE_v, dropE_s, outE_nil, outE_v, outE_s, fPNo_e, fPInt_e, fSl_e, fM1_e, fTIx_e, cAdd_i, cAdd_s, cAdd_l, cAdd_t, cSub_i, cMul_i, cFdiv_i, cMod_i, cPow_i, cLt_i, cLe_i, cGt_i, cGe_i, cEq_e, cNe_e, cIs_e, cIsNot_e, cIx_l, cIx_t, cIx_s, cNeg_i, cLen_l, cLen_t, cLen_s, cList_l, cList_t, cTuple_l, cTuple_t, cAll_e, cAny_e, cAbs_i, cInt_b, cInt_i, cStrI_i, cIntS_s, cSplit_s, cJoin_e, cSl_l, cSl_t, cSl_s, mAppend_e, fnM_e, finK_nil, atI_zero, atI_one, ex_some, keepE, wipeE, restE, List.foldr_cons, List.foldr_nil, List.all_cons, List.all_nil, startE, idxs, List.map_cons, List.map_nil, List.length_cons, List.length_nil, Nat.reduceAdd, Nat.reduceSub, Int.reduceToNat, List.reduceReplicate, List.nil_append, List.cons_append, List.append_nil, List.getElem?_cons_zero, List.getElem?_cons_succ, List.set_cons_zero, List.set_cons_succ, Nat.zero_add, Bool.not_true, Bool.not_false, decide_eq_true_eq, if_true, if_false, Bool.false_eq_true, Bool.true_and, Bool.and_true, ite_true, ite_false, reduceIte, eq_self, true_and, and_true, Bool.not_eq_true', decide_eq_false_iff_not]
  refine ⟨rfl, ?_⟩
  rw [if_neg (fun e => by cases (show true = false from e))]
  refine ⟨Sh.shaped (n := 0) (.int _), Sh.shaped (n := 0) (.int _), ?_⟩
  rw [if_neg (by decide)]
  refine whole_int _ _ _ ?_
  simp only [sNil_e, sCons_e, sRet_e, sRetN_e, sIf_e, sPass_e, sNever_e, sExpr_e, sAsg_e, sTgt_e, sPar_e, fCst_e, fVar_e, fMov_e, fOV_e, rdSlot_e, fOP_e, as_val, as_lst, bo_e, sv_e, iv_e, ol_e, fO2_e, fBo_e, fNot_e, fAnd_e, fOr_e, fAndV_e, fOrV_e, fNotV_e, fIf_e, fONil_e, fOCons_e, fLNil_e, fLCons_e, fTup_e, fLst_e, fNeg_e, rdAll_nil, rdAll_cons, fCB_e, fIsI_e, fTName_e, fTsNil_e, fTsCons_e, fTTup_e, fMut_e, sFor_e, sWhile_e, fYes_e, fComp_e, fISeq_e, fIRng1_e, fCall_e, fANil_e, fAV_e, inR_nil, inR_v, inR_s, dropE_nil, dropE_v, dropE_s, outE_nil, outE_v, outE_s, fPNo_e, fPInt_e, fSl_e, fM1_e, fTIx_e, cAdd_i, cAdd_s, cAdd_l, cAdd_t, cSub_i, cMul_i, cFdiv_i, cMod_i, cPow_i, cLt_i, cLe_i, cGt_i, cGe_i, cEq_e, cNe_e, cIs_e, cIsNot_e, cIx_l, cIx_t, cIx_s, cNeg_i, cLen_l, cLen_t, cLen_s, cList_l, cList_t, cTuple_l, cTuple_t, cAll_e, cAny_e, cAbs_i, cInt_b, cInt_i, cStrI_i, cIntS_s, cSplit_s, cJoin_e, cSl_l, cSl_t, cSl_s, mAppend_e, fnM_e, finK_nil, atI_zero, atI_one, ex_some, keepE, wipeE, restE, List.foldr_cons, List.foldr_nil, List.all_cons, List.all_nil, startE, idxs, List.map_cons, List.map_nil, List.length_cons, List.length_nil, Nat.reduceAdd, Nat.reduceSub, Int.reduceToNat, List.reduceReplicate, List.nil_append, List.cons_append, List.append_nil, List.getElem?_cons_zero, List.getElem?_cons_succ, List.set_cons_zero, List.set_cons_succ, Nat.zero_add, Bool.not_true, Bool.not_false, decide_eq_true_eq, if_true, if_false, Bool.false_eq_true, Bool.true_and, Bool.and_true, ite_true, ite_false, reduceIte, eq_self, true_and, and_true, Bool.not_eq_true', decide_eq_false_iff_not]
  refine whole_int _ _ _ ?_
  simp only [sNil_e, sCons_e, sRet_e, sRetN_e, sIf_e, sPass_e, sNever_e, sExpr_e, sAsg_e, sTgt_e, sPar_e, fCst_e, fVar_e, fMov_e, fOV_e, rdSlot_e, fOP_e, as_val, as_lst, bo_e, sv_e, iv_e, ol_e, fO2_e, fBo_e, fNot_e, fAnd_e, fOr_e, fAndV_e, fOrV_e, fNotV_e, fIf_e, fONil_e, fOCons_e, fLNil_e, fLCons_e, fTup_e, fLst_e, fNeg_e, rdAll_nil, rdAll_cons, fCB_e, fIsI_e, fTName_e, fTsNil_e, fTsCons_e, fTTup_e, fMut_e, sFor_e, sWhile_e, fYes_e, fComp_e, fISeq_e, fIRng1_e, fCall_e, fANil_e, fAV_e, inR_nil, inR_v, inR_s, dropE_nil, dropE_v, dropE_s, outE_nil, outE_v, outE_s, fPNo_e, fPInt_e, fSl_e, fM1_e, fTIx_e, cAdd_i, cAdd_s, cAdd_l, cAdd_t, cSub_i, cMul_i, cFdiv_i, cMod_i, cPow_i, cLt_i, cLe_i, cGt_i, cGe_i, cEq_e, cNe_e, cIs_e, cIsNot_e, cIx_l, cIx_t, cIx_s, cNeg_i, cLen_l, cLen_t, cLen_s, cList_l, cList_t, cTuple_l, cTuple_t, cAll_e, cAny_e, cAbs_i, cInt_b, cInt_i, cStrI_i, cIntS_s, cSplit_s, cJoin_e, cSl_l, cSl_t, cSl_s, mAppend_e, fnM_e, finK_nil, atI_zero, atI_one, ex_some, keepE, wipeE, restE, List.foldr_cons, List.foldr_nil, List.all_cons, List.all_nil, startE, idxs, List.map_cons, List.map_nil, List.length_cons, List.length_nil, Nat.reduceAdd, Nat.reduceSub, Int.reduceToNat, List.reduceReplicate, List.nil_append, List.cons_append, List.append_nil, List.getElem?_cons_zero, List.getElem?_cons_succ, List.set_cons_zero, List.set_cons_succ, Nat.zero_add, Bool.not_true, Bool.not_false, decide_eq_true_eq, if_true, if_false, Bool.false_eq_true, Bool.true_and, Bool.and_true, ite_true, ite_false, reduceIte, eq_self, true_and, and_true, Bool.not_eq_true', decide_eq_false_iff_not]
  rw [if_pos hj]
  refine common_ret _ _ _ _ ?_
  simp only [sNil_e, sCons_e, sRet_e, sRetN_e, sIf_e, sPass_e, sNever_e, sExpr_e, sAsg_e, sTgt_e, sPar_e, fCst_e, fVar_e, fMov_e, fOV_e, rdSlot_e, fOP_e, as_val, as_lst, bo_e, sv_e, iv_e, ol_e, fO2_e, fBo_e, fNot_e, fAnd_e, fOr_e, fAndV_e, fOrV_e, fNotV_e, fIf_e, fONil_e, fOCons_e, fLNil_e, fLCons_e, fTup_e, fLst_e, fNeg_e, rdAll_nil, rdAll_cons, fCB_e, fIsI_e, fTName_e, fTsNil_e, fTsCons_e, fTTup_e, fMut_e, sFor_e, sWhile_e, fYes_e, fComp_e, fISeq_e, fIRng1_e, fCall_e, fANil_e, fAV_e, inR_nil, inR_v, inR_s, dropE_nil, dropE_v, dropE_s, outE_nil, outE_v, outE_s, fPNo_e, fPInt_e, fSl_e, fM1_e, fTIx_e, cAdd_i, cAdd_s, cAdd_l, cAdd_t, cSub_i, cMul_i, cFdiv_i, cMod_i, cPow_i, cLt_i, cLe_i, cGt_i, cGe_i, cEq_e, cNe_e, cIs_e, cIsNot_e, cIx_l, cIx_t, cIx_s, cNeg_i, cLen_l, cLen_t, cLen_s, cList_l, cList_t, cTuple_l, cTuple_t, cAll_e, cAny_e, cAbs_i, cInt_b, cInt_i, cStrI_i, cIntS_s, cSplit_s, cJoin_e, cSl_l, cSl_t, cSl_s, mAppend_e, fnM_e, finK_nil, atI_zero, atI_one, ex_some, keepE, wipeE, restE, List.foldr_cons, List.foldr_nil, List.all_cons, List.all_nil, startE, idxs, List.map_cons, List.map_nil, List.length_cons, List.length_nil, Nat.reduceAdd, Nat.reduceSub, Int.reduceToNat, List.reduceReplicate, List.nil_append, List.cons_append, List.append_nil, List.getElem?_cons_zero, List.getElem?_cons_succ, List.set_cons_zero, List.set_cons_succ, Nat.zero_add, Bool.not_true, Bool.not_false, decide_eq_true_eq, if_true, if_false, Bool.false_eq_true, Bool.true_and, Bool.and_true, ite_true, ite_false, reduceIte, eq_self, true_and, and_true, Bool.not_eq_true', decide_eq_false_iff_not, hg]
  exact ⟨Sh.shaped (n := 0) (.int _), Sh.shaped (n := 0) (.int _), by simpa [PyData.eqv] using h⟩
/-- a ratio's text -/
def rt (i j : Int) : List Nat := if j = 1 then digI i else digI i ++ 47 :: digI j
def Num (i : Int) : Prop := i.natAbs < 10 ^ 60
theorem Num.log {i : Int} (h : Num i) : i.natAbs.log2 < 1920 := by
  unfold Num at h
  have h1 : i.natAbs < 2 ^ 200 := Nat.lt_of_lt_of_le h (by decide)
  by_cases h0 : i.natAbs = 0
  · rw [h0]; decide
  · have := (Nat.log2_lt h0).mpr h1
    omega
theorem slash : ("/" : Str) = mkS [47] := rfl
theorem digI_len {i : Int} (h : Num i) : (digI i).length ≤ 61 := by
  unfold digI
  have := digN_len (k := 60) (by decide) h
  split <;> (try simp only [List.length_cons]) <;> omega
theorem rt_len {i j : Int} (h : Num i) (h2 : Num j) : (rt i j).length ≤ 123 := by
  unfold rt
  have a := digI_len h
  have b := digI_len h2
  split <;> (try simp only [List.length_append, List.length_cons]) <;> omega
theorem small_le {a b : Nat} (ha : a ≤ 200) (hb : b ≤ 200) : a + b ≤ sizeLine := by
  have : (400 : Nat) ≤ sizeLine := by decide
  omega
theorem ratio_text_ret (i j : Int) (hi : Num i) (hj : Num j) : Ret M_ratio_text [.val (.tuple [.int i, .int j])] (.val (.str (mkS (rt i j)))) := by
  intro k kx h
  simp only [M_ratio_text, F_ratio_text, sNil_e, sCons_e, sRet_e, sRetN_e, sIf_e, sPass_e, sNever_e, sExpr_e, sAsg_e, sTgt_e, sPar_e, fCst_e, fVar_e, fMov_e, fOV_e, rdSlot_e, fOP_e, as_val, as_lst, bo_e, sv_e, iv_e, ol_e, fO2_e, fBo_e, fNot_e, fAnd_e, fOr_e, fAndV_e, fOrV_e, fNotV_e, fIf_e, fONil_e, fOCons_e, fLNil_e, fLCons_e, fTup_e, fLst_e, fNeg_e, rdAll_nil, rdAll_cons, fCB_e, fIsI_e, fTName_e, fTsNil_e, fTsCons_e, fTTup_e, fMut_e, sFor_e, sWhile_e, fYes_e, fComp_e, fISeq_e, fIRng1_e, fCall_e, fANil_e, fAV_e, inR_nil, inR_v, inR_s, dropE_nil, dropE_v, dropE_s, outE_nil, outE_v, outE_s, fPNo_e, fPInt_e, fSl_e, fM1_e, fTIx_e, cAdd_i, cAdd_s, cAdd_l, cAdd_t, cSub_i, cMul_i, cFdiv_i, cMod_i, cPow_i, cLt_i, cLe_i, cGt_i, cGe_i, cEq_e, cNe_e, cIs_e, cIsNot_e, cIx_l, cIx_t, cIx_s, cNeg_i, cLen_l, cLen_t, cLen_s, cList_l, cList_t, cTuple_l, cTuple_t, cAll_e, cAny_e, cAbs_i, cInt_b, cInt_i, cStrI_i, cIntS_s, cSplit_s, cJoin_e, cSl_l, cSl_t, cSl_s, mAppend_e, fnM_e, finK_nil, atI_zero, atI_one, ex_some, keepE, wipeE, restE, List.foldr_cons, List.foldr_nil, List.all_cons, List.all_nil, startE, idxs, List.map_cons, List.map_nil, List.length_cons, List.length_nil, Nat.reduceAdd, Nat.reduceSub, Int.reduceToNat, List.reduceReplicate, List.nil_append, List.cons_append, List.append_nil, List.getElem?_cons_zero, List.getElem?_cons_succ, List.set_cons_zero, List.set_cons_succ, Nat.zero_add, Bool.not_true, Bool.not_false, decide_eq_true_eq, if_true, if_false, Bool.false_eq_true, Bool.true_and, Bool.and_true, ite_true, ite_false, reduceIte, eq_self, true_and, and_true, Bool.not_eq_true', decide_eq_false_iff_not]
  refine ⟨Sh.shaped (n := 0) (.int _), Sh.shaped (n := 0) (.int _), ?_⟩
  unfold rt at h
  have a := digI_len hi
  have b := digI_len hj
  by_cases e : j = 1
  · rw [if_pos (by simp [PyData.eqv, e])]
    rw [if_pos e] at h
    exact ⟨hi.log, by rw [str_int]; exact h⟩
  · rw [if_neg (by simp [PyData.eqv, e])]
    rw [if_neg e] at h
    simp only [str_int, slash, mkS_app, mkS_len, List.length_append, List.length_cons, List.length_nil] at h ⊢
    exact ⟨hi.log, small_le (by omega) (by omega), hj.log, small_le (by omega) (by omega), by simpa using h⟩
theorem law_text_ret (i j : Int) (hi : Num i) (hj : Num j) : Ret M__law_text [.val (.tuple [.int i, .int j])] (.val (.str (mkS (rt i j)))) := ratio_text_ret i j hi hj
theorem dig_char : ∀ c, 48 ≤ c → c ≤ 57 → c ∈ ("0123456789" : Str).cps.toList := by
  intro c h1 h2
  have : ∀ d : Fin 10, (48 + d.val) ∈ ("0123456789" : Str).cps.toList := by decide +kernel
  have := this ⟨c - 48, by omega⟩
  rwa [show 48 + (c - 48) = c by omega] at this
theorem digs_ok {l : List Nat} (h : ∀ c ∈ l, c < 1000) : PyData.strOk (mkS l) = true := by
  unfold PyData.strOk
  rw [Array.all_eq_true_iff_forall_mem]
  intro c hc
  have := h c (by simpa [mkS] using hc)
  simp
  omega
theorem digN_small {n c : Nat} (h : c ∈ digN n) : c < 1000 := by
  have := digN_dig h
  omega
theorem digI_small {i : Int} {c : Nat} (h : c ∈ digI i) : c < 1000 := by
  unfold digI at h
  split at h
  · rcases List.mem_cons.mp h with h | h
    · omega
    · exact digN_small h
  · exact digN_small h
theorem rt_small {i j : Int} {c : Nat} (h : c ∈ rt i j) : c < 1000 := by
  unfold rt at h
  split at h
  · exact digI_small h
  · rcases List.mem_append.mp h with h | h
    · exact digI_small h
    · rcases List.mem_cons.mp h with h | h
      · omega
      · exact digI_small h
theorem str_eqv {a b : List Nat} : PyData.eqv (.str (mkS a)) (.str (mkS b)) = decide (a = b) := by
  by_cases h : a = b
  · subst h; simp [PyData.eqv]
  · rw [eqv_no rfl rfl (fun e => h (by injection e with e; exact mkS_inj e))]
    simp [h]
theorem number_read_ret (n : Nat) (hn : n < 10 ^ 60) : Ret M_number_read [.val (.str (mkS (digN n)))] (.val (.int n)) := by
  intro k kx h
  have hl := digN_len (k := 60) (by decide) hn
  simp only [M_number_read, F_number_read, sNil_e, sCons_e, sRet_e, sRetN_e, sIf_e, sPass_e, sNever_e, sExpr_e, sAsg_e, sTgt_e, sPar_e, fCst_e, fVar_e, fMov_e, fOV_e, rdSlot_e, fOP_e, as_val, as_lst, bo_e, sv_e, iv_e, ol_e, fO2_e, fBo_e, fNot_e, fAnd_e, fOr_e, fAndV_e, fOrV_e, fNotV_e, fIf_e, fONil_e, fOCons_e, fLNil_e, fLCons_e, fTup_e, fLst_e, fNeg_e, rdAll_nil, rdAll_cons, fCB_e, fIsI_e, fTName_e, fTsNil_e, fTsCons_e, fTTup_e, fMut_e, sFor_e, sWhile_e, fYes_e, fComp_e, fISeq_e, fIRng1_e, fCall_e, fANil_e, fAV_e, inR_nil, inR_v, inR_s, dropE_nil, dropE_v, dropE_s, outE_nil, outE_v, outE_s, fPNo_e, fPInt_e, fSl_e, fM1_e, fTIx_e, cAdd_i, cAdd_s, cAdd_l, cAdd_t, cSub_i, cMul_i, cFdiv_i, cMod_i, cPow_i, cLt_i, cLe_i, cGt_i, cGe_i, cEq_e, cNe_e, cIs_e, cIsNot_e, cIx_l, cIx_t, cIx_s, cNeg_i, cLen_l, cLen_t, cLen_s, cList_l, cList_t, cTuple_l, cTuple_t, cAll_e, cAny_e, cAbs_i, cInt_b, cInt_i, cStrI_i, cIntS_s, cSplit_s, cJoin_e, cSl_l, cSl_t, cSl_s, mAppend_e, fnM_e, finK_nil, atI_zero, atI_one, ex_some, keepE, wipeE, restE, List.foldr_cons, List.foldr_nil, List.all_cons, List.all_nil, startE, idxs, List.map_cons, List.map_nil, List.length_cons, List.length_nil, Nat.reduceAdd, Nat.reduceSub, Int.reduceToNat, List.reduceReplicate, List.nil_append, List.cons_append, List.append_nil, List.getElem?_cons_zero, List.getElem?_cons_succ, List.set_cons_zero, List.set_cons_succ, Nat.zero_add, Bool.not_true, Bool.not_false, decide_eq_true_eq, if_true, if_false, Bool.false_eq_true, Bool.true_and, Bool.and_true, ite_true, ite_false, reduceIte, eq_self, true_and, and_true, Bool.not_eq_true', decide_eq_false_iff_not]
  have e0 : Str.ofString "0" = mkS [48] := rfl
  have e1 : Str.ofString "" = mkS [] := rfl
  have sz : (200 : Nat) ≤ sizeLine := by decide
  obtain ⟨c, r, hc⟩ : ∃ c r, digN n = c :: r := by
    cases q : digN n with
    | nil => exact absurd q (digN_ne n)
    | cons c r => exact ⟨c, r, rfl⟩
  refine ⟨Sh.shaped (n := 0) (.str (digs_ok fun c => digN_small)), Sh.shaped (n := 0) (.str (digs_ok (l := []) (by simp))), ?_⟩
  rw [e1, str_eqv, if_neg (by simpa using digN_ne n)]
  refine ⟨by rw [mkS_len]; omega, ?_⟩
  rw [if_neg (by rw [mkS_len]; omega)]
  refine ⟨by simp [signsD]; omega, ?_⟩
  refine compGo_map (f := fun _ => .bool true) rfl _ _ (fun d hd k hk => ?_) ?_
  · obtain ⟨z, hz, rfl⟩ := List.mem_map.mp hd
    have hz' := digN_dig (by simpa using hz)
    simp only [sNil_e, sCons_e, sRet_e, sRetN_e, sIf_e, sPass_e, sNever_e, sExpr_e, sAsg_e, sTgt_e, sPar_e, fCst_e, fVar_e, fMov_e, fOV_e, rdSlot_e, fOP_e, as_val, as_lst, bo_e, sv_e, iv_e, ol_e, fO2_e, fBo_e, fNot_e, fAnd_e, fOr_e, fAndV_e, fOrV_e, fNotV_e, fIf_e, fONil_e, fOCons_e, fLNil_e, fLCons_e, fTup_e, fLst_e, fNeg_e, rdAll_nil, rdAll_cons, fCB_e, fIsI_e, fTName_e, fTsNil_e, fTsCons_e, fTTup_e, fMut_e, sFor_e, sWhile_e, fYes_e, fComp_e, fISeq_e, fIRng1_e, fCall_e, fANil_e, fAV_e, inR_nil, inR_v, inR_s, dropE_nil, dropE_v, dropE_s, outE_nil, outE_v, outE_s, fPNo_e, fPInt_e, fSl_e, fM1_e, fTIx_e, cAdd_i, cAdd_s, cAdd_l, cAdd_t, cSub_i, cMul_i, cFdiv_i, cMod_i, cPow_i, cLt_i, cLe_i, cGt_i, cGe_i, cEq_e, cNe_e, cIs_e, cIsNot_e, cIx_l, cIx_t, cIx_s, cNeg_i, cLen_l, cLen_t, cLen_s, cList_l, cList_t, cTuple_l, cTuple_t, cAll_e, cAny_e, cAbs_i, cInt_b, cInt_i, cStrI_i, cIntS_s, cSplit_s, cJoin_e, cSl_l, cSl_t, cSl_s, mAppend_e, fnM_e, finK_nil, atI_zero, atI_one, ex_some, keepE, wipeE, restE, List.foldr_cons, List.foldr_nil, List.all_cons, List.all_nil, startE, idxs, List.map_cons, List.map_nil, List.length_cons, List.length_nil, Nat.reduceAdd, Nat.reduceSub, Int.reduceToNat, List.reduceReplicate, List.nil_append, List.cons_append, List.append_nil, List.getElem?_cons_zero, List.getElem?_cons_succ, List.set_cons_zero, List.set_cons_succ, Nat.zero_add, Bool.not_true, Bool.not_false, decide_eq_true_eq, if_true, if_false, Bool.false_eq_true, Bool.true_and, Bool.and_true, ite_true, ite_false, reduceIte, eq_self, true_and, and_true, Bool.not_eq_true', decide_eq_false_iff_not]
    refine ⟨z, rfl, ?_⟩
    rw [if_neg (by simp)]
    simpa [dig_char z hz'.1 hz'.2] using hk
  · refine ⟨(digN n).map fun _ => true, by simp [signsD], ?_⟩
    rw [if_neg (by simp)]
    simp only [sNil_e, sCons_e, sRet_e, sRetN_e, sIf_e, sPass_e, sNever_e, sExpr_e, sAsg_e, sTgt_e, sPar_e, fCst_e, fVar_e, fMov_e, fOV_e, rdSlot_e, fOP_e, as_val, as_lst, bo_e, sv_e, iv_e, ol_e, fO2_e, fBo_e, fNot_e, fAnd_e, fOr_e, fAndV_e, fOrV_e, fNotV_e, fIf_e, fONil_e, fOCons_e, fLNil_e, fLCons_e, fTup_e, fLst_e, fNeg_e, rdAll_nil, rdAll_cons, fCB_e, fIsI_e, fTName_e, fTsNil_e, fTsCons_e, fTTup_e, fMut_e, sFor_e, sWhile_e, fYes_e, fComp_e, fISeq_e, fIRng1_e, fCall_e, fANil_e, fAV_e, inR_nil, inR_v, inR_s, dropE_nil, dropE_v, dropE_s, outE_nil, outE_v, outE_s, fPNo_e, fPInt_e, fSl_e, fM1_e, fTIx_e, cAdd_i, cAdd_s, cAdd_l, cAdd_t, cSub_i, cMul_i, cFdiv_i, cMod_i, cPow_i, cLt_i, cLe_i, cGt_i, cGe_i, cEq_e, cNe_e, cIs_e, cIsNot_e, cIx_l, cIx_t, cIx_s, cNeg_i, cLen_l, cLen_t, cLen_s, cList_l, cList_t, cTuple_l, cTuple_t, cAll_e, cAny_e, cAbs_i, cInt_b, cInt_i, cStrI_i, cIntS_s, cSplit_s, cJoin_e, cSl_l, cSl_t, cSl_s, mAppend_e, fnM_e, finK_nil, atI_zero, atI_one, ex_some, keepE, wipeE, restE, List.foldr_cons, List.foldr_nil, List.all_cons, List.all_nil, startE, idxs, List.map_cons, List.map_nil, List.length_cons, List.length_nil, Nat.reduceAdd, Nat.reduceSub, Int.reduceToNat, List.reduceReplicate, List.nil_append, List.cons_append, List.append_nil, List.getElem?_cons_zero, List.getElem?_cons_succ, List.set_cons_zero, List.set_cons_succ, Nat.zero_add, Bool.not_true, Bool.not_false, decide_eq_true_eq, if_true, if_false, Bool.false_eq_true, Bool.true_and, Bool.and_true, ite_true, ite_false, reduceIte, eq_self, true_and, and_true, Bool.not_eq_true', decide_eq_false_iff_not]
    refine ⟨by rw [mkS_len]; omega, c, ?_, ?_⟩
    · rw [mkS_toList, hc, atI_zero]
    refine ⟨Sh.shaped (n := 0) (.str (digs_ok (l := [c]) fun x hx => digN_small (n := n) (by rw [hc]; simp at hx; simp [hx]))), Sh.shaped (n := 0) (.str (digs_ok (l := [48]) (by simp))), ?_⟩
    have fin : cIntS [PyData.str (mkS (digN n))] (fun z => k z []) := by
      rw [cIntS_s]
      exact ⟨n, int_of_digN (by omega), by rw [mkS_len]; omega, h⟩
    rw [e0, show (⟨#[c]⟩ : Str) = mkS [c] from rfl, str_eqv]
    split
    · rename_i hz
      have : c = 48 := by simpa using hz
      subst this
      obtain rfl := digN_head n r hc
      refine ⟨Sh.shaped (n := 0) (.str (digs_ok fun c => digN_small)), Sh.shaped (n := 0) (.str (digs_ok (l := [48]) (by simp))), ?_⟩
      rw [str_eqv, digN_zero]
      rw [digN_zero] at fin
      rw [if_neg (by simp)]
      exact fin
    · exact fin
/-! ### a ratio's text, read -/
theorem digN_no {n c : Nat} (h : c < 48 ∨ 57 < c) : c ∉ digN n := fun hm => by
  have := digN_dig hm
  omega
theorem digI_no {i : Int} {c : Nat} (h : c < 45 ∨ (45 < c ∧ c < 48) ∨ 57 < c) : c ∉ digI i := fun hm => by
  unfold digI at hm
  split at hm
  · rcases List.mem_cons.mp hm with h | h
    · omega
    · have := digN_dig h
      omega
  · have := digN_dig hm
    omega
theorem rt_cut (i j : Int) : cutOn 47 (rt i j) = if j = 1 then [digI i] else [digI i, digI j] := by
  unfold rt
  split
  · exact cutOn_free (digI_no (by decide))
  · rw [cutOn_app (digI_no (by decide)), cutOn_free (digI_no (by decide))]
theorem cutS_one (c : Nat) (l : List Nat) : cutS (mkS (c :: l)) none (some 1) = mkS [c] := by
  unfold cutS
  show mkS _ = _
  rfl
theorem cutS_rest (c : Nat) (l : List Nat) : cutS (mkS (c :: l)) (some 1) none = mkS l := by
  unfold cutS
  show mkS _ = _
  refine congrArg mkS ?_
  have e1 : HT.sIx (mkS (c :: l)).length 0 (some 1) = 1 := by
    rw [show (some (1 : Int)) = some ((1 : Nat) : Int) from rfl, HT.sIx_nat, mkS_len, List.length_cons]
    omega
  rw [e1, HT.sIx_none]
  simp
def readD : D → D
  | .str x => match intText? x with
    | some i => .int i
    | none => .none
  | d => d
theorem readD_dig {n : Nat} (h : n < 10 ^ 60) : readD (.str (mkS (digN n))) = .int n := by
  have := digN_len (k := 60) (by decide) h
  simp only [readD]
  rw [int_of_digN (by omega)]
theorem cIn_none {ys : List D} {κ : R → Prop} (h : ∀ y ∈ ys, (∃ i, y = .int i) ∨ (∃ i j, y = .tuple [.int i, .int j])) (hk : κ (.val (.bool false))) : cIn false .none (.list ys) κ := by
  refine ⟨.inr ⟨Sh.shaped (n := 0) .non, Sh.shaped (n := 3) (Sh.list fun y hy => ?_)⟩, ?_⟩
  · rcases h y hy with ⟨i, rfl⟩ | ⟨i, j, rfl⟩
    · exact .int _
    · exact Sh.tuple fun x hx => by
        simp at hx
        rcases hx with rfl | rfl <;> exact .int _
  · have : (ys.any fun y => PyData.eqv y .none) = false := by
      rw [List.any_eq_false]
      intro y hy
      rcases h y hy with ⟨i, rfl⟩ | ⟨i, j, rfl⟩ <;> simp [PyData.eqv]
    rw [this]
    exact hk
theorem ratio_of_word_ret (i j : Int) (hi : Num i) (hj : Num j) (h0 : 0 < j) (hg : gcdI i j = 1) : Ret M_ratio_of_word [.val (.str (mkS (rt i j)))] (.val (.tuple [.int i, .int j])) := by
  intro k kx h
  have hl := rt_len hi hj
  have sz : (200 : Nat) ≤ sizeLine := by decide
  rw [M_ratio_of_word, fnM_e, F_ratio_of_word]
  rw [sCons_e]; simp only [sNil_e, sRet_e, sRetN_e, sIf_e, sPass_e, sNever_e, sExpr_e, sAsg_e, sTgt_e, sPar_e, fCst_e, fVar_e, fMov_e, fOV_e, rdSlot_e, fOP_e, as_val, as_lst, bo_e, sv_e, iv_e, ol_e, fO2_e, fBo_e, fNot_e, fAnd_e, fOr_e, fAndV_e, fOrV_e, fNotV_e, fIf_e, fONil_e, fOCons_e, fLNil_e, fLCons_e, fTup_e, fLst_e, fNeg_e, rdAll_nil, rdAll_cons, fCB_e, fIsI_e, fTName_e, fTsNil_e, fTsCons_e, fTTup_e, fMut_e, sFor_e, sWhile_e, fYes_e, fComp_e, fISeq_e, fIRng1_e, fCall_e, fANil_e, fAV_e, inR_nil, inR_v, inR_s, dropE_nil, dropE_v, dropE_s, outE_nil, outE_v, outE_s, fPNo_e, fPInt_e, fSl_e, fM1_e, fTIx_e, cAdd_i, cAdd_s, cAdd_l, cAdd_t, cSub_i, cMul_i, cFdiv_i, cMod_i, cPow_i, cLt_i, cLe_i, cGt_i, cGe_i, cEq_e, cNe_e, cIs_e, cIsNot_e, cIx_l, cIx_t, cIx_s, cNeg_i, cLen_l, cLen_t, cLen_s, cList_l, cList_t, cTuple_l, cTuple_t, cAll_e, cAny_e, cAbs_i, cInt_b, cInt_i, cStrI_i, cIntS_s, cSplit_s, cJoin_e, cSl_l, cSl_t, cSl_s, mAppend_e, fnM_e, finK_nil, atI_zero, atI_one, ex_some, keepE, wipeE, restE, List.foldr_cons, List.foldr_nil, List.all_cons, List.all_nil, startE, idxs, List.map_cons, List.map_nil, List.length_cons, List.length_nil, Nat.reduceAdd, Nat.reduceSub, Int.reduceToNat, List.reduceReplicate, List.nil_append, List.cons_append, List.append_nil, List.getElem?_cons_zero, List.getElem?_cons_succ, List.set_cons_zero, List.set_cons_succ, Nat.zero_add, Bool.not_true, Bool.not_false, decide_eq_true_eq, if_true, if_false, Bool.false_eq_true, Bool.true_and, Bool.and_true, ite_true, ite_false, reduceIte, eq_self, true_and, and_true, Bool.not_eq_true', decide_eq_false_iff_not, slash]
  refine ⟨by simp, by rw [mkS_len]; omega, ?_⟩
  rw [show mkS [47] = ⟨#[47]⟩ from rfl, split_one, mkS_toList, rt_cut]
  rw [sCons_e]; simp only [sNil_e, sRet_e, sRetN_e, sIf_e, sPass_e, sNever_e, sExpr_e, sAsg_e, sTgt_e, sPar_e, fCst_e, fVar_e, fMov_e, fOV_e, rdSlot_e, fOP_e, as_val, as_lst, bo_e, sv_e, iv_e, ol_e, fO2_e, fBo_e, fNot_e, fAnd_e, fOr_e, fAndV_e, fOrV_e, fNotV_e, fIf_e, fONil_e, fOCons_e, fLNil_e, fLCons_e, fTup_e, fLst_e, fNeg_e, rdAll_nil, rdAll_cons, fCB_e, fIsI_e, fTName_e, fTsNil_e, fTsCons_e, fTTup_e, fMut_e, sFor_e, sWhile_e, fYes_e, fComp_e, fISeq_e, fIRng1_e, fCall_e, fANil_e, fAV_e, inR_nil, inR_v, inR_s, dropE_nil, dropE_v, dropE_s, outE_nil, outE_v, outE_s, fPNo_e, fPInt_e, fSl_e, fM1_e, fTIx_e, cAdd_i, cAdd_s, cAdd_l, cAdd_t, cSub_i, cMul_i, cFdiv_i, cMod_i, cPow_i, cLt_i, cLe_i, cGt_i, cGe_i, cEq_e, cNe_e, cIs_e, cIsNot_e, cIx_l, cIx_t, cIx_s, cNeg_i, cLen_l, cLen_t, cLen_s, cList_l, cList_t, cTuple_l, cTuple_t, cAll_e, cAny_e, cAbs_i, cInt_b, cInt_i, cStrI_i, cIntS_s, cSplit_s, cJoin_e, cSl_l, cSl_t, cSl_s, mAppend_e, fnM_e, finK_nil, atI_zero, atI_one, ex_some, keepE, wipeE, restE, List.foldr_cons, List.foldr_nil, List.all_cons, List.all_nil, startE, idxs, List.map_cons, List.map_nil, List.length_cons, List.length_nil, Nat.reduceAdd, Nat.reduceSub, Int.reduceToNat, List.reduceReplicate, List.nil_append, List.cons_append, List.append_nil, List.getElem?_cons_zero, List.getElem?_cons_succ, List.set_cons_zero, List.set_cons_succ, Nat.zero_add, Bool.not_true, Bool.not_false, decide_eq_true_eq, if_true, if_false, Bool.false_eq_true, Bool.true_and, Bool.and_true, ite_true, ite_false, reduceIte, eq_self, true_and, and_true, Bool.not_eq_true', decide_eq_false_iff_not]
  generalize hT : sCons (sAsg 3 _) _ = T
  have key : ∀ (dn : Dn) (sg : Int) (n : Nat), dn.rt = (fun r ρ => k r []) → i = sg * n → (sg = 1 ∨ sg = -1 ∧ n ≠ 0) → n < 10 ^ 60 →
      T dn [some (R.val (PyData.str (mkS (rt i j)))), some (R.olst (List.map PyData.str (List.map mkS (if j = 1 then [digN n] else [digN n, digI j])))), some (R.val (PyData.int sg)), none, none, none] := by
    intro dn sg n hrt hin hsg hn
    subst hT
    have ej : digI j = digN j.natAbs := by unfold digI; rw [if_neg (by omega)]
    rw [ej, sCons_e]; simp only [sNil_e, sRet_e, sRetN_e, sIf_e, sPass_e, sNever_e, sExpr_e, sAsg_e, sTgt_e, sPar_e, fCst_e, fVar_e, fMov_e, fOV_e, rdSlot_e, fOP_e, as_val, as_lst, bo_e, sv_e, iv_e, ol_e, fO2_e, fBo_e, fNot_e, fAnd_e, fOr_e, fAndV_e, fOrV_e, fNotV_e, fIf_e, fONil_e, fOCons_e, fLNil_e, fLCons_e, fTup_e, fLst_e, fNeg_e, rdAll_nil, rdAll_cons, fCB_e, fIsI_e, fTName_e, fTsNil_e, fTsCons_e, fTTup_e, fMut_e, sFor_e, sWhile_e, fYes_e, fComp_e, fISeq_e, fIRng1_e, fCall_e, fANil_e, fAV_e, inR_nil, inR_v, inR_s, dropE_nil, dropE_v, dropE_s, outE_nil, outE_v, outE_s, fPNo_e, fPInt_e, fSl_e, fM1_e, fTIx_e, cAdd_i, cAdd_s, cAdd_l, cAdd_t, cSub_i, cMul_i, cFdiv_i, cMod_i, cPow_i, cLt_i, cLe_i, cGt_i, cGe_i, cEq_e, cNe_e, cIs_e, cIsNot_e, cIx_l, cIx_t, cIx_s, cNeg_i, cLen_l, cLen_t, cLen_s, cList_l, cList_t, cTuple_l, cTuple_t, cAll_e, cAny_e, cAbs_i, cInt_b, cInt_i, cStrI_i, cIntS_s, cSplit_s, cJoin_e, cSl_l, cSl_t, cSl_s, mAppend_e, fnM_e, finK_nil, atI_zero, atI_one, ex_some, keepE, wipeE, restE, List.foldr_cons, List.foldr_nil, List.all_cons, List.all_nil, startE, idxs, List.map_cons, List.map_nil, List.length_cons, List.length_nil, Nat.reduceAdd, Nat.reduceSub, Int.reduceToNat, List.reduceReplicate, List.nil_append, List.cons_append, List.append_nil, List.getElem?_cons_zero, List.getElem?_cons_succ, List.set_cons_zero, List.set_cons_succ, Nat.zero_add, Bool.not_true, Bool.not_false, decide_eq_true_eq, if_true, if_false, Bool.false_eq_true, Bool.true_and, Bool.and_true, ite_true, ite_false, reduceIte, eq_self, true_and, and_true, Bool.not_eq_true', decide_eq_false_iff_not]
    refine ⟨by simp only [List.length_map]; split <;> simp <;> omega, ?_⟩
    refine compGo_map (f := readD) rfl _ _ (fun d hd k hk => ?_) ?_
    · have hd2 : d = .str (mkS (digN n)) ∨ d = .str (mkS (digN j.natAbs)) := by
        simp only [List.mem_map] at hd
        obtain ⟨a, ⟨b, hb, rfl⟩, rfl⟩ := hd
        split at hb <;> simp at hb
        · exact .inl (by rw [hb])
        · rcases hb with hb | hb
          · exact .inl (by rw [hb])
          · exact .inr (by rw [hb])
      simp only [sNil_e, sCons_e, sRet_e, sRetN_e, sIf_e, sPass_e, sNever_e, sExpr_e, sAsg_e, sTgt_e, sPar_e, fCst_e, fVar_e, fMov_e, fOV_e, rdSlot_e, fOP_e, as_val, as_lst, bo_e, sv_e, iv_e, ol_e, fO2_e, fBo_e, fNot_e, fAnd_e, fOr_e, fAndV_e, fOrV_e, fNotV_e, fIf_e, fONil_e, fOCons_e, fLNil_e, fLCons_e, fTup_e, fLst_e, fNeg_e, rdAll_nil, rdAll_cons, fCB_e, fIsI_e, fTName_e, fTsNil_e, fTsCons_e, fTTup_e, fMut_e, sFor_e, sWhile_e, fYes_e, fComp_e, fISeq_e, fIRng1_e, fCall_e, fANil_e, fAV_e, inR_nil, inR_v, inR_s, dropE_nil, dropE_v, dropE_s, outE_nil, outE_v, outE_s, fPNo_e, fPInt_e, fSl_e, fM1_e, fTIx_e, cAdd_i, cAdd_s, cAdd_l, cAdd_t, cSub_i, cMul_i, cFdiv_i, cMod_i, cPow_i, cLt_i, cLe_i, cGt_i, cGe_i, cEq_e, cNe_e, cIs_e, cIsNot_e, cIx_l, cIx_t, cIx_s, cNeg_i, cLen_l, cLen_t, cLen_s, cList_l, cList_t, cTuple_l, cTuple_t, cAll_e, cAny_e, cAbs_i, cInt_b, cInt_i, cStrI_i, cIntS_s, cSplit_s, cJoin_e, cSl_l, cSl_t, cSl_s, mAppend_e, fnM_e, finK_nil, atI_zero, atI_one, ex_some, keepE, wipeE, restE, List.foldr_cons, List.foldr_nil, List.all_cons, List.all_nil, startE, idxs, List.map_cons, List.map_nil, List.length_cons, List.length_nil, Nat.reduceAdd, Nat.reduceSub, Int.reduceToNat, List.reduceReplicate, List.nil_append, List.cons_append, List.append_nil, List.getElem?_cons_zero, List.getElem?_cons_succ, List.set_cons_zero, List.set_cons_succ, Nat.zero_add, Bool.not_true, Bool.not_false, decide_eq_true_eq, if_true, if_false, Bool.false_eq_true, Bool.true_and, Bool.and_true, ite_true, ite_false, reduceIte, eq_self, true_and, and_true, Bool.not_eq_true', decide_eq_false_iff_not]
      rcases hd2 with rfl | rfl
      · refine number_read_ret n hn _ _ ?_
        rw [readD_dig hn] at hk
        simpa only [sNil_e, sCons_e, sRet_e, sRetN_e, sIf_e, sPass_e, sNever_e, sExpr_e, sAsg_e, sTgt_e, sPar_e, fCst_e, fVar_e, fMov_e, fOV_e, rdSlot_e, fOP_e, as_val, as_lst, bo_e, sv_e, iv_e, ol_e, fO2_e, fBo_e, fNot_e, fAnd_e, fOr_e, fAndV_e, fOrV_e, fNotV_e, fIf_e, fONil_e, fOCons_e, fLNil_e, fLCons_e, fTup_e, fLst_e, fNeg_e, rdAll_nil, rdAll_cons, fCB_e, fIsI_e, fTName_e, fTsNil_e, fTsCons_e, fTTup_e, fMut_e, sFor_e, sWhile_e, fYes_e, fComp_e, fISeq_e, fIRng1_e, fCall_e, fANil_e, fAV_e, inR_nil, inR_v, inR_s, dropE_nil, dropE_v, dropE_s, outE_nil, outE_v, outE_s, fPNo_e, fPInt_e, fSl_e, fM1_e, fTIx_e, cAdd_i, cAdd_s, cAdd_l, cAdd_t, cSub_i, cMul_i, cFdiv_i, cMod_i, cPow_i, cLt_i, cLe_i, cGt_i, cGe_i, cEq_e, cNe_e, cIs_e, cIsNot_e, cIx_l, cIx_t, cIx_s, cNeg_i, cLen_l, cLen_t, cLen_s, cList_l, cList_t, cTuple_l, cTuple_t, cAll_e, cAny_e, cAbs_i, cInt_b, cInt_i, cStrI_i, cIntS_s, cSplit_s, cJoin_e, cSl_l, cSl_t, cSl_s, mAppend_e, fnM_e, finK_nil, atI_zero, atI_one, ex_some, keepE, wipeE, restE, List.foldr_cons, List.foldr_nil, List.all_cons, List.all_nil, startE, idxs, List.map_cons, List.map_nil, List.length_cons, List.length_nil, Nat.reduceAdd, Nat.reduceSub, Int.reduceToNat, List.reduceReplicate, List.nil_append, List.cons_append, List.append_nil, List.getElem?_cons_zero, List.getElem?_cons_succ, List.set_cons_zero, List.set_cons_succ, Nat.zero_add, Bool.not_true, Bool.not_false, decide_eq_true_eq, if_true, if_false, Bool.false_eq_true, Bool.true_and, Bool.and_true, ite_true, ite_false, reduceIte, eq_self, true_and, and_true, Bool.not_eq_true', decide_eq_false_iff_not] using hk
      · refine number_read_ret _ hj _ _ ?_
        rw [readD_dig hj] at hk
        simpa only [sNil_e, sCons_e, sRet_e, sRetN_e, sIf_e, sPass_e, sNever_e, sExpr_e, sAsg_e, sTgt_e, sPar_e, fCst_e, fVar_e, fMov_e, fOV_e, rdSlot_e, fOP_e, as_val, as_lst, bo_e, sv_e, iv_e, ol_e, fO2_e, fBo_e, fNot_e, fAnd_e, fOr_e, fAndV_e, fOrV_e, fNotV_e, fIf_e, fONil_e, fOCons_e, fLNil_e, fLCons_e, fTup_e, fLst_e, fNeg_e, rdAll_nil, rdAll_cons, fCB_e, fIsI_e, fTName_e, fTsNil_e, fTsCons_e, fTTup_e, fMut_e, sFor_e, sWhile_e, fYes_e, fComp_e, fISeq_e, fIRng1_e, fCall_e, fANil_e, fAV_e, inR_nil, inR_v, inR_s, dropE_nil, dropE_v, dropE_s, outE_nil, outE_v, outE_s, fPNo_e, fPInt_e, fSl_e, fM1_e, fTIx_e, cAdd_i, cAdd_s, cAdd_l, cAdd_t, cSub_i, cMul_i, cFdiv_i, cMod_i, cPow_i, cLt_i, cLe_i, cGt_i, cGe_i, cEq_e, cNe_e, cIs_e, cIsNot_e, cIx_l, cIx_t, cIx_s, cNeg_i, cLen_l, cLen_t, cLen_s, cList_l, cList_t, cTuple_l, cTuple_t, cAll_e, cAny_e, cAbs_i, cInt_b, cInt_i, cStrI_i, cIntS_s, cSplit_s, cJoin_e, cSl_l, cSl_t, cSl_s, mAppend_e, fnM_e, finK_nil, atI_zero, atI_one, ex_some, keepE, wipeE, restE, List.foldr_cons, List.foldr_nil, List.all_cons, List.all_nil, startE, idxs, List.map_cons, List.map_nil, List.length_cons, List.length_nil, Nat.reduceAdd, Nat.reduceSub, Int.reduceToNat, List.reduceReplicate, List.nil_append, List.cons_append, List.append_nil, List.getElem?_cons_zero, List.getElem?_cons_succ, List.set_cons_zero, List.set_cons_succ, Nat.zero_add, Bool.not_true, Bool.not_false, decide_eq_true_eq, if_true, if_false, Bool.false_eq_true, Bool.true_and, Bool.and_true, ite_true, ite_false, reduceIte, eq_self, true_and, and_true, Bool.not_eq_true', decide_eq_false_iff_not] using hk
    have hm : MulOk sg n := by
      refine mulx_ok (a := 1) (b := 200) (by rcases hsg with rfl | ⟨rfl, _⟩ <;> decide) ?_ (by decide)
      exact Nat.lt_of_lt_of_le hn (by decide)
    have hflat : flatD PyData.none = true := rfl
    have hneg : ¬ ((n : Int) = 0 ∧ sg < 0) := by
      rintro ⟨a, b⟩
      rcases hsg with rfl | ⟨rfl, c⟩
      · omega
      · omega
    have ez : (PyData.int n).eqv (PyData.int 0) = decide ((n : Int) = 0) := Bool.eq_iff_iff.mpr (by simp [PyData.eqv])
    have en : sg * (n : Int) = i := hin.symm
    by_cases e : j = 1
    · simp only [if_pos e, List.map_cons, List.map_nil, readD_dig hn, sNil_e, sRet_e, sRetN_e, sIf_e, sPass_e, sNever_e, sExpr_e, sAsg_e, sTgt_e, sPar_e, fCst_e, fVar_e, fMov_e, fOV_e, rdSlot_e, fOP_e, as_val, as_lst, bo_e, sv_e, iv_e, ol_e, fO2_e, fBo_e, fNot_e, fAnd_e, fOr_e, fAndV_e, fOrV_e, fNotV_e, fIf_e, fONil_e, fOCons_e, fLNil_e, fLCons_e, fTup_e, fLst_e, fNeg_e, rdAll_nil, rdAll_cons, fCB_e, fIsI_e, fTName_e, fTsNil_e, fTsCons_e, fTTup_e, fMut_e, sFor_e, sWhile_e, fYes_e, fComp_e, fISeq_e, fIRng1_e, fCall_e, fANil_e, fAV_e, inR_nil, inR_v, inR_s, dropE_nil, dropE_v, dropE_s, outE_nil, outE_v, outE_s, fPNo_e, fPInt_e, fSl_e, fM1_e, fTIx_e, cAdd_i, cAdd_s, cAdd_l, cAdd_t, cSub_i, cMul_i, cFdiv_i, cMod_i, cPow_i, cLt_i, cLe_i, cGt_i, cGe_i, cEq_e, cNe_e, cIs_e, cIsNot_e, cIx_l, cIx_t, cIx_s, cNeg_i, cLen_l, cLen_t, cLen_s, cList_l, cList_t, cTuple_l, cTuple_t, cAll_e, cAny_e, cAbs_i, cInt_b, cInt_i, cStrI_i, cIntS_s, cSplit_s, cJoin_e, cSl_l, cSl_t, cSl_s, mAppend_e, fnM_e, finK_nil, atI_zero, atI_one, ex_some, keepE, wipeE, restE, List.foldr_cons, List.foldr_nil, List.all_cons, List.all_nil, startE, idxs, List.map_cons, List.map_nil, List.length_cons, List.length_nil, Nat.reduceAdd, Nat.reduceSub, Int.reduceToNat, List.reduceReplicate, List.nil_append, List.cons_append, List.append_nil, List.getElem?_cons_zero, List.getElem?_cons_succ, List.set_cons_zero, List.set_cons_succ, Nat.zero_add, Bool.not_true, Bool.not_false, decide_eq_true_eq, if_true, if_false, Bool.false_eq_true, Bool.true_and, Bool.and_true, ite_true, ite_false, reduceIte, eq_self, true_and, and_true, Bool.not_eq_true', decide_eq_false_iff_not]
      rw [sCons_e]; simp only [sNil_e, sRet_e, sRetN_e, sIf_e, sPass_e, sNever_e, sExpr_e, sAsg_e, sTgt_e, sPar_e, fCst_e, fVar_e, fMov_e, fOV_e, rdSlot_e, fOP_e, as_val, as_lst, bo_e, sv_e, iv_e, ol_e, fO2_e, fBo_e, fNot_e, fAnd_e, fOr_e, fAndV_e, fOrV_e, fNotV_e, fIf_e, fONil_e, fOCons_e, fLNil_e, fLCons_e, fTup_e, fLst_e, fNeg_e, rdAll_nil, rdAll_cons, fCB_e, fIsI_e, fTName_e, fTsNil_e, fTsCons_e, fTTup_e, fMut_e, sFor_e, sWhile_e, fYes_e, fComp_e, fISeq_e, fIRng1_e, fCall_e, fANil_e, fAV_e, inR_nil, inR_v, inR_s, dropE_nil, dropE_v, dropE_s, outE_nil, outE_v, outE_s, fPNo_e, fPInt_e, fSl_e, fM1_e, fTIx_e, cAdd_i, cAdd_s, cAdd_l, cAdd_t, cSub_i, cMul_i, cFdiv_i, cMod_i, cPow_i, cLt_i, cLe_i, cGt_i, cGe_i, cEq_e, cNe_e, cIs_e, cIsNot_e, cIx_l, cIx_t, cIx_s, cNeg_i, cLen_l, cLen_t, cLen_s, cList_l, cList_t, cTuple_l, cTuple_t, cAll_e, cAny_e, cAbs_i, cInt_b, cInt_i, cStrI_i, cIntS_s, cSplit_s, cJoin_e, cSl_l, cSl_t, cSl_s, mAppend_e, fnM_e, finK_nil, atI_zero, atI_one, ex_some, keepE, wipeE, restE, List.foldr_cons, List.foldr_nil, List.all_cons, List.all_nil, startE, idxs, List.map_cons, List.map_nil, List.length_cons, List.length_nil, Nat.reduceAdd, Nat.reduceSub, Int.reduceToNat, List.reduceReplicate, List.nil_append, List.cons_append, List.append_nil, List.getElem?_cons_zero, List.getElem?_cons_succ, List.set_cons_zero, List.set_cons_succ, Nat.zero_add, Bool.not_true, Bool.not_false, decide_eq_true_eq, if_true, if_false, Bool.false_eq_true, Bool.true_and, Bool.and_true, ite_true, ite_false, reduceIte, eq_self, true_and, and_true, Bool.not_eq_true', decide_eq_false_iff_not]
      generalize hT2 : sCons (sAsg 4 _) _ = T2
      have k2 : T2 dn [some (R.val (PyData.str (mkS (rt i j)))), some (R.val (PyData.list [PyData.str (mkS (digN n))])), some (R.val (PyData.int sg)), some (R.olst [PyData.int ↑n]), none, none] := by
        subst hT2
        rw [sCons_e]; simp only [sNil_e, sRet_e, sRetN_e, sIf_e, sPass_e, sNever_e, sExpr_e, sAsg_e, sTgt_e, sPar_e, fCst_e, fVar_e, fMov_e, fOV_e, rdSlot_e, fOP_e, as_val, as_lst, bo_e, sv_e, iv_e, ol_e, fO2_e, fBo_e, fNot_e, fAnd_e, fOr_e, fAndV_e, fOrV_e, fNotV_e, fIf_e, fONil_e, fOCons_e, fLNil_e, fLCons_e, fTup_e, fLst_e, fNeg_e, rdAll_nil, rdAll_cons, fCB_e, fIsI_e, fTName_e, fTsNil_e, fTsCons_e, fTTup_e, fMut_e, sFor_e, sWhile_e, fYes_e, fComp_e, fISeq_e, fIRng1_e, fCall_e, fANil_e, fAV_e, inR_nil, inR_v, inR_s, dropE_nil, dropE_v, dropE_s, outE_nil, outE_v, outE_s, fPNo_e, fPInt_e, fSl_e, fM1_e, fTIx_e, cAdd_i, cAdd_s, cAdd_l, cAdd_t, cSub_i, cMul_i, cFdiv_i, cMod_i, cPow_i, cLt_i, cLe_i, cGt_i, cGe_i, cEq_e, cNe_e, cIs_e, cIsNot_e, cIx_l, cIx_t, cIx_s, cNeg_i, cLen_l, cLen_t, cLen_s, cList_l, cList_t, cTuple_l, cTuple_t, cAll_e, cAny_e, cAbs_i, cInt_b, cInt_i, cStrI_i, cIntS_s, cSplit_s, cJoin_e, cSl_l, cSl_t, cSl_s, mAppend_e, fnM_e, finK_nil, atI_zero, atI_one, ex_some, keepE, wipeE, restE, List.foldr_cons, List.foldr_nil, List.all_cons, List.all_nil, startE, idxs, List.map_cons, List.map_nil, List.length_cons, List.length_nil, Nat.reduceAdd, Nat.reduceSub, Int.reduceToNat, List.reduceReplicate, List.nil_append, List.cons_append, List.append_nil, List.getElem?_cons_zero, List.getElem?_cons_succ, List.set_cons_zero, List.set_cons_succ, Nat.zero_add, Bool.not_true, Bool.not_false, decide_eq_true_eq, if_true, if_false, Bool.false_eq_true, Bool.true_and, Bool.and_true, ite_true, ite_false, reduceIte, eq_self, true_and, and_true, Bool.not_eq_true', decide_eq_false_iff_not]
        refine ⟨hm, ?_⟩
        rw [sCons_e]; simp only [sNil_e, sRet_e, sRetN_e, sIf_e, sPass_e, sNever_e, sExpr_e, sAsg_e, sTgt_e, sPar_e, fCst_e, fVar_e, fMov_e, fOV_e, rdSlot_e, fOP_e, as_val, as_lst, bo_e, sv_e, iv_e, ol_e, fO2_e, fBo_e, fNot_e, fAnd_e, fOr_e, fAndV_e, fOrV_e, fNotV_e, fIf_e, fONil_e, fOCons_e, fLNil_e, fLCons_e, fTup_e, fLst_e, fNeg_e, rdAll_nil, rdAll_cons, fCB_e, fIsI_e, fTName_e, fTsNil_e, fTsCons_e, fTTup_e, fMut_e, sFor_e, sWhile_e, fYes_e, fComp_e, fISeq_e, fIRng1_e, fCall_e, fANil_e, fAV_e, inR_nil, inR_v, inR_s, dropE_nil, dropE_v, dropE_s, outE_nil, outE_v, outE_s, fPNo_e, fPInt_e, fSl_e, fM1_e, fTIx_e, cAdd_i, cAdd_s, cAdd_l, cAdd_t, cSub_i, cMul_i, cFdiv_i, cMod_i, cPow_i, cLt_i, cLe_i, cGt_i, cGe_i, cEq_e, cNe_e, cIs_e, cIsNot_e, cIx_l, cIx_t, cIx_s, cNeg_i, cLen_l, cLen_t, cLen_s, cList_l, cList_t, cTuple_l, cTuple_t, cAll_e, cAny_e, cAbs_i, cInt_b, cInt_i, cStrI_i, cIntS_s, cSplit_s, cJoin_e, cSl_l, cSl_t, cSl_s, mAppend_e, fnM_e, finK_nil, atI_zero, atI_one, ex_some, keepE, wipeE, restE, List.foldr_cons, List.foldr_nil, List.all_cons, List.all_nil, startE, idxs, List.map_cons, List.map_nil, List.length_cons, List.length_nil, Nat.reduceAdd, Nat.reduceSub, Int.reduceToNat, List.reduceReplicate, List.nil_append, List.cons_append, List.append_nil, List.getElem?_cons_zero, List.getElem?_cons_succ, List.set_cons_zero, List.set_cons_succ, Nat.zero_add, Bool.not_true, Bool.not_false, decide_eq_true_eq, if_true, if_false, Bool.false_eq_true, Bool.true_and, Bool.and_true, ite_true, ite_false, reduceIte, eq_self, true_and, and_true, Bool.not_eq_true', decide_eq_false_iff_not]
        refine ⟨Sh.shaped (n := 0) (.int _), Sh.shaped (n := 0) (.int _), ?_⟩
        rw [if_neg (by simp [PyData.eqv]), hrt, en, ← e]
        exact h
      rw [if_neg (by decide)]
      refine cIn_none (fun y hy => .inl ⟨n, by simpa using hy⟩) ?_
      rw [bo_e, if_neg (by decide)]
      refine ⟨Sh.shaped (n := 0) (.int _), Sh.shaped (n := 0) (.int _), ?_⟩
      rw [ez]
      split
      · rename_i z
        rw [if_neg (fun c => hneg ⟨by simpa using z, c⟩)]
        exact k2
      · exact k2
    · simp only [if_neg e, List.map_cons, List.map_nil, readD_dig hn, readD_dig hj, sNil_e, sRet_e, sRetN_e, sIf_e, sPass_e, sNever_e, sExpr_e, sAsg_e, sTgt_e, sPar_e, fCst_e, fVar_e, fMov_e, fOV_e, rdSlot_e, fOP_e, as_val, as_lst, bo_e, sv_e, iv_e, ol_e, fO2_e, fBo_e, fNot_e, fAnd_e, fOr_e, fAndV_e, fOrV_e, fNotV_e, fIf_e, fONil_e, fOCons_e, fLNil_e, fLCons_e, fTup_e, fLst_e, fNeg_e, rdAll_nil, rdAll_cons, fCB_e, fIsI_e, fTName_e, fTsNil_e, fTsCons_e, fTTup_e, fMut_e, sFor_e, sWhile_e, fYes_e, fComp_e, fISeq_e, fIRng1_e, fCall_e, fANil_e, fAV_e, inR_nil, inR_v, inR_s, dropE_nil, dropE_v, dropE_s, outE_nil, outE_v, outE_s, fPNo_e, fPInt_e, fSl_e, fM1_e, fTIx_e, cAdd_i, cAdd_s, cAdd_l, cAdd_t, cSub_i, cMul_i, cFdiv_i, cMod_i, cPow_i, cLt_i, cLe_i, cGt_i, cGe_i, cEq_e, cNe_e, cIs_e, cIsNot_e, cIx_l, cIx_t, cIx_s, cNeg_i, cLen_l, cLen_t, cLen_s, cList_l, cList_t, cTuple_l, cTuple_t, cAll_e, cAny_e, cAbs_i, cInt_b, cInt_i, cStrI_i, cIntS_s, cSplit_s, cJoin_e, cSl_l, cSl_t, cSl_s, mAppend_e, fnM_e, finK_nil, atI_zero, atI_one, ex_some, keepE, wipeE, restE, List.foldr_cons, List.foldr_nil, List.all_cons, List.all_nil, startE, idxs, List.map_cons, List.map_nil, List.length_cons, List.length_nil, Nat.reduceAdd, Nat.reduceSub, Int.reduceToNat, List.reduceReplicate, List.nil_append, List.cons_append, List.append_nil, List.getElem?_cons_zero, List.getElem?_cons_succ, List.set_cons_zero, List.set_cons_succ, Nat.zero_add, Bool.not_true, Bool.not_false, decide_eq_true_eq, if_true, if_false, Bool.false_eq_true, Bool.true_and, Bool.and_true, ite_true, ite_false, reduceIte, eq_self, true_and, and_true, Bool.not_eq_true', decide_eq_false_iff_not]
      rw [sCons_e]; simp only [sNil_e, sRet_e, sRetN_e, sIf_e, sPass_e, sNever_e, sExpr_e, sAsg_e, sTgt_e, sPar_e, fCst_e, fVar_e, fMov_e, fOV_e, rdSlot_e, fOP_e, as_val, as_lst, bo_e, sv_e, iv_e, ol_e, fO2_e, fBo_e, fNot_e, fAnd_e, fOr_e, fAndV_e, fOrV_e, fNotV_e, fIf_e, fONil_e, fOCons_e, fLNil_e, fLCons_e, fTup_e, fLst_e, fNeg_e, rdAll_nil, rdAll_cons, fCB_e, fIsI_e, fTName_e, fTsNil_e, fTsCons_e, fTTup_e, fMut_e, sFor_e, sWhile_e, fYes_e, fComp_e, fISeq_e, fIRng1_e, fCall_e, fANil_e, fAV_e, inR_nil, inR_v, inR_s, dropE_nil, dropE_v, dropE_s, outE_nil, outE_v, outE_s, fPNo_e, fPInt_e, fSl_e, fM1_e, fTIx_e, cAdd_i, cAdd_s, cAdd_l, cAdd_t, cSub_i, cMul_i, cFdiv_i, cMod_i, cPow_i, cLt_i, cLe_i, cGt_i, cGe_i, cEq_e, cNe_e, cIs_e, cIsNot_e, cIx_l, cIx_t, cIx_s, cNeg_i, cLen_l, cLen_t, cLen_s, cList_l, cList_t, cTuple_l, cTuple_t, cAll_e, cAny_e, cAbs_i, cInt_b, cInt_i, cStrI_i, cIntS_s, cSplit_s, cJoin_e, cSl_l, cSl_t, cSl_s, mAppend_e, fnM_e, finK_nil, atI_zero, atI_one, ex_some, keepE, wipeE, restE, List.foldr_cons, List.foldr_nil, List.all_cons, List.all_nil, startE, idxs, List.map_cons, List.map_nil, List.length_cons, List.length_nil, Nat.reduceAdd, Nat.reduceSub, Int.reduceToNat, List.reduceReplicate, List.nil_append, List.cons_append, List.append_nil, List.getElem?_cons_zero, List.getElem?_cons_succ, List.set_cons_zero, List.set_cons_succ, Nat.zero_add, Bool.not_true, Bool.not_false, decide_eq_true_eq, if_true, if_false, Bool.false_eq_true, Bool.true_and, Bool.and_true, ite_true, ite_false, reduceIte, eq_self, true_and, and_true, Bool.not_eq_true', decide_eq_false_iff_not]
      generalize hT2 : sCons (sAsg 4 _) _ = T2
      have k2 : T2 dn [some (R.val (PyData.str (mkS (rt i j)))), some (R.val (PyData.list [PyData.str (mkS (digN n)), PyData.str (mkS (digN j.natAbs))])), some (R.val (PyData.int sg)), some (R.olst [PyData.int ↑n, PyData.int (j.natAbs : Int)]), none, none] := by
        subst hT2
        have ejj : ((j.natAbs : Nat) : Int) = j := by omega
        rw [sCons_e]; simp only [sNil_e, sRet_e, sRetN_e, sIf_e, sPass_e, sNever_e, sExpr_e, sAsg_e, sTgt_e, sPar_e, fCst_e, fVar_e, fMov_e, fOV_e, rdSlot_e, fOP_e, as_val, as_lst, bo_e, sv_e, iv_e, ol_e, fO2_e, fBo_e, fNot_e, fAnd_e, fOr_e, fAndV_e, fOrV_e, fNotV_e, fIf_e, fONil_e, fOCons_e, fLNil_e, fLCons_e, fTup_e, fLst_e, fNeg_e, rdAll_nil, rdAll_cons, fCB_e, fIsI_e, fTName_e, fTsNil_e, fTsCons_e, fTTup_e, fMut_e, sFor_e, sWhile_e, fYes_e, fComp_e, fISeq_e, fIRng1_e, fCall_e, fANil_e, fAV_e, inR_nil, inR_v, inR_s, dropE_nil, dropE_v, dropE_s, outE_nil, outE_v, outE_s, fPNo_e, fPInt_e, fSl_e, fM1_e, fTIx_e, cAdd_i, cAdd_s, cAdd_l, cAdd_t, cSub_i, cMul_i, cFdiv_i, cMod_i, cPow_i, cLt_i, cLe_i, cGt_i, cGe_i, cEq_e, cNe_e, cIs_e, cIsNot_e, cIx_l, cIx_t, cIx_s, cNeg_i, cLen_l, cLen_t, cLen_s, cList_l, cList_t, cTuple_l, cTuple_t, cAll_e, cAny_e, cAbs_i, cInt_b, cInt_i, cStrI_i, cIntS_s, cSplit_s, cJoin_e, cSl_l, cSl_t, cSl_s, mAppend_e, fnM_e, finK_nil, atI_zero, atI_one, ex_some, keepE, wipeE, restE, List.foldr_cons, List.foldr_nil, List.all_cons, List.all_nil, startE, idxs, List.map_cons, List.map_nil, List.length_cons, List.length_nil, Nat.reduceAdd, Nat.reduceSub, Int.reduceToNat, List.reduceReplicate, List.nil_append, List.cons_append, List.append_nil, List.getElem?_cons_zero, List.getElem?_cons_succ, List.set_cons_zero, List.set_cons_succ, Nat.zero_add, Bool.not_true, Bool.not_false, decide_eq_true_eq, if_true, if_false, Bool.false_eq_true, Bool.true_and, Bool.and_true, ite_true, ite_false, reduceIte, eq_self, true_and, and_true, Bool.not_eq_true', decide_eq_false_iff_not]
        refine ⟨hm, ?_⟩
        rw [sCons_e]; simp only [sNil_e, sRet_e, sRetN_e, sIf_e, sPass_e, sNever_e, sExpr_e, sAsg_e, sTgt_e, sPar_e, fCst_e, fVar_e, fMov_e, fOV_e, rdSlot_e, fOP_e, as_val, as_lst, bo_e, sv_e, iv_e, ol_e, fO2_e, fBo_e, fNot_e, fAnd_e, fOr_e, fAndV_e, fOrV_e, fNotV_e, fIf_e, fONil_e, fOCons_e, fLNil_e, fLCons_e, fTup_e, fLst_e, fNeg_e, rdAll_nil, rdAll_cons, fCB_e, fIsI_e, fTName_e, fTsNil_e, fTsCons_e, fTTup_e, fMut_e, sFor_e, sWhile_e, fYes_e, fComp_e, fISeq_e, fIRng1_e, fCall_e, fANil_e, fAV_e, inR_nil, inR_v, inR_s, dropE_nil, dropE_v, dropE_s, outE_nil, outE_v, outE_s, fPNo_e, fPInt_e, fSl_e, fM1_e, fTIx_e, cAdd_i, cAdd_s, cAdd_l, cAdd_t, cSub_i, cMul_i, cFdiv_i, cMod_i, cPow_i, cLt_i, cLe_i, cGt_i, cGe_i, cEq_e, cNe_e, cIs_e, cIsNot_e, cIx_l, cIx_t, cIx_s, cNeg_i, cLen_l, cLen_t, cLen_s, cList_l, cList_t, cTuple_l, cTuple_t, cAll_e, cAny_e, cAbs_i, cInt_b, cInt_i, cStrI_i, cIntS_s, cSplit_s, cJoin_e, cSl_l, cSl_t, cSl_s, mAppend_e, fnM_e, finK_nil, atI_zero, atI_one, ex_some, keepE, wipeE, restE, List.foldr_cons, List.foldr_nil, List.all_cons, List.all_nil, startE, idxs, List.map_cons, List.map_nil, List.length_cons, List.length_nil, Nat.reduceAdd, Nat.reduceSub, Int.reduceToNat, List.reduceReplicate, List.nil_append, List.cons_append, List.append_nil, List.getElem?_cons_zero, List.getElem?_cons_succ, List.set_cons_zero, List.set_cons_succ, Nat.zero_add, Bool.not_true, Bool.not_false, decide_eq_true_eq, if_true, if_false, Bool.false_eq_true, Bool.true_and, Bool.and_true, ite_true, ite_false, reduceIte, eq_self, true_and, and_true, Bool.not_eq_true', decide_eq_false_iff_not]
        refine ⟨Sh.shaped (n := 0) (.int _), Sh.shaped (n := 0) (.int _), ?_⟩
        rw [if_pos (by simp [PyData.eqv])]
        rw [sCons_e]; simp only [sNil_e, sRet_e, sRetN_e, sIf_e, sPass_e, sNever_e, sExpr_e, sAsg_e, sTgt_e, sPar_e, fCst_e, fVar_e, fMov_e, fOV_e, rdSlot_e, fOP_e, as_val, as_lst, bo_e, sv_e, iv_e, ol_e, fO2_e, fBo_e, fNot_e, fAnd_e, fOr_e, fAndV_e, fOrV_e, fNotV_e, fIf_e, fONil_e, fOCons_e, fLNil_e, fLCons_e, fTup_e, fLst_e, fNeg_e, rdAll_nil, rdAll_cons, fCB_e, fIsI_e, fTName_e, fTsNil_e, fTsCons_e, fTTup_e, fMut_e, sFor_e, sWhile_e, fYes_e, fComp_e, fISeq_e, fIRng1_e, fCall_e, fANil_e, fAV_e, inR_nil, inR_v, inR_s, dropE_nil, dropE_v, dropE_s, outE_nil, outE_v, outE_s, fPNo_e, fPInt_e, fSl_e, fM1_e, fTIx_e, cAdd_i, cAdd_s, cAdd_l, cAdd_t, cSub_i, cMul_i, cFdiv_i, cMod_i, cPow_i, cLt_i, cLe_i, cGt_i, cGe_i, cEq_e, cNe_e, cIs_e, cIsNot_e, cIx_l, cIx_t, cIx_s, cNeg_i, cLen_l, cLen_t, cLen_s, cList_l, cList_t, cTuple_l, cTuple_t, cAll_e, cAny_e, cAbs_i, cInt_b, cInt_i, cStrI_i, cIntS_s, cSplit_s, cJoin_e, cSl_l, cSl_t, cSl_s, mAppend_e, fnM_e, finK_nil, atI_zero, atI_one, ex_some, keepE, wipeE, restE, List.foldr_cons, List.foldr_nil, List.all_cons, List.all_nil, startE, idxs, List.map_cons, List.map_nil, List.length_cons, List.length_nil, Nat.reduceAdd, Nat.reduceSub, Int.reduceToNat, List.reduceReplicate, List.nil_append, List.cons_append, List.append_nil, List.getElem?_cons_zero, List.getElem?_cons_succ, List.set_cons_zero, List.set_cons_succ, Nat.zero_add, Bool.not_true, Bool.not_false, decide_eq_true_eq, if_true, if_false, Bool.false_eq_true, Bool.true_and, Bool.and_true, ite_true, ite_false, reduceIte, eq_self, true_and, and_true, Bool.not_eq_true', decide_eq_false_iff_not]
        refine ⟨hm, ?_⟩
        rw [if_neg (by omega), en, ejj]
        refine is_ratio_ret i j h0 hg _ _ ?_
        simp only [sNil_e, sRet_e, sRetN_e, sIf_e, sPass_e, sNever_e, sExpr_e, sAsg_e, sTgt_e, sPar_e, fCst_e, fVar_e, fMov_e, fOV_e, rdSlot_e, fOP_e, as_val, as_lst, bo_e, sv_e, iv_e, ol_e, fO2_e, fBo_e, fNot_e, fAnd_e, fOr_e, fAndV_e, fOrV_e, fNotV_e, fIf_e, fONil_e, fOCons_e, fLNil_e, fLCons_e, fTup_e, fLst_e, fNeg_e, rdAll_nil, rdAll_cons, fCB_e, fIsI_e, fTName_e, fTsNil_e, fTsCons_e, fTTup_e, fMut_e, sFor_e, sWhile_e, fYes_e, fComp_e, fISeq_e, fIRng1_e, fCall_e, fANil_e, fAV_e, inR_nil, inR_v, inR_s, dropE_nil, dropE_v, dropE_s, outE_nil, outE_v, outE_s, fPNo_e, fPInt_e, fSl_e, fM1_e, fTIx_e, cAdd_i, cAdd_s, cAdd_l, cAdd_t, cSub_i, cMul_i, cFdiv_i, cMod_i, cPow_i, cLt_i, cLe_i, cGt_i, cGe_i, cEq_e, cNe_e, cIs_e, cIsNot_e, cIx_l, cIx_t, cIx_s, cNeg_i, cLen_l, cLen_t, cLen_s, cList_l, cList_t, cTuple_l, cTuple_t, cAll_e, cAny_e, cAbs_i, cInt_b, cInt_i, cStrI_i, cIntS_s, cSplit_s, cJoin_e, cSl_l, cSl_t, cSl_s, mAppend_e, fnM_e, finK_nil, atI_zero, atI_one, ex_some, keepE, wipeE, restE, List.foldr_cons, List.foldr_nil, List.all_cons, List.all_nil, startE, idxs, List.map_cons, List.map_nil, List.length_cons, List.length_nil, Nat.reduceAdd, Nat.reduceSub, Int.reduceToNat, List.reduceReplicate, List.nil_append, List.cons_append, List.append_nil, List.getElem?_cons_zero, List.getElem?_cons_succ, List.set_cons_zero, List.set_cons_succ, Nat.zero_add, Bool.not_true, Bool.not_false, decide_eq_true_eq, if_true, if_false, Bool.false_eq_true, Bool.true_and, Bool.and_true, ite_true, ite_false, reduceIte, eq_self, true_and, and_true, Bool.not_eq_true', decide_eq_false_iff_not, hrt]
        exact h
      rw [if_neg (by decide)]
      refine cIn_none (fun y hy => .inl (by simp at hy; rcases hy with rfl | rfl <;> exact ⟨_, rfl⟩)) ?_
      rw [bo_e, if_neg (by decide)]
      refine ⟨Sh.shaped (n := 0) (.int _), Sh.shaped (n := 0) (.int _), ?_⟩
      rw [ez]
      split
      · rename_i z
        rw [if_neg (fun c => hneg ⟨by simpa using z, c⟩)]
        exact k2
      · exact k2
  have i0 : (List.map PyData.str (List.map mkS (if j = 1 then [digI i] else [digI i, digI j]))) = .str (mkS (digI i)) :: (List.map PyData.str (List.map mkS (if j = 1 then [] else [digI j]))) := by split <;> rfl
  rw [i0]
  rw [sCons_e]; simp only [sNil_e, sRet_e, sRetN_e, sIf_e, sPass_e, sNever_e, sExpr_e, sAsg_e, sTgt_e, sPar_e, fCst_e, fVar_e, fMov_e, fOV_e, rdSlot_e, fOP_e, as_val, as_lst, bo_e, sv_e, iv_e, ol_e, fO2_e, fBo_e, fNot_e, fAnd_e, fOr_e, fAndV_e, fOrV_e, fNotV_e, fIf_e, fONil_e, fOCons_e, fLNil_e, fLCons_e, fTup_e, fLst_e, fNeg_e, rdAll_nil, rdAll_cons, fCB_e, fIsI_e, fTName_e, fTsNil_e, fTsCons_e, fTTup_e, fMut_e, sFor_e, sWhile_e, fYes_e, fComp_e, fISeq_e, fIRng1_e, fCall_e, fANil_e, fAV_e, inR_nil, inR_v, inR_s, dropE_nil, dropE_v, dropE_s, outE_nil, outE_v, outE_s, fPNo_e, fPInt_e, fSl_e, fM1_e, fTIx_e, cAdd_i, cAdd_s, cAdd_l, cAdd_t, cSub_i, cMul_i, cFdiv_i, cMod_i, cPow_i, cLt_i, cLe_i, cGt_i, cGe_i, cEq_e, cNe_e, cIs_e, cIsNot_e, cIx_l, cIx_t, cIx_s, cNeg_i, cLen_l, cLen_t, cLen_s, cList_l, cList_t, cTuple_l, cTuple_t, cAll_e, cAny_e, cAbs_i, cInt_b, cInt_i, cStrI_i, cIntS_s, cSplit_s, cJoin_e, cSl_l, cSl_t, cSl_s, mAppend_e, fnM_e, finK_nil, atI_zero, atI_one, ex_some, keepE, wipeE, restE, List.foldr_cons, List.foldr_nil, List.all_cons, List.all_nil, startE, idxs, List.map_cons, List.map_nil, List.length_cons, List.length_nil, Nat.reduceAdd, Nat.reduceSub, Int.reduceToNat, List.reduceReplicate, List.nil_append, List.cons_append, List.append_nil, List.getElem?_cons_zero, List.getElem?_cons_succ, List.set_cons_zero, List.set_cons_succ, Nat.zero_add, Bool.not_true, Bool.not_false, decide_eq_true_eq, if_true, if_false, Bool.false_eq_true, Bool.true_and, Bool.and_true, ite_true, ite_false, reduceIte, eq_self, true_and, and_true, Bool.not_eq_true', decide_eq_false_iff_not]
  have il := digI_len hi
  obtain ⟨c, r, hc⟩ : ∃ c r, digI i = c :: r := by
    unfold digI
    split
    · exact ⟨_, _, rfl⟩
    · cases q : digN i.natAbs with
      | nil => exact absurd q (digN_ne _)
      | cons c r => exact ⟨c, r, rfl⟩
  have esz : (mkS (digI i)).length ≤ sizeLine := by rw [mkS_len]; omega
  refine ⟨esz, ?_⟩
  have ed : Str.ofString "-" = mkS [45] := rfl
  rw [hc, cutS_one, ed]
  refine ⟨Sh.shaped (n := 0) (.str (digs_ok fun x hx => digI_small (i := i) (by simp at hx; rw [hc]; simp [hx]))), Sh.shaped (n := 0) (.str (digs_ok (by simp))), ?_⟩
  rw [str_eqv]
  by_cases hneg : i < 0
  · have hdi : digI i = 45 :: digN i.natAbs := by unfold digI; rw [if_pos hneg]
    rw [hdi] at hc
    injection hc with c1 c2
    subst c1 c2
    rw [if_pos (by simp)]
    rw [sCons_e]; simp only [sNil_e, sRet_e, sRetN_e, sIf_e, sPass_e, sNever_e, sExpr_e, sAsg_e, sTgt_e, sPar_e, fCst_e, fVar_e, fMov_e, fOV_e, rdSlot_e, fOP_e, as_val, as_lst, bo_e, sv_e, iv_e, ol_e, fO2_e, fBo_e, fNot_e, fAnd_e, fOr_e, fAndV_e, fOrV_e, fNotV_e, fIf_e, fONil_e, fOCons_e, fLNil_e, fLCons_e, fTup_e, fLst_e, fNeg_e, rdAll_nil, rdAll_cons, fCB_e, fIsI_e, fTName_e, fTsNil_e, fTsCons_e, fTTup_e, fMut_e, sFor_e, sWhile_e, fYes_e, fComp_e, fISeq_e, fIRng1_e, fCall_e, fANil_e, fAV_e, inR_nil, inR_v, inR_s, dropE_nil, dropE_v, dropE_s, outE_nil, outE_v, outE_s, fPNo_e, fPInt_e, fSl_e, fM1_e, fTIx_e, cAdd_i, cAdd_s, cAdd_l, cAdd_t, cSub_i, cMul_i, cFdiv_i, cMod_i, cPow_i, cLt_i, cLe_i, cGt_i, cGe_i, cEq_e, cNe_e, cIs_e, cIsNot_e, cIx_l, cIx_t, cIx_s, cNeg_i, cLen_l, cLen_t, cLen_s, cList_l, cList_t, cTuple_l, cTuple_t, cAll_e, cAny_e, cAbs_i, cInt_b, cInt_i, cStrI_i, cIntS_s, cSplit_s, cJoin_e, cSl_l, cSl_t, cSl_s, mAppend_e, fnM_e, finK_nil, atI_zero, atI_one, ex_some, keepE, wipeE, restE, List.foldr_cons, List.foldr_nil, List.all_cons, List.all_nil, startE, idxs, List.map_cons, List.map_nil, List.length_cons, List.length_nil, Nat.reduceAdd, Nat.reduceSub, Int.reduceToNat, List.reduceReplicate, List.nil_append, List.cons_append, List.append_nil, List.getElem?_cons_zero, List.getElem?_cons_succ, List.set_cons_zero, List.set_cons_succ, Nat.zero_add, Bool.not_true, Bool.not_false, decide_eq_true_eq, if_true, if_false, Bool.false_eq_true, Bool.true_and, Bool.and_true, ite_true, ite_false, reduceIte, eq_self, true_and, and_true, Bool.not_eq_true', decide_eq_false_iff_not]
    rw [cutS_rest]
    rw [hdi] at esz
    refine ⟨esz, ?_⟩
    simp only [putIx, sNil_e, sRet_e, sRetN_e, sIf_e, sPass_e, sNever_e, sExpr_e, sAsg_e, sTgt_e, sPar_e, fCst_e, fVar_e, fMov_e, fOV_e, rdSlot_e, fOP_e, as_val, as_lst, bo_e, sv_e, iv_e, ol_e, fO2_e, fBo_e, fNot_e, fAnd_e, fOr_e, fAndV_e, fOrV_e, fNotV_e, fIf_e, fONil_e, fOCons_e, fLNil_e, fLCons_e, fTup_e, fLst_e, fNeg_e, rdAll_nil, rdAll_cons, fCB_e, fIsI_e, fTName_e, fTsNil_e, fTsCons_e, fTTup_e, fMut_e, sFor_e, sWhile_e, fYes_e, fComp_e, fISeq_e, fIRng1_e, fCall_e, fANil_e, fAV_e, inR_nil, inR_v, inR_s, dropE_nil, dropE_v, dropE_s, outE_nil, outE_v, outE_s, fPNo_e, fPInt_e, fSl_e, fM1_e, fTIx_e, cAdd_i, cAdd_s, cAdd_l, cAdd_t, cSub_i, cMul_i, cFdiv_i, cMod_i, cPow_i, cLt_i, cLe_i, cGt_i, cGe_i, cEq_e, cNe_e, cIs_e, cIsNot_e, cIx_l, cIx_t, cIx_s, cNeg_i, cLen_l, cLen_t, cLen_s, cList_l, cList_t, cTuple_l, cTuple_t, cAll_e, cAny_e, cAbs_i, cInt_b, cInt_i, cStrI_i, cIntS_s, cSplit_s, cJoin_e, cSl_l, cSl_t, cSl_s, mAppend_e, fnM_e, finK_nil, atI_zero, atI_one, ex_some, keepE, wipeE, restE, List.foldr_cons, List.foldr_nil, List.all_cons, List.all_nil, startE, idxs, List.map_cons, List.map_nil, List.length_cons, List.length_nil, Nat.reduceAdd, Nat.reduceSub, Int.reduceToNat, List.reduceReplicate, List.nil_append, List.cons_append, List.append_nil, List.getElem?_cons_zero, List.getElem?_cons_succ, List.set_cons_zero, List.set_cons_succ, Nat.zero_add, Bool.not_true, Bool.not_false, decide_eq_true_eq, if_true, if_false, Bool.false_eq_true, Bool.true_and, Bool.and_true, ite_true, ite_false, reduceIte, eq_self, true_and, and_true, Bool.not_eq_true', decide_eq_false_iff_not]
    refine ⟨0, by simp only [ixN]; rw [if_pos (by decide), if_pos (by simp)]; rfl, ?_⟩
    rw [List.set_cons_zero]
    have := key { nx := fun ρ => k (R.val PyData.none) [], rt := fun r ρ => k r [] } (-1) i.natAbs rfl (by omega) (.inr ⟨rfl, by omega⟩) hi
    have i1 : (List.map PyData.str (List.map mkS (if j = 1 then [digN i.natAbs] else [digN i.natAbs, digI j]))) = .str (mkS (digN i.natAbs)) :: (List.map PyData.str (List.map mkS (if j = 1 then [] else [digI j]))) := by split <;> rfl
    rw [i1] at this
    exact this
  · have hdi : digI i = digN i.natAbs := by unfold digI; rw [if_neg hneg]
    rw [if_neg (by
      simp only [decide_eq_true_eq, List.cons.injEq, and_true]
      rintro rfl
      have := digN_dig (n := i.natAbs) (c := 45) (by rw [← hdi, hc]; simp)
      omega)]
    have := key { nx := fun ρ => k (R.val PyData.none) [], rt := fun r ρ => k r [] } 1 i.natAbs rfl (by omega) (.inl rfl) hi
    have i1 : (List.map PyData.str (List.map mkS (if j = 1 then [digN i.natAbs] else [digN i.natAbs, digI j]))) = .str (mkS (digN i.natAbs)) :: (List.map PyData.str (List.map mkS (if j = 1 then [] else [digI j]))) := by split <;> rfl
    rw [i1, ← hdi, hc] at this
    exact this
/-! ### lines -/
/-- a reduced ratio, not below nothing, of few figures -/
structure Gd (p : Int × Int) : Prop where
  n0 : 0 ≤ p.1
  d0 : 0 < p.2
  n : Num p.1
  d : Num p.2
  g : gcdI p.1 p.2 = 1
def rD (p : Int × Int) : D := .tuple [.int p.1, .int p.2]
def rT (p : Int × Int) : List Nat := rt p.1 p.2
theorem rT_len {p : Int × Int} (h : Gd p) : (rT p).length ≤ 123 := rt_len h.n h.d
theorem rT_no {p : Int × Int} {c : Nat} (h : c < 45) : c ∉ rT p := fun hm => by
  unfold rT rt at hm
  have d := fun i => digI_no (i := i) (c := c) (.inl h)
  split at hm
  · exact d _ hm
  · rcases List.mem_append.mp hm with h | h
    · exact d _ h
    · rcases List.mem_cons.mp h with h | h
      · omega
      · exact d _ h
theorem rT_ne (p : Int × Int) : ∃ c r, rT p = c :: r ∧ c ≠ 46 := by
  unfold rT rt
  have : ∀ i, ∃ c r, digI i = c :: r ∧ c ≠ 46 := fun i => by
    unfold digI
    split
    · exact ⟨_, _, rfl, by decide⟩
    · cases q : digN i.natAbs with
      | nil => exact absurd q (digN_ne _)
      | cons c r =>
        have := digN_dig (n := i.natAbs) (c := c) (by rw [q]; simp)
        exact ⟨c, r, rfl, by omega⟩
  split
  · exact this _
  · obtain ⟨c, r, e, h⟩ := this p.1
    exact ⟨c, r ++ 47 :: digI p.2, by rw [e]; rfl, h⟩
/-- a row's text -/
def lineT (ps : List (Int × Int)) : List Nat := if ps = [] then [46] else joinL 32 (ps.map rT)
theorem joinL_len (c B : Nat) : ∀ (ls : List (List Nat)), (∀ l ∈ ls, l.length ≤ B) → (joinL c ls).length ≤ ls.length * (B + 1)
  | [], _ => Nat.zero_le _
  | [x], h => by
    have := h x (by simp)
    simp only [joinL, List.length_cons, List.length_nil]
    omega
  | x :: y :: r, h => by
    have h1 := h x (by simp)
    have h2 := joinL_len c B (y :: r) fun l hl => h l (List.mem_cons_of_mem _ hl)
    simp only [joinL, List.length_append, List.length_cons] at h2 ⊢
    have h3 : (r.length + 1 + 1) * (B + 1) = (r.length + 1) * (B + 1) + (B + 1) := Nat.succ_mul _ _
    omega
theorem lineT_len {ps : List (Int × Int)} (h : ∀ p ∈ ps, Gd p) (hl : ps.length ≤ 100) : (lineT ps).length ≤ 12400 := by
  unfold lineT
  split
  · decide
  · have := joinL_len 32 123 (ps.map rT) (fun l hl => by
      obtain ⟨p, hp, rfl⟩ := List.mem_map.mp hl
      exact rT_len (h p hp))
    rw [List.length_map] at this
    omega
theorem lineT_small {ps : List (Int × Int)} {c : Nat} (h : c ∈ lineT ps) : c < 1000 := by
  unfold lineT at h
  split at h
  · simp at h; omega
  · have : ∀ (ls : List (List Nat)), (∀ l ∈ ls, ∀ c ∈ l, c < 1000) → ∀ c ∈ joinL 32 ls, c < 1000 := by
      intro ls
      induction ls with
      | nil => intro _ c hc; simp [joinL] at hc
      | cons x r ih =>
        intro hh c hc
        cases r with
        | nil => exact hh x (by simp) c hc
        | cons y r =>
          simp only [joinL, List.mem_append, List.mem_cons] at hc
          rcases hc with hc | rfl | hc
          · exact hh x (by simp) c hc
          · decide
          · exact ih (fun l hl => hh l (List.mem_cons_of_mem _ hl)) c hc
    exact this _ (fun l hl c hc => by
      obtain ⟨p, hp, rfl⟩ := List.mem_map.mp hl
      exact rt_small hc) c h
theorem sh_rows {ps : List (Int × Int)} : Sh 3 (.list (ps.map rD)) := Sh.list fun y hy => by
  obtain ⟨p, hp, rfl⟩ := List.mem_map.mp hy
  exact Sh.tuple fun x hx => by
    simp at hx
    rcases hx with rfl | rfl <;> exact .int _
theorem sh_rowsT {ps : List (Int × Int)} : Sh 3 (.tuple (ps.map rD)) := Sh.tuple fun y hy => by
  obtain ⟨p, hp, rfl⟩ := List.mem_map.mp hy
  exact Sh.tuple fun x hx => by
    simp at hx
    rcases hx with rfl | rfl <;> exact .int _
theorem words_text_ret (ps : List (Int × Int)) (h : ∀ p ∈ ps, Gd p) (hl : ps.length ≤ 100) : Ret M_words_text [.val (.list (ps.map fun p => .str (mkS (rT p))))] (.val (.str (mkS (lineT ps)))) := by
  intro k kx hk
  simp only [M_words_text, F_words_text, sNil_e, sCons_e, sRet_e, sRetN_e, sIf_e, sPass_e, sNever_e, sExpr_e, sAsg_e, sTgt_e, sPar_e, fCst_e, fVar_e, fMov_e, fOV_e, rdSlot_e, fOP_e, as_val, as_lst, bo_e, sv_e, iv_e, ol_e, fO2_e, fBo_e, fNot_e, fAnd_e, fOr_e, fAndV_e, fOrV_e, fNotV_e, fIf_e, fONil_e, fOCons_e, fLNil_e, fLCons_e, fTup_e, fLst_e, fNeg_e, rdAll_nil, rdAll_cons, fCB_e, fIsI_e, fTName_e, fTsNil_e, fTsCons_e, fTTup_e, fMut_e, sFor_e, sWhile_e, fYes_e, fComp_e, fISeq_e, fIRng1_e, fCall_e, fANil_e, fAV_e, inR_nil, inR_v, inR_s, dropE_nil, dropE_v, dropE_s, outE_nil, outE_v, outE_s, fPNo_e, fPInt_e, fSl_e, fM1_e, fTIx_e, cAdd_i, cAdd_s, cAdd_l, cAdd_t, cSub_i, cMul_i, cFdiv_i, cMod_i, cPow_i, cLt_i, cLe_i, cGt_i, cGe_i, cEq_e, cNe_e, cIs_e, cIsNot_e, cIx_l, cIx_t, cIx_s, cNeg_i, cLen_l, cLen_t, cLen_s, cList_l, cList_t, cTuple_l, cTuple_t, cAll_e, cAny_e, cAbs_i, cInt_b, cInt_i, cStrI_i, cIntS_s, cSplit_s, cJoin_e, cSl_l, cSl_t, cSl_s, mAppend_e, fnM_e, finK_nil, atI_zero, atI_one, ex_some, keepE, wipeE, restE, List.foldr_cons, List.foldr_nil, List.all_cons, List.all_nil, startE, idxs, List.map_cons, List.map_nil, List.length_cons, List.length_nil, Nat.reduceAdd, Nat.reduceSub, Int.reduceToNat, List.reduceReplicate, List.nil_append, List.cons_append, List.append_nil, List.getElem?_cons_zero, List.getElem?_cons_succ, List.set_cons_zero, List.set_cons_succ, Nat.zero_add, Bool.not_true, Bool.not_false, decide_eq_true_eq, if_true, if_false, Bool.false_eq_true, Bool.true_and, Bool.and_true, ite_true, ite_false, reduceIte, eq_self, true_and, and_true, Bool.not_eq_true', decide_eq_false_iff_not]
  refine ⟨Sh.shaped (n := 1) (Sh.list fun y hy => ?_), Sh.shaped (n := 1) Sh.nilL, ?_⟩
  · obtain ⟨p, hp, rfl⟩ := List.mem_map.mp hy
    exact .str (digs_ok fun c hc => rt_small hc)
  · cases ps with
    | nil => exact hk
    | cons p ps =>
      rw [if_neg (by simp [PyData.eqv, PyData.eqvAll])]
      refine ⟨(p :: ps).map fun p => mkS (rT p), .inl (by simp), ?_, ?_⟩
      · rw [List.length_map, List.map_map]
        have : ∀ (l : List (Int × Int)), (∀ p ∈ l, Gd p) → (l.map ((fun x : Str => x.length) ∘ fun p => mkS (rT p))).sum ≤ l.length * 123 := by
          intro l
          induction l with
          | nil => intro _; simp
          | cons a r ih =>
            intro hh
            have h1 := rT_len (hh a (by simp))
            have h2 := ih fun p hp => hh p (List.mem_cons_of_mem _ hp)
            simp only [List.map_cons, List.sum_cons, List.length_cons, Function.comp_apply, mkS_len] at h2 ⊢
            omega
        have h3 := this _ h
        have h4 : (Str.ofString " ").length = 1 := rfl
        rw [h4]
        omega
      · have e : Txt.join (Str.ofString " ") ((p :: ps).map fun p => mkS (rT p)) = mkS (lineT (p :: ps)) := by
          rw [show Str.ofString " " = ⟨#[32]⟩ from rfl, show (fun p => mkS (rT p)) = mkS ∘ rT from rfl, ← List.map_map, Cr.join_one]
          rw [lineT, if_neg (by simp)]
        rw [e]
        exact hk
def txD (d : D) : D := match d with
  | .tuple [.int i, .int j] => .str (mkS (rt i j))
  | _ => .none
theorem ratios_text_ret (d : D) (ps : List (Int × Int)) (hd : d = .list (ps.map rD) ∨ d = .tuple (ps.map rD)) (h : ∀ p ∈ ps, Gd p) (hl : ps.length ≤ 100) : Ret M_ratios_text [.val d] (.val (.str (mkS (lineT ps)))) := by
  intro k kx hk
  have sz : (200 : Nat) ≤ sizeLine := by decide
  rw [M_ratios_text, fnM_e, F_ratios_text]
  rcases hd with rfl | rfl
  all_goals
    simp only [sNil_e, sCons_e, sRet_e, sRetN_e, sIf_e, sPass_e, sNever_e, sExpr_e, sAsg_e, sTgt_e, sPar_e, fCst_e, fVar_e, fMov_e, fOV_e, rdSlot_e, fOP_e, as_val, as_lst, bo_e, sv_e, iv_e, ol_e, fO2_e, fBo_e, fNot_e, fAnd_e, fOr_e, fAndV_e, fOrV_e, fNotV_e, fIf_e, fONil_e, fOCons_e, fLNil_e, fLCons_e, fTup_e, fLst_e, fNeg_e, rdAll_nil, rdAll_cons, fCB_e, fIsI_e, fTName_e, fTsNil_e, fTsCons_e, fTTup_e, fMut_e, sFor_e, sWhile_e, fYes_e, fComp_e, fISeq_e, fIRng1_e, fCall_e, fANil_e, fAV_e, inR_nil, inR_v, inR_s, dropE_nil, dropE_v, dropE_s, outE_nil, outE_v, outE_s, fPNo_e, fPInt_e, fSl_e, fM1_e, fTIx_e, cAdd_i, cAdd_s, cAdd_l, cAdd_t, cSub_i, cMul_i, cFdiv_i, cMod_i, cPow_i, cLt_i, cLe_i, cGt_i, cGe_i, cEq_e, cNe_e, cIs_e, cIsNot_e, cIx_l, cIx_t, cIx_s, cNeg_i, cLen_l, cLen_t, cLen_s, cList_l, cList_t, cTuple_l, cTuple_t, cAll_e, cAny_e, cAbs_i, cInt_b, cInt_i, cStrI_i, cIntS_s, cSplit_s, cJoin_e, cSl_l, cSl_t, cSl_s, mAppend_e, fnM_e, finK_nil, atI_zero, atI_one, ex_some, keepE, wipeE, restE, List.foldr_cons, List.foldr_nil, List.all_cons, List.all_nil, startE, idxs, List.map_cons, List.map_nil, List.length_cons, List.length_nil, Nat.reduceAdd, Nat.reduceSub, Int.reduceToNat, List.reduceReplicate, List.nil_append, List.cons_append, List.append_nil, List.getElem?_cons_zero, List.getElem?_cons_succ, List.set_cons_zero, List.set_cons_succ, Nat.zero_add, Bool.not_true, Bool.not_false, decide_eq_true_eq, if_true, if_false, Bool.false_eq_true, Bool.true_and, Bool.and_true, ite_true, ite_false, reduceIte, eq_self, true_and, and_true, Bool.not_eq_true', decide_eq_false_iff_not]
    refine ⟨by rw [List.length_map]; omega, ?_⟩
    refine compGo_map (f := txD) rfl _ _ (fun d hd k hk => ?_) ?_
    · obtain ⟨p, hp, rfl⟩ := List.mem_map.mp hd
      simp only [sNil_e, sCons_e, sRet_e, sRetN_e, sIf_e, sPass_e, sNever_e, sExpr_e, sAsg_e, sTgt_e, sPar_e, fCst_e, fVar_e, fMov_e, fOV_e, rdSlot_e, fOP_e, as_val, as_lst, bo_e, sv_e, iv_e, ol_e, fO2_e, fBo_e, fNot_e, fAnd_e, fOr_e, fAndV_e, fOrV_e, fNotV_e, fIf_e, fONil_e, fOCons_e, fLNil_e, fLCons_e, fTup_e, fLst_e, fNeg_e, rdAll_nil, rdAll_cons, fCB_e, fIsI_e, fTName_e, fTsNil_e, fTsCons_e, fTTup_e, fMut_e, sFor_e, sWhile_e, fYes_e, fComp_e, fISeq_e, fIRng1_e, fCall_e, fANil_e, fAV_e, inR_nil, inR_v, inR_s, dropE_nil, dropE_v, dropE_s, outE_nil, outE_v, outE_s, fPNo_e, fPInt_e, fSl_e, fM1_e, fTIx_e, cAdd_i, cAdd_s, cAdd_l, cAdd_t, cSub_i, cMul_i, cFdiv_i, cMod_i, cPow_i, cLt_i, cLe_i, cGt_i, cGe_i, cEq_e, cNe_e, cIs_e, cIsNot_e, cIx_l, cIx_t, cIx_s, cNeg_i, cLen_l, cLen_t, cLen_s, cList_l, cList_t, cTuple_l, cTuple_t, cAll_e, cAny_e, cAbs_i, cInt_b, cInt_i, cStrI_i, cIntS_s, cSplit_s, cJoin_e, cSl_l, cSl_t, cSl_s, mAppend_e, fnM_e, finK_nil, atI_zero, atI_one, ex_some, keepE, wipeE, restE, List.foldr_cons, List.foldr_nil, List.all_cons, List.all_nil, startE, idxs, List.map_cons, List.map_nil, List.length_cons, List.length_nil, Nat.reduceAdd, Nat.reduceSub, Int.reduceToNat, List.reduceReplicate, List.nil_append, List.cons_append, List.append_nil, List.getElem?_cons_zero, List.getElem?_cons_succ, List.set_cons_zero, List.set_cons_succ, Nat.zero_add, Bool.not_true, Bool.not_false, decide_eq_true_eq, if_true, if_false, Bool.false_eq_true, Bool.true_and, Bool.and_true, ite_true, ite_false, reduceIte, eq_self, true_and, and_true, Bool.not_eq_true', decide_eq_false_iff_not]
      refine ratio_text_ret _ _ (h p hp).n (h p hp).d _ _ ?_
      exact hk
    · simp only [sNil_e, sCons_e, sRet_e, sRetN_e, sIf_e, sPass_e, sNever_e, sExpr_e, sAsg_e, sTgt_e, sPar_e, fCst_e, fVar_e, fMov_e, fOV_e, rdSlot_e, fOP_e, as_val, as_lst, bo_e, sv_e, iv_e, ol_e, fO2_e, fBo_e, fNot_e, fAnd_e, fOr_e, fAndV_e, fOrV_e, fNotV_e, fIf_e, fONil_e, fOCons_e, fLNil_e, fLCons_e, fTup_e, fLst_e, fNeg_e, rdAll_nil, rdAll_cons, fCB_e, fIsI_e, fTName_e, fTsNil_e, fTsCons_e, fTTup_e, fMut_e, sFor_e, sWhile_e, fYes_e, fComp_e, fISeq_e, fIRng1_e, fCall_e, fANil_e, fAV_e, inR_nil, inR_v, inR_s, dropE_nil, dropE_v, dropE_s, outE_nil, outE_v, outE_s, fPNo_e, fPInt_e, fSl_e, fM1_e, fTIx_e, cAdd_i, cAdd_s, cAdd_l, cAdd_t, cSub_i, cMul_i, cFdiv_i, cMod_i, cPow_i, cLt_i, cLe_i, cGt_i, cGe_i, cEq_e, cNe_e, cIs_e, cIsNot_e, cIx_l, cIx_t, cIx_s, cNeg_i, cLen_l, cLen_t, cLen_s, cList_l, cList_t, cTuple_l, cTuple_t, cAll_e, cAny_e, cAbs_i, cInt_b, cInt_i, cStrI_i, cIntS_s, cSplit_s, cJoin_e, cSl_l, cSl_t, cSl_s, mAppend_e, fnM_e, finK_nil, atI_zero, atI_one, ex_some, keepE, wipeE, restE, List.foldr_cons, List.foldr_nil, List.all_cons, List.all_nil, startE, idxs, List.map_cons, List.map_nil, List.length_cons, List.length_nil, Nat.reduceAdd, Nat.reduceSub, Int.reduceToNat, List.reduceReplicate, List.nil_append, List.cons_append, List.append_nil, List.getElem?_cons_zero, List.getElem?_cons_succ, List.set_cons_zero, List.set_cons_succ, Nat.zero_add, Bool.not_true, Bool.not_false, decide_eq_true_eq, if_true, if_false, Bool.false_eq_true, Bool.true_and, Bool.and_true, ite_true, ite_false, reduceIte, eq_self, true_and, and_true, Bool.not_eq_true', decide_eq_false_iff_not]
      rw [List.map_map, show (txD ∘ rD) = fun p => .str (mkS (rT p)) from rfl]
      exact words_text_ret ps h hl _ _ hk
def wordsT (ps : List (Int × Int)) : List (List Nat) := if ps = [] then [[46]] else ps.map rT
theorem line_cut (ps : List (Int × Int)) : cutOn 32 (lineT ps) = wordsT ps := by
  unfold lineT wordsT
  split
  · rfl
  · exact cutOn_joinL (by simpa using ‹_›) fun l hl => by
      obtain ⟨p, hp, rfl⟩ := List.mem_map.mp hl
      exact rT_no (by decide)
theorem words_of_ret (l : List Nat) (hl : l.length ≤ 20000) : Ret M_words_of [.val (.str (mkS l))] (.olst (((cutOn 32 l).map mkS).map PyData.str)) := by
  intro k kx hk
  have sz : (30000 : Nat) ≤ sizeLine := by decide
  simp only [M_words_of, F_words_of, sNil_e, sCons_e, sRet_e, sRetN_e, sIf_e, sPass_e, sNever_e, sExpr_e, sAsg_e, sTgt_e, sPar_e, fCst_e, fVar_e, fMov_e, fOV_e, rdSlot_e, fOP_e, as_val, as_lst, bo_e, sv_e, iv_e, ol_e, fO2_e, fBo_e, fNot_e, fAnd_e, fOr_e, fAndV_e, fOrV_e, fNotV_e, fIf_e, fONil_e, fOCons_e, fLNil_e, fLCons_e, fTup_e, fLst_e, fNeg_e, rdAll_nil, rdAll_cons, fCB_e, fIsI_e, fTName_e, fTsNil_e, fTsCons_e, fTTup_e, fMut_e, sFor_e, sWhile_e, fYes_e, fComp_e, fISeq_e, fIRng1_e, fCall_e, fANil_e, fAV_e, inR_nil, inR_v, inR_s, dropE_nil, dropE_v, dropE_s, outE_nil, outE_v, outE_s, fPNo_e, fPInt_e, fSl_e, fM1_e, fTIx_e, cAdd_i, cAdd_s, cAdd_l, cAdd_t, cSub_i, cMul_i, cFdiv_i, cMod_i, cPow_i, cLt_i, cLe_i, cGt_i, cGe_i, cEq_e, cNe_e, cIs_e, cIsNot_e, cIx_l, cIx_t, cIx_s, cNeg_i, cLen_l, cLen_t, cLen_s, cList_l, cList_t, cTuple_l, cTuple_t, cAll_e, cAny_e, cAbs_i, cInt_b, cInt_i, cStrI_i, cIntS_s, cSplit_s, cJoin_e, cSl_l, cSl_t, cSl_s, mAppend_e, fnM_e, finK_nil, atI_zero, atI_one, ex_some, keepE, wipeE, restE, List.foldr_cons, List.foldr_nil, List.all_cons, List.all_nil, startE, idxs, List.map_cons, List.map_nil, List.length_cons, List.length_nil, Nat.reduceAdd, Nat.reduceSub, Int.reduceToNat, List.reduceReplicate, List.nil_append, List.cons_append, List.append_nil, List.getElem?_cons_zero, List.getElem?_cons_succ, List.set_cons_zero, List.set_cons_succ, Nat.zero_add, Bool.not_true, Bool.not_false, decide_eq_true_eq, if_true, if_false, Bool.false_eq_true, Bool.true_and, Bool.and_true, ite_true, ite_false, reduceIte, eq_self, true_and, and_true, Bool.not_eq_true', decide_eq_false_iff_not]
  refine ⟨rfl, ?_⟩
  rw [if_neg (fun e => by cases (show true = false from e))]
  refine ⟨rfl, by rw [mkS_len]; omega, ?_⟩
  rw [show Str.ofString " " = ⟨#[32]⟩ from rfl, split_one]
  exact hk
theorem row_of_words_ret (ps : List (Int × Int)) (hl : ps.length ≤ 100) : Ret M_row_of_words [.val (.list (((wordsT ps).map mkS).map PyData.str))] (if ps = [] then .olst [] else .val (.list (ps.map fun p => .str (mkS (rT p))))) := by
  intro k kx hk
  simp only [M_row_of_words, F_row_of_words, sNil_e, sCons_e, sRet_e, sRetN_e, sIf_e, sPass_e, sNever_e, sExpr_e, sAsg_e, sTgt_e, sPar_e, fCst_e, fVar_e, fMov_e, fOV_e, rdSlot_e, fOP_e, as_val, as_lst, bo_e, sv_e, iv_e, ol_e, fO2_e, fBo_e, fNot_e, fAnd_e, fOr_e, fAndV_e, fOrV_e, fNotV_e, fIf_e, fONil_e, fOCons_e, fLNil_e, fLCons_e, fTup_e, fLst_e, fNeg_e, rdAll_nil, rdAll_cons, fCB_e, fIsI_e, fTName_e, fTsNil_e, fTsCons_e, fTTup_e, fMut_e, sFor_e, sWhile_e, fYes_e, fComp_e, fISeq_e, fIRng1_e, fCall_e, fANil_e, fAV_e, inR_nil, inR_v, inR_s, dropE_nil, dropE_v, dropE_s, outE_nil, outE_v, outE_s, fPNo_e, fPInt_e, fSl_e, fM1_e, fTIx_e, cAdd_i, cAdd_s, cAdd_l, cAdd_t, cSub_i, cMul_i, cFdiv_i, cMod_i, cPow_i, cLt_i, cLe_i, cGt_i, cGe_i, cEq_e, cNe_e, cIs_e, cIsNot_e, cIx_l, cIx_t, cIx_s, cNeg_i, cLen_l, cLen_t, cLen_s, cList_l, cList_t, cTuple_l, cTuple_t, cAll_e, cAny_e, cAbs_i, cInt_b, cInt_i, cStrI_i, cIntS_s, cSplit_s, cJoin_e, cSl_l, cSl_t, cSl_s, mAppend_e, fnM_e, finK_nil, atI_zero, atI_one, ex_some, keepE, wipeE, restE, List.foldr_cons, List.foldr_nil, List.all_cons, List.all_nil, startE, idxs, List.map_cons, List.map_nil, List.length_cons, List.length_nil, Nat.reduceAdd, Nat.reduceSub, Int.reduceToNat, List.reduceReplicate, List.nil_append, List.cons_append, List.append_nil, List.getElem?_cons_zero, List.getElem?_cons_succ, List.set_cons_zero, List.set_cons_succ, Nat.zero_add, Bool.not_true, Bool.not_false, decide_eq_true_eq, if_true, if_false, Bool.false_eq_true, Bool.true_and, Bool.and_true, ite_true, ite_false, reduceIte, eq_self, true_and, and_true, Bool.not_eq_true', decide_eq_false_iff_not]
  refine ⟨Sh.shaped (n := 1) (Sh.list fun y hy => ?_), Sh.shaped (n := 1) (Sh.list fun y hy => ?_), ?_⟩
  · simp only [List.mem_map] at hy
    obtain ⟨a, ⟨b, hb, rfl⟩, rfl⟩ := hy
    refine .str (digs_ok fun c hc => ?_)
    unfold wordsT at hb
    split at hb
    · simp at hb
      subst hb
      simp at hc
      omega
    · obtain ⟨p, hp, rfl⟩ := List.mem_map.mp hb
      exact rt_small hc
  · simp at hy
    subst hy
    exact .str (digs_ok (l := [46]) (by simp))
  · cases ps with
    | nil => exact hk
    | cons p ps =>
      rw [if_neg (by simp)] at hk
      obtain ⟨c, r, e, hc⟩ := rT_ne p
      have ew : wordsT (p :: ps) = (p :: ps).map rT := by rw [wordsT, if_neg (by simp)]
      rw [ew, List.map_map, List.map_map]
      have hne : ∀ (xs : List D), PyData.eqv (.list (.str (mkS (rT p)) :: xs)) (.list [.str (Str.ofString ".")]) = false := fun xs => by
        rw [show Str.ofString "." = mkS [46] from rfl, PyData.eqv, PyData.eqvAll, str_eqv]
        simp [e, hc]
      have hne := hne (ps.map (PyData.str ∘ mkS ∘ rT))
      rw [show (List.map ((PyData.str ∘ mkS) ∘ rT) (p :: ps)) = .str (mkS (rT p)) :: ps.map (PyData.str ∘ mkS ∘ rT) from rfl]
      rw [hne]
      rw [if_neg (by simp), if_neg (by rw [List.length_cons] at hl; simp; omega)]
      exact hk
theorem read_ratio_ret (i j : Int) (hi : Num i) (hj : Num j) (h0 : 0 < j) (hg : gcdI i j = 1) : Ret M_read_ratio [.val (.str (mkS (rt i j)))] (.val (.tuple [.int i, .int j])) := by
  intro k kx hk
  have hl := rt_len hi hj
  have hc : cutOn 32 (rt i j) = [rt i j] := cutOn_free (rT_no (p := (i, j)) (by decide))
  rw [M_read_ratio, fnM_e, F_read_ratio]
  rw [sCons_e]; simp only [sNil_e, sRet_e, sRetN_e, sIf_e, sPass_e, sNever_e, sExpr_e, sAsg_e, sTgt_e, sPar_e, fCst_e, fVar_e, fMov_e, fOV_e, rdSlot_e, fOP_e, as_val, as_lst, bo_e, sv_e, iv_e, ol_e, fO2_e, fBo_e, fNot_e, fAnd_e, fOr_e, fAndV_e, fOrV_e, fNotV_e, fIf_e, fONil_e, fOCons_e, fLNil_e, fLCons_e, fTup_e, fLst_e, fNeg_e, rdAll_nil, rdAll_cons, fCB_e, fIsI_e, fTName_e, fTsNil_e, fTsCons_e, fTTup_e, fMut_e, sFor_e, sWhile_e, fYes_e, fComp_e, fISeq_e, fIRng1_e, fCall_e, fANil_e, fAV_e, inR_nil, inR_v, inR_s, dropE_nil, dropE_v, dropE_s, outE_nil, outE_v, outE_s, fPNo_e, fPInt_e, fSl_e, fM1_e, fTIx_e, cAdd_i, cAdd_s, cAdd_l, cAdd_t, cSub_i, cMul_i, cFdiv_i, cMod_i, cPow_i, cLt_i, cLe_i, cGt_i, cGe_i, cEq_e, cNe_e, cIs_e, cIsNot_e, cIx_l, cIx_t, cIx_s, cNeg_i, cLen_l, cLen_t, cLen_s, cList_l, cList_t, cTuple_l, cTuple_t, cAll_e, cAny_e, cAbs_i, cInt_b, cInt_i, cStrI_i, cIntS_s, cSplit_s, cJoin_e, cSl_l, cSl_t, cSl_s, mAppend_e, fnM_e, finK_nil, atI_zero, atI_one, ex_some, keepE, wipeE, restE, List.foldr_cons, List.foldr_nil, List.all_cons, List.all_nil, startE, idxs, List.map_cons, List.map_nil, List.length_cons, List.length_nil, Nat.reduceAdd, Nat.reduceSub, Int.reduceToNat, List.reduceReplicate, List.nil_append, List.cons_append, List.append_nil, List.getElem?_cons_zero, List.getElem?_cons_succ, List.set_cons_zero, List.set_cons_succ, Nat.zero_add, Bool.not_true, Bool.not_false, decide_eq_true_eq, if_true, if_false, Bool.false_eq_true, Bool.true_and, Bool.and_true, ite_true, ite_false, reduceIte, eq_self, true_and, and_true, Bool.not_eq_true', decide_eq_false_iff_not]
  refine words_of_ret _ (by omega) _ _ ?_
  simp only [sNil_e, sRet_e, sRetN_e, sIf_e, sPass_e, sNever_e, sExpr_e, sAsg_e, sTgt_e, sPar_e, fCst_e, fVar_e, fMov_e, fOV_e, rdSlot_e, fOP_e, as_val, as_lst, bo_e, sv_e, iv_e, ol_e, fO2_e, fBo_e, fNot_e, fAnd_e, fOr_e, fAndV_e, fOrV_e, fNotV_e, fIf_e, fONil_e, fOCons_e, fLNil_e, fLCons_e, fTup_e, fLst_e, fNeg_e, rdAll_nil, rdAll_cons, fCB_e, fIsI_e, fTName_e, fTsNil_e, fTsCons_e, fTTup_e, fMut_e, sFor_e, sWhile_e, fYes_e, fComp_e, fISeq_e, fIRng1_e, fCall_e, fANil_e, fAV_e, inR_nil, inR_v, inR_s, dropE_nil, dropE_v, dropE_s, outE_nil, outE_v, outE_s, fPNo_e, fPInt_e, fSl_e, fM1_e, fTIx_e, cAdd_i, cAdd_s, cAdd_l, cAdd_t, cSub_i, cMul_i, cFdiv_i, cMod_i, cPow_i, cLt_i, cLe_i, cGt_i, cGe_i, cEq_e, cNe_e, cIs_e, cIsNot_e, cIx_l, cIx_t, cIx_s, cNeg_i, cLen_l, cLen_t, cLen_s, cList_l, cList_t, cTuple_l, cTuple_t, cAll_e, cAny_e, cAbs_i, cInt_b, cInt_i, cStrI_i, cIntS_s, cSplit_s, cJoin_e, cSl_l, cSl_t, cSl_s, mAppend_e, fnM_e, finK_nil, atI_zero, atI_one, ex_some, keepE, wipeE, restE, List.foldr_cons, List.foldr_nil, List.all_cons, List.all_nil, startE, idxs, List.map_cons, List.map_nil, List.length_cons, List.length_nil, Nat.reduceAdd, Nat.reduceSub, Int.reduceToNat, List.reduceReplicate, List.nil_append, List.cons_append, List.append_nil, List.getElem?_cons_zero, List.getElem?_cons_succ, List.set_cons_zero, List.set_cons_succ, Nat.zero_add, Bool.not_true, Bool.not_false, decide_eq_true_eq, if_true, if_false, Bool.false_eq_true, Bool.true_and, Bool.and_true, ite_true, ite_false, reduceIte, eq_self, true_and, and_true, Bool.not_eq_true', decide_eq_false_iff_not, hc]
  rw [sCons_e]; simp only [sNil_e, sRet_e, sRetN_e, sIf_e, sPass_e, sNever_e, sExpr_e, sAsg_e, sTgt_e, sPar_e, fCst_e, fVar_e, fMov_e, fOV_e, rdSlot_e, fOP_e, as_val, as_lst, bo_e, sv_e, iv_e, ol_e, fO2_e, fBo_e, fNot_e, fAnd_e, fOr_e, fAndV_e, fOrV_e, fNotV_e, fIf_e, fONil_e, fOCons_e, fLNil_e, fLCons_e, fTup_e, fLst_e, fNeg_e, rdAll_nil, rdAll_cons, fCB_e, fIsI_e, fTName_e, fTsNil_e, fTsCons_e, fTTup_e, fMut_e, sFor_e, sWhile_e, fYes_e, fComp_e, fISeq_e, fIRng1_e, fCall_e, fANil_e, fAV_e, inR_nil, inR_v, inR_s, dropE_nil, dropE_v, dropE_s, outE_nil, outE_v, outE_s, fPNo_e, fPInt_e, fSl_e, fM1_e, fTIx_e, cAdd_i, cAdd_s, cAdd_l, cAdd_t, cSub_i, cMul_i, cFdiv_i, cMod_i, cPow_i, cLt_i, cLe_i, cGt_i, cGe_i, cEq_e, cNe_e, cIs_e, cIsNot_e, cIx_l, cIx_t, cIx_s, cNeg_i, cLen_l, cLen_t, cLen_s, cList_l, cList_t, cTuple_l, cTuple_t, cAll_e, cAny_e, cAbs_i, cInt_b, cInt_i, cStrI_i, cIntS_s, cSplit_s, cJoin_e, cSl_l, cSl_t, cSl_s, mAppend_e, fnM_e, finK_nil, atI_zero, atI_one, ex_some, keepE, wipeE, restE, List.foldr_cons, List.foldr_nil, List.all_cons, List.all_nil, startE, idxs, List.map_cons, List.map_nil, List.length_cons, List.length_nil, Nat.reduceAdd, Nat.reduceSub, Int.reduceToNat, List.reduceReplicate, List.nil_append, List.cons_append, List.append_nil, List.getElem?_cons_zero, List.getElem?_cons_succ, List.set_cons_zero, List.set_cons_succ, Nat.zero_add, Bool.not_true, Bool.not_false, decide_eq_true_eq, if_true, if_false, Bool.false_eq_true, Bool.true_and, Bool.and_true, ite_true, ite_false, reduceIte, eq_self, true_and, and_true, Bool.not_eq_true', decide_eq_false_iff_not]
  refine ratio_of_word_ret _ _ hi hj h0 hg _ _ ?_
  rw [sCons_e]; simp only [sNil_e, sRet_e, sRetN_e, sIf_e, sPass_e, sNever_e, sExpr_e, sAsg_e, sTgt_e, sPar_e, fCst_e, fVar_e, fMov_e, fOV_e, rdSlot_e, fOP_e, as_val, as_lst, bo_e, sv_e, iv_e, ol_e, fO2_e, fBo_e, fNot_e, fAnd_e, fOr_e, fAndV_e, fOrV_e, fNotV_e, fIf_e, fONil_e, fOCons_e, fLNil_e, fLCons_e, fTup_e, fLst_e, fNeg_e, rdAll_nil, rdAll_cons, fCB_e, fIsI_e, fTName_e, fTsNil_e, fTsCons_e, fTTup_e, fMut_e, sFor_e, sWhile_e, fYes_e, fComp_e, fISeq_e, fIRng1_e, fCall_e, fANil_e, fAV_e, inR_nil, inR_v, inR_s, dropE_nil, dropE_v, dropE_s, outE_nil, outE_v, outE_s, fPNo_e, fPInt_e, fSl_e, fM1_e, fTIx_e, cAdd_i, cAdd_s, cAdd_l, cAdd_t, cSub_i, cMul_i, cFdiv_i, cMod_i, cPow_i, cLt_i, cLe_i, cGt_i, cGe_i, cEq_e, cNe_e, cIs_e, cIsNot_e, cIx_l, cIx_t, cIx_s, cNeg_i, cLen_l, cLen_t, cLen_s, cList_l, cList_t, cTuple_l, cTuple_t, cAll_e, cAny_e, cAbs_i, cInt_b, cInt_i, cStrI_i, cIntS_s, cSplit_s, cJoin_e, cSl_l, cSl_t, cSl_s, mAppend_e, fnM_e, finK_nil, atI_zero, atI_one, ex_some, keepE, wipeE, restE, List.foldr_cons, List.foldr_nil, List.all_cons, List.all_nil, startE, idxs, List.map_cons, List.map_nil, List.length_cons, List.length_nil, Nat.reduceAdd, Nat.reduceSub, Int.reduceToNat, List.reduceReplicate, List.nil_append, List.cons_append, List.append_nil, List.getElem?_cons_zero, List.getElem?_cons_succ, List.set_cons_zero, List.set_cons_succ, Nat.zero_add, Bool.not_true, Bool.not_false, decide_eq_true_eq, if_true, if_false, Bool.false_eq_true, Bool.true_and, Bool.and_true, ite_true, ite_false, reduceIte, eq_self, true_and, and_true, Bool.not_eq_true', decide_eq_false_iff_not]
  refine ⟨Sh.shaped (n := 0) (.int _), Sh.shaped (n := 0) (.int _), ?_⟩
  rw [if_neg (by simp [PyData.eqv])]
  rw [if_neg (by simp [isNonD])]
  exact ratio_ret _ _ h0 hg _ _ hk
def roD (d : D) : D := match d with
  | .str x => match (cutOn 47 x.cps.toList) with
    | _ => .none
  | _ => .none
theorem read_ratios_ret (ps : List (Int × Int)) (h : ∀ p ∈ ps, Gd p) (hl : ps.length ≤ 100) : Ret M_read_ratios [.val (.str (mkS (lineT ps)))] (.val (.tuple (ps.map rD))) := by
  intro k kx hk
  have hll := lineT_len h hl
  rw [M_read_ratios, fnM_e, F_read_ratios]
  rw [sCons_e]; simp only [sNil_e, sRet_e, sRetN_e, sIf_e, sPass_e, sNever_e, sExpr_e, sAsg_e, sTgt_e, sPar_e, fCst_e, fVar_e, fMov_e, fOV_e, rdSlot_e, fOP_e, as_val, as_lst, bo_e, sv_e, iv_e, ol_e, fO2_e, fBo_e, fNot_e, fAnd_e, fOr_e, fAndV_e, fOrV_e, fNotV_e, fIf_e, fONil_e, fOCons_e, fLNil_e, fLCons_e, fTup_e, fLst_e, fNeg_e, rdAll_nil, rdAll_cons, fCB_e, fIsI_e, fTName_e, fTsNil_e, fTsCons_e, fTTup_e, fMut_e, sFor_e, sWhile_e, fYes_e, fComp_e, fISeq_e, fIRng1_e, fCall_e, fANil_e, fAV_e, inR_nil, inR_v, inR_s, dropE_nil, dropE_v, dropE_s, outE_nil, outE_v, outE_s, fPNo_e, fPInt_e, fSl_e, fM1_e, fTIx_e, cAdd_i, cAdd_s, cAdd_l, cAdd_t, cSub_i, cMul_i, cFdiv_i, cMod_i, cPow_i, cLt_i, cLe_i, cGt_i, cGe_i, cEq_e, cNe_e, cIs_e, cIsNot_e, cIx_l, cIx_t, cIx_s, cNeg_i, cLen_l, cLen_t, cLen_s, cList_l, cList_t, cTuple_l, cTuple_t, cAll_e, cAny_e, cAbs_i, cInt_b, cInt_i, cStrI_i, cIntS_s, cSplit_s, cJoin_e, cSl_l, cSl_t, cSl_s, mAppend_e, fnM_e, finK_nil, atI_zero, atI_one, ex_some, keepE, wipeE, restE, List.foldr_cons, List.foldr_nil, List.all_cons, List.all_nil, startE, idxs, List.map_cons, List.map_nil, List.length_cons, List.length_nil, Nat.reduceAdd, Nat.reduceSub, Int.reduceToNat, List.reduceReplicate, List.nil_append, List.cons_append, List.append_nil, List.getElem?_cons_zero, List.getElem?_cons_succ, List.set_cons_zero, List.set_cons_succ, Nat.zero_add, Bool.not_true, Bool.not_false, decide_eq_true_eq, if_true, if_false, Bool.false_eq_true, Bool.true_and, Bool.and_true, ite_true, ite_false, reduceIte, eq_self, true_and, and_true, Bool.not_eq_true', decide_eq_false_iff_not]
  refine words_of_ret _ (by omega) _ _ ?_
  simp only [sNil_e, sRet_e, sRetN_e, sIf_e, sPass_e, sNever_e, sExpr_e, sAsg_e, sTgt_e, sPar_e, fCst_e, fVar_e, fMov_e, fOV_e, rdSlot_e, fOP_e, as_val, as_lst, bo_e, sv_e, iv_e, ol_e, fO2_e, fBo_e, fNot_e, fAnd_e, fOr_e, fAndV_e, fOrV_e, fNotV_e, fIf_e, fONil_e, fOCons_e, fLNil_e, fLCons_e, fTup_e, fLst_e, fNeg_e, rdAll_nil, rdAll_cons, fCB_e, fIsI_e, fTName_e, fTsNil_e, fTsCons_e, fTTup_e, fMut_e, sFor_e, sWhile_e, fYes_e, fComp_e, fISeq_e, fIRng1_e, fCall_e, fANil_e, fAV_e, inR_nil, inR_v, inR_s, dropE_nil, dropE_v, dropE_s, outE_nil, outE_v, outE_s, fPNo_e, fPInt_e, fSl_e, fM1_e, fTIx_e, cAdd_i, cAdd_s, cAdd_l, cAdd_t, cSub_i, cMul_i, cFdiv_i, cMod_i, cPow_i, cLt_i, cLe_i, cGt_i, cGe_i, cEq_e, cNe_e, cIs_e, cIsNot_e, cIx_l, cIx_t, cIx_s, cNeg_i, cLen_l, cLen_t, cLen_s, cList_l, cList_t, cTuple_l, cTuple_t, cAll_e, cAny_e, cAbs_i, cInt_b, cInt_i, cStrI_i, cIntS_s, cSplit_s, cJoin_e, cSl_l, cSl_t, cSl_s, mAppend_e, fnM_e, finK_nil, atI_zero, atI_one, ex_some, keepE, wipeE, restE, List.foldr_cons, List.foldr_nil, List.all_cons, List.all_nil, startE, idxs, List.map_cons, List.map_nil, List.length_cons, List.length_nil, Nat.reduceAdd, Nat.reduceSub, Int.reduceToNat, List.reduceReplicate, List.nil_append, List.cons_append, List.append_nil, List.getElem?_cons_zero, List.getElem?_cons_succ, List.set_cons_zero, List.set_cons_succ, Nat.zero_add, Bool.not_true, Bool.not_false, decide_eq_true_eq, if_true, if_false, Bool.false_eq_true, Bool.true_and, Bool.and_true, ite_true, ite_false, reduceIte, eq_self, true_and, and_true, Bool.not_eq_true', decide_eq_false_iff_not, line_cut]
  refine row_of_words_ret ps hl _ _ ?_
  have hrow : ∀ κ : D → Prop, κ (.list (ps.map fun p => .str (mkS (rT p)))) → (if ps = [] then R.olst [] else R.val (PyData.list (List.map (fun p => PyData.str (mkS (rT p))) ps))).as κ := by
    intro κ hκ
    split
    · rename_i e
      subst e
      exact hκ
    · exact hκ
  refine hrow _ ?_
  have sz : (200 : Nat) ≤ sizeLine := by decide
  refine ⟨by rw [List.length_map]; omega, ?_⟩
  have H : ∀ (l : List (Int × Int)) (acc : List D) (ρ : Ev) (κ : List D → Ev → Prop), ρ[2]? = some none → (∀ p ∈ l, Gd p) → κ (acc ++ l.map rD) ρ →
      compGo [2] (fTName 2) fYes (fCall M_ratio_of_word (fAV (fVar 2) fANil) fun x x_1 => False) (l.map fun p => .str (mkS (rT p))) ρ acc κ := by
    intro l
    induction l with
    | nil =>
      intro acc ρ κ _ _ hk
      simpa [compGo] using hk
    | cons p l ih =>
      intro acc ρ κ hρ hl hk
      have h2 : 2 < ρ.length := (List.getElem?_eq_some_iff.mp hρ).1
      rw [List.map_cons, compGo_cons]
      simp only [sNil_e, sRet_e, sRetN_e, sIf_e, sPass_e, sNever_e, sExpr_e, sAsg_e, sTgt_e, sPar_e, fCst_e, fVar_e, fMov_e, fOV_e, rdSlot_e, fOP_e, as_val, as_lst, bo_e, sv_e, iv_e, ol_e, fO2_e, fBo_e, fNot_e, fAnd_e, fOr_e, fAndV_e, fOrV_e, fNotV_e, fIf_e, fONil_e, fOCons_e, fLNil_e, fLCons_e, fTup_e, fLst_e, fNeg_e, rdAll_nil, rdAll_cons, fCB_e, fIsI_e, fTName_e, fTsNil_e, fTsCons_e, fTTup_e, fMut_e, sFor_e, sWhile_e, fYes_e, fComp_e, fISeq_e, fIRng1_e, fCall_e, fANil_e, fAV_e, inR_nil, inR_v, inR_s, dropE_nil, dropE_v, dropE_s, outE_nil, outE_v, outE_s, fPNo_e, fPInt_e, fSl_e, fM1_e, fTIx_e, cAdd_i, cAdd_s, cAdd_l, cAdd_t, cSub_i, cMul_i, cFdiv_i, cMod_i, cPow_i, cLt_i, cLe_i, cGt_i, cGe_i, cEq_e, cNe_e, cIs_e, cIsNot_e, cIx_l, cIx_t, cIx_s, cNeg_i, cLen_l, cLen_t, cLen_s, cList_l, cList_t, cTuple_l, cTuple_t, cAll_e, cAny_e, cAbs_i, cInt_b, cInt_i, cStrI_i, cIntS_s, cSplit_s, cJoin_e, cSl_l, cSl_t, cSl_s, mAppend_e, fnM_e, finK_nil, atI_zero, atI_one, ex_some, keepE, wipeE, restE, List.foldr_cons, List.foldr_nil, List.all_cons, List.all_nil, startE, idxs, List.map_cons, List.map_nil, List.length_cons, List.length_nil, Nat.reduceAdd, Nat.reduceSub, Int.reduceToNat, List.reduceReplicate, List.nil_append, List.cons_append, List.append_nil, List.getElem?_cons_zero, List.getElem?_cons_succ, List.set_cons_zero, List.set_cons_succ, Nat.zero_add, Bool.not_true, Bool.not_false, decide_eq_true_eq, if_true, if_false, Bool.false_eq_true, Bool.true_and, Bool.and_true, ite_true, ite_false, reduceIte, eq_self, true_and, and_true, Bool.not_eq_true', decide_eq_false_iff_not, List.getElem?_set_self h2]
      have hp := hl p (by simp)
      refine ratio_of_word_ret _ _ hp.n hp.d hp.d0 hp.g _ _ ?_
      simp only [sNil_e, sRet_e, sRetN_e, sIf_e, sPass_e, sNever_e, sExpr_e, sAsg_e, sTgt_e, sPar_e, fCst_e, fVar_e, fMov_e, fOV_e, rdSlot_e, fOP_e, as_val, as_lst, bo_e, sv_e, iv_e, ol_e, fO2_e, fBo_e, fNot_e, fAnd_e, fOr_e, fAndV_e, fOrV_e, fNotV_e, fIf_e, fONil_e, fOCons_e, fLNil_e, fLCons_e, fTup_e, fLst_e, fNeg_e, rdAll_nil, rdAll_cons, fCB_e, fIsI_e, fTName_e, fTsNil_e, fTsCons_e, fTTup_e, fMut_e, sFor_e, sWhile_e, fYes_e, fComp_e, fISeq_e, fIRng1_e, fCall_e, fANil_e, fAV_e, inR_nil, inR_v, inR_s, dropE_nil, dropE_v, dropE_s, outE_nil, outE_v, outE_s, fPNo_e, fPInt_e, fSl_e, fM1_e, fTIx_e, cAdd_i, cAdd_s, cAdd_l, cAdd_t, cSub_i, cMul_i, cFdiv_i, cMod_i, cPow_i, cLt_i, cLe_i, cGt_i, cGe_i, cEq_e, cNe_e, cIs_e, cIsNot_e, cIx_l, cIx_t, cIx_s, cNeg_i, cLen_l, cLen_t, cLen_s, cList_l, cList_t, cTuple_l, cTuple_t, cAll_e, cAny_e, cAbs_i, cInt_b, cInt_i, cStrI_i, cIntS_s, cSplit_s, cJoin_e, cSl_l, cSl_t, cSl_s, mAppend_e, fnM_e, finK_nil, atI_zero, atI_one, ex_some, keepE, wipeE, restE, List.foldr_cons, List.foldr_nil, List.all_cons, List.all_nil, startE, idxs, List.map_cons, List.map_nil, List.length_cons, List.length_nil, Nat.reduceAdd, Nat.reduceSub, Int.reduceToNat, List.reduceReplicate, List.nil_append, List.cons_append, List.append_nil, List.getElem?_cons_zero, List.getElem?_cons_succ, List.set_cons_zero, List.set_cons_succ, Nat.zero_add, Bool.not_true, Bool.not_false, decide_eq_true_eq, if_true, if_false, Bool.false_eq_true, Bool.true_and, Bool.and_true, ite_true, ite_false, reduceIte, eq_self, true_and, and_true, Bool.not_eq_true', decide_eq_false_iff_not, List.set_set]
      rw [set_same hρ]
      refine ih _ _ _ hρ (fun q hq => hl q (List.mem_cons_of_mem _ hq)) ?_
      rw [List.append_assoc]
      exact hk
  refine H ps [] _ _ rfl h ?_
  simp only [sNil_e, sRet_e, sRetN_e, sIf_e, sPass_e, sNever_e, sExpr_e, sAsg_e, sTgt_e, sPar_e, fCst_e, fVar_e, fMov_e, fOV_e, rdSlot_e, fOP_e, as_val, as_lst, bo_e, sv_e, iv_e, ol_e, fO2_e, fBo_e, fNot_e, fAnd_e, fOr_e, fAndV_e, fOrV_e, fNotV_e, fIf_e, fONil_e, fOCons_e, fLNil_e, fLCons_e, fTup_e, fLst_e, fNeg_e, rdAll_nil, rdAll_cons, fCB_e, fIsI_e, fTName_e, fTsNil_e, fTsCons_e, fTTup_e, fMut_e, sFor_e, sWhile_e, fYes_e, fComp_e, fISeq_e, fIRng1_e, fCall_e, fANil_e, fAV_e, inR_nil, inR_v, inR_s, dropE_nil, dropE_v, dropE_s, outE_nil, outE_v, outE_s, fPNo_e, fPInt_e, fSl_e, fM1_e, fTIx_e, cAdd_i, cAdd_s, cAdd_l, cAdd_t, cSub_i, cMul_i, cFdiv_i, cMod_i, cPow_i, cLt_i, cLe_i, cGt_i, cGe_i, cEq_e, cNe_e, cIs_e, cIsNot_e, cIx_l, cIx_t, cIx_s, cNeg_i, cLen_l, cLen_t, cLen_s, cList_l, cList_t, cTuple_l, cTuple_t, cAll_e, cAny_e, cAbs_i, cInt_b, cInt_i, cStrI_i, cIntS_s, cSplit_s, cJoin_e, cSl_l, cSl_t, cSl_s, mAppend_e, fnM_e, finK_nil, atI_zero, atI_one, ex_some, keepE, wipeE, restE, List.foldr_cons, List.foldr_nil, List.all_cons, List.all_nil, startE, idxs, List.map_cons, List.map_nil, List.length_cons, List.length_nil, Nat.reduceAdd, Nat.reduceSub, Int.reduceToNat, List.reduceReplicate, List.nil_append, List.cons_append, List.append_nil, List.getElem?_cons_zero, List.getElem?_cons_succ, List.set_cons_zero, List.set_cons_succ, Nat.zero_add, Bool.not_true, Bool.not_false, decide_eq_true_eq, if_true, if_false, Bool.false_eq_true, Bool.true_and, Bool.and_true, ite_true, ite_false, reduceIte, eq_self, true_and, and_true, Bool.not_eq_true', decide_eq_false_iff_not]
  rw [sCons_e]; simp only [sNil_e, sRet_e, sRetN_e, sIf_e, sPass_e, sNever_e, sExpr_e, sAsg_e, sTgt_e, sPar_e, fCst_e, fVar_e, fMov_e, fOV_e, rdSlot_e, fOP_e, as_val, as_lst, bo_e, sv_e, iv_e, ol_e, fO2_e, fBo_e, fNot_e, fAnd_e, fOr_e, fAndV_e, fOrV_e, fNotV_e, fIf_e, fONil_e, fOCons_e, fLNil_e, fLCons_e, fTup_e, fLst_e, fNeg_e, rdAll_nil, rdAll_cons, fCB_e, fIsI_e, fTName_e, fTsNil_e, fTsCons_e, fTTup_e, fMut_e, sFor_e, sWhile_e, fYes_e, fComp_e, fISeq_e, fIRng1_e, fCall_e, fANil_e, fAV_e, inR_nil, inR_v, inR_s, dropE_nil, dropE_v, dropE_s, outE_nil, outE_v, outE_s, fPNo_e, fPInt_e, fSl_e, fM1_e, fTIx_e, cAdd_i, cAdd_s, cAdd_l, cAdd_t, cSub_i, cMul_i, cFdiv_i, cMod_i, cPow_i, cLt_i, cLe_i, cGt_i, cGe_i, cEq_e, cNe_e, cIs_e, cIsNot_e, cIx_l, cIx_t, cIx_s, cNeg_i, cLen_l, cLen_t, cLen_s, cList_l, cList_t, cTuple_l, cTuple_t, cAll_e, cAny_e, cAbs_i, cInt_b, cInt_i, cStrI_i, cIntS_s, cSplit_s, cJoin_e, cSl_l, cSl_t, cSl_s, mAppend_e, fnM_e, finK_nil, atI_zero, atI_one, ex_some, keepE, wipeE, restE, List.foldr_cons, List.foldr_nil, List.all_cons, List.all_nil, startE, idxs, List.map_cons, List.map_nil, List.length_cons, List.length_nil, Nat.reduceAdd, Nat.reduceSub, Int.reduceToNat, List.reduceReplicate, List.nil_append, List.cons_append, List.append_nil, List.getElem?_cons_zero, List.getElem?_cons_succ, List.set_cons_zero, List.set_cons_succ, Nat.zero_add, Bool.not_true, Bool.not_false, decide_eq_true_eq, if_true, if_false, Bool.false_eq_true, Bool.true_and, Bool.and_true, ite_true, ite_false, reduceIte, eq_self, true_and, and_true, Bool.not_eq_true', decide_eq_false_iff_not]
  refine cIn_none (fun y hy => by
    obtain ⟨p, hp, rfl⟩ := List.mem_map.mp hy
    exact .inr ⟨p.1, p.2, rfl⟩) ?_
  rw [bo_e, if_neg (by decide)]
  refine ⟨by rw [List.length_map]; omega, ?_⟩
  refine compGo_map (f := fun _ => .bool true) rfl _ _ (fun d hd k hk => ?_) ?_
  · obtain ⟨p, hp, rfl⟩ := List.mem_map.mp hd
    simp only [sNil_e, sRet_e, sRetN_e, sIf_e, sPass_e, sNever_e, sExpr_e, sAsg_e, sTgt_e, sPar_e, fCst_e, fVar_e, fMov_e, fOV_e, rdSlot_e, fOP_e, as_val, as_lst, bo_e, sv_e, iv_e, ol_e, fO2_e, fBo_e, fNot_e, fAnd_e, fOr_e, fAndV_e, fOrV_e, fNotV_e, fIf_e, fONil_e, fOCons_e, fLNil_e, fLCons_e, fTup_e, fLst_e, fNeg_e, rdAll_nil, rdAll_cons, fCB_e, fIsI_e, fTName_e, fTsNil_e, fTsCons_e, fTTup_e, fMut_e, sFor_e, sWhile_e, fYes_e, fComp_e, fISeq_e, fIRng1_e, fCall_e, fANil_e, fAV_e, inR_nil, inR_v, inR_s, dropE_nil, dropE_v, dropE_s, outE_nil, outE_v, outE_s, fPNo_e, fPInt_e, fSl_e, fM1_e, fTIx_e, cAdd_i, cAdd_s, cAdd_l, cAdd_t, cSub_i, cMul_i, cFdiv_i, cMod_i, cPow_i, cLt_i, cLe_i, cGt_i, cGe_i, cEq_e, cNe_e, cIs_e, cIsNot_e, cIx_l, cIx_t, cIx_s, cNeg_i, cLen_l, cLen_t, cLen_s, cList_l, cList_t, cTuple_l, cTuple_t, cAll_e, cAny_e, cAbs_i, cInt_b, cInt_i, cStrI_i, cIntS_s, cSplit_s, cJoin_e, cSl_l, cSl_t, cSl_s, mAppend_e, fnM_e, finK_nil, atI_zero, atI_one, ex_some, keepE, wipeE, restE, List.foldr_cons, List.foldr_nil, List.all_cons, List.all_nil, startE, idxs, List.map_cons, List.map_nil, List.length_cons, List.length_nil, Nat.reduceAdd, Nat.reduceSub, Int.reduceToNat, List.reduceReplicate, List.nil_append, List.cons_append, List.append_nil, List.getElem?_cons_zero, List.getElem?_cons_succ, List.set_cons_zero, List.set_cons_succ, Nat.zero_add, Bool.not_true, Bool.not_false, decide_eq_true_eq, if_true, if_false, Bool.false_eq_true, Bool.true_and, Bool.and_true, ite_true, ite_false, reduceIte, eq_self, true_and, and_true, Bool.not_eq_true', decide_eq_false_iff_not, rD]
    have := (h p hp).n0
    rw [decide_eq_true this]
    exact hk
  · refine ⟨ps.map fun _ => true, by simp, ?_⟩
    rw [if_neg (by simp)]
    simp only [sNil_e, sRet_e, sRetN_e, sIf_e, sPass_e, sNever_e, sExpr_e, sAsg_e, sTgt_e, sPar_e, fCst_e, fVar_e, fMov_e, fOV_e, rdSlot_e, fOP_e, as_val, as_lst, bo_e, sv_e, iv_e, ol_e, fO2_e, fBo_e, fNot_e, fAnd_e, fOr_e, fAndV_e, fOrV_e, fNotV_e, fIf_e, fONil_e, fOCons_e, fLNil_e, fLCons_e, fTup_e, fLst_e, fNeg_e, rdAll_nil, rdAll_cons, fCB_e, fIsI_e, fTName_e, fTsNil_e, fTsCons_e, fTTup_e, fMut_e, sFor_e, sWhile_e, fYes_e, fComp_e, fISeq_e, fIRng1_e, fCall_e, fANil_e, fAV_e, inR_nil, inR_v, inR_s, dropE_nil, dropE_v, dropE_s, outE_nil, outE_v, outE_s, fPNo_e, fPInt_e, fSl_e, fM1_e, fTIx_e, cAdd_i, cAdd_s, cAdd_l, cAdd_t, cSub_i, cMul_i, cFdiv_i, cMod_i, cPow_i, cLt_i, cLe_i, cGt_i, cGe_i, cEq_e, cNe_e, cIs_e, cIsNot_e, cIx_l, cIx_t, cIx_s, cNeg_i, cLen_l, cLen_t, cLen_s, cList_l, cList_t, cTuple_l, cTuple_t, cAll_e, cAny_e, cAbs_i, cInt_b, cInt_i, cStrI_i, cIntS_s, cSplit_s, cJoin_e, cSl_l, cSl_t, cSl_s, mAppend_e, fnM_e, finK_nil, atI_zero, atI_one, ex_some, keepE, wipeE, restE, List.foldr_cons, List.foldr_nil, List.all_cons, List.all_nil, startE, idxs, List.map_cons, List.map_nil, List.length_cons, List.length_nil, Nat.reduceAdd, Nat.reduceSub, Int.reduceToNat, List.reduceReplicate, List.nil_append, List.cons_append, List.append_nil, List.getElem?_cons_zero, List.getElem?_cons_succ, List.set_cons_zero, List.set_cons_succ, Nat.zero_add, Bool.not_true, Bool.not_false, decide_eq_true_eq, if_true, if_false, Bool.false_eq_true, Bool.true_and, Bool.and_true, ite_true, ite_false, reduceIte, eq_self, true_and, and_true, Bool.not_eq_true', decide_eq_false_iff_not]
    exact hk
/-! ### what the law deals out -/
theorem pick {P : Int → Prop} (xs : List Int) (k : Int) (h0 : 0 ≤ k) (h1 : k < xs.length) (h : ∀ v ∈ xs, P v) : ∃ v, P v ∧ atI (xs.map PyData.int) k = some (.int v) := by
  obtain ⟨n, rfl⟩ := Int.eq_ofNat_of_zero_le h0
  have hn : n < xs.length := by omega
  refine ⟨xs[n], h _ (List.getElem_mem hn), ?_⟩
  rw [atI_nat (n := n) rfl (by rw [List.length_map]; exact hn), List.getElem?_map, List.getElem?_eq_getElem hn]
  rfl
theorem divok {i j : Int} (h0 : 0 < j) (h : j ≤ 10 ^ 60) : DivOk i j := by
  refine ⟨h0, ?_⟩
  have h1 : j.natAbs < 2 ^ 200 := by
    have e : (10 : Int) ^ 60 = ((10 ^ 60 : Nat) : Int) := rfl
    have e2 : (10 : Nat) ^ 60 < 2 ^ 200 := by decide
    omega
  have := (Nat.log2_lt (by omega)).mpr h1
  omega
theorem cpow10 (n : Int) (h0 : 0 ≤ n) (h : n ≤ 1000000) : CPow 10 n := ⟨h0, h, by decide⟩
end K77
end

section
set_option maxRecDepth 100000
set_option maxHeartbeats 200000
namespace K77
open PySem PySem.Spec PyProof.Rows L2 Cr
theorem srt1 (c : Int) (dn : Dn) (S : FS) (h : S dn [some (.val (.int (c / 5))), none, some (.val (.int (c % 5))), none, none]) : sCons (sTgt (fCB cDivmod (fOCons (fOP 0) (fOCons (fOV (fCst (.int 5))) fONil))) (fTTup 2 (fTsCons (fTName 0) (fTsCons (fTName 2) fTsNil)))) S dn [some (.val (.int c)), none, none, none, none] := by
  rw [sCons_e]; simp only [sNil_e, sRet_e, sRetN_e, sIf_e, sPass_e, sNever_e, sExpr_e, sAsg_e, sTgt_e, sPar_e, fCst_e, fVar_e, fMov_e, fOV_e, rdSlot_e, fOP_e, as_val, as_lst, bo_e, sv_e, iv_e, ol_e, fO2_e, fBo_e, fNot_e, fAnd_e, fOr_e, fAndV_e, fOrV_e, fNotV_e, fIf_e, fONil_e, fOCons_e, fLNil_e, fLCons_e, fTup_e, fLst_e, fNeg_e, rdAll_nil, rdAll_cons, fCB_e, fIsI_e, fTName_e, fTsNil_e, fTsCons_e, fTTup_e, fMut_e, sFor_e, sWhile_e, fYes_e, fComp_e, fISeq_e, fIRng1_e, fCall_e, fANil_e, fAV_e, inR_nil, inR_v, inR_s, dropE_nil, dropE_v, dropE_s, outE_nil, outE_v, outE_s, fPNo_e, fPInt_e, fSl_e, fM1_e, fTIx_e, cAdd_i, cAdd_s, cAdd_l, cAdd_t, cSub_i, cMul_i, cFdiv_i, cMod_i, cPow_i, cLt_i, cLe_i, cGt_i, cGe_i, cEq_e, cNe_e, cIs_e, cIsNot_e, cIx_l, cIx_t, cIx_s, cNeg_i, cLen_l, cLen_t, cLen_s, cList_l, cList_t, cTuple_l, cTuple_t, cAll_e, cAny_e, cAbs_i, cInt_b, cInt_i, cStrI_i, cIntS_s, cSplit_s, cJoin_e, cSl_l, cSl_t, cSl_s, mAppend_e, fnM_e, finK_nil, atI_zero, atI_one, ex_some, keepE, wipeE, restE, List.foldr_cons, List.foldr_nil, List.all_cons, List.all_nil, startE, idxs, List.map_cons, List.map_nil, List.length_cons, List.length_nil, Nat.reduceAdd, Nat.reduceSub, Int.reduceToNat, List.reduceReplicate, List.nil_append, List.cons_append, List.append_nil, List.getElem?_cons_zero, List.getElem?_cons_succ, List.set_cons_zero, List.set_cons_succ, Nat.zero_add, Bool.not_true, Bool.not_false, decide_eq_true_eq, if_true, if_false, Bool.false_eq_true, Bool.true_and, Bool.and_true, ite_true, ite_false, reduceIte, eq_self, true_and, and_true, Bool.not_eq_true', decide_eq_false_iff_not]
  refine cDivmod_g (divok (by decide) (by decide)) fun q r hq hr => ?_
  try simp only [sNil_e, sRet_e, sRetN_e, sIf_e, sPass_e, sNever_e, sExpr_e, sAsg_e, sTgt_e, sPar_e, fCst_e, fVar_e, fMov_e, fOV_e, rdSlot_e, fOP_e, as_val, as_lst, bo_e, sv_e, iv_e, ol_e, fO2_e, fBo_e, fNot_e, fAnd_e, fOr_e, fAndV_e, fOrV_e, fNotV_e, fIf_e, fONil_e, fOCons_e, fLNil_e, fLCons_e, fTup_e, fLst_e, fNeg_e, rdAll_nil, rdAll_cons, fCB_e, fIsI_e, fTName_e, fTsNil_e, fTsCons_e, fTTup_e, fMut_e, sFor_e, sWhile_e, fYes_e, fComp_e, fISeq_e, fIRng1_e, fCall_e, fANil_e, fAV_e, inR_nil, inR_v, inR_s, dropE_nil, dropE_v, dropE_s, outE_nil, outE_v, outE_s, fPNo_e, fPInt_e, fSl_e, fM1_e, fTIx_e, cAdd_i, cAdd_s, cAdd_l, cAdd_t, cSub_i, cMul_i, cFdiv_i, cMod_i, cPow_i, cLt_i, cLe_i, cGt_i, cGe_i, cEq_e, cNe_e, cIs_e, cIsNot_e, cIx_l, cIx_t, cIx_s, cNeg_i, cLen_l, cLen_t, cLen_s, cList_l, cList_t, cTuple_l, cTuple_t, cAll_e, cAny_e, cAbs_i, cInt_b, cInt_i, cStrI_i, cIntS_s, cSplit_s, cJoin_e, cSl_l, cSl_t, cSl_s, mAppend_e, fnM_e, finK_nil, atI_zero, atI_one, ex_some, keepE, wipeE, restE, List.foldr_cons, List.foldr_nil, List.all_cons, List.all_nil, startE, idxs, List.map_cons, List.map_nil, List.length_cons, List.length_nil, Nat.reduceAdd, Nat.reduceSub, Int.reduceToNat, List.reduceReplicate, List.nil_append, List.cons_append, List.append_nil, List.getElem?_cons_zero, List.getElem?_cons_succ, List.set_cons_zero, List.set_cons_succ, Nat.zero_add, Bool.not_true, Bool.not_false, decide_eq_true_eq, if_true, if_false, Bool.false_eq_true, Bool.true_and, Bool.and_true, ite_true, ite_false, reduceIte, eq_self, true_and, and_true, Bool.not_eq_true', decide_eq_false_iff_not]
  rw [hq, hr]
  exact h
theorem srt2 (c kd v : Int) (v0 : 0 < v) (v1 : v ≤ 10 ^ 60) (ev : atI (List.map PyData.int [10, 61, 10 ^ 12, 10 ^ 60, 10 ^ 60]) kd = some (.int v)) (dn : Dn) (S : FS) (h : S dn [some (.val (.int (c / v))), none, some (.val (.int kd)), some (.val (.int (c % v))), none]) : sCons (sTgt (fCB cDivmod (fOCons (fOP 0) (fOCons (fOV (fO2 cIx (fOV (fLst (fLCons (fCst (.int 10)) (fLCons (fCst (.int 61)) (fLCons (fO2 cPow (fOV (fCst (.int 10))) (fOV (fCst (.int 12)))) (fLCons (fO2 cPow (fOV (fCst (.int 10))) (fOV (fCst (.int 60)))) (fLCons (fO2 cPow (fOV (fCst (.int 10))) (fOV (fCst (.int 60)))) fLNil))))))) (fOP 2))) fONil))) (fTTup 2 (fTsCons (fTName 0) (fTsCons (fTName 3) fTsNil)))) S dn [some (.val (.int c)), none, some (.val (.int kd)), none, none] := by
  rw [sCons_e]; simp only [sNil_e, sRet_e, sRetN_e, sIf_e, sPass_e, sNever_e, sExpr_e, sAsg_e, sTgt_e, sPar_e, fCst_e, fVar_e, fMov_e, fOV_e, rdSlot_e, fOP_e, as_val, as_lst, bo_e, sv_e, iv_e, ol_e, fO2_e, fBo_e, fNot_e, fAnd_e, fOr_e, fAndV_e, fOrV_e, fNotV_e, fIf_e, fONil_e, fOCons_e, fLNil_e, fLCons_e, fTup_e, fLst_e, fNeg_e, rdAll_nil, rdAll_cons, fCB_e, fIsI_e, fTName_e, fTsNil_e, fTsCons_e, fTTup_e, fMut_e, sFor_e, sWhile_e, fYes_e, fComp_e, fISeq_e, fIRng1_e, fCall_e, fANil_e, fAV_e, inR_nil, inR_v, inR_s, dropE_nil, dropE_v, dropE_s, outE_nil, outE_v, outE_s, fPNo_e, fPInt_e, fSl_e, fM1_e, fTIx_e, cAdd_i, cAdd_s, cAdd_l, cAdd_t, cSub_i, cMul_i, cFdiv_i, cMod_i, cPow_i, cLt_i, cLe_i, cGt_i, cGe_i, cEq_e, cNe_e, cIs_e, cIsNot_e, cIx_l, cIx_t, cIx_s, cNeg_i, cLen_l, cLen_t, cLen_s, cList_l, cList_t, cTuple_l, cTuple_t, cAll_e, cAny_e, cAbs_i, cInt_b, cInt_i, cStrI_i, cIntS_s, cSplit_s, cJoin_e, cSl_l, cSl_t, cSl_s, mAppend_e, fnM_e, finK_nil, atI_zero, atI_one, ex_some, keepE, wipeE, restE, List.foldr_cons, List.foldr_nil, List.all_cons, List.all_nil, startE, idxs, List.map_cons, List.map_nil, List.length_cons, List.length_nil, Nat.reduceAdd, Nat.reduceSub, Int.reduceToNat, List.reduceReplicate, List.nil_append, List.cons_append, List.append_nil, List.getElem?_cons_zero, List.getElem?_cons_succ, List.set_cons_zero, List.set_cons_succ, Nat.zero_add, Bool.not_true, Bool.not_false, decide_eq_true_eq, if_true, if_false, Bool.false_eq_true, Bool.true_and, Bool.and_true, ite_true, ite_false, reduceIte, eq_self, true_and, and_true, Bool.not_eq_true', decide_eq_false_iff_not]
  refine ⟨cpow10 _ (by decide) (by decide), cpow10 _ (by decide) (by decide), cpow10 _ (by decide) (by decide), .int v, ev, ?_⟩
  try simp only [sNil_e, sRet_e, sRetN_e, sIf_e, sPass_e, sNever_e, sExpr_e, sAsg_e, sTgt_e, sPar_e, fCst_e, fVar_e, fMov_e, fOV_e, rdSlot_e, fOP_e, as_val, as_lst, bo_e, sv_e, iv_e, ol_e, fO2_e, fBo_e, fNot_e, fAnd_e, fOr_e, fAndV_e, fOrV_e, fNotV_e, fIf_e, fONil_e, fOCons_e, fLNil_e, fLCons_e, fTup_e, fLst_e, fNeg_e, rdAll_nil, rdAll_cons, fCB_e, fIsI_e, fTName_e, fTsNil_e, fTsCons_e, fTTup_e, fMut_e, sFor_e, sWhile_e, fYes_e, fComp_e, fISeq_e, fIRng1_e, fCall_e, fANil_e, fAV_e, inR_nil, inR_v, inR_s, dropE_nil, dropE_v, dropE_s, outE_nil, outE_v, outE_s, fPNo_e, fPInt_e, fSl_e, fM1_e, fTIx_e, cAdd_i, cAdd_s, cAdd_l, cAdd_t, cSub_i, cMul_i, cFdiv_i, cMod_i, cPow_i, cLt_i, cLe_i, cGt_i, cGe_i, cEq_e, cNe_e, cIs_e, cIsNot_e, cIx_l, cIx_t, cIx_s, cNeg_i, cLen_l, cLen_t, cLen_s, cList_l, cList_t, cTuple_l, cTuple_t, cAll_e, cAny_e, cAbs_i, cInt_b, cInt_i, cStrI_i, cIntS_s, cSplit_s, cJoin_e, cSl_l, cSl_t, cSl_s, mAppend_e, fnM_e, finK_nil, atI_zero, atI_one, ex_some, keepE, wipeE, restE, List.foldr_cons, List.foldr_nil, List.all_cons, List.all_nil, startE, idxs, List.map_cons, List.map_nil, List.length_cons, List.length_nil, Nat.reduceAdd, Nat.reduceSub, Int.reduceToNat, List.reduceReplicate, List.nil_append, List.cons_append, List.append_nil, List.getElem?_cons_zero, List.getElem?_cons_succ, List.set_cons_zero, List.set_cons_succ, Nat.zero_add, Bool.not_true, Bool.not_false, decide_eq_true_eq, if_true, if_false, Bool.false_eq_true, Bool.true_and, Bool.and_true, ite_true, ite_false, reduceIte, eq_self, true_and, and_true, Bool.not_eq_true', decide_eq_false_iff_not]
  refine cDivmod_g (divok v0 v1) fun q r hq hr => ?_
  try simp only [sNil_e, sRet_e, sRetN_e, sIf_e, sPass_e, sNever_e, sExpr_e, sAsg_e, sTgt_e, sPar_e, fCst_e, fVar_e, fMov_e, fOV_e, rdSlot_e, fOP_e, as_val, as_lst, bo_e, sv_e, iv_e, ol_e, fO2_e, fBo_e, fNot_e, fAnd_e, fOr_e, fAndV_e, fOrV_e, fNotV_e, fIf_e, fONil_e, fOCons_e, fLNil_e, fLCons_e, fTup_e, fLst_e, fNeg_e, rdAll_nil, rdAll_cons, fCB_e, fIsI_e, fTName_e, fTsNil_e, fTsCons_e, fTTup_e, fMut_e, sFor_e, sWhile_e, fYes_e, fComp_e, fISeq_e, fIRng1_e, fCall_e, fANil_e, fAV_e, inR_nil, inR_v, inR_s, dropE_nil, dropE_v, dropE_s, outE_nil, outE_v, outE_s, fPNo_e, fPInt_e, fSl_e, fM1_e, fTIx_e, cAdd_i, cAdd_s, cAdd_l, cAdd_t, cSub_i, cMul_i, cFdiv_i, cMod_i, cPow_i, cLt_i, cLe_i, cGt_i, cGe_i, cEq_e, cNe_e, cIs_e, cIsNot_e, cIx_l, cIx_t, cIx_s, cNeg_i, cLen_l, cLen_t, cLen_s, cList_l, cList_t, cTuple_l, cTuple_t, cAll_e, cAny_e, cAbs_i, cInt_b, cInt_i, cStrI_i, cIntS_s, cSplit_s, cJoin_e, cSl_l, cSl_t, cSl_s, mAppend_e, fnM_e, finK_nil, atI_zero, atI_one, ex_some, keepE, wipeE, restE, List.foldr_cons, List.foldr_nil, List.all_cons, List.all_nil, startE, idxs, List.map_cons, List.map_nil, List.length_cons, List.length_nil, Nat.reduceAdd, Nat.reduceSub, Int.reduceToNat, List.reduceReplicate, List.nil_append, List.cons_append, List.append_nil, List.getElem?_cons_zero, List.getElem?_cons_succ, List.set_cons_zero, List.set_cons_succ, Nat.zero_add, Bool.not_true, Bool.not_false, decide_eq_true_eq, if_true, if_false, Bool.false_eq_true, Bool.true_and, Bool.and_true, ite_true, ite_false, reduceIte, eq_self, true_and, and_true, Bool.not_eq_true', decide_eq_false_iff_not]
  rw [hq, hr]
  exact h
theorem srt3 (c kd x v : Int) (v0 : 0 < v) (v1 : v ≤ 10 ^ 60 - 1) (ev : atI (List.map PyData.int [6, 12, 10 ^ 12, 10 ^ 60 - 1, 1]) kd = some (.int v)) (dn : Dn) (S : FS) (h : S dn [some (.val (.int (c / v))), none, some (.val (.int kd)), some (.val (.int x)), some (.val (.int (c % v)))]) : sCons (sTgt (fCB cDivmod (fOCons (fOP 0) (fOCons (fOV (fO2 cIx (fOV (fLst (fLCons (fCst (.int 6)) (fLCons (fCst (.int 12)) (fLCons (fO2 cPow (fOV (fCst (.int 10))) (fOV (fCst (.int 12)))) (fLCons (fO2 cSub (fOV (fO2 cPow (fOV (fCst (.int 10))) (fOV (fCst (.int 60))))) (fOV (fCst (.int 1)))) (fLCons (fCst (.int 1)) fLNil))))))) (fOP 2))) fONil))) (fTTup 2 (fTsCons (fTName 0) (fTsCons (fTName 4) fTsNil)))) S dn [some (.val (.int c)), none, some (.val (.int kd)), some (.val (.int x)), none] := by
  rw [sCons_e]; simp only [sNil_e, sRet_e, sRetN_e, sIf_e, sPass_e, sNever_e, sExpr_e, sAsg_e, sTgt_e, sPar_e, fCst_e, fVar_e, fMov_e, fOV_e, rdSlot_e, fOP_e, as_val, as_lst, bo_e, sv_e, iv_e, ol_e, fO2_e, fBo_e, fNot_e, fAnd_e, fOr_e, fAndV_e, fOrV_e, fNotV_e, fIf_e, fONil_e, fOCons_e, fLNil_e, fLCons_e, fTup_e, fLst_e, fNeg_e, rdAll_nil, rdAll_cons, fCB_e, fIsI_e, fTName_e, fTsNil_e, fTsCons_e, fTTup_e, fMut_e, sFor_e, sWhile_e, fYes_e, fComp_e, fISeq_e, fIRng1_e, fCall_e, fANil_e, fAV_e, inR_nil, inR_v, inR_s, dropE_nil, dropE_v, dropE_s, outE_nil, outE_v, outE_s, fPNo_e, fPInt_e, fSl_e, fM1_e, fTIx_e, cAdd_i, cAdd_s, cAdd_l, cAdd_t, cSub_i, cMul_i, cFdiv_i, cMod_i, cPow_i, cLt_i, cLe_i, cGt_i, cGe_i, cEq_e, cNe_e, cIs_e, cIsNot_e, cIx_l, cIx_t, cIx_s, cNeg_i, cLen_l, cLen_t, cLen_s, cList_l, cList_t, cTuple_l, cTuple_t, cAll_e, cAny_e, cAbs_i, cInt_b, cInt_i, cStrI_i, cIntS_s, cSplit_s, cJoin_e, cSl_l, cSl_t, cSl_s, mAppend_e, fnM_e, finK_nil, atI_zero, atI_one, ex_some, keepE, wipeE, restE, List.foldr_cons, List.foldr_nil, List.all_cons, List.all_nil, startE, idxs, List.map_cons, List.map_nil, List.length_cons, List.length_nil, Nat.reduceAdd, Nat.reduceSub, Int.reduceToNat, List.reduceReplicate, List.nil_append, List.cons_append, List.append_nil, List.getElem?_cons_zero, List.getElem?_cons_succ, List.set_cons_zero, List.set_cons_succ, Nat.zero_add, Bool.not_true, Bool.not_false, decide_eq_true_eq, if_true, if_false, Bool.false_eq_true, Bool.true_and, Bool.and_true, ite_true, ite_false, reduceIte, eq_self, true_and, and_true, Bool.not_eq_true', decide_eq_false_iff_not]
  refine ⟨cpow10 _ (by decide) (by decide), cpow10 _ (by decide) (by decide), .int v, ev, ?_⟩
  try simp only [sNil_e, sRet_e, sRetN_e, sIf_e, sPass_e, sNever_e, sExpr_e, sAsg_e, sTgt_e, sPar_e, fCst_e, fVar_e, fMov_e, fOV_e, rdSlot_e, fOP_e, as_val, as_lst, bo_e, sv_e, iv_e, ol_e, fO2_e, fBo_e, fNot_e, fAnd_e, fOr_e, fAndV_e, fOrV_e, fNotV_e, fIf_e, fONil_e, fOCons_e, fLNil_e, fLCons_e, fTup_e, fLst_e, fNeg_e, rdAll_nil, rdAll_cons, fCB_e, fIsI_e, fTName_e, fTsNil_e, fTsCons_e, fTTup_e, fMut_e, sFor_e, sWhile_e, fYes_e, fComp_e, fISeq_e, fIRng1_e, fCall_e, fANil_e, fAV_e, inR_nil, inR_v, inR_s, dropE_nil, dropE_v, dropE_s, outE_nil, outE_v, outE_s, fPNo_e, fPInt_e, fSl_e, fM1_e, fTIx_e, cAdd_i, cAdd_s, cAdd_l, cAdd_t, cSub_i, cMul_i, cFdiv_i, cMod_i, cPow_i, cLt_i, cLe_i, cGt_i, cGe_i, cEq_e, cNe_e, cIs_e, cIsNot_e, cIx_l, cIx_t, cIx_s, cNeg_i, cLen_l, cLen_t, cLen_s, cList_l, cList_t, cTuple_l, cTuple_t, cAll_e, cAny_e, cAbs_i, cInt_b, cInt_i, cStrI_i, cIntS_s, cSplit_s, cJoin_e, cSl_l, cSl_t, cSl_s, mAppend_e, fnM_e, finK_nil, atI_zero, atI_one, ex_some, keepE, wipeE, restE, List.foldr_cons, List.foldr_nil, List.all_cons, List.all_nil, startE, idxs, List.map_cons, List.map_nil, List.length_cons, List.length_nil, Nat.reduceAdd, Nat.reduceSub, Int.reduceToNat, List.reduceReplicate, List.nil_append, List.cons_append, List.append_nil, List.getElem?_cons_zero, List.getElem?_cons_succ, List.set_cons_zero, List.set_cons_succ, Nat.zero_add, Bool.not_true, Bool.not_false, decide_eq_true_eq, if_true, if_false, Bool.false_eq_true, Bool.true_and, Bool.and_true, ite_true, ite_false, reduceIte, eq_self, true_and, and_true, Bool.not_eq_true', decide_eq_false_iff_not]
  refine cDivmod_g (divok v0 (by omega)) fun q r hq hr => ?_
  try simp only [sNil_e, sRet_e, sRetN_e, sIf_e, sPass_e, sNever_e, sExpr_e, sAsg_e, sTgt_e, sPar_e, fCst_e, fVar_e, fMov_e, fOV_e, rdSlot_e, fOP_e, as_val, as_lst, bo_e, sv_e, iv_e, ol_e, fO2_e, fBo_e, fNot_e, fAnd_e, fOr_e, fAndV_e, fOrV_e, fNotV_e, fIf_e, fONil_e, fOCons_e, fLNil_e, fLCons_e, fTup_e, fLst_e, fNeg_e, rdAll_nil, rdAll_cons, fCB_e, fIsI_e, fTName_e, fTsNil_e, fTsCons_e, fTTup_e, fMut_e, sFor_e, sWhile_e, fYes_e, fComp_e, fISeq_e, fIRng1_e, fCall_e, fANil_e, fAV_e, inR_nil, inR_v, inR_s, dropE_nil, dropE_v, dropE_s, outE_nil, outE_v, outE_s, fPNo_e, fPInt_e, fSl_e, fM1_e, fTIx_e, cAdd_i, cAdd_s, cAdd_l, cAdd_t, cSub_i, cMul_i, cFdiv_i, cMod_i, cPow_i, cLt_i, cLe_i, cGt_i, cGe_i, cEq_e, cNe_e, cIs_e, cIsNot_e, cIx_l, cIx_t, cIx_s, cNeg_i, cLen_l, cLen_t, cLen_s, cList_l, cList_t, cTuple_l, cTuple_t, cAll_e, cAny_e, cAbs_i, cInt_b, cInt_i, cStrI_i, cIntS_s, cSplit_s, cJoin_e, cSl_l, cSl_t, cSl_s, mAppend_e, fnM_e, finK_nil, atI_zero, atI_one, ex_some, keepE, wipeE, restE, List.foldr_cons, List.foldr_nil, List.all_cons, List.all_nil, startE, idxs, List.map_cons, List.map_nil, List.length_cons, List.length_nil, Nat.reduceAdd, Nat.reduceSub, Int.reduceToNat, List.reduceReplicate, List.nil_append, List.cons_append, List.append_nil, List.getElem?_cons_zero, List.getElem?_cons_succ, List.set_cons_zero, List.set_cons_succ, Nat.zero_add, Bool.not_true, Bool.not_false, decide_eq_true_eq, if_true, if_false, Bool.false_eq_true, Bool.true_and, Bool.and_true, ite_true, ite_false, reduceIte, eq_self, true_and, and_true, Bool.not_eq_true', decide_eq_false_iff_not]
  rw [hq, hr]
  exact h
theorem some_ratio_ret (c : Int) : ∃ (p : Int × Int) (c' : Int), Gd p ∧ Ret M__law_some_ratio [.val (.int c)] (.val (.tuple [rD p, .int c'])) := by
  obtain ⟨v, ⟨v0, v1⟩, ev⟩ := pick (P := fun v => 0 < v ∧ v ≤ 10 ^ 60) [10, 61, 10 ^ 12, 10 ^ 60, 10 ^ 60] (c % 5) (by omega) (by show c % 5 < 5; omega) (by
    intro v hv
    simp only [List.mem_cons, List.mem_nil_iff, or_false] at hv
    rcases hv with rfl | rfl | rfl | rfl | rfl <;> decide)
  obtain ⟨w, ⟨w0, w1⟩, ew⟩ := pick (P := fun v => 0 < v ∧ v ≤ 10 ^ 60 - 1) [6, 12, 10 ^ 12, 10 ^ 60 - 1, 1] (c % 5) (by omega) (by show c % 5 < 5; omega) (by
    intro v hv
    simp only [List.mem_cons, List.mem_nil_iff, or_false] at hv
    rcases hv with rfl | rfl | rfl | rfl | rfl <;> decide)
  have a0 : 0 ≤ c / 5 % v := Int.emod_nonneg _ (by omega)
  have a1 : c / 5 % v < v := Int.emod_lt_of_pos _ v0
  have b0 : 0 ≤ c / 5 / v % w := Int.emod_nonneg _ (by omega)
  have b1 : c / 5 / v % w < w := Int.emod_lt_of_pos _ w0
  obtain ⟨a, ha⟩ := Int.eq_ofNat_of_zero_le a0
  obtain ⟨b, hb⟩ := Int.eq_ofNat_of_zero_le b0
  have hb' : c / 5 / v % w + 1 = ((b + 1 : Nat) : Int) := by rw [hb]; rfl
  have e60 : (10 : Int) ^ 60 = ((10 ^ 60 : Nat) : Int) := rfl
  have ha2 : a < 10 ^ 60 := by omega
  have hb2 : b + 1 < 10 ^ 60 := by omega
  have hg : gcdI (a : Int) ((b + 1 : Nat) : Int) = ((Nat.gcd (b + 1) a : Nat) : Int) := rfl
  have gp : 0 < Nat.gcd (b + 1) a := Nat.gcd_pos_of_pos_left _ (by omega)
  have gl : Nat.gcd (b + 1) a ≤ b + 1 := Nat.gcd_le_left _ (by omega)
  refine ⟨(((a / Nat.gcd (b + 1) a : Nat) : Int), (((b + 1) / Nat.gcd (b + 1) a : Nat) : Int)), c / 5 / v / w, ⟨?_, ?_, ?_, ?_, ?_⟩, ?_⟩
  · exact Int.natCast_nonneg _
  · have : 0 < (b + 1) / Nat.gcd (b + 1) a := Nat.div_pos gl gp
    show (0 : Int) < (((b + 1) / Nat.gcd (b + 1) a : Nat) : Int)
    omega
  · show (((a / Nat.gcd (b + 1) a : Nat) : Int)).natAbs < 10 ^ 60
    rw [Int.natAbs_natCast]
    exact Nat.lt_of_le_of_lt (Nat.div_le_self _ _) ha2
  · show ((((b + 1) / Nat.gcd (b + 1) a : Nat) : Int)).natAbs < 10 ^ 60
    rw [Int.natAbs_natCast]
    exact Nat.lt_of_le_of_lt (Nat.div_le_self _ _) hb2
  · show ((Nat.gcd ((((b + 1) / Nat.gcd (b + 1) a : Nat) : Int)).natAbs (((a / Nat.gcd (b + 1) a : Nat) : Int)).natAbs : Nat) : Int) = 1
    rw [Int.natAbs_natCast, Int.natAbs_natCast]
    have : Nat.gcd ((b + 1) / Nat.gcd (b + 1) a) (a / Nat.gcd (b + 1) a) = 1 := Nat.coprime_div_gcd_div_gcd gp
    rw [this]
    rfl
  · intro k kx hk
    rw [M__law_some_ratio, fnM_e, F__law_some_ratio]
    refine srt1 c _ _ ?_
    refine srt2 _ _ v v0 v1 ev _ _ ?_
    refine srt3 _ _ _ w w0 w1 ew _ _ ?_
    rw [sCons_e]; simp only [sNil_e, sRet_e, sRetN_e, sIf_e, sPass_e, sNever_e, sExpr_e, sAsg_e, sTgt_e, sPar_e, fCst_e, fVar_e, fMov_e, fOV_e, rdSlot_e, fOP_e, as_val, as_lst, bo_e, sv_e, iv_e, ol_e, fO2_e, fBo_e, fNot_e, fAnd_e, fOr_e, fAndV_e, fOrV_e, fNotV_e, fIf_e, fONil_e, fOCons_e, fLNil_e, fLCons_e, fTup_e, fLst_e, fNeg_e, rdAll_nil, rdAll_cons, fCB_e, fIsI_e, fTName_e, fTsNil_e, fTsCons_e, fTTup_e, fMut_e, sFor_e, sWhile_e, fYes_e, fComp_e, fISeq_e, fIRng1_e, fCall_e, fANil_e, fAV_e, inR_nil, inR_v, inR_s, dropE_nil, dropE_v, dropE_s, outE_nil, outE_v, outE_s, fPNo_e, fPInt_e, fSl_e, fM1_e, fTIx_e, cAdd_i, cAdd_s, cAdd_l, cAdd_t, cSub_i, cMul_i, cFdiv_i, cMod_i, cPow_i, cLt_i, cLe_i, cGt_i, cGe_i, cEq_e, cNe_e, cIs_e, cIsNot_e, cIx_l, cIx_t, cIx_s, cNeg_i, cLen_l, cLen_t, cLen_s, cList_l, cList_t, cTuple_l, cTuple_t, cAll_e, cAny_e, cAbs_i, cInt_b, cInt_i, cStrI_i, cIntS_s, cSplit_s, cJoin_e, cSl_l, cSl_t, cSl_s, mAppend_e, fnM_e, finK_nil, atI_zero, atI_one, ex_some, keepE, wipeE, restE, List.foldr_cons, List.foldr_nil, List.all_cons, List.all_nil, startE, idxs, List.map_cons, List.map_nil, List.length_cons, List.length_nil, Nat.reduceAdd, Nat.reduceSub, Int.reduceToNat, List.reduceReplicate, List.nil_append, List.cons_append, List.append_nil, List.getElem?_cons_zero, List.getElem?_cons_succ, List.set_cons_zero, List.set_cons_succ, Nat.zero_add, Bool.not_true, Bool.not_false, decide_eq_true_eq, if_true, if_false, Bool.false_eq_true, Bool.true_and, Bool.and_true, ite_true, ite_false, reduceIte, eq_self, true_and, and_true, Bool.not_eq_true', decide_eq_false_iff_not]
    refine lcommon_ret _ _ _ _ ?_
    simp only [sNil_e, sRet_e, sRetN_e, sIf_e, sPass_e, sNever_e, sExpr_e, sAsg_e, sTgt_e, sPar_e, fCst_e, fVar_e, fMov_e, fOV_e, rdSlot_e, fOP_e, as_val, as_lst, bo_e, sv_e, iv_e, ol_e, fO2_e, fBo_e, fNot_e, fAnd_e, fOr_e, fAndV_e, fOrV_e, fNotV_e, fIf_e, fONil_e, fOCons_e, fLNil_e, fLCons_e, fTup_e, fLst_e, fNeg_e, rdAll_nil, rdAll_cons, fCB_e, fIsI_e, fTName_e, fTsNil_e, fTsCons_e, fTTup_e, fMut_e, sFor_e, sWhile_e, fYes_e, fComp_e, fISeq_e, fIRng1_e, fCall_e, fANil_e, fAV_e, inR_nil, inR_v, inR_s, dropE_nil, dropE_v, dropE_s, outE_nil, outE_v, outE_s, fPNo_e, fPInt_e, fSl_e, fM1_e, fTIx_e, cAdd_i, cAdd_s, cAdd_l, cAdd_t, cSub_i, cMul_i, cFdiv_i, cMod_i, cPow_i, cLt_i, cLe_i, cGt_i, cGe_i, cEq_e, cNe_e, cIs_e, cIsNot_e, cIx_l, cIx_t, cIx_s, cNeg_i, cLen_l, cLen_t, cLen_s, cList_l, cList_t, cTuple_l, cTuple_t, cAll_e, cAny_e, cAbs_i, cInt_b, cInt_i, cStrI_i, cIntS_s, cSplit_s, cJoin_e, cSl_l, cSl_t, cSl_s, mAppend_e, fnM_e, finK_nil, atI_zero, atI_one, ex_some, keepE, wipeE, restE, List.foldr_cons, List.foldr_nil, List.all_cons, List.all_nil, startE, idxs, List.map_cons, List.map_nil, List.length_cons, List.length_nil, Nat.reduceAdd, Nat.reduceSub, Int.reduceToNat, List.reduceReplicate, List.nil_append, List.cons_append, List.append_nil, List.getElem?_cons_zero, List.getElem?_cons_succ, List.set_cons_zero, List.set_cons_succ, Nat.zero_add, Bool.not_true, Bool.not_false, decide_eq_true_eq, if_true, if_false, Bool.false_eq_true, Bool.true_and, Bool.and_true, ite_true, ite_false, reduceIte, eq_self, true_and, and_true, Bool.not_eq_true', decide_eq_false_iff_not]
    rw [ha, hb', hg]
    have gle : ((Nat.gcd (b + 1) a : Nat) : Int) ≤ 10 ^ 60 := by omega
    refine ⟨divok (by omega) gle, divok (by omega) gle, ?_⟩
    simp only [rD, Int.natCast_ediv] at hk
    exact hk
theorem deal_loop (dn : Dn) (k0 : Int → Prop) (cv : Option R) : ∀ (l : List Nat) (part sum : Int) (e : Nat) (x4 : Option R), (∀ k ∈ l, k < 30) → 0 ≤ part → part < 2 ^ 31 → 0 ≤ sum → sum.natAbs < 2 ^ e → e + 40 * l.length ≤ 10000 →
    (∀ ρ : Ev, ∀ s, ρ[3]? = some (some (.val (.int s))) → dn.nx ρ) →
    forGo (fTName 4) (sCons (sAsg 2 (fO2 cMod (fOV (fO2 cMul (fOV (fO2 cAdd (fOV (fO2 cAdd (fOV (fO2 cAdd (fOP 2) (fOV (fO2 cMul (fOV (fO2 cMul (fOV (fCst (.int 17))) (fOP 4))) (fOP 4))))) (fOV (fO2 cMul (fOV (fCst (.int 29))) (fOP 1))))) (fOV (fCst (.int 7))))) (fOV (fCst (.int 48271))))) (fOV (fCst (.int 2147483647)))))
  (sCons (sAsg 2 (fO2 cMod (fOV (fO2 cMul (fOP 2) (fOP 2))) (fOV (fCst (.int 2147483629)))))
  (sAsg 3 (fO2 cAdd (fOV (fO2 cMul (fOP 3) (fOV (fCst (.int 998244353))))) (fOV (fO2 cFdiv (fOV (fO2 cMod (fOV (fO2 cMul (fOP 2) (fOV (fCst (.int 69621))))) (fOV (fCst (.int 2147483587))))) (fOV (fCst (.int 7)))))))))
      (l.map fun (k : Nat) => PyData.int k) dn [cv, some (.val (.int 1)), some (.val (.int part)), some (.val (.int sum)), x4] := by
  intro l
  induction l with
  | nil =>
    intro part sum e x4 _ _ _ _ _ _ h
    exact h _ sum rfl
  | cons k l ih =>
    intro part sum e x4 hk p0 p1 s0 s1 he h
    have hk0 := hk k (by simp)
    rw [List.length_cons] at he
    rw [List.map_cons, forGo_cons]
    have m1 : ∀ (i j : Int) (a : Nat), a ≤ 10000 → i.natAbs < 2 ^ a → j.natAbs < 2 ^ 100 → MulOk i j := fun i j a h0 h1 h2 => mulx_ok h1 h2 (by omega)
    have kk0 : 0 ≤ 17 * (k : Int) * k := Int.mul_nonneg (by omega) (by omega)
    have kk1 : 17 * (k : Int) * k ≤ 17 * 30 * 30 := by
      have h1 : (k : Int) ≤ 30 := by omega
      exact Int.mul_le_mul (by omega) h1 (by omega) (by decide)
    have a1 := m1 17 k 100 (by decide) (by decide) (by omega)
    have a2 := m1 (17 * k) k 100 (by decide) (by omega) (by omega)
    have a3 := m1 29 1 100 (by decide) (by decide) (by decide)
    generalize hK : 17 * (k : Int) * k = kk at kk0 kk1
    rw [fTName_e]
    refine scAsg fun κ hκ => ?_
    simp only [sNil_e, sRet_e, sRetN_e, sIf_e, sPass_e, sNever_e, sExpr_e, sAsg_e, sTgt_e, sPar_e, fCst_e, fVar_e, fMov_e, fOV_e, rdSlot_e, fOP_e, as_val, as_lst, bo_e, sv_e, iv_e, ol_e, fO2_e, fBo_e, fNot_e, fAnd_e, fOr_e, fAndV_e, fOrV_e, fNotV_e, fIf_e, fONil_e, fOCons_e, fLNil_e, fLCons_e, fTup_e, fLst_e, fNeg_e, rdAll_nil, rdAll_cons, fCB_e, fIsI_e, fTName_e, fTsNil_e, fTsCons_e, fTTup_e, fMut_e, sFor_e, sWhile_e, fYes_e, fComp_e, fISeq_e, fIRng1_e, fCall_e, fANil_e, fAV_e, inR_nil, inR_v, inR_s, dropE_nil, dropE_v, dropE_s, outE_nil, outE_v, outE_s, fPNo_e, fPInt_e, fSl_e, fM1_e, fTIx_e, cAdd_i, cAdd_s, cAdd_l, cAdd_t, cSub_i, cMul_i, cFdiv_i, cMod_i, cPow_i, cLt_i, cLe_i, cGt_i, cGe_i, cEq_e, cNe_e, cIs_e, cIsNot_e, cIx_l, cIx_t, cIx_s, cNeg_i, cLen_l, cLen_t, cLen_s, cList_l, cList_t, cTuple_l, cTuple_t, cAll_e, cAny_e, cAbs_i, cInt_b, cInt_i, cStrI_i, cIntS_s, cSplit_s, cJoin_e, cSl_l, cSl_t, cSl_s, mAppend_e, fnM_e, finK_nil, atI_zero, atI_one, ex_some, keepE, wipeE, restE, List.foldr_cons, List.foldr_nil, List.all_cons, List.all_nil, startE, idxs, List.map_cons, List.map_nil, List.length_cons, List.length_nil, Nat.reduceAdd, Nat.reduceSub, Int.reduceToNat, List.reduceReplicate, List.nil_append, List.cons_append, List.append_nil, List.getElem?_cons_zero, List.getElem?_cons_succ, List.set_cons_zero, List.set_cons_succ, Nat.zero_add, Bool.not_true, Bool.not_false, decide_eq_true_eq, if_true, if_false, Bool.false_eq_true, Bool.true_and, Bool.and_true, ite_true, ite_false, reduceIte, eq_self, true_and, and_true, Bool.not_eq_true', decide_eq_false_iff_not]
    refine ⟨a1, a2, a3, ?_⟩
    rw [hK]
    generalize hA : (part + kk + 29 * 1 + 7) = A
    have A0 : 0 ≤ A := by omega
    have A1 : A < 2 ^ 32 := by omega
    have a4 := m1 A 48271 100 (by decide) (by omega) (by decide)
    refine ⟨a4, by decide, hκ _ _ ?_⟩
    have q0 : 0 ≤ A * 48271 % 2147483647 := by omega
    have q1 : A * 48271 % 2147483647 < 2147483647 := by omega
    generalize hB : A * 48271 % 2147483647 = B at q0 q1
    simp only [sNil_e, sRet_e, sRetN_e, sIf_e, sPass_e, sNever_e, sExpr_e, sAsg_e, sTgt_e, sPar_e, fCst_e, fVar_e, fMov_e, fOV_e, rdSlot_e, fOP_e, as_val, as_lst, bo_e, sv_e, iv_e, ol_e, fO2_e, fBo_e, fNot_e, fAnd_e, fOr_e, fAndV_e, fOrV_e, fNotV_e, fIf_e, fONil_e, fOCons_e, fLNil_e, fLCons_e, fTup_e, fLst_e, fNeg_e, rdAll_nil, rdAll_cons, fCB_e, fIsI_e, fTName_e, fTsNil_e, fTsCons_e, fTTup_e, fMut_e, sFor_e, sWhile_e, fYes_e, fComp_e, fISeq_e, fIRng1_e, fCall_e, fANil_e, fAV_e, inR_nil, inR_v, inR_s, dropE_nil, dropE_v, dropE_s, outE_nil, outE_v, outE_s, fPNo_e, fPInt_e, fSl_e, fM1_e, fTIx_e, cAdd_i, cAdd_s, cAdd_l, cAdd_t, cSub_i, cMul_i, cFdiv_i, cMod_i, cPow_i, cLt_i, cLe_i, cGt_i, cGe_i, cEq_e, cNe_e, cIs_e, cIsNot_e, cIx_l, cIx_t, cIx_s, cNeg_i, cLen_l, cLen_t, cLen_s, cList_l, cList_t, cTuple_l, cTuple_t, cAll_e, cAny_e, cAbs_i, cInt_b, cInt_i, cStrI_i, cIntS_s, cSplit_s, cJoin_e, cSl_l, cSl_t, cSl_s, mAppend_e, fnM_e, finK_nil, atI_zero, atI_one, ex_some, keepE, wipeE, restE, List.foldr_cons, List.foldr_nil, List.all_cons, List.all_nil, startE, idxs, List.map_cons, List.map_nil, List.length_cons, List.length_nil, Nat.reduceAdd, Nat.reduceSub, Int.reduceToNat, List.reduceReplicate, List.nil_append, List.cons_append, List.append_nil, List.getElem?_cons_zero, List.getElem?_cons_succ, List.set_cons_zero, List.set_cons_succ, Nat.zero_add, Bool.not_true, Bool.not_false, decide_eq_true_eq, if_true, if_false, Bool.false_eq_true, Bool.true_and, Bool.and_true, ite_true, ite_false, reduceIte, eq_self, true_and, and_true, Bool.not_eq_true', decide_eq_false_iff_not]
    clear hκ κ
    refine scAsg fun κ hκ => ?_
    simp only [sNil_e, sRet_e, sRetN_e, sIf_e, sPass_e, sNever_e, sExpr_e, sAsg_e, sTgt_e, sPar_e, fCst_e, fVar_e, fMov_e, fOV_e, rdSlot_e, fOP_e, as_val, as_lst, bo_e, sv_e, iv_e, ol_e, fO2_e, fBo_e, fNot_e, fAnd_e, fOr_e, fAndV_e, fOrV_e, fNotV_e, fIf_e, fONil_e, fOCons_e, fLNil_e, fLCons_e, fTup_e, fLst_e, fNeg_e, rdAll_nil, rdAll_cons, fCB_e, fIsI_e, fTName_e, fTsNil_e, fTsCons_e, fTTup_e, fMut_e, sFor_e, sWhile_e, fYes_e, fComp_e, fISeq_e, fIRng1_e, fCall_e, fANil_e, fAV_e, inR_nil, inR_v, inR_s, dropE_nil, dropE_v, dropE_s, outE_nil, outE_v, outE_s, fPNo_e, fPInt_e, fSl_e, fM1_e, fTIx_e, cAdd_i, cAdd_s, cAdd_l, cAdd_t, cSub_i, cMul_i, cFdiv_i, cMod_i, cPow_i, cLt_i, cLe_i, cGt_i, cGe_i, cEq_e, cNe_e, cIs_e, cIsNot_e, cIx_l, cIx_t, cIx_s, cNeg_i, cLen_l, cLen_t, cLen_s, cList_l, cList_t, cTuple_l, cTuple_t, cAll_e, cAny_e, cAbs_i, cInt_b, cInt_i, cStrI_i, cIntS_s, cSplit_s, cJoin_e, cSl_l, cSl_t, cSl_s, mAppend_e, fnM_e, finK_nil, atI_zero, atI_one, ex_some, keepE, wipeE, restE, List.foldr_cons, List.foldr_nil, List.all_cons, List.all_nil, startE, idxs, List.map_cons, List.map_nil, List.length_cons, List.length_nil, Nat.reduceAdd, Nat.reduceSub, Int.reduceToNat, List.reduceReplicate, List.nil_append, List.cons_append, List.append_nil, List.getElem?_cons_zero, List.getElem?_cons_succ, List.set_cons_zero, List.set_cons_succ, Nat.zero_add, Bool.not_true, Bool.not_false, decide_eq_true_eq, if_true, if_false, Bool.false_eq_true, Bool.true_and, Bool.and_true, ite_true, ite_false, reduceIte, eq_self, true_and, and_true, Bool.not_eq_true', decide_eq_false_iff_not]
    have a5 := m1 B B 100 (by decide) (by omega) (by omega)
    refine ⟨a5, by decide, hκ _ _ ?_⟩
    have BB0 : 0 ≤ B * B % 2147483629 := by omega
    have BB1 : B * B % 2147483629 < 2147483629 := by omega
    generalize hC : B * B % 2147483629 = C at BB0 BB1
    simp only [sNil_e, sRet_e, sRetN_e, sIf_e, sPass_e, sNever_e, sExpr_e, sAsg_e, sTgt_e, sPar_e, fCst_e, fVar_e, fMov_e, fOV_e, rdSlot_e, fOP_e, as_val, as_lst, bo_e, sv_e, iv_e, ol_e, fO2_e, fBo_e, fNot_e, fAnd_e, fOr_e, fAndV_e, fOrV_e, fNotV_e, fIf_e, fONil_e, fOCons_e, fLNil_e, fLCons_e, fTup_e, fLst_e, fNeg_e, rdAll_nil, rdAll_cons, fCB_e, fIsI_e, fTName_e, fTsNil_e, fTsCons_e, fTTup_e, fMut_e, sFor_e, sWhile_e, fYes_e, fComp_e, fISeq_e, fIRng1_e, fCall_e, fANil_e, fAV_e, inR_nil, inR_v, inR_s, dropE_nil, dropE_v, dropE_s, outE_nil, outE_v, outE_s, fPNo_e, fPInt_e, fSl_e, fM1_e, fTIx_e, cAdd_i, cAdd_s, cAdd_l, cAdd_t, cSub_i, cMul_i, cFdiv_i, cMod_i, cPow_i, cLt_i, cLe_i, cGt_i, cGe_i, cEq_e, cNe_e, cIs_e, cIsNot_e, cIx_l, cIx_t, cIx_s, cNeg_i, cLen_l, cLen_t, cLen_s, cList_l, cList_t, cTuple_l, cTuple_t, cAll_e, cAny_e, cAbs_i, cInt_b, cInt_i, cStrI_i, cIntS_s, cSplit_s, cJoin_e, cSl_l, cSl_t, cSl_s, mAppend_e, fnM_e, finK_nil, atI_zero, atI_one, ex_some, keepE, wipeE, restE, List.foldr_cons, List.foldr_nil, List.all_cons, List.all_nil, startE, idxs, List.map_cons, List.map_nil, List.length_cons, List.length_nil, Nat.reduceAdd, Nat.reduceSub, Int.reduceToNat, List.reduceReplicate, List.nil_append, List.cons_append, List.append_nil, List.getElem?_cons_zero, List.getElem?_cons_succ, List.set_cons_zero, List.set_cons_succ, Nat.zero_add, Bool.not_true, Bool.not_false, decide_eq_true_eq, if_true, if_false, Bool.false_eq_true, Bool.true_and, Bool.and_true, ite_true, ite_false, reduceIte, eq_self, true_and, and_true, Bool.not_eq_true', decide_eq_false_iff_not]
    have a6 := m1 C 69621 100 (by decide) (by omega) (by decide)
    have a7 := m1 sum 998244353 e (by omega) s1 (by decide)
    refine ⟨a7, a6, by decide, divok (by decide) (by decide), ?_⟩
    have d1 : 0 ≤ C * 69621 % 2147483587 / 7 ∧ C * 69621 % 2147483587 / 7 < 2 ^ 31 := by omega
    generalize C * 69621 % 2147483587 / 7 = V at d1
    refine ih _ _ (e + 40) _ (fun j hj => hk j (List.mem_cons_of_mem _ hj)) BB0 (by omega) (by omega) ?_ (by omega) h
    have : (2 : Nat) ^ (e + 40) = 2 ^ e * 2 ^ 40 := Nat.pow_add ..
    have e1 : 1 ≤ 2 ^ e := Nat.one_le_two_pow
    rw [this]
    omega
end K77
end

section
set_option maxRecDepth 100000
set_option maxHeartbeats 400000
namespace K77
open PySem PySem.Spec PyProof.Rows L2 Cr
theorem deal_rets (c : Int) (k : R → List R → Prop) (kx : KXc) (hk : ∀ d : Int, k (.val (.int d)) []) : M__law_deal [.val (.int c), .val (.int 1)] k kx := by
  rw [M__law_deal, fnM_e, F__law_deal]
  rw [sCons_e]; simp only [sNil_e, sRet_e, sRetN_e, sIf_e, sPass_e, sNever_e, sExpr_e, sAsg_e, sTgt_e, sPar_e, fCst_e, fVar_e, fMov_e, fOV_e, rdSlot_e, fOP_e, as_val, as_lst, bo_e, sv_e, iv_e, ol_e, fO2_e, fBo_e, fNot_e, fAnd_e, fOr_e, fAndV_e, fOrV_e, fNotV_e, fIf_e, fONil_e, fOCons_e, fLNil_e, fLCons_e, fTup_e, fLst_e, fNeg_e, rdAll_nil, rdAll_cons, fCB_e, fIsI_e, fTName_e, fTsNil_e, fTsCons_e, fTTup_e, fMut_e, sFor_e, sWhile_e, fYes_e, fComp_e, fISeq_e, fIRng1_e, fCall_e, fANil_e, fAV_e, inR_nil, inR_v, inR_s, dropE_nil, dropE_v, dropE_s, outE_nil, outE_v, outE_s, fPNo_e, fPInt_e, fSl_e, fM1_e, fTIx_e, cAdd_i, cAdd_s, cAdd_l, cAdd_t, cSub_i, cMul_i, cFdiv_i, cMod_i, cPow_i, cLt_i, cLe_i, cGt_i, cGe_i, cEq_e, cNe_e, cIs_e, cIsNot_e, cIx_l, cIx_t, cIx_s, cNeg_i, cLen_l, cLen_t, cLen_s, cList_l, cList_t, cTuple_l, cTuple_t, cAll_e, cAny_e, cAbs_i, cInt_b, cInt_i, cStrI_i, cIntS_s, cSplit_s, cJoin_e, cSl_l, cSl_t, cSl_s, mAppend_e, fnM_e, finK_nil, atI_zero, atI_one, ex_some, keepE, wipeE, restE, List.foldr_cons, List.foldr_nil, List.all_cons, List.all_nil, startE, idxs, List.map_cons, List.map_nil, List.length_cons, List.length_nil, Nat.reduceAdd, Nat.reduceSub, Int.reduceToNat, List.reduceReplicate, List.nil_append, List.cons_append, List.append_nil, List.getElem?_cons_zero, List.getElem?_cons_succ, List.set_cons_zero, List.set_cons_succ, Nat.zero_add, Bool.not_true, Bool.not_false, decide_eq_true_eq, if_true, if_false, Bool.false_eq_true, Bool.true_and, Bool.and_true, ite_true, ite_false, reduceIte, eq_self, true_and, and_true, Bool.not_eq_true', decide_eq_false_iff_not]
  refine ⟨cpow10 _ (by decide) (by decide), ?_⟩
  split
  · exact ⟨cpow10 _ (by decide) (by decide), hk _⟩
  · rw [sCons_e]; simp only [sNil_e, sRet_e, sRetN_e, sIf_e, sPass_e, sNever_e, sExpr_e, sAsg_e, sTgt_e, sPar_e, fCst_e, fVar_e, fMov_e, fOV_e, rdSlot_e, fOP_e, as_val, as_lst, bo_e, sv_e, iv_e, ol_e, fO2_e, fBo_e, fNot_e, fAnd_e, fOr_e, fAndV_e, fOrV_e, fNotV_e, fIf_e, fONil_e, fOCons_e, fLNil_e, fLCons_e, fTup_e, fLst_e, fNeg_e, rdAll_nil, rdAll_cons, fCB_e, fIsI_e, fTName_e, fTsNil_e, fTsCons_e, fTTup_e, fMut_e, sFor_e, sWhile_e, fYes_e, fComp_e, fISeq_e, fIRng1_e, fCall_e, fANil_e, fAV_e, inR_nil, inR_v, inR_s, dropE_nil, dropE_v, dropE_s, outE_nil, outE_v, outE_s, fPNo_e, fPInt_e, fSl_e, fM1_e, fTIx_e, cAdd_i, cAdd_s, cAdd_l, cAdd_t, cSub_i, cMul_i, cFdiv_i, cMod_i, cPow_i, cLt_i, cLe_i, cGt_i, cGe_i, cEq_e, cNe_e, cIs_e, cIsNot_e, cIx_l, cIx_t, cIx_s, cNeg_i, cLen_l, cLen_t, cLen_s, cList_l, cList_t, cTuple_l, cTuple_t, cAll_e, cAny_e, cAbs_i, cInt_b, cInt_i, cStrI_i, cIntS_s, cSplit_s, cJoin_e, cSl_l, cSl_t, cSl_s, mAppend_e, fnM_e, finK_nil, atI_zero, atI_one, ex_some, keepE, wipeE, restE, List.foldr_cons, List.foldr_nil, List.all_cons, List.all_nil, startE, idxs, List.map_cons, List.map_nil, List.length_cons, List.length_nil, Nat.reduceAdd, Nat.reduceSub, Int.reduceToNat, List.reduceReplicate, List.nil_append, List.cons_append, List.append_nil, List.getElem?_cons_zero, List.getElem?_cons_succ, List.set_cons_zero, List.set_cons_succ, Nat.zero_add, Bool.not_true, Bool.not_false, decide_eq_true_eq, if_true, if_false, Bool.false_eq_true, Bool.true_and, Bool.and_true, ite_true, ite_false, reduceIte, eq_self, true_and, and_true, Bool.not_eq_true', decide_eq_false_iff_not]
    refine ⟨by decide, ?_⟩
    rw [sCons_e]; simp only [sNil_e, sRet_e, sRetN_e, sIf_e, sPass_e, sNever_e, sExpr_e, sAsg_e, sTgt_e, sPar_e, fCst_e, fVar_e, fMov_e, fOV_e, rdSlot_e, fOP_e, as_val, as_lst, bo_e, sv_e, iv_e, ol_e, fO2_e, fBo_e, fNot_e, fAnd_e, fOr_e, fAndV_e, fOrV_e, fNotV_e, fIf_e, fONil_e, fOCons_e, fLNil_e, fLCons_e, fTup_e, fLst_e, fNeg_e, rdAll_nil, rdAll_cons, fCB_e, fIsI_e, fTName_e, fTsNil_e, fTsCons_e, fTTup_e, fMut_e, sFor_e, sWhile_e, fYes_e, fComp_e, fISeq_e, fIRng1_e, fCall_e, fANil_e, fAV_e, inR_nil, inR_v, inR_s, dropE_nil, dropE_v, dropE_s, outE_nil, outE_v, outE_s, fPNo_e, fPInt_e, fSl_e, fM1_e, fTIx_e, cAdd_i, cAdd_s, cAdd_l, cAdd_t, cSub_i, cMul_i, cFdiv_i, cMod_i, cPow_i, cLt_i, cLe_i, cGt_i, cGe_i, cEq_e, cNe_e, cIs_e, cIsNot_e, cIx_l, cIx_t, cIx_s, cNeg_i, cLen_l, cLen_t, cLen_s, cList_l, cList_t, cTuple_l, cTuple_t, cAll_e, cAny_e, cAbs_i, cInt_b, cInt_i, cStrI_i, cIntS_s, cSplit_s, cJoin_e, cSl_l, cSl_t, cSl_s, mAppend_e, fnM_e, finK_nil, atI_zero, atI_one, ex_some, keepE, wipeE, restE, List.foldr_cons, List.foldr_nil, List.all_cons, List.all_nil, startE, idxs, List.map_cons, List.map_nil, List.length_cons, List.length_nil, Nat.reduceAdd, Nat.reduceSub, Int.reduceToNat, List.reduceReplicate, List.nil_append, List.cons_append, List.append_nil, List.getElem?_cons_zero, List.getElem?_cons_succ, List.set_cons_zero, List.set_cons_succ, Nat.zero_add, Bool.not_true, Bool.not_false, decide_eq_true_eq, if_true, if_false, Bool.false_eq_true, Bool.true_and, Bool.and_true, ite_true, ite_false, reduceIte, eq_self, true_and, and_true, Bool.not_eq_true', decide_eq_false_iff_not]
    rw [sCons_e]; simp only [sNil_e, sRet_e, sRetN_e, sIf_e, sPass_e, sNever_e, sExpr_e, sAsg_e, sTgt_e, sPar_e, fCst_e, fVar_e, fMov_e, fOV_e, rdSlot_e, fOP_e, as_val, as_lst, bo_e, sv_e, iv_e, ol_e, fO2_e, fBo_e, fNot_e, fAnd_e, fOr_e, fAndV_e, fOrV_e, fNotV_e, fIf_e, fONil_e, fOCons_e, fLNil_e, fLCons_e, fTup_e, fLst_e, fNeg_e, rdAll_nil, rdAll_cons, fCB_e, fIsI_e, fTName_e, fTsNil_e, fTsCons_e, fTTup_e, fMut_e, sFor_e, sWhile_e, fYes_e, fComp_e, fISeq_e, fIRng1_e, fCall_e, fANil_e, fAV_e, inR_nil, inR_v, inR_s, dropE_nil, dropE_v, dropE_s, outE_nil, outE_v, outE_s, fPNo_e, fPInt_e, fSl_e, fM1_e, fTIx_e, cAdd_i, cAdd_s, cAdd_l, cAdd_t, cSub_i, cMul_i, cFdiv_i, cMod_i, cPow_i, cLt_i, cLe_i, cGt_i, cGe_i, cEq_e, cNe_e, cIs_e, cIsNot_e, cIx_l, cIx_t, cIx_s, cNeg_i, cLen_l, cLen_t, cLen_s, cList_l, cList_t, cTuple_l, cTuple_t, cAll_e, cAny_e, cAbs_i, cInt_b, cInt_i, cStrI_i, cIntS_s, cSplit_s, cJoin_e, cSl_l, cSl_t, cSl_s, mAppend_e, fnM_e, finK_nil, atI_zero, atI_one, ex_some, keepE, wipeE, restE, List.foldr_cons, List.foldr_nil, List.all_cons, List.all_nil, startE, idxs, List.map_cons, List.map_nil, List.length_cons, List.length_nil, Nat.reduceAdd, Nat.reduceSub, Int.reduceToNat, List.reduceReplicate, List.nil_append, List.cons_append, List.append_nil, List.getElem?_cons_zero, List.getElem?_cons_succ, List.set_cons_zero, List.set_cons_succ, Nat.zero_add, Bool.not_true, Bool.not_false, decide_eq_true_eq, if_true, if_false, Bool.false_eq_true, Bool.true_and, Bool.and_true, ite_true, ite_false, reduceIte, eq_self, true_and, and_true, Bool.not_eq_true', decide_eq_false_iff_not]
    refine ⟨⟨by decide, by decide⟩, ?_⟩
    have e : rangeD 0 30 = (List.range 30).map fun (k : Nat) => PyData.int k := by
      unfold rangeD
      refine List.map_congr_left fun i _ => ?_
      simp
    rw [e]
    refine deal_loop _ (fun _ => True) _ _ _ _ 1 _ (fun k hk => by simpa using hk) (Int.emod_nonneg _ (by decide)) ?_ (by decide) (by decide) (by simp) (fun ρ s hs => ?_)
    · have := Int.emod_lt_of_pos c (show (0 : Int) < 2147483629 by decide)
      omega
    · simp only [sNil_e, sRet_e, sRetN_e, sIf_e, sPass_e, sNever_e, sExpr_e, sAsg_e, sTgt_e, sPar_e, fCst_e, fVar_e, fMov_e, fOV_e, rdSlot_e, fOP_e, as_val, as_lst, bo_e, sv_e, iv_e, ol_e, fO2_e, fBo_e, fNot_e, fAnd_e, fOr_e, fAndV_e, fOrV_e, fNotV_e, fIf_e, fONil_e, fOCons_e, fLNil_e, fLCons_e, fTup_e, fLst_e, fNeg_e, rdAll_nil, rdAll_cons, fCB_e, fIsI_e, fTName_e, fTsNil_e, fTsCons_e, fTTup_e, fMut_e, sFor_e, sWhile_e, fYes_e, fComp_e, fISeq_e, fIRng1_e, fCall_e, fANil_e, fAV_e, inR_nil, inR_v, inR_s, dropE_nil, dropE_v, dropE_s, outE_nil, outE_v, outE_s, fPNo_e, fPInt_e, fSl_e, fM1_e, fTIx_e, cAdd_i, cAdd_s, cAdd_l, cAdd_t, cSub_i, cMul_i, cFdiv_i, cMod_i, cPow_i, cLt_i, cLe_i, cGt_i, cGe_i, cEq_e, cNe_e, cIs_e, cIsNot_e, cIx_l, cIx_t, cIx_s, cNeg_i, cLen_l, cLen_t, cLen_s, cList_l, cList_t, cTuple_l, cTuple_t, cAll_e, cAny_e, cAbs_i, cInt_b, cInt_i, cStrI_i, cIntS_s, cSplit_s, cJoin_e, cSl_l, cSl_t, cSl_s, mAppend_e, fnM_e, finK_nil, atI_zero, atI_one, ex_some, keepE, wipeE, restE, List.foldr_cons, List.foldr_nil, List.all_cons, List.all_nil, startE, idxs, List.map_cons, List.map_nil, List.length_cons, List.length_nil, Nat.reduceAdd, Nat.reduceSub, Int.reduceToNat, List.reduceReplicate, List.nil_append, List.cons_append, List.append_nil, List.getElem?_cons_zero, List.getElem?_cons_succ, List.set_cons_zero, List.set_cons_succ, Nat.zero_add, Bool.not_true, Bool.not_false, decide_eq_true_eq, if_true, if_false, Bool.false_eq_true, Bool.true_and, Bool.and_true, ite_true, ite_false, reduceIte, eq_self, true_and, and_true, Bool.not_eq_true', decide_eq_false_iff_not, hs]
      exact hk s
theorem row1 (c : Int) (dn : Dn) (S : FS) (h : S dn [some (.val (.int (c / 8))), none, none, some (.val (.int (c % 8))), none, none]) : sCons (sTgt (fCB cDivmod (fOCons (fOP 0) (fOCons (fOV (fCst (.int 8))) fONil))) (fTTup 2 (fTsCons (fTName 0) (fTsCons (fTName 3) fTsNil)))) S dn [some (.val (.int c)), none, none, none, none, none] := by
  rw [sCons_e]; simp only [sNil_e, sRet_e, sRetN_e, sIf_e, sPass_e, sNever_e, sExpr_e, sAsg_e, sTgt_e, sPar_e, fCst_e, fVar_e, fMov_e, fOV_e, rdSlot_e, fOP_e, as_val, as_lst, bo_e, sv_e, iv_e, ol_e, fO2_e, fBo_e, fNot_e, fAnd_e, fOr_e, fAndV_e, fOrV_e, fNotV_e, fIf_e, fONil_e, fOCons_e, fLNil_e, fLCons_e, fTup_e, fLst_e, fNeg_e, rdAll_nil, rdAll_cons, fCB_e, fIsI_e, fTName_e, fTsNil_e, fTsCons_e, fTTup_e, fMut_e, sFor_e, sWhile_e, fYes_e, fComp_e, fISeq_e, fIRng1_e, fCall_e, fANil_e, fAV_e, inR_nil, inR_v, inR_s, dropE_nil, dropE_v, dropE_s, outE_nil, outE_v, outE_s, fPNo_e, fPInt_e, fSl_e, fM1_e, fTIx_e, cAdd_i, cAdd_s, cAdd_l, cAdd_t, cSub_i, cMul_i, cFdiv_i, cMod_i, cPow_i, cLt_i, cLe_i, cGt_i, cGe_i, cEq_e, cNe_e, cIs_e, cIsNot_e, cIx_l, cIx_t, cIx_s, cNeg_i, cLen_l, cLen_t, cLen_s, cList_l, cList_t, cTuple_l, cTuple_t, cAll_e, cAny_e, cAbs_i, cInt_b, cInt_i, cStrI_i, cIntS_s, cSplit_s, cJoin_e, cSl_l, cSl_t, cSl_s, mAppend_e, fnM_e, finK_nil, atI_zero, atI_one, ex_some, keepE, wipeE, restE, List.foldr_cons, List.foldr_nil, List.all_cons, List.all_nil, startE, idxs, List.map_cons, List.map_nil, List.length_cons, List.length_nil, Nat.reduceAdd, Nat.reduceSub, Int.reduceToNat, List.reduceReplicate, List.nil_append, List.cons_append, List.append_nil, List.getElem?_cons_zero, List.getElem?_cons_succ, List.set_cons_zero, List.set_cons_succ, Nat.zero_add, Bool.not_true, Bool.not_false, decide_eq_true_eq, if_true, if_false, Bool.false_eq_true, Bool.true_and, Bool.and_true, ite_true, ite_false, reduceIte, eq_self, true_and, and_true, Bool.not_eq_true', decide_eq_false_iff_not]
  refine cDivmod_g (divok (by decide) (by decide)) fun q r hq hr => ?_
  try simp only [sNil_e, sRet_e, sRetN_e, sIf_e, sPass_e, sNever_e, sExpr_e, sAsg_e, sTgt_e, sPar_e, fCst_e, fVar_e, fMov_e, fOV_e, rdSlot_e, fOP_e, as_val, as_lst, bo_e, sv_e, iv_e, ol_e, fO2_e, fBo_e, fNot_e, fAnd_e, fOr_e, fAndV_e, fOrV_e, fNotV_e, fIf_e, fONil_e, fOCons_e, fLNil_e, fLCons_e, fTup_e, fLst_e, fNeg_e, rdAll_nil, rdAll_cons, fCB_e, fIsI_e, fTName_e, fTsNil_e, fTsCons_e, fTTup_e, fMut_e, sFor_e, sWhile_e, fYes_e, fComp_e, fISeq_e, fIRng1_e, fCall_e, fANil_e, fAV_e, inR_nil, inR_v, inR_s, dropE_nil, dropE_v, dropE_s, outE_nil, outE_v, outE_s, fPNo_e, fPInt_e, fSl_e, fM1_e, fTIx_e, cAdd_i, cAdd_s, cAdd_l, cAdd_t, cSub_i, cMul_i, cFdiv_i, cMod_i, cPow_i, cLt_i, cLe_i, cGt_i, cGe_i, cEq_e, cNe_e, cIs_e, cIsNot_e, cIx_l, cIx_t, cIx_s, cNeg_i, cLen_l, cLen_t, cLen_s, cList_l, cList_t, cTuple_l, cTuple_t, cAll_e, cAny_e, cAbs_i, cInt_b, cInt_i, cStrI_i, cIntS_s, cSplit_s, cJoin_e, cSl_l, cSl_t, cSl_s, mAppend_e, fnM_e, finK_nil, atI_zero, atI_one, ex_some, keepE, wipeE, restE, List.foldr_cons, List.foldr_nil, List.all_cons, List.all_nil, startE, idxs, List.map_cons, List.map_nil, List.length_cons, List.length_nil, Nat.reduceAdd, Nat.reduceSub, Int.reduceToNat, List.reduceReplicate, List.nil_append, List.cons_append, List.append_nil, List.getElem?_cons_zero, List.getElem?_cons_succ, List.set_cons_zero, List.set_cons_succ, Nat.zero_add, Bool.not_true, Bool.not_false, decide_eq_true_eq, if_true, if_false, Bool.false_eq_true, Bool.true_and, Bool.and_true, ite_true, ite_false, reduceIte, eq_self, true_and, and_true, Bool.not_eq_true', decide_eq_false_iff_not]
  rw [hq, hr]
  exact h
theorem row2 (c kd : Int) (dn : Dn) (S : FS) (h : ∀ v : Int, 0 < v → v ≤ 101 → S dn [some (.val (.int (c / v))), none, none, some (.val (.int kd)), some (.val (.int (c % v))), none]) : sCons (sTgt (fCB cDivmod (fOCons (fOP 0) (fOCons (fOV (fO2 cIx (fOV (fLst (fLCons (fCst (.int 7)) (fLCons (fCst (.int 101)) fLNil)))) (fOV (fCB cInt (fOCons (fOV (fO2 cEq (fOP 3) (fOV (fCst (.int 3))))) fONil))))) fONil))) (fTTup 2 (fTsCons (fTName 0) (fTsCons (fTName 4) fTsNil)))) S dn [some (.val (.int c)), none, none, some (.val (.int kd)), none, none] := by
  rw [sCons_e]; simp only [sNil_e, sRet_e, sRetN_e, sIf_e, sPass_e, sNever_e, sExpr_e, sAsg_e, sTgt_e, sPar_e, fCst_e, fVar_e, fMov_e, fOV_e, rdSlot_e, fOP_e, as_val, as_lst, bo_e, sv_e, iv_e, ol_e, fO2_e, fBo_e, fNot_e, fAnd_e, fOr_e, fAndV_e, fOrV_e, fNotV_e, fIf_e, fONil_e, fOCons_e, fLNil_e, fLCons_e, fTup_e, fLst_e, fNeg_e, rdAll_nil, rdAll_cons, fCB_e, fIsI_e, fTName_e, fTsNil_e, fTsCons_e, fTTup_e, fMut_e, sFor_e, sWhile_e, fYes_e, fComp_e, fISeq_e, fIRng1_e, fCall_e, fANil_e, fAV_e, inR_nil, inR_v, inR_s, dropE_nil, dropE_v, dropE_s, outE_nil, outE_v, outE_s, fPNo_e, fPInt_e, fSl_e, fM1_e, fTIx_e, cAdd_i, cAdd_s, cAdd_l, cAdd_t, cSub_i, cMul_i, cFdiv_i, cMod_i, cPow_i, cLt_i, cLe_i, cGt_i, cGe_i, cEq_e, cNe_e, cIs_e, cIsNot_e, cIx_l, cIx_t, cIx_s, cNeg_i, cLen_l, cLen_t, cLen_s, cList_l, cList_t, cTuple_l, cTuple_t, cAll_e, cAny_e, cAbs_i, cInt_b, cInt_i, cStrI_i, cIntS_s, cSplit_s, cJoin_e, cSl_l, cSl_t, cSl_s, mAppend_e, fnM_e, finK_nil, atI_zero, atI_one, ex_some, keepE, wipeE, restE, List.foldr_cons, List.foldr_nil, List.all_cons, List.all_nil, startE, idxs, List.map_cons, List.map_nil, List.length_cons, List.length_nil, Nat.reduceAdd, Nat.reduceSub, Int.reduceToNat, List.reduceReplicate, List.nil_append, List.cons_append, List.append_nil, List.getElem?_cons_zero, List.getElem?_cons_succ, List.set_cons_zero, List.set_cons_succ, Nat.zero_add, Bool.not_true, Bool.not_false, decide_eq_true_eq, if_true, if_false, Bool.false_eq_true, Bool.true_and, Bool.and_true, ite_true, ite_false, reduceIte, eq_self, true_and, and_true, Bool.not_eq_true', decide_eq_false_iff_not]
  refine ⟨Sh.shaped (n := 0) (.int _), Sh.shaped (n := 0) (.int _), ?_⟩
  by_cases e : kd = 3
  · refine ⟨.int 101, by subst e; rfl, ?_⟩
    try simp only [sNil_e, sRet_e, sRetN_e, sIf_e, sPass_e, sNever_e, sExpr_e, sAsg_e, sTgt_e, sPar_e, fCst_e, fVar_e, fMov_e, fOV_e, rdSlot_e, fOP_e, as_val, as_lst, bo_e, sv_e, iv_e, ol_e, fO2_e, fBo_e, fNot_e, fAnd_e, fOr_e, fAndV_e, fOrV_e, fNotV_e, fIf_e, fONil_e, fOCons_e, fLNil_e, fLCons_e, fTup_e, fLst_e, fNeg_e, rdAll_nil, rdAll_cons, fCB_e, fIsI_e, fTName_e, fTsNil_e, fTsCons_e, fTTup_e, fMut_e, sFor_e, sWhile_e, fYes_e, fComp_e, fISeq_e, fIRng1_e, fCall_e, fANil_e, fAV_e, inR_nil, inR_v, inR_s, dropE_nil, dropE_v, dropE_s, outE_nil, outE_v, outE_s, fPNo_e, fPInt_e, fSl_e, fM1_e, fTIx_e, cAdd_i, cAdd_s, cAdd_l, cAdd_t, cSub_i, cMul_i, cFdiv_i, cMod_i, cPow_i, cLt_i, cLe_i, cGt_i, cGe_i, cEq_e, cNe_e, cIs_e, cIsNot_e, cIx_l, cIx_t, cIx_s, cNeg_i, cLen_l, cLen_t, cLen_s, cList_l, cList_t, cTuple_l, cTuple_t, cAll_e, cAny_e, cAbs_i, cInt_b, cInt_i, cStrI_i, cIntS_s, cSplit_s, cJoin_e, cSl_l, cSl_t, cSl_s, mAppend_e, fnM_e, finK_nil, atI_zero, atI_one, ex_some, keepE, wipeE, restE, List.foldr_cons, List.foldr_nil, List.all_cons, List.all_nil, startE, idxs, List.map_cons, List.map_nil, List.length_cons, List.length_nil, Nat.reduceAdd, Nat.reduceSub, Int.reduceToNat, List.reduceReplicate, List.nil_append, List.cons_append, List.append_nil, List.getElem?_cons_zero, List.getElem?_cons_succ, List.set_cons_zero, List.set_cons_succ, Nat.zero_add, Bool.not_true, Bool.not_false, decide_eq_true_eq, if_true, if_false, Bool.false_eq_true, Bool.true_and, Bool.and_true, ite_true, ite_false, reduceIte, eq_self, true_and, and_true, Bool.not_eq_true', decide_eq_false_iff_not]
    refine cDivmod_g (divok (by decide) (by decide)) fun q r hq hr => ?_
    try simp only [sNil_e, sRet_e, sRetN_e, sIf_e, sPass_e, sNever_e, sExpr_e, sAsg_e, sTgt_e, sPar_e, fCst_e, fVar_e, fMov_e, fOV_e, rdSlot_e, fOP_e, as_val, as_lst, bo_e, sv_e, iv_e, ol_e, fO2_e, fBo_e, fNot_e, fAnd_e, fOr_e, fAndV_e, fOrV_e, fNotV_e, fIf_e, fONil_e, fOCons_e, fLNil_e, fLCons_e, fTup_e, fLst_e, fNeg_e, rdAll_nil, rdAll_cons, fCB_e, fIsI_e, fTName_e, fTsNil_e, fTsCons_e, fTTup_e, fMut_e, sFor_e, sWhile_e, fYes_e, fComp_e, fISeq_e, fIRng1_e, fCall_e, fANil_e, fAV_e, inR_nil, inR_v, inR_s, dropE_nil, dropE_v, dropE_s, outE_nil, outE_v, outE_s, fPNo_e, fPInt_e, fSl_e, fM1_e, fTIx_e, cAdd_i, cAdd_s, cAdd_l, cAdd_t, cSub_i, cMul_i, cFdiv_i, cMod_i, cPow_i, cLt_i, cLe_i, cGt_i, cGe_i, cEq_e, cNe_e, cIs_e, cIsNot_e, cIx_l, cIx_t, cIx_s, cNeg_i, cLen_l, cLen_t, cLen_s, cList_l, cList_t, cTuple_l, cTuple_t, cAll_e, cAny_e, cAbs_i, cInt_b, cInt_i, cStrI_i, cIntS_s, cSplit_s, cJoin_e, cSl_l, cSl_t, cSl_s, mAppend_e, fnM_e, finK_nil, atI_zero, atI_one, ex_some, keepE, wipeE, restE, List.foldr_cons, List.foldr_nil, List.all_cons, List.all_nil, startE, idxs, List.map_cons, List.map_nil, List.length_cons, List.length_nil, Nat.reduceAdd, Nat.reduceSub, Int.reduceToNat, List.reduceReplicate, List.nil_append, List.cons_append, List.append_nil, List.getElem?_cons_zero, List.getElem?_cons_succ, List.set_cons_zero, List.set_cons_succ, Nat.zero_add, Bool.not_true, Bool.not_false, decide_eq_true_eq, if_true, if_false, Bool.false_eq_true, Bool.true_and, Bool.and_true, ite_true, ite_false, reduceIte, eq_self, true_and, and_true, Bool.not_eq_true', decide_eq_false_iff_not]
    rw [hq, hr]
    exact h 101 (by decide) (by decide)
  · refine ⟨.int 7, ?_, ?_⟩
    · rw [show (PyData.int kd).eqv (PyData.int 3) = false by simp [PyData.eqv, e]]
      rfl
    try simp only [sNil_e, sRet_e, sRetN_e, sIf_e, sPass_e, sNever_e, sExpr_e, sAsg_e, sTgt_e, sPar_e, fCst_e, fVar_e, fMov_e, fOV_e, rdSlot_e, fOP_e, as_val, as_lst, bo_e, sv_e, iv_e, ol_e, fO2_e, fBo_e, fNot_e, fAnd_e, fOr_e, fAndV_e, fOrV_e, fNotV_e, fIf_e, fONil_e, fOCons_e, fLNil_e, fLCons_e, fTup_e, fLst_e, fNeg_e, rdAll_nil, rdAll_cons, fCB_e, fIsI_e, fTName_e, fTsNil_e, fTsCons_e, fTTup_e, fMut_e, sFor_e, sWhile_e, fYes_e, fComp_e, fISeq_e, fIRng1_e, fCall_e, fANil_e, fAV_e, inR_nil, inR_v, inR_s, dropE_nil, dropE_v, dropE_s, outE_nil, outE_v, outE_s, fPNo_e, fPInt_e, fSl_e, fM1_e, fTIx_e, cAdd_i, cAdd_s, cAdd_l, cAdd_t, cSub_i, cMul_i, cFdiv_i, cMod_i, cPow_i, cLt_i, cLe_i, cGt_i, cGe_i, cEq_e, cNe_e, cIs_e, cIsNot_e, cIx_l, cIx_t, cIx_s, cNeg_i, cLen_l, cLen_t, cLen_s, cList_l, cList_t, cTuple_l, cTuple_t, cAll_e, cAny_e, cAbs_i, cInt_b, cInt_i, cStrI_i, cIntS_s, cSplit_s, cJoin_e, cSl_l, cSl_t, cSl_s, mAppend_e, fnM_e, finK_nil, atI_zero, atI_one, ex_some, keepE, wipeE, restE, List.foldr_cons, List.foldr_nil, List.all_cons, List.all_nil, startE, idxs, List.map_cons, List.map_nil, List.length_cons, List.length_nil, Nat.reduceAdd, Nat.reduceSub, Int.reduceToNat, List.reduceReplicate, List.nil_append, List.cons_append, List.append_nil, List.getElem?_cons_zero, List.getElem?_cons_succ, List.set_cons_zero, List.set_cons_succ, Nat.zero_add, Bool.not_true, Bool.not_false, decide_eq_true_eq, if_true, if_false, Bool.false_eq_true, Bool.true_and, Bool.and_true, ite_true, ite_false, reduceIte, eq_self, true_and, and_true, Bool.not_eq_true', decide_eq_false_iff_not]
    refine cDivmod_g (divok (by decide) (by decide)) fun q r hq hr => ?_
    try simp only [sNil_e, sRet_e, sRetN_e, sIf_e, sPass_e, sNever_e, sExpr_e, sAsg_e, sTgt_e, sPar_e, fCst_e, fVar_e, fMov_e, fOV_e, rdSlot_e, fOP_e, as_val, as_lst, bo_e, sv_e, iv_e, ol_e, fO2_e, fBo_e, fNot_e, fAnd_e, fOr_e, fAndV_e, fOrV_e, fNotV_e, fIf_e, fONil_e, fOCons_e, fLNil_e, fLCons_e, fTup_e, fLst_e, fNeg_e, rdAll_nil, rdAll_cons, fCB_e, fIsI_e, fTName_e, fTsNil_e, fTsCons_e, fTTup_e, fMut_e, sFor_e, sWhile_e, fYes_e, fComp_e, fISeq_e, fIRng1_e, fCall_e, fANil_e, fAV_e, inR_nil, inR_v, inR_s, dropE_nil, dropE_v, dropE_s, outE_nil, outE_v, outE_s, fPNo_e, fPInt_e, fSl_e, fM1_e, fTIx_e, cAdd_i, cAdd_s, cAdd_l, cAdd_t, cSub_i, cMul_i, cFdiv_i, cMod_i, cPow_i, cLt_i, cLe_i, cGt_i, cGe_i, cEq_e, cNe_e, cIs_e, cIsNot_e, cIx_l, cIx_t, cIx_s, cNeg_i, cLen_l, cLen_t, cLen_s, cList_l, cList_t, cTuple_l, cTuple_t, cAll_e, cAny_e, cAbs_i, cInt_b, cInt_i, cStrI_i, cIntS_s, cSplit_s, cJoin_e, cSl_l, cSl_t, cSl_s, mAppend_e, fnM_e, finK_nil, atI_zero, atI_one, ex_some, keepE, wipeE, restE, List.foldr_cons, List.foldr_nil, List.all_cons, List.all_nil, startE, idxs, List.map_cons, List.map_nil, List.length_cons, List.length_nil, Nat.reduceAdd, Nat.reduceSub, Int.reduceToNat, List.reduceReplicate, List.nil_append, List.cons_append, List.append_nil, List.getElem?_cons_zero, List.getElem?_cons_succ, List.set_cons_zero, List.set_cons_succ, Nat.zero_add, Bool.not_true, Bool.not_false, decide_eq_true_eq, if_true, if_false, Bool.false_eq_true, Bool.true_and, Bool.and_true, ite_true, ite_false, reduceIte, eq_self, true_and, and_true, Bool.not_eq_true', decide_eq_false_iff_not]
    rw [hq, hr]
    exact h 7 (by decide) (by decide)
theorem row_loop (dn : Dn) (kd cv : Option R) : ∀ (l : List D) (part : Int) (ps : List (Int × Int)) (x2 x5 : Option R), (∀ p ∈ ps, Gd p) → ps.length + l.length ≤ 100 →
    (∀ (ps : List (Int × Int)) (p : Int) (x2 x5 : Option R), (∀ p ∈ ps, Gd p) → ps.length ≤ 100 → dn.nx [some (.val (.int p)), some (.olst (ps.map rD)), x2, kd, cv, x5]) →
    forGo (fTName 2) (sCons (sTgt (fCall M__law_some_ratio (fAV (fVar 0) fANil) (fun _ _ => False)) (fTTup 2 (fTsCons (fTName 5) (fTsCons (fTName 0) fTsNil))))
  (sExpr (fMut 1 mAppend (fLCons (fVar 5) fLNil)))) l dn [some (.val (.int part)), some (.olst (ps.map rD)), x2, kd, cv, x5] := by
  intro l
  have sz : (200 : Nat) ≤ sizeLine := by decide
  induction l with
  | nil =>
    intro part ps x2 x5 h hl H
    exact H _ _ _ _ h (by simpa using hl)
  | cons d l ih =>
    intro part ps x2 x5 h hl H
    rw [List.length_cons] at hl
    rw [forGo_cons]
    simp only [sNil_e, sCons_e, sRet_e, sRetN_e, sIf_e, sPass_e, sNever_e, sExpr_e, sAsg_e, sTgt_e, sPar_e, fCst_e, fVar_e, fMov_e, fOV_e, rdSlot_e, fOP_e, as_val, as_lst, bo_e, sv_e, iv_e, ol_e, fO2_e, fBo_e, fNot_e, fAnd_e, fOr_e, fAndV_e, fOrV_e, fNotV_e, fIf_e, fONil_e, fOCons_e, fLNil_e, fLCons_e, fTup_e, fLst_e, fNeg_e, rdAll_nil, rdAll_cons, fCB_e, fIsI_e, fTName_e, fTsNil_e, fTsCons_e, fTTup_e, fMut_e, sFor_e, sWhile_e, fYes_e, fComp_e, fISeq_e, fIRng1_e, fCall_e, fANil_e, fAV_e, inR_nil, inR_v, inR_s, dropE_nil, dropE_v, dropE_s, outE_nil, outE_v, outE_s, fPNo_e, fPInt_e, fSl_e, fM1_e, fTIx_e, cAdd_i, cAdd_s, cAdd_l, cAdd_t, cSub_i, cMul_i, cFdiv_i, cMod_i, cPow_i, cLt_i, cLe_i, cGt_i, cGe_i, cEq_e, cNe_e, cIs_e, cIsNot_e, cIx_l, cIx_t, cIx_s, cNeg_i, cLen_l, cLen_t, cLen_s, cList_l, cList_t, cTuple_l, cTuple_t, cAll_e, cAny_e, cAbs_i, cInt_b, cInt_i, cStrI_i, cIntS_s, cSplit_s, cJoin_e, cSl_l, cSl_t, cSl_s, mAppend_e, fnM_e, finK_nil, atI_zero, atI_one, ex_some, keepE, wipeE, restE, List.foldr_cons, List.foldr_nil, List.all_cons, List.all_nil, startE, idxs, List.map_cons, List.map_nil, List.length_cons, List.length_nil, Nat.reduceAdd, Nat.reduceSub, Int.reduceToNat, List.reduceReplicate, List.nil_append, List.cons_append, List.append_nil, List.getElem?_cons_zero, List.getElem?_cons_succ, List.set_cons_zero, List.set_cons_succ, Nat.zero_add, Bool.not_true, Bool.not_false, decide_eq_true_eq, if_true, if_false, Bool.false_eq_true, Bool.true_and, Bool.and_true, ite_true, ite_false, reduceIte, eq_self, true_and, and_true, Bool.not_eq_true', decide_eq_false_iff_not]
    obtain ⟨p, c', gp, hr⟩ := some_ratio_ret part
    refine hr _ _ ?_
    simp only [sNil_e, sCons_e, sRet_e, sRetN_e, sIf_e, sPass_e, sNever_e, sExpr_e, sAsg_e, sTgt_e, sPar_e, fCst_e, fVar_e, fMov_e, fOV_e, rdSlot_e, fOP_e, as_val, as_lst, bo_e, sv_e, iv_e, ol_e, fO2_e, fBo_e, fNot_e, fAnd_e, fOr_e, fAndV_e, fOrV_e, fNotV_e, fIf_e, fONil_e, fOCons_e, fLNil_e, fLCons_e, fTup_e, fLst_e, fNeg_e, rdAll_nil, rdAll_cons, fCB_e, fIsI_e, fTName_e, fTsNil_e, fTsCons_e, fTTup_e, fMut_e, sFor_e, sWhile_e, fYes_e, fComp_e, fISeq_e, fIRng1_e, fCall_e, fANil_e, fAV_e, inR_nil, inR_v, inR_s, dropE_nil, dropE_v, dropE_s, outE_nil, outE_v, outE_s, fPNo_e, fPInt_e, fSl_e, fM1_e, fTIx_e, cAdd_i, cAdd_s, cAdd_l, cAdd_t, cSub_i, cMul_i, cFdiv_i, cMod_i, cPow_i, cLt_i, cLe_i, cGt_i, cGe_i, cEq_e, cNe_e, cIs_e, cIsNot_e, cIx_l, cIx_t, cIx_s, cNeg_i, cLen_l, cLen_t, cLen_s, cList_l, cList_t, cTuple_l, cTuple_t, cAll_e, cAny_e, cAbs_i, cInt_b, cInt_i, cStrI_i, cIntS_s, cSplit_s, cJoin_e, cSl_l, cSl_t, cSl_s, mAppend_e, fnM_e, finK_nil, atI_zero, atI_one, ex_some, keepE, wipeE, restE, List.foldr_cons, List.foldr_nil, List.all_cons, List.all_nil, startE, idxs, List.map_cons, List.map_nil, List.length_cons, List.length_nil, Nat.reduceAdd, Nat.reduceSub, Int.reduceToNat, List.reduceReplicate, List.nil_append, List.cons_append, List.append_nil, List.getElem?_cons_zero, List.getElem?_cons_succ, List.set_cons_zero, List.set_cons_succ, Nat.zero_add, Bool.not_true, Bool.not_false, decide_eq_true_eq, if_true, if_false, Bool.false_eq_true, Bool.true_and, Bool.and_true, ite_true, ite_false, reduceIte, eq_self, true_and, and_true, Bool.not_eq_true', decide_eq_false_iff_not, rD]
    refine ⟨by rw [List.length_map]; omega, ?_⟩
    have := ih c' (ps ++ [p]) (some (.val d)) (some (.val (rD p))) (fun q hq => by
      rcases List.mem_append.mp hq with hq | hq
      · exact h q hq
      · simp at hq
        rw [hq]
        exact gp) (by simp; omega) H
    rw [List.map_append] at this
    exact this
theorem row_rets (c : Int) (k : R → List R → Prop) (kx : KXc) (hk : ∀ ps : List (Int × Int), (∀ p ∈ ps, Gd p) → ps.length ≤ 100 → k (.olst (ps.map rD)) []) : M__law_row [.val (.int c)] k kx := by
  rw [M__law_row, fnM_e, F__law_row]
  refine row1 c _ _ ?_
  refine row2 _ _ _ _ fun v v0 v1 => ?_
  rw [sCons_e]; simp only [sNil_e, sRet_e, sRetN_e, sIf_e, sPass_e, sNever_e, sExpr_e, sAsg_e, sTgt_e, sPar_e, fCst_e, fVar_e, fMov_e, fOV_e, rdSlot_e, fOP_e, as_val, as_lst, bo_e, sv_e, iv_e, ol_e, fO2_e, fBo_e, fNot_e, fAnd_e, fOr_e, fAndV_e, fOrV_e, fNotV_e, fIf_e, fONil_e, fOCons_e, fLNil_e, fLCons_e, fTup_e, fLst_e, fNeg_e, rdAll_nil, rdAll_cons, fCB_e, fIsI_e, fTName_e, fTsNil_e, fTsCons_e, fTTup_e, fMut_e, sFor_e, sWhile_e, fYes_e, fComp_e, fISeq_e, fIRng1_e, fCall_e, fANil_e, fAV_e, inR_nil, inR_v, inR_s, dropE_nil, dropE_v, dropE_s, outE_nil, outE_v, outE_s, fPNo_e, fPInt_e, fSl_e, fM1_e, fTIx_e, cAdd_i, cAdd_s, cAdd_l, cAdd_t, cSub_i, cMul_i, cFdiv_i, cMod_i, cPow_i, cLt_i, cLe_i, cGt_i, cGe_i, cEq_e, cNe_e, cIs_e, cIsNot_e, cIx_l, cIx_t, cIx_s, cNeg_i, cLen_l, cLen_t, cLen_s, cList_l, cList_t, cTuple_l, cTuple_t, cAll_e, cAny_e, cAbs_i, cInt_b, cInt_i, cStrI_i, cIntS_s, cSplit_s, cJoin_e, cSl_l, cSl_t, cSl_s, mAppend_e, fnM_e, finK_nil, atI_zero, atI_one, ex_some, keepE, wipeE, restE, List.foldr_cons, List.foldr_nil, List.all_cons, List.all_nil, startE, idxs, List.map_cons, List.map_nil, List.length_cons, List.length_nil, Nat.reduceAdd, Nat.reduceSub, Int.reduceToNat, List.reduceReplicate, List.nil_append, List.cons_append, List.append_nil, List.getElem?_cons_zero, List.getElem?_cons_succ, List.set_cons_zero, List.set_cons_succ, Nat.zero_add, Bool.not_true, Bool.not_false, decide_eq_true_eq, if_true, if_false, Bool.false_eq_true, Bool.true_and, Bool.and_true, ite_true, ite_false, reduceIte, eq_self, true_and, and_true, Bool.not_eq_true', decide_eq_false_iff_not]
  rw [sCons_e]; simp only [sNil_e, sRet_e, sRetN_e, sIf_e, sPass_e, sNever_e, sExpr_e, sAsg_e, sTgt_e, sPar_e, fCst_e, fVar_e, fMov_e, fOV_e, rdSlot_e, fOP_e, as_val, as_lst, bo_e, sv_e, iv_e, ol_e, fO2_e, fBo_e, fNot_e, fAnd_e, fOr_e, fAndV_e, fOrV_e, fNotV_e, fIf_e, fONil_e, fOCons_e, fLNil_e, fLCons_e, fTup_e, fLst_e, fNeg_e, rdAll_nil, rdAll_cons, fCB_e, fIsI_e, fTName_e, fTsNil_e, fTsCons_e, fTTup_e, fMut_e, sFor_e, sWhile_e, fYes_e, fComp_e, fISeq_e, fIRng1_e, fCall_e, fANil_e, fAV_e, inR_nil, inR_v, inR_s, dropE_nil, dropE_v, dropE_s, outE_nil, outE_v, outE_s, fPNo_e, fPInt_e, fSl_e, fM1_e, fTIx_e, cAdd_i, cAdd_s, cAdd_l, cAdd_t, cSub_i, cMul_i, cFdiv_i, cMod_i, cPow_i, cLt_i, cLe_i, cGt_i, cGe_i, cEq_e, cNe_e, cIs_e, cIsNot_e, cIx_l, cIx_t, cIx_s, cNeg_i, cLen_l, cLen_t, cLen_s, cList_l, cList_t, cTuple_l, cTuple_t, cAll_e, cAny_e, cAbs_i, cInt_b, cInt_i, cStrI_i, cIntS_s, cSplit_s, cJoin_e, cSl_l, cSl_t, cSl_s, mAppend_e, fnM_e, finK_nil, atI_zero, atI_one, ex_some, keepE, wipeE, restE, List.foldr_cons, List.foldr_nil, List.all_cons, List.all_nil, startE, idxs, List.map_cons, List.map_nil, List.length_cons, List.length_nil, Nat.reduceAdd, Nat.reduceSub, Int.reduceToNat, List.reduceReplicate, List.nil_append, List.cons_append, List.append_nil, List.getElem?_cons_zero, List.getElem?_cons_succ, List.set_cons_zero, List.set_cons_succ, Nat.zero_add, Bool.not_true, Bool.not_false, decide_eq_true_eq, if_true, if_false, Bool.false_eq_true, Bool.true_and, Bool.and_true, ite_true, ite_false, reduceIte, eq_self, true_and, and_true, Bool.not_eq_true', decide_eq_false_iff_not]
  have m0 := Int.emod_nonneg (c / 8) (show v ≠ 0 by omega)
  have m1 := Int.emod_lt_of_pos (c / 8) v0
  refine ⟨⟨by omega, by omega⟩, ?_⟩
  refine row_loop _ _ _ _ _ [] _ _ (fun p hp => by simp at hp) (by simp [rangeD]; omega) fun ps p x2 x5 h hl => ?_
  simp only [sNil_e, sRet_e, sRetN_e, sIf_e, sPass_e, sNever_e, sExpr_e, sAsg_e, sTgt_e, sPar_e, fCst_e, fVar_e, fMov_e, fOV_e, rdSlot_e, fOP_e, as_val, as_lst, bo_e, sv_e, iv_e, ol_e, fO2_e, fBo_e, fNot_e, fAnd_e, fOr_e, fAndV_e, fOrV_e, fNotV_e, fIf_e, fONil_e, fOCons_e, fLNil_e, fLCons_e, fTup_e, fLst_e, fNeg_e, rdAll_nil, rdAll_cons, fCB_e, fIsI_e, fTName_e, fTsNil_e, fTsCons_e, fTTup_e, fMut_e, sFor_e, sWhile_e, fYes_e, fComp_e, fISeq_e, fIRng1_e, fCall_e, fANil_e, fAV_e, inR_nil, inR_v, inR_s, dropE_nil, dropE_v, dropE_s, outE_nil, outE_v, outE_s, fPNo_e, fPInt_e, fSl_e, fM1_e, fTIx_e, cAdd_i, cAdd_s, cAdd_l, cAdd_t, cSub_i, cMul_i, cFdiv_i, cMod_i, cPow_i, cLt_i, cLe_i, cGt_i, cGe_i, cEq_e, cNe_e, cIs_e, cIsNot_e, cIx_l, cIx_t, cIx_s, cNeg_i, cLen_l, cLen_t, cLen_s, cList_l, cList_t, cTuple_l, cTuple_t, cAll_e, cAny_e, cAbs_i, cInt_b, cInt_i, cStrI_i, cIntS_s, cSplit_s, cJoin_e, cSl_l, cSl_t, cSl_s, mAppend_e, fnM_e, finK_nil, atI_zero, atI_one, ex_some, keepE, wipeE, restE, List.foldr_cons, List.foldr_nil, List.all_cons, List.all_nil, startE, idxs, List.map_cons, List.map_nil, List.length_cons, List.length_nil, Nat.reduceAdd, Nat.reduceSub, Int.reduceToNat, List.reduceReplicate, List.nil_append, List.cons_append, List.append_nil, List.getElem?_cons_zero, List.getElem?_cons_succ, List.set_cons_zero, List.set_cons_succ, Nat.zero_add, Bool.not_true, Bool.not_false, decide_eq_true_eq, if_true, if_false, Bool.false_eq_true, Bool.true_and, Bool.and_true, ite_true, ite_false, reduceIte, eq_self, true_and, and_true, Bool.not_eq_true', decide_eq_false_iff_not]
  exact hk ps h hl
end K77
end

section
set_option maxRecDepth 100000
set_option maxHeartbeats 40000
namespace K77
open PySem PySem.Spec PyProof.Rows L2 Cr
def lawBody : FS :=
 (sCons (sTgt (fCB cDivmod (fOCons (fOV (fCall M__law_deal (fAV (fVar 1) (fAV (fCst (.int 1)) fANil)) (fun _ _ => False))) (fOCons (fOV (fCst (.int 2))) fONil))) (fTTup 2 (fTsCons (fTName 8) (fTsCons (fTName 9) fTsNil))))
  (sCons (sTgt (fCall M__law_some_ratio (fAV (fVar 8) fANil) (fun _ _ => False)) (fTTup 2 (fTsCons (fTName 2) (fTsCons (fTName 8) fTsNil))))
  (sCons (sAsg 2 (fTup (fLCons (fO2 cMul (fOV (fO2 cIx (fOV (fLst (fLCons (fCst (.int 1)) (fLCons (fNeg (fCst (.int 1))) fLNil)))) (fOP 9))) (fOV (fO2 cIx (fOP 2) (fOV (fCst (.int 0)))))) (fLCons (fO2 cIx (fOP 2) (fOV (fCst (.int 1)))) fLNil))))
  (sCons (sAsg 3 (fCall M_ratio_text (fAV (fVar 2) fANil) (fun _ _ => False)))
  (sCons (sIf (fOr (fNot (fBo (fIsI "str" (fOP 3)))) (fBo (fO2 cNe (fOP 3) (fOV (fCall M__law_text (fAV (fVar 2) fANil) (fun _ _ => False))))))
  (sRet (fCst (.bool false)))
  sNil)
  (sCons (sAsg 4 (fCall M_read_ratio (fAV (fVar 3) fANil) (fun _ _ => False)))
  (sCons (sIf (fOr (fNot (fBo (fIsI "tuple" (fOP 4)))) (fOr (fBo (fO2 cNe (fOP 4) (fOP 2))) (fBo (fO2 cNe (fOV (fCall M_read_ratio (fAV (fVar 3) fANil) (fun _ _ => False))) (fOP 2)))))
  (sRet (fCst (.bool false)))
  sNil)
  (sCons (sAsg 5 (fCall M__law_row (fAV (fVar 8) fANil) (fun _ _ => False)))
  (sCons (sAsg 6 (fM1 cJoin (fCst (.str " ")) (fOV (fComp [2] (fISeq (fVar 5)) (fTName 2) fYes (fCall M__law_text (fAV (fVar 2) fANil) (fun _ _ => False))))))
  (sCons (sIf (fBo (fO2 cEq (fOP 5) (fOV (fLst fLNil))))
  (sAsg 6 (fCst (.str ".")))
  sNil)
  (sCons (sAsg 7 (fCB cList (fOCons (fOP 5) fONil)))
  (sCons (sIf (fOr (fBo (fO2 cNe (fOV (fCall M_ratios_text (fAV (fVar 7) fANil) (fun _ _ => False))) (fOP 6))) (fOr (fBo (fO2 cNe (fOV (fCall M_ratios_text (fAV (fCB cTuple (fOCons (fOP 5) fONil)) fANil) (fun _ _ => False))) (fOP 6))) (fBo (fO2 cNe (fOP 7) (fOP 5)))))
  (sRet (fCst (.bool false)))
  sNil)
  (sCons (sAsg 4 (fCall M_read_ratios (fAV (fVar 6) fANil) (fun _ _ => False)))
  (sIf (fOr (fNot (fBo (fIsI "tuple" (fOP 4)))) (fBo (fO2 cNe (fOP 4) (fOV (fCB cTuple (fOCons (fOP 5) fONil))))))
  (sRet (fCst (.bool false)))
  sNil))))))))))))))
def lawRest : FS :=
 (sCons (sAsg 7 (fCB cList (fOCons (fOP 5) fONil)))
  (sCons (sIf (fOr (fBo (fO2 cNe (fOV (fCall M_ratios_text (fAV (fVar 7) fANil) (fun _ _ => False))) (fOP 6))) (fOr (fBo (fO2 cNe (fOV (fCall M_ratios_text (fAV (fCB cTuple (fOCons (fOP 5) fONil)) fANil) (fun _ _ => False))) (fOP 6))) (fBo (fO2 cNe (fOP 7) (fOP 5)))))
  (sRet (fCst (.bool false)))
  sNil)
  (sCons (sAsg 4 (fCall M_read_ratios (fAV (fVar 6) fANil) (fun _ _ => False)))
  (sIf (fOr (fNot (fBo (fIsI "tuple" (fOP 4)))) (fBo (fO2 cNe (fOP 4) (fOV (fCB cTuple (fOCons (fOP 5) fONil))))))
  (sRet (fCst (.bool false)))
  sNil))))
theorem sum_len : ∀ (l : List (Int × Int)), (∀ p ∈ l, Gd p) → ((l.map fun p => mkS (rT p)).map (·.length)).sum ≤ l.length * 123 := by
  intro l
  induction l with
  | nil => intro _; simp
  | cons a r ih =>
    intro hh
    have h1 := rT_len (hh a (by simp))
    have h2 := ih fun p hp => hh p (List.mem_cons_of_mem _ hp)
    simp only [List.map_cons, List.sum_cons, List.length_cons, mkS_len] at h2 ⊢
    omega
theorem law1 (s x2 x3 x4 x5 x6 x7 x8 x9 : Option R) (c : Int) (dn : Dn) (S : FS) (h : ∀ d e : Int, (e = 0 ∨ e = 1) → S dn [s, some (.val (.int c)), x2, x3, x4, x5, x6, x7, some (.val (.int d)), some (.val (.int e))]) : sCons (sTgt (fCB cDivmod (fOCons (fOV (fCall M__law_deal (fAV (fVar 1) (fAV (fCst (.int 1)) fANil)) (fun _ _ => False))) (fOCons (fOV (fCst (.int 2))) fONil))) (fTTup 2 (fTsCons (fTName 8) (fTsCons (fTName 9) fTsNil)))) S dn [s, some (.val (.int c)), x2, x3, x4, x5, x6, x7, x8, x9] := by
  refine scTgt fun κ hκ => ?_
  simp only [sNil_e, sRet_e, sRetN_e, sIf_e, sPass_e, sNever_e, sExpr_e, sAsg_e, sTgt_e, sPar_e, fCst_e, fVar_e, fMov_e, fOV_e, rdSlot_e, fOP_e, as_val, as_lst, bo_e, sv_e, iv_e, ol_e, fO2_e, fBo_e, fNot_e, fAnd_e, fOr_e, fAndV_e, fOrV_e, fNotV_e, fIf_e, fONil_e, fOCons_e, fLNil_e, fLCons_e, fTup_e, fLst_e, fNeg_e, rdAll_nil, rdAll_cons, fCB_e, fIsI_e, fTName_e, fTsNil_e, fTsCons_e, fTTup_e, fMut_e, sFor_e, sWhile_e, fYes_e, fComp_e, fISeq_e, fIRng1_e, fCall_e, fANil_e, fAV_e, inR_nil, inR_v, inR_s, dropE_nil, dropE_v, dropE_s, outE_nil, outE_v, outE_s, fPNo_e, fPInt_e, fSl_e, fM1_e, fTIx_e, cAdd_i, cAdd_s, cAdd_l, cAdd_t, cSub_i, cMul_i, cFdiv_i, cMod_i, cPow_i, cLt_i, cLe_i, cGt_i, cGe_i, cEq_e, cNe_e, cIs_e, cIsNot_e, cIx_l, cIx_t, cIx_s, cNeg_i, cLen_l, cLen_t, cLen_s, cList_l, cList_t, cTuple_l, cTuple_t, cAll_e, cAny_e, cAbs_i, cInt_b, cInt_i, cStrI_i, cIntS_s, cSplit_s, cJoin_e, cSl_l, cSl_t, cSl_s, mAppend_e, fnM_e, finK_nil, atI_zero, atI_one, ex_some, keepE, wipeE, restE, List.foldr_cons, List.foldr_nil, List.all_cons, List.all_nil, startE, idxs, List.map_cons, List.map_nil, List.length_cons, List.length_nil, Nat.reduceAdd, Nat.reduceSub, Int.reduceToNat, List.reduceReplicate, List.nil_append, List.cons_append, List.append_nil, List.getElem?_cons_zero, List.getElem?_cons_succ, List.set_cons_zero, List.set_cons_succ, Nat.zero_add, Bool.not_true, Bool.not_false, decide_eq_true_eq, if_true, if_false, Bool.false_eq_true, Bool.true_and, Bool.and_true, ite_true, ite_false, reduceIte, eq_self, true_and, and_true, Bool.not_eq_true', decide_eq_false_iff_not]
  refine deal_rets _ _ _ fun d => ?_
  simp only [sNil_e, sRet_e, sRetN_e, sIf_e, sPass_e, sNever_e, sExpr_e, sAsg_e, sTgt_e, sPar_e, fCst_e, fVar_e, fMov_e, fOV_e, rdSlot_e, fOP_e, as_val, as_lst, bo_e, sv_e, iv_e, ol_e, fO2_e, fBo_e, fNot_e, fAnd_e, fOr_e, fAndV_e, fOrV_e, fNotV_e, fIf_e, fONil_e, fOCons_e, fLNil_e, fLCons_e, fTup_e, fLst_e, fNeg_e, rdAll_nil, rdAll_cons, fCB_e, fIsI_e, fTName_e, fTsNil_e, fTsCons_e, fTTup_e, fMut_e, sFor_e, sWhile_e, fYes_e, fComp_e, fISeq_e, fIRng1_e, fCall_e, fANil_e, fAV_e, inR_nil, inR_v, inR_s, dropE_nil, dropE_v, dropE_s, outE_nil, outE_v, outE_s, fPNo_e, fPInt_e, fSl_e, fM1_e, fTIx_e, cAdd_i, cAdd_s, cAdd_l, cAdd_t, cSub_i, cMul_i, cFdiv_i, cMod_i, cPow_i, cLt_i, cLe_i, cGt_i, cGe_i, cEq_e, cNe_e, cIs_e, cIsNot_e, cIx_l, cIx_t, cIx_s, cNeg_i, cLen_l, cLen_t, cLen_s, cList_l, cList_t, cTuple_l, cTuple_t, cAll_e, cAny_e, cAbs_i, cInt_b, cInt_i, cStrI_i, cIntS_s, cSplit_s, cJoin_e, cSl_l, cSl_t, cSl_s, mAppend_e, fnM_e, finK_nil, atI_zero, atI_one, ex_some, keepE, wipeE, restE, List.foldr_cons, List.foldr_nil, List.all_cons, List.all_nil, startE, idxs, List.map_cons, List.map_nil, List.length_cons, List.length_nil, Nat.reduceAdd, Nat.reduceSub, Int.reduceToNat, List.reduceReplicate, List.nil_append, List.cons_append, List.append_nil, List.getElem?_cons_zero, List.getElem?_cons_succ, List.set_cons_zero, List.set_cons_succ, Nat.zero_add, Bool.not_true, Bool.not_false, decide_eq_true_eq, if_true, if_false, Bool.false_eq_true, Bool.true_and, Bool.and_true, ite_true, ite_false, reduceIte, eq_self, true_and, and_true, Bool.not_eq_true', decide_eq_false_iff_not]
  refine cDivmod_g (divok (by decide) (by decide)) fun q r hq hr => hκ _ _ ?_
  simp only [sNil_e, sRet_e, sRetN_e, sIf_e, sPass_e, sNever_e, sExpr_e, sAsg_e, sTgt_e, sPar_e, fCst_e, fVar_e, fMov_e, fOV_e, rdSlot_e, fOP_e, as_val, as_lst, bo_e, sv_e, iv_e, ol_e, fO2_e, fBo_e, fNot_e, fAnd_e, fOr_e, fAndV_e, fOrV_e, fNotV_e, fIf_e, fONil_e, fOCons_e, fLNil_e, fLCons_e, fTup_e, fLst_e, fNeg_e, rdAll_nil, rdAll_cons, fCB_e, fIsI_e, fTName_e, fTsNil_e, fTsCons_e, fTTup_e, fMut_e, sFor_e, sWhile_e, fYes_e, fComp_e, fISeq_e, fIRng1_e, fCall_e, fANil_e, fAV_e, inR_nil, inR_v, inR_s, dropE_nil, dropE_v, dropE_s, outE_nil, outE_v, outE_s, fPNo_e, fPInt_e, fSl_e, fM1_e, fTIx_e, cAdd_i, cAdd_s, cAdd_l, cAdd_t, cSub_i, cMul_i, cFdiv_i, cMod_i, cPow_i, cLt_i, cLe_i, cGt_i, cGe_i, cEq_e, cNe_e, cIs_e, cIsNot_e, cIx_l, cIx_t, cIx_s, cNeg_i, cLen_l, cLen_t, cLen_s, cList_l, cList_t, cTuple_l, cTuple_t, cAll_e, cAny_e, cAbs_i, cInt_b, cInt_i, cStrI_i, cIntS_s, cSplit_s, cJoin_e, cSl_l, cSl_t, cSl_s, mAppend_e, fnM_e, finK_nil, atI_zero, atI_one, ex_some, keepE, wipeE, restE, List.foldr_cons, List.foldr_nil, List.all_cons, List.all_nil, startE, idxs, List.map_cons, List.map_nil, List.length_cons, List.length_nil, Nat.reduceAdd, Nat.reduceSub, Int.reduceToNat, List.reduceReplicate, List.nil_append, List.cons_append, List.append_nil, List.getElem?_cons_zero, List.getElem?_cons_succ, List.set_cons_zero, List.set_cons_succ, Nat.zero_add, Bool.not_true, Bool.not_false, decide_eq_true_eq, if_true, if_false, Bool.false_eq_true, Bool.true_and, Bool.and_true, ite_true, ite_false, reduceIte, eq_self, true_and, and_true, Bool.not_eq_true', decide_eq_false_iff_not]
  exact h _ _ (by omega)
theorem law2 (s cc x2 x3 x4 x5 x6 x7 x9 : Option R) (c : Int) (dn : Dn) (S : FS) (h : ∀ (p : Int × Int) (d : Int), Gd p → S dn [s, cc, some (.val (rD p)), x3, x4, x5, x6, x7, some (.val (.int d)), x9]) : sCons (sTgt (fCall M__law_some_ratio (fAV (fVar 8) fANil) (fun _ _ => False)) (fTTup 2 (fTsCons (fTName 2) (fTsCons (fTName 8) fTsNil)))) S dn [s, cc, x2, x3, x4, x5, x6, x7, some (.val (.int c)), x9] := by
  refine scTgt fun κ hκ => ?_
  simp only [sNil_e, sRet_e, sRetN_e, sIf_e, sPass_e, sNever_e, sExpr_e, sAsg_e, sTgt_e, sPar_e, fCst_e, fVar_e, fMov_e, fOV_e, rdSlot_e, fOP_e, as_val, as_lst, bo_e, sv_e, iv_e, ol_e, fO2_e, fBo_e, fNot_e, fAnd_e, fOr_e, fAndV_e, fOrV_e, fNotV_e, fIf_e, fONil_e, fOCons_e, fLNil_e, fLCons_e, fTup_e, fLst_e, fNeg_e, rdAll_nil, rdAll_cons, fCB_e, fIsI_e, fTName_e, fTsNil_e, fTsCons_e, fTTup_e, fMut_e, sFor_e, sWhile_e, fYes_e, fComp_e, fISeq_e, fIRng1_e, fCall_e, fANil_e, fAV_e, inR_nil, inR_v, inR_s, dropE_nil, dropE_v, dropE_s, outE_nil, outE_v, outE_s, fPNo_e, fPInt_e, fSl_e, fM1_e, fTIx_e, cAdd_i, cAdd_s, cAdd_l, cAdd_t, cSub_i, cMul_i, cFdiv_i, cMod_i, cPow_i, cLt_i, cLe_i, cGt_i, cGe_i, cEq_e, cNe_e, cIs_e, cIsNot_e, cIx_l, cIx_t, cIx_s, cNeg_i, cLen_l, cLen_t, cLen_s, cList_l, cList_t, cTuple_l, cTuple_t, cAll_e, cAny_e, cAbs_i, cInt_b, cInt_i, cStrI_i, cIntS_s, cSplit_s, cJoin_e, cSl_l, cSl_t, cSl_s, mAppend_e, fnM_e, finK_nil, atI_zero, atI_one, ex_some, keepE, wipeE, restE, List.foldr_cons, List.foldr_nil, List.all_cons, List.all_nil, startE, idxs, List.map_cons, List.map_nil, List.length_cons, List.length_nil, Nat.reduceAdd, Nat.reduceSub, Int.reduceToNat, List.reduceReplicate, List.nil_append, List.cons_append, List.append_nil, List.getElem?_cons_zero, List.getElem?_cons_succ, List.set_cons_zero, List.set_cons_succ, Nat.zero_add, Bool.not_true, Bool.not_false, decide_eq_true_eq, if_true, if_false, Bool.false_eq_true, Bool.true_and, Bool.and_true, ite_true, ite_false, reduceIte, eq_self, true_and, and_true, Bool.not_eq_true', decide_eq_false_iff_not]
  obtain ⟨p, c', gp, hr⟩ := some_ratio_ret c
  refine hr _ _ (hκ _ _ ?_)
  simp only [sNil_e, sRet_e, sRetN_e, sIf_e, sPass_e, sNever_e, sExpr_e, sAsg_e, sTgt_e, sPar_e, fCst_e, fVar_e, fMov_e, fOV_e, rdSlot_e, fOP_e, as_val, as_lst, bo_e, sv_e, iv_e, ol_e, fO2_e, fBo_e, fNot_e, fAnd_e, fOr_e, fAndV_e, fOrV_e, fNotV_e, fIf_e, fONil_e, fOCons_e, fLNil_e, fLCons_e, fTup_e, fLst_e, fNeg_e, rdAll_nil, rdAll_cons, fCB_e, fIsI_e, fTName_e, fTsNil_e, fTsCons_e, fTTup_e, fMut_e, sFor_e, sWhile_e, fYes_e, fComp_e, fISeq_e, fIRng1_e, fCall_e, fANil_e, fAV_e, inR_nil, inR_v, inR_s, dropE_nil, dropE_v, dropE_s, outE_nil, outE_v, outE_s, fPNo_e, fPInt_e, fSl_e, fM1_e, fTIx_e, cAdd_i, cAdd_s, cAdd_l, cAdd_t, cSub_i, cMul_i, cFdiv_i, cMod_i, cPow_i, cLt_i, cLe_i, cGt_i, cGe_i, cEq_e, cNe_e, cIs_e, cIsNot_e, cIx_l, cIx_t, cIx_s, cNeg_i, cLen_l, cLen_t, cLen_s, cList_l, cList_t, cTuple_l, cTuple_t, cAll_e, cAny_e, cAbs_i, cInt_b, cInt_i, cStrI_i, cIntS_s, cSplit_s, cJoin_e, cSl_l, cSl_t, cSl_s, mAppend_e, fnM_e, finK_nil, atI_zero, atI_one, ex_some, keepE, wipeE, restE, List.foldr_cons, List.foldr_nil, List.all_cons, List.all_nil, startE, idxs, List.map_cons, List.map_nil, List.length_cons, List.length_nil, Nat.reduceAdd, Nat.reduceSub, Int.reduceToNat, List.reduceReplicate, List.nil_append, List.cons_append, List.append_nil, List.getElem?_cons_zero, List.getElem?_cons_succ, List.set_cons_zero, List.set_cons_succ, Nat.zero_add, Bool.not_true, Bool.not_false, decide_eq_true_eq, if_true, if_false, Bool.false_eq_true, Bool.true_and, Bool.and_true, ite_true, ite_false, reduceIte, eq_self, true_and, and_true, Bool.not_eq_true', decide_eq_false_iff_not]
  exact h p c' gp
theorem law3 (s cc x3 x4 x5 x6 x7 x8 : Option R) (p : Int × Int) (e : Int) (he : e = 0 ∨ e = 1) (gp : Gd p) (dn : Dn) (S : FS) (h : ∀ (i j : Int), Num i → Num j → 0 < j → gcdI i j = 1 → S dn [s, cc, some (.val (rD (i, j))), x3, x4, x5, x6, x7, x8, some (.val (.int e))]) : sCons (sAsg 2 (fTup (fLCons (fO2 cMul (fOV (fO2 cIx (fOV (fLst (fLCons (fCst (.int 1)) (fLCons (fNeg (fCst (.int 1))) fLNil)))) (fOP 9))) (fOV (fO2 cIx (fOP 2) (fOV (fCst (.int 0)))))) (fLCons (fO2 cIx (fOP 2) (fOV (fCst (.int 1)))) fLNil)))) S dn [s, cc, some (.val (rD p)), x3, x4, x5, x6, x7, x8, some (.val (.int e))] := by
  refine scAsg fun κ hκ => ?_
  simp only [sNil_e, sRet_e, sRetN_e, sIf_e, sPass_e, sNever_e, sExpr_e, sAsg_e, sTgt_e, sPar_e, fCst_e, fVar_e, fMov_e, fOV_e, rdSlot_e, fOP_e, as_val, as_lst, bo_e, sv_e, iv_e, ol_e, fO2_e, fBo_e, fNot_e, fAnd_e, fOr_e, fAndV_e, fOrV_e, fNotV_e, fIf_e, fONil_e, fOCons_e, fLNil_e, fLCons_e, fTup_e, fLst_e, fNeg_e, rdAll_nil, rdAll_cons, fCB_e, fIsI_e, fTName_e, fTsNil_e, fTsCons_e, fTTup_e, fMut_e, sFor_e, sWhile_e, fYes_e, fComp_e, fISeq_e, fIRng1_e, fCall_e, fANil_e, fAV_e, inR_nil, inR_v, inR_s, dropE_nil, dropE_v, dropE_s, outE_nil, outE_v, outE_s, fPNo_e, fPInt_e, fSl_e, fM1_e, fTIx_e, cAdd_i, cAdd_s, cAdd_l, cAdd_t, cSub_i, cMul_i, cFdiv_i, cMod_i, cPow_i, cLt_i, cLe_i, cGt_i, cGe_i, cEq_e, cNe_e, cIs_e, cIsNot_e, cIx_l, cIx_t, cIx_s, cNeg_i, cLen_l, cLen_t, cLen_s, cList_l, cList_t, cTuple_l, cTuple_t, cAll_e, cAny_e, cAbs_i, cInt_b, cInt_i, cStrI_i, cIntS_s, cSplit_s, cJoin_e, cSl_l, cSl_t, cSl_s, mAppend_e, fnM_e, finK_nil, atI_zero, atI_one, ex_some, keepE, wipeE, restE, List.foldr_cons, List.foldr_nil, List.all_cons, List.all_nil, startE, idxs, List.map_cons, List.map_nil, List.length_cons, List.length_nil, Nat.reduceAdd, Nat.reduceSub, Int.reduceToNat, List.reduceReplicate, List.nil_append, List.cons_append, List.append_nil, List.getElem?_cons_zero, List.getElem?_cons_succ, List.set_cons_zero, List.set_cons_succ, Nat.zero_add, Bool.not_true, Bool.not_false, decide_eq_true_eq, if_true, if_false, Bool.false_eq_true, Bool.true_and, Bool.and_true, ite_true, ite_false, reduceIte, eq_self, true_and, and_true, Bool.not_eq_true', decide_eq_false_iff_not, rD]
  have hm : ∀ i : Int, i.natAbs < 2 → MulOk i p.1 := fun i hi => by
    refine mulx_ok (a := 1) (b := 200) hi ?_ (by decide)
    exact Nat.lt_of_lt_of_le gp.n (by decide)
  rcases he with rfl | rfl
  · refine ⟨.int 1, rfl, ?_⟩
    simp only [sNil_e, sRet_e, sRetN_e, sIf_e, sPass_e, sNever_e, sExpr_e, sAsg_e, sTgt_e, sPar_e, fCst_e, fVar_e, fMov_e, fOV_e, rdSlot_e, fOP_e, as_val, as_lst, bo_e, sv_e, iv_e, ol_e, fO2_e, fBo_e, fNot_e, fAnd_e, fOr_e, fAndV_e, fOrV_e, fNotV_e, fIf_e, fONil_e, fOCons_e, fLNil_e, fLCons_e, fTup_e, fLst_e, fNeg_e, rdAll_nil, rdAll_cons, fCB_e, fIsI_e, fTName_e, fTsNil_e, fTsCons_e, fTTup_e, fMut_e, sFor_e, sWhile_e, fYes_e, fComp_e, fISeq_e, fIRng1_e, fCall_e, fANil_e, fAV_e, inR_nil, inR_v, inR_s, dropE_nil, dropE_v, dropE_s, outE_nil, outE_v, outE_s, fPNo_e, fPInt_e, fSl_e, fM1_e, fTIx_e, cAdd_i, cAdd_s, cAdd_l, cAdd_t, cSub_i, cMul_i, cFdiv_i, cMod_i, cPow_i, cLt_i, cLe_i, cGt_i, cGe_i, cEq_e, cNe_e, cIs_e, cIsNot_e, cIx_l, cIx_t, cIx_s, cNeg_i, cLen_l, cLen_t, cLen_s, cList_l, cList_t, cTuple_l, cTuple_t, cAll_e, cAny_e, cAbs_i, cInt_b, cInt_i, cStrI_i, cIntS_s, cSplit_s, cJoin_e, cSl_l, cSl_t, cSl_s, mAppend_e, fnM_e, finK_nil, atI_zero, atI_one, ex_some, keepE, wipeE, restE, List.foldr_cons, List.foldr_nil, List.all_cons, List.all_nil, startE, idxs, List.map_cons, List.map_nil, List.length_cons, List.length_nil, Nat.reduceAdd, Nat.reduceSub, Int.reduceToNat, List.reduceReplicate, List.nil_append, List.cons_append, List.append_nil, List.getElem?_cons_zero, List.getElem?_cons_succ, List.set_cons_zero, List.set_cons_succ, Nat.zero_add, Bool.not_true, Bool.not_false, decide_eq_true_eq, if_true, if_false, Bool.false_eq_true, Bool.true_and, Bool.and_true, ite_true, ite_false, reduceIte, eq_self, true_and, and_true, Bool.not_eq_true', decide_eq_false_iff_not]
    refine ⟨hm _ (by decide), hκ _ _ ?_⟩
    simp only [sNil_e, sRet_e, sRetN_e, sIf_e, sPass_e, sNever_e, sExpr_e, sAsg_e, sTgt_e, sPar_e, fCst_e, fVar_e, fMov_e, fOV_e, rdSlot_e, fOP_e, as_val, as_lst, bo_e, sv_e, iv_e, ol_e, fO2_e, fBo_e, fNot_e, fAnd_e, fOr_e, fAndV_e, fOrV_e, fNotV_e, fIf_e, fONil_e, fOCons_e, fLNil_e, fLCons_e, fTup_e, fLst_e, fNeg_e, rdAll_nil, rdAll_cons, fCB_e, fIsI_e, fTName_e, fTsNil_e, fTsCons_e, fTTup_e, fMut_e, sFor_e, sWhile_e, fYes_e, fComp_e, fISeq_e, fIRng1_e, fCall_e, fANil_e, fAV_e, inR_nil, inR_v, inR_s, dropE_nil, dropE_v, dropE_s, outE_nil, outE_v, outE_s, fPNo_e, fPInt_e, fSl_e, fM1_e, fTIx_e, cAdd_i, cAdd_s, cAdd_l, cAdd_t, cSub_i, cMul_i, cFdiv_i, cMod_i, cPow_i, cLt_i, cLe_i, cGt_i, cGe_i, cEq_e, cNe_e, cIs_e, cIsNot_e, cIx_l, cIx_t, cIx_s, cNeg_i, cLen_l, cLen_t, cLen_s, cList_l, cList_t, cTuple_l, cTuple_t, cAll_e, cAny_e, cAbs_i, cInt_b, cInt_i, cStrI_i, cIntS_s, cSplit_s, cJoin_e, cSl_l, cSl_t, cSl_s, mAppend_e, fnM_e, finK_nil, atI_zero, atI_one, ex_some, keepE, wipeE, restE, List.foldr_cons, List.foldr_nil, List.all_cons, List.all_nil, startE, idxs, List.map_cons, List.map_nil, List.length_cons, List.length_nil, Nat.reduceAdd, Nat.reduceSub, Int.reduceToNat, List.reduceReplicate, List.nil_append, List.cons_append, List.append_nil, List.getElem?_cons_zero, List.getElem?_cons_succ, List.set_cons_zero, List.set_cons_succ, Nat.zero_add, Bool.not_true, Bool.not_false, decide_eq_true_eq, if_true, if_false, Bool.false_eq_true, Bool.true_and, Bool.and_true, ite_true, ite_false, reduceIte, eq_self, true_and, and_true, Bool.not_eq_true', decide_eq_false_iff_not]
    have := h p.1 p.2 gp.n gp.d gp.d0 gp.g
    rw [Int.one_mul]
    exact this
  · refine ⟨.int (-1), rfl, ?_⟩
    simp only [sNil_e, sRet_e, sRetN_e, sIf_e, sPass_e, sNever_e, sExpr_e, sAsg_e, sTgt_e, sPar_e, fCst_e, fVar_e, fMov_e, fOV_e, rdSlot_e, fOP_e, as_val, as_lst, bo_e, sv_e, iv_e, ol_e, fO2_e, fBo_e, fNot_e, fAnd_e, fOr_e, fAndV_e, fOrV_e, fNotV_e, fIf_e, fONil_e, fOCons_e, fLNil_e, fLCons_e, fTup_e, fLst_e, fNeg_e, rdAll_nil, rdAll_cons, fCB_e, fIsI_e, fTName_e, fTsNil_e, fTsCons_e, fTTup_e, fMut_e, sFor_e, sWhile_e, fYes_e, fComp_e, fISeq_e, fIRng1_e, fCall_e, fANil_e, fAV_e, inR_nil, inR_v, inR_s, dropE_nil, dropE_v, dropE_s, outE_nil, outE_v, outE_s, fPNo_e, fPInt_e, fSl_e, fM1_e, fTIx_e, cAdd_i, cAdd_s, cAdd_l, cAdd_t, cSub_i, cMul_i, cFdiv_i, cMod_i, cPow_i, cLt_i, cLe_i, cGt_i, cGe_i, cEq_e, cNe_e, cIs_e, cIsNot_e, cIx_l, cIx_t, cIx_s, cNeg_i, cLen_l, cLen_t, cLen_s, cList_l, cList_t, cTuple_l, cTuple_t, cAll_e, cAny_e, cAbs_i, cInt_b, cInt_i, cStrI_i, cIntS_s, cSplit_s, cJoin_e, cSl_l, cSl_t, cSl_s, mAppend_e, fnM_e, finK_nil, atI_zero, atI_one, ex_some, keepE, wipeE, restE, List.foldr_cons, List.foldr_nil, List.all_cons, List.all_nil, startE, idxs, List.map_cons, List.map_nil, List.length_cons, List.length_nil, Nat.reduceAdd, Nat.reduceSub, Int.reduceToNat, List.reduceReplicate, List.nil_append, List.cons_append, List.append_nil, List.getElem?_cons_zero, List.getElem?_cons_succ, List.set_cons_zero, List.set_cons_succ, Nat.zero_add, Bool.not_true, Bool.not_false, decide_eq_true_eq, if_true, if_false, Bool.false_eq_true, Bool.true_and, Bool.and_true, ite_true, ite_false, reduceIte, eq_self, true_and, and_true, Bool.not_eq_true', decide_eq_false_iff_not]
    refine ⟨hm _ (by decide), hκ _ _ ?_⟩
    simp only [sNil_e, sRet_e, sRetN_e, sIf_e, sPass_e, sNever_e, sExpr_e, sAsg_e, sTgt_e, sPar_e, fCst_e, fVar_e, fMov_e, fOV_e, rdSlot_e, fOP_e, as_val, as_lst, bo_e, sv_e, iv_e, ol_e, fO2_e, fBo_e, fNot_e, fAnd_e, fOr_e, fAndV_e, fOrV_e, fNotV_e, fIf_e, fONil_e, fOCons_e, fLNil_e, fLCons_e, fTup_e, fLst_e, fNeg_e, rdAll_nil, rdAll_cons, fCB_e, fIsI_e, fTName_e, fTsNil_e, fTsCons_e, fTTup_e, fMut_e, sFor_e, sWhile_e, fYes_e, fComp_e, fISeq_e, fIRng1_e, fCall_e, fANil_e, fAV_e, inR_nil, inR_v, inR_s, dropE_nil, dropE_v, dropE_s, outE_nil, outE_v, outE_s, fPNo_e, fPInt_e, fSl_e, fM1_e, fTIx_e, cAdd_i, cAdd_s, cAdd_l, cAdd_t, cSub_i, cMul_i, cFdiv_i, cMod_i, cPow_i, cLt_i, cLe_i, cGt_i, cGe_i, cEq_e, cNe_e, cIs_e, cIsNot_e, cIx_l, cIx_t, cIx_s, cNeg_i, cLen_l, cLen_t, cLen_s, cList_l, cList_t, cTuple_l, cTuple_t, cAll_e, cAny_e, cAbs_i, cInt_b, cInt_i, cStrI_i, cIntS_s, cSplit_s, cJoin_e, cSl_l, cSl_t, cSl_s, mAppend_e, fnM_e, finK_nil, atI_zero, atI_one, ex_some, keepE, wipeE, restE, List.foldr_cons, List.foldr_nil, List.all_cons, List.all_nil, startE, idxs, List.map_cons, List.map_nil, List.length_cons, List.length_nil, Nat.reduceAdd, Nat.reduceSub, Int.reduceToNat, List.reduceReplicate, List.nil_append, List.cons_append, List.append_nil, List.getElem?_cons_zero, List.getElem?_cons_succ, List.set_cons_zero, List.set_cons_succ, Nat.zero_add, Bool.not_true, Bool.not_false, decide_eq_true_eq, if_true, if_false, Bool.false_eq_true, Bool.true_and, Bool.and_true, ite_true, ite_false, reduceIte, eq_self, true_and, and_true, Bool.not_eq_true', decide_eq_false_iff_not]
    have := h (-1 * p.1) p.2 (by have := gp.n; unfold Num at this ⊢; omega) gp.d gp.d0 (by
      have := gp.g
      unfold gcdI at this ⊢
      rw [show (-1 * p.1).natAbs = p.1.natAbs by omega]
      exact this)
    exact this
theorem sh_rD (p : Int × Int) : Sh 3 (rD p) := Sh.tuple fun x hx => by
  simp at hx
  rcases hx with rfl | rfl <;> exact .int _
theorem eq_self_D (d : D) (h : nb d = true) : PyData.eqv d d = true := eqv_of h h rfl
theorem nb_rD (p : Int × Int) : nb (rD p) = true := rfl
theorem nb_rows (ps : List (Int × Int)) : nbs (ps.map rD) = true := nbs_of fun x hx => by
  obtain ⟨p, _, rfl⟩ := List.mem_map.mp hx
  rfl
theorem law_step (dn : Dn) (s x2 x3 x4 x5 x6 x7 x8 x9 : Option R) (c : Int) (h : ∀ x1 x2 x3 x4 x5 x6 x7 x8 x9 : Option R, dn.nx [s, x1, x2, x3, x4, x5, x6, x7, x8, x9]) : lawBody dn [s, some (.val (.int c)), x2, x3, x4, x5, x6, x7, x8, x9] := by
  unfold lawBody
  refine law1 _ _ _ _ _ _ _ _ _ _ _ _ fun d e he => ?_
  refine law2 _ _ _ _ _ _ _ _ _ _ _ _ fun p d gp => ?_
  refine law3 _ _ _ _ _ _ _ _ _ _ he gp _ _ fun i j hi hj h0 hg => ?_
  have shs : SeqAt.shaped (.str (mkS (rt i j))) = true := Sh.shaped (n := 0) (.str (digs_ok fun c hc => rt_small hc))
  refine scAsg fun κ hκ => ?_
  simp only [sNil_e, sPass_e, sNever_e, fCst_e, fVar_e, fMov_e, fOV_e, rdSlot_e, fOP_e, as_val, as_lst, bo_e, sv_e, iv_e, ol_e, fO2_e, fBo_e, fNot_e, fAnd_e, fOr_e, fAndV_e, fOrV_e, fNotV_e, fIf_e, fONil_e, fOCons_e, fLNil_e, fLCons_e, fTup_e, fLst_e, fNeg_e, rdAll_nil, rdAll_cons, fCB_e, fIsI_e, fTName_e, fTsNil_e, fTsCons_e, fTTup_e, fMut_e, fYes_e, fComp_e, fISeq_e, fIRng1_e, fCall_e, fANil_e, fAV_e, inR_nil, inR_v, inR_s, dropE_nil, dropE_v, dropE_s, outE_nil, outE_v, outE_s, fPNo_e, fPInt_e, fSl_e, fM1_e, fTIx_e, cAdd_i, cAdd_s, cAdd_l, cAdd_t, cSub_i, cMul_i, cFdiv_i, cMod_i, cPow_i, cLt_i, cLe_i, cGt_i, cGe_i, cEq_e, cNe_e, cIs_e, cIsNot_e, cIx_l, cIx_t, cIx_s, cNeg_i, cLen_l, cLen_t, cLen_s, cList_l, cList_t, cTuple_l, cTuple_t, cAll_e, cAny_e, cAbs_i, cInt_b, cInt_i, cStrI_i, cIntS_s, cSplit_s, cJoin_e, cSl_l, cSl_t, cSl_s, mAppend_e, fnM_e, finK_nil, atI_zero, atI_one, ex_some, keepE, wipeE, restE, List.foldr_cons, List.foldr_nil, List.all_cons, List.all_nil, startE, idxs, List.map_cons, List.map_nil, List.length_cons, List.length_nil, Nat.reduceAdd, Nat.reduceSub, Int.reduceToNat, List.reduceReplicate, List.nil_append, List.cons_append, List.append_nil, List.getElem?_cons_zero, List.getElem?_cons_succ, List.set_cons_zero, List.set_cons_succ, Nat.zero_add, Bool.not_true, Bool.not_false, decide_eq_true_eq, if_true, if_false, Bool.false_eq_true, Bool.true_and, Bool.and_true, ite_true, ite_false, reduceIte, eq_self, true_and, and_true, Bool.not_eq_true', decide_eq_false_iff_not, rD]
  refine ratio_text_ret _ _ hi hj _ _ (hκ _ _ ?_)
  (try simp only [sNil_e, sPass_e, sNever_e, fCst_e, fVar_e, fMov_e, fOV_e, rdSlot_e, fOP_e, as_val, as_lst, bo_e, sv_e, iv_e, ol_e, fO2_e, fBo_e, fNot_e, fAnd_e, fOr_e, fAndV_e, fOrV_e, fNotV_e, fIf_e, fONil_e, fOCons_e, fLNil_e, fLCons_e, fTup_e, fLst_e, fNeg_e, rdAll_nil, rdAll_cons, fCB_e, fIsI_e, fTName_e, fTsNil_e, fTsCons_e, fTTup_e, fMut_e, fYes_e, fComp_e, fISeq_e, fIRng1_e, fCall_e, fANil_e, fAV_e, inR_nil, inR_v, inR_s, dropE_nil, dropE_v, dropE_s, outE_nil, outE_v, outE_s, fPNo_e, fPInt_e, fSl_e, fM1_e, fTIx_e, cAdd_i, cAdd_s, cAdd_l, cAdd_t, cSub_i, cMul_i, cFdiv_i, cMod_i, cPow_i, cLt_i, cLe_i, cGt_i, cGe_i, cEq_e, cNe_e, cIs_e, cIsNot_e, cIx_l, cIx_t, cIx_s, cNeg_i, cLen_l, cLen_t, cLen_s, cList_l, cList_t, cTuple_l, cTuple_t, cAll_e, cAny_e, cAbs_i, cInt_b, cInt_i, cStrI_i, cIntS_s, cSplit_s, cJoin_e, cSl_l, cSl_t, cSl_s, mAppend_e, fnM_e, finK_nil, atI_zero, atI_one, ex_some, keepE, wipeE, restE, List.foldr_cons, List.foldr_nil, List.all_cons, List.all_nil, startE, idxs, List.map_cons, List.map_nil, List.length_cons, List.length_nil, Nat.reduceAdd, Nat.reduceSub, Int.reduceToNat, List.reduceReplicate, List.nil_append, List.cons_append, List.append_nil, List.getElem?_cons_zero, List.getElem?_cons_succ, List.set_cons_zero, List.set_cons_succ, Nat.zero_add, Bool.not_true, Bool.not_false, decide_eq_true_eq, if_true, if_false, Bool.false_eq_true, Bool.true_and, Bool.and_true, ite_true, ite_false, reduceIte, eq_self, true_and, and_true, Bool.not_eq_true', decide_eq_false_iff_not])
  refine scIf fun κ h1 h2 => ?_
  (try simp only [sNil_e, sPass_e, sNever_e, fCst_e, fVar_e, fMov_e, fOV_e, rdSlot_e, fOP_e, as_val, as_lst, bo_e, sv_e, iv_e, ol_e, fO2_e, fBo_e, fNot_e, fAnd_e, fOr_e, fAndV_e, fOrV_e, fNotV_e, fIf_e, fONil_e, fOCons_e, fLNil_e, fLCons_e, fTup_e, fLst_e, fNeg_e, rdAll_nil, rdAll_cons, fCB_e, fIsI_e, fTName_e, fTsNil_e, fTsCons_e, fTTup_e, fMut_e, fYes_e, fComp_e, fISeq_e, fIRng1_e, fCall_e, fANil_e, fAV_e, inR_nil, inR_v, inR_s, dropE_nil, dropE_v, dropE_s, outE_nil, outE_v, outE_s, fPNo_e, fPInt_e, fSl_e, fM1_e, fTIx_e, cAdd_i, cAdd_s, cAdd_l, cAdd_t, cSub_i, cMul_i, cFdiv_i, cMod_i, cPow_i, cLt_i, cLe_i, cGt_i, cGe_i, cEq_e, cNe_e, cIs_e, cIsNot_e, cIx_l, cIx_t, cIx_s, cNeg_i, cLen_l, cLen_t, cLen_s, cList_l, cList_t, cTuple_l, cTuple_t, cAll_e, cAny_e, cAbs_i, cInt_b, cInt_i, cStrI_i, cIntS_s, cSplit_s, cJoin_e, cSl_l, cSl_t, cSl_s, mAppend_e, fnM_e, finK_nil, atI_zero, atI_one, ex_some, keepE, wipeE, restE, List.foldr_cons, List.foldr_nil, List.all_cons, List.all_nil, startE, idxs, List.map_cons, List.map_nil, List.length_cons, List.length_nil, Nat.reduceAdd, Nat.reduceSub, Int.reduceToNat, List.reduceReplicate, List.nil_append, List.cons_append, List.append_nil, List.getElem?_cons_zero, List.getElem?_cons_succ, List.set_cons_zero, List.set_cons_succ, Nat.zero_add, Bool.not_true, Bool.not_false, decide_eq_true_eq, if_true, if_false, Bool.false_eq_true, Bool.true_and, Bool.and_true, ite_true, ite_false, reduceIte, eq_self, true_and, and_true, Bool.not_eq_true', decide_eq_false_iff_not])
  refine ⟨rfl, ?_⟩
  rw [if_neg (fun e => by cases (show true = false from e))]
  refine law_text_ret _ _ hi hj _ _ ?_
  (try simp only [sNil_e, sPass_e, sNever_e, fCst_e, fVar_e, fMov_e, fOV_e, rdSlot_e, fOP_e, as_val, as_lst, bo_e, sv_e, iv_e, ol_e, fO2_e, fBo_e, fNot_e, fAnd_e, fOr_e, fAndV_e, fOrV_e, fNotV_e, fIf_e, fONil_e, fOCons_e, fLNil_e, fLCons_e, fTup_e, fLst_e, fNeg_e, rdAll_nil, rdAll_cons, fCB_e, fIsI_e, fTName_e, fTsNil_e, fTsCons_e, fTTup_e, fMut_e, fYes_e, fComp_e, fISeq_e, fIRng1_e, fCall_e, fANil_e, fAV_e, inR_nil, inR_v, inR_s, dropE_nil, dropE_v, dropE_s, outE_nil, outE_v, outE_s, fPNo_e, fPInt_e, fSl_e, fM1_e, fTIx_e, cAdd_i, cAdd_s, cAdd_l, cAdd_t, cSub_i, cMul_i, cFdiv_i, cMod_i, cPow_i, cLt_i, cLe_i, cGt_i, cGe_i, cEq_e, cNe_e, cIs_e, cIsNot_e, cIx_l, cIx_t, cIx_s, cNeg_i, cLen_l, cLen_t, cLen_s, cList_l, cList_t, cTuple_l, cTuple_t, cAll_e, cAny_e, cAbs_i, cInt_b, cInt_i, cStrI_i, cIntS_s, cSplit_s, cJoin_e, cSl_l, cSl_t, cSl_s, mAppend_e, fnM_e, finK_nil, atI_zero, atI_one, ex_some, keepE, wipeE, restE, List.foldr_cons, List.foldr_nil, List.all_cons, List.all_nil, startE, idxs, List.map_cons, List.map_nil, List.length_cons, List.length_nil, Nat.reduceAdd, Nat.reduceSub, Int.reduceToNat, List.reduceReplicate, List.nil_append, List.cons_append, List.append_nil, List.getElem?_cons_zero, List.getElem?_cons_succ, List.set_cons_zero, List.set_cons_succ, Nat.zero_add, Bool.not_true, Bool.not_false, decide_eq_true_eq, if_true, if_false, Bool.false_eq_true, Bool.true_and, Bool.and_true, ite_true, ite_false, reduceIte, eq_self, true_and, and_true, Bool.not_eq_true', decide_eq_false_iff_not])
  refine ⟨shs, shs, ?_⟩
  rw [eq_self_D _ rfl]
  refine h2 _ ?_
  (try simp only [sNil_e, sPass_e, sNever_e, fCst_e, fVar_e, fMov_e, fOV_e, rdSlot_e, fOP_e, as_val, as_lst, bo_e, sv_e, iv_e, ol_e, fO2_e, fBo_e, fNot_e, fAnd_e, fOr_e, fAndV_e, fOrV_e, fNotV_e, fIf_e, fONil_e, fOCons_e, fLNil_e, fLCons_e, fTup_e, fLst_e, fNeg_e, rdAll_nil, rdAll_cons, fCB_e, fIsI_e, fTName_e, fTsNil_e, fTsCons_e, fTTup_e, fMut_e, fYes_e, fComp_e, fISeq_e, fIRng1_e, fCall_e, fANil_e, fAV_e, inR_nil, inR_v, inR_s, dropE_nil, dropE_v, dropE_s, outE_nil, outE_v, outE_s, fPNo_e, fPInt_e, fSl_e, fM1_e, fTIx_e, cAdd_i, cAdd_s, cAdd_l, cAdd_t, cSub_i, cMul_i, cFdiv_i, cMod_i, cPow_i, cLt_i, cLe_i, cGt_i, cGe_i, cEq_e, cNe_e, cIs_e, cIsNot_e, cIx_l, cIx_t, cIx_s, cNeg_i, cLen_l, cLen_t, cLen_s, cList_l, cList_t, cTuple_l, cTuple_t, cAll_e, cAny_e, cAbs_i, cInt_b, cInt_i, cStrI_i, cIntS_s, cSplit_s, cJoin_e, cSl_l, cSl_t, cSl_s, mAppend_e, fnM_e, finK_nil, atI_zero, atI_one, ex_some, keepE, wipeE, restE, List.foldr_cons, List.foldr_nil, List.all_cons, List.all_nil, startE, idxs, List.map_cons, List.map_nil, List.length_cons, List.length_nil, Nat.reduceAdd, Nat.reduceSub, Int.reduceToNat, List.reduceReplicate, List.nil_append, List.cons_append, List.append_nil, List.getElem?_cons_zero, List.getElem?_cons_succ, List.set_cons_zero, List.set_cons_succ, Nat.zero_add, Bool.not_true, Bool.not_false, decide_eq_true_eq, if_true, if_false, Bool.false_eq_true, Bool.true_and, Bool.and_true, ite_true, ite_false, reduceIte, eq_self, true_and, and_true, Bool.not_eq_true', decide_eq_false_iff_not])
  refine scAsg fun κ hκ => ?_
  (try simp only [sNil_e, sPass_e, sNever_e, fCst_e, fVar_e, fMov_e, fOV_e, rdSlot_e, fOP_e, as_val, as_lst, bo_e, sv_e, iv_e, ol_e, fO2_e, fBo_e, fNot_e, fAnd_e, fOr_e, fAndV_e, fOrV_e, fNotV_e, fIf_e, fONil_e, fOCons_e, fLNil_e, fLCons_e, fTup_e, fLst_e, fNeg_e, rdAll_nil, rdAll_cons, fCB_e, fIsI_e, fTName_e, fTsNil_e, fTsCons_e, fTTup_e, fMut_e, fYes_e, fComp_e, fISeq_e, fIRng1_e, fCall_e, fANil_e, fAV_e, inR_nil, inR_v, inR_s, dropE_nil, dropE_v, dropE_s, outE_nil, outE_v, outE_s, fPNo_e, fPInt_e, fSl_e, fM1_e, fTIx_e, cAdd_i, cAdd_s, cAdd_l, cAdd_t, cSub_i, cMul_i, cFdiv_i, cMod_i, cPow_i, cLt_i, cLe_i, cGt_i, cGe_i, cEq_e, cNe_e, cIs_e, cIsNot_e, cIx_l, cIx_t, cIx_s, cNeg_i, cLen_l, cLen_t, cLen_s, cList_l, cList_t, cTuple_l, cTuple_t, cAll_e, cAny_e, cAbs_i, cInt_b, cInt_i, cStrI_i, cIntS_s, cSplit_s, cJoin_e, cSl_l, cSl_t, cSl_s, mAppend_e, fnM_e, finK_nil, atI_zero, atI_one, ex_some, keepE, wipeE, restE, List.foldr_cons, List.foldr_nil, List.all_cons, List.all_nil, startE, idxs, List.map_cons, List.map_nil, List.length_cons, List.length_nil, Nat.reduceAdd, Nat.reduceSub, Int.reduceToNat, List.reduceReplicate, List.nil_append, List.cons_append, List.append_nil, List.getElem?_cons_zero, List.getElem?_cons_succ, List.set_cons_zero, List.set_cons_succ, Nat.zero_add, Bool.not_true, Bool.not_false, decide_eq_true_eq, if_true, if_false, Bool.false_eq_true, Bool.true_and, Bool.and_true, ite_true, ite_false, reduceIte, eq_self, true_and, and_true, Bool.not_eq_true', decide_eq_false_iff_not])
  refine read_ratio_ret _ _ hi hj h0 hg _ _ (hκ _ _ ?_)
  (try simp only [sNil_e, sPass_e, sNever_e, fCst_e, fVar_e, fMov_e, fOV_e, rdSlot_e, fOP_e, as_val, as_lst, bo_e, sv_e, iv_e, ol_e, fO2_e, fBo_e, fNot_e, fAnd_e, fOr_e, fAndV_e, fOrV_e, fNotV_e, fIf_e, fONil_e, fOCons_e, fLNil_e, fLCons_e, fTup_e, fLst_e, fNeg_e, rdAll_nil, rdAll_cons, fCB_e, fIsI_e, fTName_e, fTsNil_e, fTsCons_e, fTTup_e, fMut_e, fYes_e, fComp_e, fISeq_e, fIRng1_e, fCall_e, fANil_e, fAV_e, inR_nil, inR_v, inR_s, dropE_nil, dropE_v, dropE_s, outE_nil, outE_v, outE_s, fPNo_e, fPInt_e, fSl_e, fM1_e, fTIx_e, cAdd_i, cAdd_s, cAdd_l, cAdd_t, cSub_i, cMul_i, cFdiv_i, cMod_i, cPow_i, cLt_i, cLe_i, cGt_i, cGe_i, cEq_e, cNe_e, cIs_e, cIsNot_e, cIx_l, cIx_t, cIx_s, cNeg_i, cLen_l, cLen_t, cLen_s, cList_l, cList_t, cTuple_l, cTuple_t, cAll_e, cAny_e, cAbs_i, cInt_b, cInt_i, cStrI_i, cIntS_s, cSplit_s, cJoin_e, cSl_l, cSl_t, cSl_s, mAppend_e, fnM_e, finK_nil, atI_zero, atI_one, ex_some, keepE, wipeE, restE, List.foldr_cons, List.foldr_nil, List.all_cons, List.all_nil, startE, idxs, List.map_cons, List.map_nil, List.length_cons, List.length_nil, Nat.reduceAdd, Nat.reduceSub, Int.reduceToNat, List.reduceReplicate, List.nil_append, List.cons_append, List.append_nil, List.getElem?_cons_zero, List.getElem?_cons_succ, List.set_cons_zero, List.set_cons_succ, Nat.zero_add, Bool.not_true, Bool.not_false, decide_eq_true_eq, if_true, if_false, Bool.false_eq_true, Bool.true_and, Bool.and_true, ite_true, ite_false, reduceIte, eq_self, true_and, and_true, Bool.not_eq_true', decide_eq_false_iff_not])
  refine scIf fun κ h1 h2 => ?_
  (try simp only [sNil_e, sPass_e, sNever_e, fCst_e, fVar_e, fMov_e, fOV_e, rdSlot_e, fOP_e, as_val, as_lst, bo_e, sv_e, iv_e, ol_e, fO2_e, fBo_e, fNot_e, fAnd_e, fOr_e, fAndV_e, fOrV_e, fNotV_e, fIf_e, fONil_e, fOCons_e, fLNil_e, fLCons_e, fTup_e, fLst_e, fNeg_e, rdAll_nil, rdAll_cons, fCB_e, fIsI_e, fTName_e, fTsNil_e, fTsCons_e, fTTup_e, fMut_e, fYes_e, fComp_e, fISeq_e, fIRng1_e, fCall_e, fANil_e, fAV_e, inR_nil, inR_v, inR_s, dropE_nil, dropE_v, dropE_s, outE_nil, outE_v, outE_s, fPNo_e, fPInt_e, fSl_e, fM1_e, fTIx_e, cAdd_i, cAdd_s, cAdd_l, cAdd_t, cSub_i, cMul_i, cFdiv_i, cMod_i, cPow_i, cLt_i, cLe_i, cGt_i, cGe_i, cEq_e, cNe_e, cIs_e, cIsNot_e, cIx_l, cIx_t, cIx_s, cNeg_i, cLen_l, cLen_t, cLen_s, cList_l, cList_t, cTuple_l, cTuple_t, cAll_e, cAny_e, cAbs_i, cInt_b, cInt_i, cStrI_i, cIntS_s, cSplit_s, cJoin_e, cSl_l, cSl_t, cSl_s, mAppend_e, fnM_e, finK_nil, atI_zero, atI_one, ex_some, keepE, wipeE, restE, List.foldr_cons, List.foldr_nil, List.all_cons, List.all_nil, startE, idxs, List.map_cons, List.map_nil, List.length_cons, List.length_nil, Nat.reduceAdd, Nat.reduceSub, Int.reduceToNat, List.reduceReplicate, List.nil_append, List.cons_append, List.append_nil, List.getElem?_cons_zero, List.getElem?_cons_succ, List.set_cons_zero, List.set_cons_succ, Nat.zero_add, Bool.not_true, Bool.not_false, decide_eq_true_eq, if_true, if_false, Bool.false_eq_true, Bool.true_and, Bool.and_true, ite_true, ite_false, reduceIte, eq_self, true_and, and_true, Bool.not_eq_true', decide_eq_false_iff_not])
  refine ⟨rfl, ?_⟩
  rw [if_neg (fun e => by cases (show true = false from e))]
  have shp := (sh_rD (i, j)).shaped
  refine ⟨shp, shp, ?_⟩
  rw [eq_self_D _ rfl]
  (try simp only [sNil_e, sPass_e, sNever_e, fCst_e, fVar_e, fMov_e, fOV_e, rdSlot_e, fOP_e, as_val, as_lst, bo_e, sv_e, iv_e, ol_e, fO2_e, fBo_e, fNot_e, fAnd_e, fOr_e, fAndV_e, fOrV_e, fNotV_e, fIf_e, fONil_e, fOCons_e, fLNil_e, fLCons_e, fTup_e, fLst_e, fNeg_e, rdAll_nil, rdAll_cons, fCB_e, fIsI_e, fTName_e, fTsNil_e, fTsCons_e, fTTup_e, fMut_e, fYes_e, fComp_e, fISeq_e, fIRng1_e, fCall_e, fANil_e, fAV_e, inR_nil, inR_v, inR_s, dropE_nil, dropE_v, dropE_s, outE_nil, outE_v, outE_s, fPNo_e, fPInt_e, fSl_e, fM1_e, fTIx_e, cAdd_i, cAdd_s, cAdd_l, cAdd_t, cSub_i, cMul_i, cFdiv_i, cMod_i, cPow_i, cLt_i, cLe_i, cGt_i, cGe_i, cEq_e, cNe_e, cIs_e, cIsNot_e, cIx_l, cIx_t, cIx_s, cNeg_i, cLen_l, cLen_t, cLen_s, cList_l, cList_t, cTuple_l, cTuple_t, cAll_e, cAny_e, cAbs_i, cInt_b, cInt_i, cStrI_i, cIntS_s, cSplit_s, cJoin_e, cSl_l, cSl_t, cSl_s, mAppend_e, fnM_e, finK_nil, atI_zero, atI_one, ex_some, keepE, wipeE, restE, List.foldr_cons, List.foldr_nil, List.all_cons, List.all_nil, startE, idxs, List.map_cons, List.map_nil, List.length_cons, List.length_nil, Nat.reduceAdd, Nat.reduceSub, Int.reduceToNat, List.reduceReplicate, List.nil_append, List.cons_append, List.append_nil, List.getElem?_cons_zero, List.getElem?_cons_succ, List.set_cons_zero, List.set_cons_succ, Nat.zero_add, Bool.not_true, Bool.not_false, decide_eq_true_eq, if_true, if_false, Bool.false_eq_true, Bool.true_and, Bool.and_true, ite_true, ite_false, reduceIte, eq_self, true_and, and_true, Bool.not_eq_true', decide_eq_false_iff_not])
  refine read_ratio_ret _ _ hi hj h0 hg _ _ ?_
  refine ⟨shp, shp, ?_⟩
  rw [eq_self_D _ rfl]
  refine h2 _ ?_
  (try simp only [sNil_e, sPass_e, sNever_e, fCst_e, fVar_e, fMov_e, fOV_e, rdSlot_e, fOP_e, as_val, as_lst, bo_e, sv_e, iv_e, ol_e, fO2_e, fBo_e, fNot_e, fAnd_e, fOr_e, fAndV_e, fOrV_e, fNotV_e, fIf_e, fONil_e, fOCons_e, fLNil_e, fLCons_e, fTup_e, fLst_e, fNeg_e, rdAll_nil, rdAll_cons, fCB_e, fIsI_e, fTName_e, fTsNil_e, fTsCons_e, fTTup_e, fMut_e, fYes_e, fComp_e, fISeq_e, fIRng1_e, fCall_e, fANil_e, fAV_e, inR_nil, inR_v, inR_s, dropE_nil, dropE_v, dropE_s, outE_nil, outE_v, outE_s, fPNo_e, fPInt_e, fSl_e, fM1_e, fTIx_e, cAdd_i, cAdd_s, cAdd_l, cAdd_t, cSub_i, cMul_i, cFdiv_i, cMod_i, cPow_i, cLt_i, cLe_i, cGt_i, cGe_i, cEq_e, cNe_e, cIs_e, cIsNot_e, cIx_l, cIx_t, cIx_s, cNeg_i, cLen_l, cLen_t, cLen_s, cList_l, cList_t, cTuple_l, cTuple_t, cAll_e, cAny_e, cAbs_i, cInt_b, cInt_i, cStrI_i, cIntS_s, cSplit_s, cJoin_e, cSl_l, cSl_t, cSl_s, mAppend_e, fnM_e, finK_nil, atI_zero, atI_one, ex_some, keepE, wipeE, restE, List.foldr_cons, List.foldr_nil, List.all_cons, List.all_nil, startE, idxs, List.map_cons, List.map_nil, List.length_cons, List.length_nil, Nat.reduceAdd, Nat.reduceSub, Int.reduceToNat, List.reduceReplicate, List.nil_append, List.cons_append, List.append_nil, List.getElem?_cons_zero, List.getElem?_cons_succ, List.set_cons_zero, List.set_cons_succ, Nat.zero_add, Bool.not_true, Bool.not_false, decide_eq_true_eq, if_true, if_false, Bool.false_eq_true, Bool.true_and, Bool.and_true, ite_true, ite_false, reduceIte, eq_self, true_and, and_true, Bool.not_eq_true', decide_eq_false_iff_not])
  refine scAsg fun κ hκ => ?_
  (try simp only [sNil_e, sPass_e, sNever_e, fCst_e, fVar_e, fMov_e, fOV_e, rdSlot_e, fOP_e, as_val, as_lst, bo_e, sv_e, iv_e, ol_e, fO2_e, fBo_e, fNot_e, fAnd_e, fOr_e, fAndV_e, fOrV_e, fNotV_e, fIf_e, fONil_e, fOCons_e, fLNil_e, fLCons_e, fTup_e, fLst_e, fNeg_e, rdAll_nil, rdAll_cons, fCB_e, fIsI_e, fTName_e, fTsNil_e, fTsCons_e, fTTup_e, fMut_e, fYes_e, fComp_e, fISeq_e, fIRng1_e, fCall_e, fANil_e, fAV_e, inR_nil, inR_v, inR_s, dropE_nil, dropE_v, dropE_s, outE_nil, outE_v, outE_s, fPNo_e, fPInt_e, fSl_e, fM1_e, fTIx_e, cAdd_i, cAdd_s, cAdd_l, cAdd_t, cSub_i, cMul_i, cFdiv_i, cMod_i, cPow_i, cLt_i, cLe_i, cGt_i, cGe_i, cEq_e, cNe_e, cIs_e, cIsNot_e, cIx_l, cIx_t, cIx_s, cNeg_i, cLen_l, cLen_t, cLen_s, cList_l, cList_t, cTuple_l, cTuple_t, cAll_e, cAny_e, cAbs_i, cInt_b, cInt_i, cStrI_i, cIntS_s, cSplit_s, cJoin_e, cSl_l, cSl_t, cSl_s, mAppend_e, fnM_e, finK_nil, atI_zero, atI_one, ex_some, keepE, wipeE, restE, List.foldr_cons, List.foldr_nil, List.all_cons, List.all_nil, startE, idxs, List.map_cons, List.map_nil, List.length_cons, List.length_nil, Nat.reduceAdd, Nat.reduceSub, Int.reduceToNat, List.reduceReplicate, List.nil_append, List.cons_append, List.append_nil, List.getElem?_cons_zero, List.getElem?_cons_succ, List.set_cons_zero, List.set_cons_succ, Nat.zero_add, Bool.not_true, Bool.not_false, decide_eq_true_eq, if_true, if_false, Bool.false_eq_true, Bool.true_and, Bool.and_true, ite_true, ite_false, reduceIte, eq_self, true_and, and_true, Bool.not_eq_true', decide_eq_false_iff_not])
  refine row_rets _ _ _ fun ps hps hl => hκ _ _ ?_
  (try simp only [sNil_e, sPass_e, sNever_e, fCst_e, fVar_e, fMov_e, fOV_e, rdSlot_e, fOP_e, as_val, as_lst, bo_e, sv_e, iv_e, ol_e, fO2_e, fBo_e, fNot_e, fAnd_e, fOr_e, fAndV_e, fOrV_e, fNotV_e, fIf_e, fONil_e, fOCons_e, fLNil_e, fLCons_e, fTup_e, fLst_e, fNeg_e, rdAll_nil, rdAll_cons, fCB_e, fIsI_e, fTName_e, fTsNil_e, fTsCons_e, fTTup_e, fMut_e, fYes_e, fComp_e, fISeq_e, fIRng1_e, fCall_e, fANil_e, fAV_e, inR_nil, inR_v, inR_s, dropE_nil, dropE_v, dropE_s, outE_nil, outE_v, outE_s, fPNo_e, fPInt_e, fSl_e, fM1_e, fTIx_e, cAdd_i, cAdd_s, cAdd_l, cAdd_t, cSub_i, cMul_i, cFdiv_i, cMod_i, cPow_i, cLt_i, cLe_i, cGt_i, cGe_i, cEq_e, cNe_e, cIs_e, cIsNot_e, cIx_l, cIx_t, cIx_s, cNeg_i, cLen_l, cLen_t, cLen_s, cList_l, cList_t, cTuple_l, cTuple_t, cAll_e, cAny_e, cAbs_i, cInt_b, cInt_i, cStrI_i, cIntS_s, cSplit_s, cJoin_e, cSl_l, cSl_t, cSl_s, mAppend_e, fnM_e, finK_nil, atI_zero, atI_one, ex_some, keepE, wipeE, restE, List.foldr_cons, List.foldr_nil, List.all_cons, List.all_nil, startE, idxs, List.map_cons, List.map_nil, List.length_cons, List.length_nil, Nat.reduceAdd, Nat.reduceSub, Int.reduceToNat, List.reduceReplicate, List.nil_append, List.cons_append, List.append_nil, List.getElem?_cons_zero, List.getElem?_cons_succ, List.set_cons_zero, List.set_cons_succ, Nat.zero_add, Bool.not_true, Bool.not_false, decide_eq_true_eq, if_true, if_false, Bool.false_eq_true, Bool.true_and, Bool.and_true, ite_true, ite_false, reduceIte, eq_self, true_and, and_true, Bool.not_eq_true', decide_eq_false_iff_not])
  have sz : (200 : Nat) ≤ sizeLine := by decide
  have shl := (sh_rows (ps := ps)).shaped
  have sht := (sh_rowsT (ps := ps)).shaped
  have nbl : nb (.list (ps.map rD)) = true := by rw [nb]; exact nb_rows ps
  have nbt : nb (.tuple (ps.map rD)) = true := by rw [nb]; exact nb_rows ps
  have shln : SeqAt.shaped (.str (mkS (lineT ps))) = true := Sh.shaped (n := 0) (.str (digs_ok fun c hc => lineT_small hc))
  refine scAsg fun κ hκ => ?_
  (try simp only [sNil_e, sPass_e, sNever_e, fCst_e, fVar_e, fMov_e, fOV_e, rdSlot_e, fOP_e, as_val, as_lst, bo_e, sv_e, iv_e, ol_e, fO2_e, fBo_e, fNot_e, fAnd_e, fOr_e, fAndV_e, fOrV_e, fNotV_e, fIf_e, fONil_e, fOCons_e, fLNil_e, fLCons_e, fTup_e, fLst_e, fNeg_e, rdAll_nil, rdAll_cons, fCB_e, fIsI_e, fTName_e, fTsNil_e, fTsCons_e, fTTup_e, fMut_e, fYes_e, fComp_e, fISeq_e, fIRng1_e, fCall_e, fANil_e, fAV_e, inR_nil, inR_v, inR_s, dropE_nil, dropE_v, dropE_s, outE_nil, outE_v, outE_s, fPNo_e, fPInt_e, fSl_e, fM1_e, fTIx_e, cAdd_i, cAdd_s, cAdd_l, cAdd_t, cSub_i, cMul_i, cFdiv_i, cMod_i, cPow_i, cLt_i, cLe_i, cGt_i, cGe_i, cEq_e, cNe_e, cIs_e, cIsNot_e, cIx_l, cIx_t, cIx_s, cNeg_i, cLen_l, cLen_t, cLen_s, cList_l, cList_t, cTuple_l, cTuple_t, cAll_e, cAny_e, cAbs_i, cInt_b, cInt_i, cStrI_i, cIntS_s, cSplit_s, cJoin_e, cSl_l, cSl_t, cSl_s, mAppend_e, fnM_e, finK_nil, atI_zero, atI_one, ex_some, keepE, wipeE, restE, List.foldr_cons, List.foldr_nil, List.all_cons, List.all_nil, startE, idxs, List.map_cons, List.map_nil, List.length_cons, List.length_nil, Nat.reduceAdd, Nat.reduceSub, Int.reduceToNat, List.reduceReplicate, List.nil_append, List.cons_append, List.append_nil, List.getElem?_cons_zero, List.getElem?_cons_succ, List.set_cons_zero, List.set_cons_succ, Nat.zero_add, Bool.not_true, Bool.not_false, decide_eq_true_eq, if_true, if_false, Bool.false_eq_true, Bool.true_and, Bool.and_true, ite_true, ite_false, reduceIte, eq_self, true_and, and_true, Bool.not_eq_true', decide_eq_false_iff_not])
  refine ⟨by rw [List.length_map]; omega, ?_⟩
  refine compGo_map (f := txD) rfl _ _ (fun d hd k hk => ?_) ?_
  · obtain ⟨p, hp, rfl⟩ := List.mem_map.mp hd
    (try simp only [sNil_e, sPass_e, sNever_e, fCst_e, fVar_e, fMov_e, fOV_e, rdSlot_e, fOP_e, as_val, as_lst, bo_e, sv_e, iv_e, ol_e, fO2_e, fBo_e, fNot_e, fAnd_e, fOr_e, fAndV_e, fOrV_e, fNotV_e, fIf_e, fONil_e, fOCons_e, fLNil_e, fLCons_e, fTup_e, fLst_e, fNeg_e, rdAll_nil, rdAll_cons, fCB_e, fIsI_e, fTName_e, fTsNil_e, fTsCons_e, fTTup_e, fMut_e, fYes_e, fComp_e, fISeq_e, fIRng1_e, fCall_e, fANil_e, fAV_e, inR_nil, inR_v, inR_s, dropE_nil, dropE_v, dropE_s, outE_nil, outE_v, outE_s, fPNo_e, fPInt_e, fSl_e, fM1_e, fTIx_e, cAdd_i, cAdd_s, cAdd_l, cAdd_t, cSub_i, cMul_i, cFdiv_i, cMod_i, cPow_i, cLt_i, cLe_i, cGt_i, cGe_i, cEq_e, cNe_e, cIs_e, cIsNot_e, cIx_l, cIx_t, cIx_s, cNeg_i, cLen_l, cLen_t, cLen_s, cList_l, cList_t, cTuple_l, cTuple_t, cAll_e, cAny_e, cAbs_i, cInt_b, cInt_i, cStrI_i, cIntS_s, cSplit_s, cJoin_e, cSl_l, cSl_t, cSl_s, mAppend_e, fnM_e, finK_nil, atI_zero, atI_one, ex_some, keepE, wipeE, restE, List.foldr_cons, List.foldr_nil, List.all_cons, List.all_nil, startE, idxs, List.map_cons, List.map_nil, List.length_cons, List.length_nil, Nat.reduceAdd, Nat.reduceSub, Int.reduceToNat, List.reduceReplicate, List.nil_append, List.cons_append, List.append_nil, List.getElem?_cons_zero, List.getElem?_cons_succ, List.set_cons_zero, List.set_cons_succ, Nat.zero_add, Bool.not_true, Bool.not_false, decide_eq_true_eq, if_true, if_false, Bool.false_eq_true, Bool.true_and, Bool.and_true, ite_true, ite_false, reduceIte, eq_self, true_and, and_true, Bool.not_eq_true', decide_eq_false_iff_not])
    exact law_text_ret _ _ (hps p hp).n (hps p hp).d _ _ hk
  (try simp only [sNil_e, sPass_e, sNever_e, fCst_e, fVar_e, fMov_e, fOV_e, rdSlot_e, fOP_e, as_val, as_lst, bo_e, sv_e, iv_e, ol_e, fO2_e, fBo_e, fNot_e, fAnd_e, fOr_e, fAndV_e, fOrV_e, fNotV_e, fIf_e, fONil_e, fOCons_e, fLNil_e, fLCons_e, fTup_e, fLst_e, fNeg_e, rdAll_nil, rdAll_cons, fCB_e, fIsI_e, fTName_e, fTsNil_e, fTsCons_e, fTTup_e, fMut_e, fYes_e, fComp_e, fISeq_e, fIRng1_e, fCall_e, fANil_e, fAV_e, inR_nil, inR_v, inR_s, dropE_nil, dropE_v, dropE_s, outE_nil, outE_v, outE_s, fPNo_e, fPInt_e, fSl_e, fM1_e, fTIx_e, cAdd_i, cAdd_s, cAdd_l, cAdd_t, cSub_i, cMul_i, cFdiv_i, cMod_i, cPow_i, cLt_i, cLe_i, cGt_i, cGe_i, cEq_e, cNe_e, cIs_e, cIsNot_e, cIx_l, cIx_t, cIx_s, cNeg_i, cLen_l, cLen_t, cLen_s, cList_l, cList_t, cTuple_l, cTuple_t, cAll_e, cAny_e, cAbs_i, cInt_b, cInt_i, cStrI_i, cIntS_s, cSplit_s, cJoin_e, cSl_l, cSl_t, cSl_s, mAppend_e, fnM_e, finK_nil, atI_zero, atI_one, ex_some, keepE, wipeE, restE, List.foldr_cons, List.foldr_nil, List.all_cons, List.all_nil, startE, idxs, List.map_cons, List.map_nil, List.length_cons, List.length_nil, Nat.reduceAdd, Nat.reduceSub, Int.reduceToNat, List.reduceReplicate, List.nil_append, List.cons_append, List.append_nil, List.getElem?_cons_zero, List.getElem?_cons_succ, List.set_cons_zero, List.set_cons_succ, Nat.zero_add, Bool.not_true, Bool.not_false, decide_eq_true_eq, if_true, if_false, Bool.false_eq_true, Bool.true_and, Bool.and_true, ite_true, ite_false, reduceIte, eq_self, true_and, and_true, Bool.not_eq_true', decide_eq_false_iff_not])
  have el : (ps.map rD).map txD = (ps.map fun p => mkS (rT p)).map PyData.str := by
    rw [List.map_map, List.map_map]
    rfl
  refine ⟨ps.map fun p => mkS (rT p), .inl (congrArg PyData.list el), ?_, hκ _ _ ?_⟩
  · have h4 : (Str.ofString " ").length = 1 := rfl
    rw [h4, List.length_map]
    have := sum_len ps hps
    omega
  (try simp only [sNil_e, sPass_e, sNever_e, fCst_e, fVar_e, fMov_e, fOV_e, rdSlot_e, fOP_e, as_val, as_lst, bo_e, sv_e, iv_e, ol_e, fO2_e, fBo_e, fNot_e, fAnd_e, fOr_e, fAndV_e, fOrV_e, fNotV_e, fIf_e, fONil_e, fOCons_e, fLNil_e, fLCons_e, fTup_e, fLst_e, fNeg_e, rdAll_nil, rdAll_cons, fCB_e, fIsI_e, fTName_e, fTsNil_e, fTsCons_e, fTTup_e, fMut_e, fYes_e, fComp_e, fISeq_e, fIRng1_e, fCall_e, fANil_e, fAV_e, inR_nil, inR_v, inR_s, dropE_nil, dropE_v, dropE_s, outE_nil, outE_v, outE_s, fPNo_e, fPInt_e, fSl_e, fM1_e, fTIx_e, cAdd_i, cAdd_s, cAdd_l, cAdd_t, cSub_i, cMul_i, cFdiv_i, cMod_i, cPow_i, cLt_i, cLe_i, cGt_i, cGe_i, cEq_e, cNe_e, cIs_e, cIsNot_e, cIx_l, cIx_t, cIx_s, cNeg_i, cLen_l, cLen_t, cLen_s, cList_l, cList_t, cTuple_l, cTuple_t, cAll_e, cAny_e, cAbs_i, cInt_b, cInt_i, cStrI_i, cIntS_s, cSplit_s, cJoin_e, cSl_l, cSl_t, cSl_s, mAppend_e, fnM_e, finK_nil, atI_zero, atI_one, ex_some, keepE, wipeE, restE, List.foldr_cons, List.foldr_nil, List.all_cons, List.all_nil, startE, idxs, List.map_cons, List.map_nil, List.length_cons, List.length_nil, Nat.reduceAdd, Nat.reduceSub, Int.reduceToNat, List.reduceReplicate, List.nil_append, List.cons_append, List.append_nil, List.getElem?_cons_zero, List.getElem?_cons_succ, List.set_cons_zero, List.set_cons_succ, Nat.zero_add, Bool.not_true, Bool.not_false, decide_eq_true_eq, if_true, if_false, Bool.false_eq_true, Bool.true_and, Bool.and_true, ite_true, ite_false, reduceIte, eq_self, true_and, and_true, Bool.not_eq_true', decide_eq_false_iff_not])
  have ej : Txt.join (Str.ofString " ") (ps.map fun p => mkS (rT p)) = mkS (joinL 32 (ps.map rT)) := by
    rw [show Str.ofString " " = ⟨#[32]⟩ from rfl, show (fun p => mkS (rT p)) = mkS ∘ rT from rfl, ← List.map_map, Cr.join_one]
  rw [ej]
  have fin : ∀ (x1 x3 x4 x8 x9 x2 x7 : Option R), lawRest dn [s, x1, x2, x3, x4, some (.val (.list (ps.map rD))), some (.val (.str (mkS (lineT ps)))), x7, x8, x9] := by
    intro x1 x3 x4 x8 x9 x2 x7
    unfold lawRest
    refine scAsg fun κ hκ => ?_
    (try simp only [sNil_e, sPass_e, sNever_e, fCst_e, fVar_e, fMov_e, fOV_e, rdSlot_e, fOP_e, as_val, as_lst, bo_e, sv_e, iv_e, ol_e, fO2_e, fBo_e, fNot_e, fAnd_e, fOr_e, fAndV_e, fOrV_e, fNotV_e, fIf_e, fONil_e, fOCons_e, fLNil_e, fLCons_e, fTup_e, fLst_e, fNeg_e, rdAll_nil, rdAll_cons, fCB_e, fIsI_e, fTName_e, fTsNil_e, fTsCons_e, fTTup_e, fMut_e, fYes_e, fComp_e, fISeq_e, fIRng1_e, fCall_e, fANil_e, fAV_e, inR_nil, inR_v, inR_s, dropE_nil, dropE_v, dropE_s, outE_nil, outE_v, outE_s, fPNo_e, fPInt_e, fSl_e, fM1_e, fTIx_e, cAdd_i, cAdd_s, cAdd_l, cAdd_t, cSub_i, cMul_i, cFdiv_i, cMod_i, cPow_i, cLt_i, cLe_i, cGt_i, cGe_i, cEq_e, cNe_e, cIs_e, cIsNot_e, cIx_l, cIx_t, cIx_s, cNeg_i, cLen_l, cLen_t, cLen_s, cList_l, cList_t, cTuple_l, cTuple_t, cAll_e, cAny_e, cAbs_i, cInt_b, cInt_i, cStrI_i, cIntS_s, cSplit_s, cJoin_e, cSl_l, cSl_t, cSl_s, mAppend_e, fnM_e, finK_nil, atI_zero, atI_one, ex_some, keepE, wipeE, restE, List.foldr_cons, List.foldr_nil, List.all_cons, List.all_nil, startE, idxs, List.map_cons, List.map_nil, List.length_cons, List.length_nil, Nat.reduceAdd, Nat.reduceSub, Int.reduceToNat, List.reduceReplicate, List.nil_append, List.cons_append, List.append_nil, List.getElem?_cons_zero, List.getElem?_cons_succ, List.set_cons_zero, List.set_cons_succ, Nat.zero_add, Bool.not_true, Bool.not_false, decide_eq_true_eq, if_true, if_false, Bool.false_eq_true, Bool.true_and, Bool.and_true, ite_true, ite_false, reduceIte, eq_self, true_and, and_true, Bool.not_eq_true', decide_eq_false_iff_not])
    refine hκ _ _ ?_
    (try simp only [sNil_e, sPass_e, sNever_e, fCst_e, fVar_e, fMov_e, fOV_e, rdSlot_e, fOP_e, as_val, as_lst, bo_e, sv_e, iv_e, ol_e, fO2_e, fBo_e, fNot_e, fAnd_e, fOr_e, fAndV_e, fOrV_e, fNotV_e, fIf_e, fONil_e, fOCons_e, fLNil_e, fLCons_e, fTup_e, fLst_e, fNeg_e, rdAll_nil, rdAll_cons, fCB_e, fIsI_e, fTName_e, fTsNil_e, fTsCons_e, fTTup_e, fMut_e, fYes_e, fComp_e, fISeq_e, fIRng1_e, fCall_e, fANil_e, fAV_e, inR_nil, inR_v, inR_s, dropE_nil, dropE_v, dropE_s, outE_nil, outE_v, outE_s, fPNo_e, fPInt_e, fSl_e, fM1_e, fTIx_e, cAdd_i, cAdd_s, cAdd_l, cAdd_t, cSub_i, cMul_i, cFdiv_i, cMod_i, cPow_i, cLt_i, cLe_i, cGt_i, cGe_i, cEq_e, cNe_e, cIs_e, cIsNot_e, cIx_l, cIx_t, cIx_s, cNeg_i, cLen_l, cLen_t, cLen_s, cList_l, cList_t, cTuple_l, cTuple_t, cAll_e, cAny_e, cAbs_i, cInt_b, cInt_i, cStrI_i, cIntS_s, cSplit_s, cJoin_e, cSl_l, cSl_t, cSl_s, mAppend_e, fnM_e, finK_nil, atI_zero, atI_one, ex_some, keepE, wipeE, restE, List.foldr_cons, List.foldr_nil, List.all_cons, List.all_nil, startE, idxs, List.map_cons, List.map_nil, List.length_cons, List.length_nil, Nat.reduceAdd, Nat.reduceSub, Int.reduceToNat, List.reduceReplicate, List.nil_append, List.cons_append, List.append_nil, List.getElem?_cons_zero, List.getElem?_cons_succ, List.set_cons_zero, List.set_cons_succ, Nat.zero_add, Bool.not_true, Bool.not_false, decide_eq_true_eq, if_true, if_false, Bool.false_eq_true, Bool.true_and, Bool.and_true, ite_true, ite_false, reduceIte, eq_self, true_and, and_true, Bool.not_eq_true', decide_eq_false_iff_not])
    refine scIf fun κ h1 h2 => ?_
    (try simp only [sNil_e, sPass_e, sNever_e, fCst_e, fVar_e, fMov_e, fOV_e, rdSlot_e, fOP_e, as_val, as_lst, bo_e, sv_e, iv_e, ol_e, fO2_e, fBo_e, fNot_e, fAnd_e, fOr_e, fAndV_e, fOrV_e, fNotV_e, fIf_e, fONil_e, fOCons_e, fLNil_e, fLCons_e, fTup_e, fLst_e, fNeg_e, rdAll_nil, rdAll_cons, fCB_e, fIsI_e, fTName_e, fTsNil_e, fTsCons_e, fTTup_e, fMut_e, fYes_e, fComp_e, fISeq_e, fIRng1_e, fCall_e, fANil_e, fAV_e, inR_nil, inR_v, inR_s, dropE_nil, dropE_v, dropE_s, outE_nil, outE_v, outE_s, fPNo_e, fPInt_e, fSl_e, fM1_e, fTIx_e, cAdd_i, cAdd_s, cAdd_l, cAdd_t, cSub_i, cMul_i, cFdiv_i, cMod_i, cPow_i, cLt_i, cLe_i, cGt_i, cGe_i, cEq_e, cNe_e, cIs_e, cIsNot_e, cIx_l, cIx_t, cIx_s, cNeg_i, cLen_l, cLen_t, cLen_s, cList_l, cList_t, cTuple_l, cTuple_t, cAll_e, cAny_e, cAbs_i, cInt_b, cInt_i, cStrI_i, cIntS_s, cSplit_s, cJoin_e, cSl_l, cSl_t, cSl_s, mAppend_e, fnM_e, finK_nil, atI_zero, atI_one, ex_some, keepE, wipeE, restE, List.foldr_cons, List.foldr_nil, List.all_cons, List.all_nil, startE, idxs, List.map_cons, List.map_nil, List.length_cons, List.length_nil, Nat.reduceAdd, Nat.reduceSub, Int.reduceToNat, List.reduceReplicate, List.nil_append, List.cons_append, List.append_nil, List.getElem?_cons_zero, List.getElem?_cons_succ, List.set_cons_zero, List.set_cons_succ, Nat.zero_add, Bool.not_true, Bool.not_false, decide_eq_true_eq, if_true, if_false, Bool.false_eq_true, Bool.true_and, Bool.and_true, ite_true, ite_false, reduceIte, eq_self, true_and, and_true, Bool.not_eq_true', decide_eq_false_iff_not])
    refine ratios_text_ret _ ps (.inl rfl) hps hl _ _ ?_
    (try simp only [sNil_e, sPass_e, sNever_e, fCst_e, fVar_e, fMov_e, fOV_e, rdSlot_e, fOP_e, as_val, as_lst, bo_e, sv_e, iv_e, ol_e, fO2_e, fBo_e, fNot_e, fAnd_e, fOr_e, fAndV_e, fOrV_e, fNotV_e, fIf_e, fONil_e, fOCons_e, fLNil_e, fLCons_e, fTup_e, fLst_e, fNeg_e, rdAll_nil, rdAll_cons, fCB_e, fIsI_e, fTName_e, fTsNil_e, fTsCons_e, fTTup_e, fMut_e, fYes_e, fComp_e, fISeq_e, fIRng1_e, fCall_e, fANil_e, fAV_e, inR_nil, inR_v, inR_s, dropE_nil, dropE_v, dropE_s, outE_nil, outE_v, outE_s, fPNo_e, fPInt_e, fSl_e, fM1_e, fTIx_e, cAdd_i, cAdd_s, cAdd_l, cAdd_t, cSub_i, cMul_i, cFdiv_i, cMod_i, cPow_i, cLt_i, cLe_i, cGt_i, cGe_i, cEq_e, cNe_e, cIs_e, cIsNot_e, cIx_l, cIx_t, cIx_s, cNeg_i, cLen_l, cLen_t, cLen_s, cList_l, cList_t, cTuple_l, cTuple_t, cAll_e, cAny_e, cAbs_i, cInt_b, cInt_i, cStrI_i, cIntS_s, cSplit_s, cJoin_e, cSl_l, cSl_t, cSl_s, mAppend_e, fnM_e, finK_nil, atI_zero, atI_one, ex_some, keepE, wipeE, restE, List.foldr_cons, List.foldr_nil, List.all_cons, List.all_nil, startE, idxs, List.map_cons, List.map_nil, List.length_cons, List.length_nil, Nat.reduceAdd, Nat.reduceSub, Int.reduceToNat, List.reduceReplicate, List.nil_append, List.cons_append, List.append_nil, List.getElem?_cons_zero, List.getElem?_cons_succ, List.set_cons_zero, List.set_cons_succ, Nat.zero_add, Bool.not_true, Bool.not_false, decide_eq_true_eq, if_true, if_false, Bool.false_eq_true, Bool.true_and, Bool.and_true, ite_true, ite_false, reduceIte, eq_self, true_and, and_true, Bool.not_eq_true', decide_eq_false_iff_not])
    refine ⟨shln, shln, ?_⟩
    rw [eq_self_D _ rfl]
    (try simp only [sNil_e, sPass_e, sNever_e, fCst_e, fVar_e, fMov_e, fOV_e, rdSlot_e, fOP_e, as_val, as_lst, bo_e, sv_e, iv_e, ol_e, fO2_e, fBo_e, fNot_e, fAnd_e, fOr_e, fAndV_e, fOrV_e, fNotV_e, fIf_e, fONil_e, fOCons_e, fLNil_e, fLCons_e, fTup_e, fLst_e, fNeg_e, rdAll_nil, rdAll_cons, fCB_e, fIsI_e, fTName_e, fTsNil_e, fTsCons_e, fTTup_e, fMut_e, fYes_e, fComp_e, fISeq_e, fIRng1_e, fCall_e, fANil_e, fAV_e, inR_nil, inR_v, inR_s, dropE_nil, dropE_v, dropE_s, outE_nil, outE_v, outE_s, fPNo_e, fPInt_e, fSl_e, fM1_e, fTIx_e, cAdd_i, cAdd_s, cAdd_l, cAdd_t, cSub_i, cMul_i, cFdiv_i, cMod_i, cPow_i, cLt_i, cLe_i, cGt_i, cGe_i, cEq_e, cNe_e, cIs_e, cIsNot_e, cIx_l, cIx_t, cIx_s, cNeg_i, cLen_l, cLen_t, cLen_s, cList_l, cList_t, cTuple_l, cTuple_t, cAll_e, cAny_e, cAbs_i, cInt_b, cInt_i, cStrI_i, cIntS_s, cSplit_s, cJoin_e, cSl_l, cSl_t, cSl_s, mAppend_e, fnM_e, finK_nil, atI_zero, atI_one, ex_some, keepE, wipeE, restE, List.foldr_cons, List.foldr_nil, List.all_cons, List.all_nil, startE, idxs, List.map_cons, List.map_nil, List.length_cons, List.length_nil, Nat.reduceAdd, Nat.reduceSub, Int.reduceToNat, List.reduceReplicate, List.nil_append, List.cons_append, List.append_nil, List.getElem?_cons_zero, List.getElem?_cons_succ, List.set_cons_zero, List.set_cons_succ, Nat.zero_add, Bool.not_true, Bool.not_false, decide_eq_true_eq, if_true, if_false, Bool.false_eq_true, Bool.true_and, Bool.and_true, ite_true, ite_false, reduceIte, eq_self, true_and, and_true, Bool.not_eq_true', decide_eq_false_iff_not])
    refine ratios_text_ret _ ps (.inr rfl) hps hl _ _ ?_
    (try simp only [sNil_e, sPass_e, sNever_e, fCst_e, fVar_e, fMov_e, fOV_e, rdSlot_e, fOP_e, as_val, as_lst, bo_e, sv_e, iv_e, ol_e, fO2_e, fBo_e, fNot_e, fAnd_e, fOr_e, fAndV_e, fOrV_e, fNotV_e, fIf_e, fONil_e, fOCons_e, fLNil_e, fLCons_e, fTup_e, fLst_e, fNeg_e, rdAll_nil, rdAll_cons, fCB_e, fIsI_e, fTName_e, fTsNil_e, fTsCons_e, fTTup_e, fMut_e, fYes_e, fComp_e, fISeq_e, fIRng1_e, fCall_e, fANil_e, fAV_e, inR_nil, inR_v, inR_s, dropE_nil, dropE_v, dropE_s, outE_nil, outE_v, outE_s, fPNo_e, fPInt_e, fSl_e, fM1_e, fTIx_e, cAdd_i, cAdd_s, cAdd_l, cAdd_t, cSub_i, cMul_i, cFdiv_i, cMod_i, cPow_i, cLt_i, cLe_i, cGt_i, cGe_i, cEq_e, cNe_e, cIs_e, cIsNot_e, cIx_l, cIx_t, cIx_s, cNeg_i, cLen_l, cLen_t, cLen_s, cList_l, cList_t, cTuple_l, cTuple_t, cAll_e, cAny_e, cAbs_i, cInt_b, cInt_i, cStrI_i, cIntS_s, cSplit_s, cJoin_e, cSl_l, cSl_t, cSl_s, mAppend_e, fnM_e, finK_nil, atI_zero, atI_one, ex_some, keepE, wipeE, restE, List.foldr_cons, List.foldr_nil, List.all_cons, List.all_nil, startE, idxs, List.map_cons, List.map_nil, List.length_cons, List.length_nil, Nat.reduceAdd, Nat.reduceSub, Int.reduceToNat, List.reduceReplicate, List.nil_append, List.cons_append, List.append_nil, List.getElem?_cons_zero, List.getElem?_cons_succ, List.set_cons_zero, List.set_cons_succ, Nat.zero_add, Bool.not_true, Bool.not_false, decide_eq_true_eq, if_true, if_false, Bool.false_eq_true, Bool.true_and, Bool.and_true, ite_true, ite_false, reduceIte, eq_self, true_and, and_true, Bool.not_eq_true', decide_eq_false_iff_not])
    refine ⟨shln, shln, ?_⟩
    rw [eq_self_D _ rfl]
    (try simp only [sNil_e, sPass_e, sNever_e, fCst_e, fVar_e, fMov_e, fOV_e, rdSlot_e, fOP_e, as_val, as_lst, bo_e, sv_e, iv_e, ol_e, fO2_e, fBo_e, fNot_e, fAnd_e, fOr_e, fAndV_e, fOrV_e, fNotV_e, fIf_e, fONil_e, fOCons_e, fLNil_e, fLCons_e, fTup_e, fLst_e, fNeg_e, rdAll_nil, rdAll_cons, fCB_e, fIsI_e, fTName_e, fTsNil_e, fTsCons_e, fTTup_e, fMut_e, fYes_e, fComp_e, fISeq_e, fIRng1_e, fCall_e, fANil_e, fAV_e, inR_nil, inR_v, inR_s, dropE_nil, dropE_v, dropE_s, outE_nil, outE_v, outE_s, fPNo_e, fPInt_e, fSl_e, fM1_e, fTIx_e, cAdd_i, cAdd_s, cAdd_l, cAdd_t, cSub_i, cMul_i, cFdiv_i, cMod_i, cPow_i, cLt_i, cLe_i, cGt_i, cGe_i, cEq_e, cNe_e, cIs_e, cIsNot_e, cIx_l, cIx_t, cIx_s, cNeg_i, cLen_l, cLen_t, cLen_s, cList_l, cList_t, cTuple_l, cTuple_t, cAll_e, cAny_e, cAbs_i, cInt_b, cInt_i, cStrI_i, cIntS_s, cSplit_s, cJoin_e, cSl_l, cSl_t, cSl_s, mAppend_e, fnM_e, finK_nil, atI_zero, atI_one, ex_some, keepE, wipeE, restE, List.foldr_cons, List.foldr_nil, List.all_cons, List.all_nil, startE, idxs, List.map_cons, List.map_nil, List.length_cons, List.length_nil, Nat.reduceAdd, Nat.reduceSub, Int.reduceToNat, List.reduceReplicate, List.nil_append, List.cons_append, List.append_nil, List.getElem?_cons_zero, List.getElem?_cons_succ, List.set_cons_zero, List.set_cons_succ, Nat.zero_add, Bool.not_true, Bool.not_false, decide_eq_true_eq, if_true, if_false, Bool.false_eq_true, Bool.true_and, Bool.and_true, ite_true, ite_false, reduceIte, eq_self, true_and, and_true, Bool.not_eq_true', decide_eq_false_iff_not])
    refine ⟨shl, shl, ?_⟩
    rw [eq_self_D _ nbl]
    refine h2 _ ?_
    (try simp only [sNil_e, sPass_e, sNever_e, fCst_e, fVar_e, fMov_e, fOV_e, rdSlot_e, fOP_e, as_val, as_lst, bo_e, sv_e, iv_e, ol_e, fO2_e, fBo_e, fNot_e, fAnd_e, fOr_e, fAndV_e, fOrV_e, fNotV_e, fIf_e, fONil_e, fOCons_e, fLNil_e, fLCons_e, fTup_e, fLst_e, fNeg_e, rdAll_nil, rdAll_cons, fCB_e, fIsI_e, fTName_e, fTsNil_e, fTsCons_e, fTTup_e, fMut_e, fYes_e, fComp_e, fISeq_e, fIRng1_e, fCall_e, fANil_e, fAV_e, inR_nil, inR_v, inR_s, dropE_nil, dropE_v, dropE_s, outE_nil, outE_v, outE_s, fPNo_e, fPInt_e, fSl_e, fM1_e, fTIx_e, cAdd_i, cAdd_s, cAdd_l, cAdd_t, cSub_i, cMul_i, cFdiv_i, cMod_i, cPow_i, cLt_i, cLe_i, cGt_i, cGe_i, cEq_e, cNe_e, cIs_e, cIsNot_e, cIx_l, cIx_t, cIx_s, cNeg_i, cLen_l, cLen_t, cLen_s, cList_l, cList_t, cTuple_l, cTuple_t, cAll_e, cAny_e, cAbs_i, cInt_b, cInt_i, cStrI_i, cIntS_s, cSplit_s, cJoin_e, cSl_l, cSl_t, cSl_s, mAppend_e, fnM_e, finK_nil, atI_zero, atI_one, ex_some, keepE, wipeE, restE, List.foldr_cons, List.foldr_nil, List.all_cons, List.all_nil, startE, idxs, List.map_cons, List.map_nil, List.length_cons, List.length_nil, Nat.reduceAdd, Nat.reduceSub, Int.reduceToNat, List.reduceReplicate, List.nil_append, List.cons_append, List.append_nil, List.getElem?_cons_zero, List.getElem?_cons_succ, List.set_cons_zero, List.set_cons_succ, Nat.zero_add, Bool.not_true, Bool.not_false, decide_eq_true_eq, if_true, if_false, Bool.false_eq_true, Bool.true_and, Bool.and_true, ite_true, ite_false, reduceIte, eq_self, true_and, and_true, Bool.not_eq_true', decide_eq_false_iff_not])
    refine scAsg fun κ hκ => ?_
    (try simp only [sNil_e, sPass_e, sNever_e, fCst_e, fVar_e, fMov_e, fOV_e, rdSlot_e, fOP_e, as_val, as_lst, bo_e, sv_e, iv_e, ol_e, fO2_e, fBo_e, fNot_e, fAnd_e, fOr_e, fAndV_e, fOrV_e, fNotV_e, fIf_e, fONil_e, fOCons_e, fLNil_e, fLCons_e, fTup_e, fLst_e, fNeg_e, rdAll_nil, rdAll_cons, fCB_e, fIsI_e, fTName_e, fTsNil_e, fTsCons_e, fTTup_e, fMut_e, fYes_e, fComp_e, fISeq_e, fIRng1_e, fCall_e, fANil_e, fAV_e, inR_nil, inR_v, inR_s, dropE_nil, dropE_v, dropE_s, outE_nil, outE_v, outE_s, fPNo_e, fPInt_e, fSl_e, fM1_e, fTIx_e, cAdd_i, cAdd_s, cAdd_l, cAdd_t, cSub_i, cMul_i, cFdiv_i, cMod_i, cPow_i, cLt_i, cLe_i, cGt_i, cGe_i, cEq_e, cNe_e, cIs_e, cIsNot_e, cIx_l, cIx_t, cIx_s, cNeg_i, cLen_l, cLen_t, cLen_s, cList_l, cList_t, cTuple_l, cTuple_t, cAll_e, cAny_e, cAbs_i, cInt_b, cInt_i, cStrI_i, cIntS_s, cSplit_s, cJoin_e, cSl_l, cSl_t, cSl_s, mAppend_e, fnM_e, finK_nil, atI_zero, atI_one, ex_some, keepE, wipeE, restE, List.foldr_cons, List.foldr_nil, List.all_cons, List.all_nil, startE, idxs, List.map_cons, List.map_nil, List.length_cons, List.length_nil, Nat.reduceAdd, Nat.reduceSub, Int.reduceToNat, List.reduceReplicate, List.nil_append, List.cons_append, List.append_nil, List.getElem?_cons_zero, List.getElem?_cons_succ, List.set_cons_zero, List.set_cons_succ, Nat.zero_add, Bool.not_true, Bool.not_false, decide_eq_true_eq, if_true, if_false, Bool.false_eq_true, Bool.true_and, Bool.and_true, ite_true, ite_false, reduceIte, eq_self, true_and, and_true, Bool.not_eq_true', decide_eq_false_iff_not])
    refine read_ratios_ret ps hps hl _ _ (hκ _ _ ?_)
    (try simp only [sNil_e, sPass_e, sNever_e, fCst_e, fVar_e, fMov_e, fOV_e, rdSlot_e, fOP_e, as_val, as_lst, bo_e, sv_e, iv_e, ol_e, fO2_e, fBo_e, fNot_e, fAnd_e, fOr_e, fAndV_e, fOrV_e, fNotV_e, fIf_e, fONil_e, fOCons_e, fLNil_e, fLCons_e, fTup_e, fLst_e, fNeg_e, rdAll_nil, rdAll_cons, fCB_e, fIsI_e, fTName_e, fTsNil_e, fTsCons_e, fTTup_e, fMut_e, fYes_e, fComp_e, fISeq_e, fIRng1_e, fCall_e, fANil_e, fAV_e, inR_nil, inR_v, inR_s, dropE_nil, dropE_v, dropE_s, outE_nil, outE_v, outE_s, fPNo_e, fPInt_e, fSl_e, fM1_e, fTIx_e, cAdd_i, cAdd_s, cAdd_l, cAdd_t, cSub_i, cMul_i, cFdiv_i, cMod_i, cPow_i, cLt_i, cLe_i, cGt_i, cGe_i, cEq_e, cNe_e, cIs_e, cIsNot_e, cIx_l, cIx_t, cIx_s, cNeg_i, cLen_l, cLen_t, cLen_s, cList_l, cList_t, cTuple_l, cTuple_t, cAll_e, cAny_e, cAbs_i, cInt_b, cInt_i, cStrI_i, cIntS_s, cSplit_s, cJoin_e, cSl_l, cSl_t, cSl_s, mAppend_e, fnM_e, finK_nil, atI_zero, atI_one, ex_some, keepE, wipeE, restE, List.foldr_cons, List.foldr_nil, List.all_cons, List.all_nil, startE, idxs, List.map_cons, List.map_nil, List.length_cons, List.length_nil, Nat.reduceAdd, Nat.reduceSub, Int.reduceToNat, List.reduceReplicate, List.nil_append, List.cons_append, List.append_nil, List.getElem?_cons_zero, List.getElem?_cons_succ, List.set_cons_zero, List.set_cons_succ, Nat.zero_add, Bool.not_true, Bool.not_false, decide_eq_true_eq, if_true, if_false, Bool.false_eq_true, Bool.true_and, Bool.and_true, ite_true, ite_false, reduceIte, eq_self, true_and, and_true, Bool.not_eq_true', decide_eq_false_iff_not])
    refine sgIf fun κ h1 h2 => ?_
    (try simp only [sNil_e, sPass_e, sNever_e, fCst_e, fVar_e, fMov_e, fOV_e, rdSlot_e, fOP_e, as_val, as_lst, bo_e, sv_e, iv_e, ol_e, fO2_e, fBo_e, fNot_e, fAnd_e, fOr_e, fAndV_e, fOrV_e, fNotV_e, fIf_e, fONil_e, fOCons_e, fLNil_e, fLCons_e, fTup_e, fLst_e, fNeg_e, rdAll_nil, rdAll_cons, fCB_e, fIsI_e, fTName_e, fTsNil_e, fTsCons_e, fTTup_e, fMut_e, fYes_e, fComp_e, fISeq_e, fIRng1_e, fCall_e, fANil_e, fAV_e, inR_nil, inR_v, inR_s, dropE_nil, dropE_v, dropE_s, outE_nil, outE_v, outE_s, fPNo_e, fPInt_e, fSl_e, fM1_e, fTIx_e, cAdd_i, cAdd_s, cAdd_l, cAdd_t, cSub_i, cMul_i, cFdiv_i, cMod_i, cPow_i, cLt_i, cLe_i, cGt_i, cGe_i, cEq_e, cNe_e, cIs_e, cIsNot_e, cIx_l, cIx_t, cIx_s, cNeg_i, cLen_l, cLen_t, cLen_s, cList_l, cList_t, cTuple_l, cTuple_t, cAll_e, cAny_e, cAbs_i, cInt_b, cInt_i, cStrI_i, cIntS_s, cSplit_s, cJoin_e, cSl_l, cSl_t, cSl_s, mAppend_e, fnM_e, finK_nil, atI_zero, atI_one, ex_some, keepE, wipeE, restE, List.foldr_cons, List.foldr_nil, List.all_cons, List.all_nil, startE, idxs, List.map_cons, List.map_nil, List.length_cons, List.length_nil, Nat.reduceAdd, Nat.reduceSub, Int.reduceToNat, List.reduceReplicate, List.nil_append, List.cons_append, List.append_nil, List.getElem?_cons_zero, List.getElem?_cons_succ, List.set_cons_zero, List.set_cons_succ, Nat.zero_add, Bool.not_true, Bool.not_false, decide_eq_true_eq, if_true, if_false, Bool.false_eq_true, Bool.true_and, Bool.and_true, ite_true, ite_false, reduceIte, eq_self, true_and, and_true, Bool.not_eq_true', decide_eq_false_iff_not])
    refine ⟨rfl, ?_⟩
    rw [if_neg (fun e => by cases (show true = false from e))]
    refine ⟨sht, sht, ?_⟩
    rw [eq_self_D _ nbt]
    refine h2 _ ?_
    (try simp only [sNil_e, sPass_e, sNever_e, fCst_e, fVar_e, fMov_e, fOV_e, rdSlot_e, fOP_e, as_val, as_lst, bo_e, sv_e, iv_e, ol_e, fO2_e, fBo_e, fNot_e, fAnd_e, fOr_e, fAndV_e, fOrV_e, fNotV_e, fIf_e, fONil_e, fOCons_e, fLNil_e, fLCons_e, fTup_e, fLst_e, fNeg_e, rdAll_nil, rdAll_cons, fCB_e, fIsI_e, fTName_e, fTsNil_e, fTsCons_e, fTTup_e, fMut_e, fYes_e, fComp_e, fISeq_e, fIRng1_e, fCall_e, fANil_e, fAV_e, inR_nil, inR_v, inR_s, dropE_nil, dropE_v, dropE_s, outE_nil, outE_v, outE_s, fPNo_e, fPInt_e, fSl_e, fM1_e, fTIx_e, cAdd_i, cAdd_s, cAdd_l, cAdd_t, cSub_i, cMul_i, cFdiv_i, cMod_i, cPow_i, cLt_i, cLe_i, cGt_i, cGe_i, cEq_e, cNe_e, cIs_e, cIsNot_e, cIx_l, cIx_t, cIx_s, cNeg_i, cLen_l, cLen_t, cLen_s, cList_l, cList_t, cTuple_l, cTuple_t, cAll_e, cAny_e, cAbs_i, cInt_b, cInt_i, cStrI_i, cIntS_s, cSplit_s, cJoin_e, cSl_l, cSl_t, cSl_s, mAppend_e, fnM_e, finK_nil, atI_zero, atI_one, ex_some, keepE, wipeE, restE, List.foldr_cons, List.foldr_nil, List.all_cons, List.all_nil, startE, idxs, List.map_cons, List.map_nil, List.length_cons, List.length_nil, Nat.reduceAdd, Nat.reduceSub, Int.reduceToNat, List.reduceReplicate, List.nil_append, List.cons_append, List.append_nil, List.getElem?_cons_zero, List.getElem?_cons_succ, List.set_cons_zero, List.set_cons_succ, Nat.zero_add, Bool.not_true, Bool.not_false, decide_eq_true_eq, if_true, if_false, Bool.false_eq_true, Bool.true_and, Bool.and_true, ite_true, ite_false, reduceIte, eq_self, true_and, and_true, Bool.not_eq_true', decide_eq_false_iff_not])
    exact h _ _ _ _ _ _ _ _ _
  refine scIf fun κ h1 h2 => ?_
  (try simp only [sNil_e, sPass_e, sNever_e, fCst_e, fVar_e, fMov_e, fOV_e, rdSlot_e, fOP_e, as_val, as_lst, bo_e, sv_e, iv_e, ol_e, fO2_e, fBo_e, fNot_e, fAnd_e, fOr_e, fAndV_e, fOrV_e, fNotV_e, fIf_e, fONil_e, fOCons_e, fLNil_e, fLCons_e, fTup_e, fLst_e, fNeg_e, rdAll_nil, rdAll_cons, fCB_e, fIsI_e, fTName_e, fTsNil_e, fTsCons_e, fTTup_e, fMut_e, fYes_e, fComp_e, fISeq_e, fIRng1_e, fCall_e, fANil_e, fAV_e, inR_nil, inR_v, inR_s, dropE_nil, dropE_v, dropE_s, outE_nil, outE_v, outE_s, fPNo_e, fPInt_e, fSl_e, fM1_e, fTIx_e, cAdd_i, cAdd_s, cAdd_l, cAdd_t, cSub_i, cMul_i, cFdiv_i, cMod_i, cPow_i, cLt_i, cLe_i, cGt_i, cGe_i, cEq_e, cNe_e, cIs_e, cIsNot_e, cIx_l, cIx_t, cIx_s, cNeg_i, cLen_l, cLen_t, cLen_s, cList_l, cList_t, cTuple_l, cTuple_t, cAll_e, cAny_e, cAbs_i, cInt_b, cInt_i, cStrI_i, cIntS_s, cSplit_s, cJoin_e, cSl_l, cSl_t, cSl_s, mAppend_e, fnM_e, finK_nil, atI_zero, atI_one, ex_some, keepE, wipeE, restE, List.foldr_cons, List.foldr_nil, List.all_cons, List.all_nil, startE, idxs, List.map_cons, List.map_nil, List.length_cons, List.length_nil, Nat.reduceAdd, Nat.reduceSub, Int.reduceToNat, List.reduceReplicate, List.nil_append, List.cons_append, List.append_nil, List.getElem?_cons_zero, List.getElem?_cons_succ, List.set_cons_zero, List.set_cons_succ, Nat.zero_add, Bool.not_true, Bool.not_false, decide_eq_true_eq, if_true, if_false, Bool.false_eq_true, Bool.true_and, Bool.and_true, ite_true, ite_false, reduceIte, eq_self, true_and, and_true, Bool.not_eq_true', decide_eq_false_iff_not])
  refine ⟨shl, Sh.shaped (n := 1) Sh.nilL, ?_⟩
  cases ps with
  | nil =>
    refine h1 _ (sgAsg fun κ hκ => ?_)
    (try simp only [sNil_e, sPass_e, sNever_e, fCst_e, fVar_e, fMov_e, fOV_e, rdSlot_e, fOP_e, as_val, as_lst, bo_e, sv_e, iv_e, ol_e, fO2_e, fBo_e, fNot_e, fAnd_e, fOr_e, fAndV_e, fOrV_e, fNotV_e, fIf_e, fONil_e, fOCons_e, fLNil_e, fLCons_e, fTup_e, fLst_e, fNeg_e, rdAll_nil, rdAll_cons, fCB_e, fIsI_e, fTName_e, fTsNil_e, fTsCons_e, fTTup_e, fMut_e, fYes_e, fComp_e, fISeq_e, fIRng1_e, fCall_e, fANil_e, fAV_e, inR_nil, inR_v, inR_s, dropE_nil, dropE_v, dropE_s, outE_nil, outE_v, outE_s, fPNo_e, fPInt_e, fSl_e, fM1_e, fTIx_e, cAdd_i, cAdd_s, cAdd_l, cAdd_t, cSub_i, cMul_i, cFdiv_i, cMod_i, cPow_i, cLt_i, cLe_i, cGt_i, cGe_i, cEq_e, cNe_e, cIs_e, cIsNot_e, cIx_l, cIx_t, cIx_s, cNeg_i, cLen_l, cLen_t, cLen_s, cList_l, cList_t, cTuple_l, cTuple_t, cAll_e, cAny_e, cAbs_i, cInt_b, cInt_i, cStrI_i, cIntS_s, cSplit_s, cJoin_e, cSl_l, cSl_t, cSl_s, mAppend_e, fnM_e, finK_nil, atI_zero, atI_one, ex_some, keepE, wipeE, restE, List.foldr_cons, List.foldr_nil, List.all_cons, List.all_nil, startE, idxs, List.map_cons, List.map_nil, List.length_cons, List.length_nil, Nat.reduceAdd, Nat.reduceSub, Int.reduceToNat, List.reduceReplicate, List.nil_append, List.cons_append, List.append_nil, List.getElem?_cons_zero, List.getElem?_cons_succ, List.set_cons_zero, List.set_cons_succ, Nat.zero_add, Bool.not_true, Bool.not_false, decide_eq_true_eq, if_true, if_false, Bool.false_eq_true, Bool.true_and, Bool.and_true, ite_true, ite_false, reduceIte, eq_self, true_and, and_true, Bool.not_eq_true', decide_eq_false_iff_not])
    refine hκ _ _ ?_
    (try simp only [sNil_e, sPass_e, sNever_e, fCst_e, fVar_e, fMov_e, fOV_e, rdSlot_e, fOP_e, as_val, as_lst, bo_e, sv_e, iv_e, ol_e, fO2_e, fBo_e, fNot_e, fAnd_e, fOr_e, fAndV_e, fOrV_e, fNotV_e, fIf_e, fONil_e, fOCons_e, fLNil_e, fLCons_e, fTup_e, fLst_e, fNeg_e, rdAll_nil, rdAll_cons, fCB_e, fIsI_e, fTName_e, fTsNil_e, fTsCons_e, fTTup_e, fMut_e, fYes_e, fComp_e, fISeq_e, fIRng1_e, fCall_e, fANil_e, fAV_e, inR_nil, inR_v, inR_s, dropE_nil, dropE_v, dropE_s, outE_nil, outE_v, outE_s, fPNo_e, fPInt_e, fSl_e, fM1_e, fTIx_e, cAdd_i, cAdd_s, cAdd_l, cAdd_t, cSub_i, cMul_i, cFdiv_i, cMod_i, cPow_i, cLt_i, cLe_i, cGt_i, cGe_i, cEq_e, cNe_e, cIs_e, cIsNot_e, cIx_l, cIx_t, cIx_s, cNeg_i, cLen_l, cLen_t, cLen_s, cList_l, cList_t, cTuple_l, cTuple_t, cAll_e, cAny_e, cAbs_i, cInt_b, cInt_i, cStrI_i, cIntS_s, cSplit_s, cJoin_e, cSl_l, cSl_t, cSl_s, mAppend_e, fnM_e, finK_nil, atI_zero, atI_one, ex_some, keepE, wipeE, restE, List.foldr_cons, List.foldr_nil, List.all_cons, List.all_nil, startE, idxs, List.map_cons, List.map_nil, List.length_cons, List.length_nil, Nat.reduceAdd, Nat.reduceSub, Int.reduceToNat, List.reduceReplicate, List.nil_append, List.cons_append, List.append_nil, List.getElem?_cons_zero, List.getElem?_cons_succ, List.set_cons_zero, List.set_cons_succ, Nat.zero_add, Bool.not_true, Bool.not_false, decide_eq_true_eq, if_true, if_false, Bool.false_eq_true, Bool.true_and, Bool.and_true, ite_true, ite_false, reduceIte, eq_self, true_and, and_true, Bool.not_eq_true', decide_eq_false_iff_not])
    exact fin _ _ _ _ _ _ _
  | cons p ps =>
    rw [show PyData.eqv (.list ((p :: ps).map rD)) (.list []) = false by simp [PyData.eqv, PyData.eqvAll]]
    refine h2 _ ?_
    (try simp only [sNil_e, sPass_e, sNever_e, fCst_e, fVar_e, fMov_e, fOV_e, rdSlot_e, fOP_e, as_val, as_lst, bo_e, sv_e, iv_e, ol_e, fO2_e, fBo_e, fNot_e, fAnd_e, fOr_e, fAndV_e, fOrV_e, fNotV_e, fIf_e, fONil_e, fOCons_e, fLNil_e, fLCons_e, fTup_e, fLst_e, fNeg_e, rdAll_nil, rdAll_cons, fCB_e, fIsI_e, fTName_e, fTsNil_e, fTsCons_e, fTTup_e, fMut_e, fYes_e, fComp_e, fISeq_e, fIRng1_e, fCall_e, fANil_e, fAV_e, inR_nil, inR_v, inR_s, dropE_nil, dropE_v, dropE_s, outE_nil, outE_v, outE_s, fPNo_e, fPInt_e, fSl_e, fM1_e, fTIx_e, cAdd_i, cAdd_s, cAdd_l, cAdd_t, cSub_i, cMul_i, cFdiv_i, cMod_i, cPow_i, cLt_i, cLe_i, cGt_i, cGe_i, cEq_e, cNe_e, cIs_e, cIsNot_e, cIx_l, cIx_t, cIx_s, cNeg_i, cLen_l, cLen_t, cLen_s, cList_l, cList_t, cTuple_l, cTuple_t, cAll_e, cAny_e, cAbs_i, cInt_b, cInt_i, cStrI_i, cIntS_s, cSplit_s, cJoin_e, cSl_l, cSl_t, cSl_s, mAppend_e, fnM_e, finK_nil, atI_zero, atI_one, ex_some, keepE, wipeE, restE, List.foldr_cons, List.foldr_nil, List.all_cons, List.all_nil, startE, idxs, List.map_cons, List.map_nil, List.length_cons, List.length_nil, Nat.reduceAdd, Nat.reduceSub, Int.reduceToNat, List.reduceReplicate, List.nil_append, List.cons_append, List.append_nil, List.getElem?_cons_zero, List.getElem?_cons_succ, List.set_cons_zero, List.set_cons_succ, Nat.zero_add, Bool.not_true, Bool.not_false, decide_eq_true_eq, if_true, if_false, Bool.false_eq_true, Bool.true_and, Bool.and_true, ite_true, ite_false, reduceIte, eq_self, true_and, and_true, Bool.not_eq_true', decide_eq_false_iff_not])
    have := fin
    rw [lineT, if_neg (by simp)] at this
    exact this _ _ _ _ _ _ _
theorem law_loop (dn : Dn) (s : Option R) (h : ∀ x1 x2 x3 x4 x5 x6 x7 x8 x9 : Option R, dn.nx [s, x1, x2, x3, x4, x5, x6, x7, x8, x9]) : ∀ (l : List Int) (x1 x2 x3 x4 x5 x6 x7 x8 x9 : Option R),
    forGo (fTName 1) lawBody (l.map PyData.int) dn [s, x1, x2, x3, x4, x5, x6, x7, x8, x9] := by
  intro l
  induction l with
  | nil => intro x1 x2 x3 x4 x5 x6 x7 x8 x9; exact h _ _ _ _ _ _ _ _ _
  | cons c l ih =>
    intro x1 x2 x3 x4 x5 x6 x7 x8 x9
    rw [List.map_cons, forGo_cons]
    (try simp only [sNil_e, sPass_e, sNever_e, fCst_e, fVar_e, fMov_e, fOV_e, rdSlot_e, fOP_e, as_val, as_lst, bo_e, sv_e, iv_e, ol_e, fO2_e, fBo_e, fNot_e, fAnd_e, fOr_e, fAndV_e, fOrV_e, fNotV_e, fIf_e, fONil_e, fOCons_e, fLNil_e, fLCons_e, fTup_e, fLst_e, fNeg_e, rdAll_nil, rdAll_cons, fCB_e, fIsI_e, fTName_e, fTsNil_e, fTsCons_e, fTTup_e, fMut_e, fYes_e, fComp_e, fISeq_e, fIRng1_e, fCall_e, fANil_e, fAV_e, inR_nil, inR_v, inR_s, dropE_nil, dropE_v, dropE_s, outE_nil, outE_v, outE_s, fPNo_e, fPInt_e, fSl_e, fM1_e, fTIx_e, cAdd_i, cAdd_s, cAdd_l, cAdd_t, cSub_i, cMul_i, cFdiv_i, cMod_i, cPow_i, cLt_i, cLe_i, cGt_i, cGe_i, cEq_e, cNe_e, cIs_e, cIsNot_e, cIx_l, cIx_t, cIx_s, cNeg_i, cLen_l, cLen_t, cLen_s, cList_l, cList_t, cTuple_l, cTuple_t, cAll_e, cAny_e, cAbs_i, cInt_b, cInt_i, cStrI_i, cIntS_s, cSplit_s, cJoin_e, cSl_l, cSl_t, cSl_s, mAppend_e, fnM_e, finK_nil, atI_zero, atI_one, ex_some, keepE, wipeE, restE, List.foldr_cons, List.foldr_nil, List.all_cons, List.all_nil, startE, idxs, List.map_cons, List.map_nil, List.length_cons, List.length_nil, Nat.reduceAdd, Nat.reduceSub, Int.reduceToNat, List.reduceReplicate, List.nil_append, List.cons_append, List.append_nil, List.getElem?_cons_zero, List.getElem?_cons_succ, List.set_cons_zero, List.set_cons_succ, Nat.zero_add, Bool.not_true, Bool.not_false, decide_eq_true_eq, if_true, if_false, Bool.false_eq_true, Bool.true_and, Bool.and_true, ite_true, ite_false, reduceIte, eq_self, true_and, and_true, Bool.not_eq_true', decide_eq_false_iff_not])
    exact law_step _ _ _ _ _ _ _ _ _ _ _ fun _ _ _ _ _ _ _ _ _ => ih _ _ _ _ _ _ _ _ _
theorem cutL_map (ns : List Int) (a b : Option Int) : cutL (ns.map PyData.int) a b = (cutL ns a b).map PyData.int := by
  unfold cutL
  rw [List.length_map, List.map_take, List.map_drop]
theorem law_true (ns : List Int) (hl : ns.length ≤ 63) : M_law [.val (.list (ns.map PyData.int))] (fun r _ => r = .val (.bool true)) (fun _ _ => False) := by
  have sz : (200 : Nat) ≤ sizeLine := by decide
  rw [M_law, fnM_e, F_law]
  refine scFor fun κ hκ => ?_
  have H : ∀ (l : List Int) (s : Option R), κ (l.map PyData.int) [s, none, none, none, none, none, none, none, none, none] := fun l s => by
    refine hκ _ _ ?_
    refine law_loop _ _ (fun x1 x2 x3 x4 x5 x6 x7 x8 x9 => ?_) l _ _ _ _ _ _ _ _ _
    simp only [sNil_e, sCons_e, sRet_e, sRetN_e, sIf_e, sPass_e, sNever_e, sExpr_e, sAsg_e, sTgt_e, sPar_e, fCst_e, fVar_e, fMov_e, fOV_e, rdSlot_e, fOP_e, as_val, as_lst, bo_e, sv_e, iv_e, ol_e, fO2_e, fBo_e, fNot_e, fAnd_e, fOr_e, fAndV_e, fOrV_e, fNotV_e, fIf_e, fONil_e, fOCons_e, fLNil_e, fLCons_e, fTup_e, fLst_e, fNeg_e, rdAll_nil, rdAll_cons, fCB_e, fIsI_e, fTName_e, fTsNil_e, fTsCons_e, fTTup_e, fMut_e, sFor_e, sWhile_e, fYes_e, fComp_e, fISeq_e, fIRng1_e, fCall_e, fANil_e, fAV_e, inR_nil, inR_v, inR_s, dropE_nil, dropE_v, dropE_s, outE_nil, outE_v, outE_s, fPNo_e, fPInt_e, fSl_e, fM1_e, fTIx_e, cAdd_i, cAdd_s, cAdd_l, cAdd_t, cSub_i, cMul_i, cFdiv_i, cMod_i, cPow_i, cLt_i, cLe_i, cGt_i, cGe_i, cEq_e, cNe_e, cIs_e, cIsNot_e, cIx_l, cIx_t, cIx_s, cNeg_i, cLen_l, cLen_t, cLen_s, cList_l, cList_t, cTuple_l, cTuple_t, cAll_e, cAny_e, cAbs_i, cInt_b, cInt_i, cStrI_i, cIntS_s, cSplit_s, cJoin_e, cSl_l, cSl_t, cSl_s, mAppend_e, fnM_e, finK_nil, atI_zero, atI_one, ex_some, keepE, wipeE, restE, List.foldr_cons, List.foldr_nil, List.all_cons, List.all_nil, startE, idxs, List.map_cons, List.map_nil, List.length_cons, List.length_nil, Nat.reduceAdd, Nat.reduceSub, Int.reduceToNat, List.reduceReplicate, List.nil_append, List.cons_append, List.append_nil, List.getElem?_cons_zero, List.getElem?_cons_succ, List.set_cons_zero, List.set_cons_succ, Nat.zero_add, Bool.not_true, Bool.not_false, decide_eq_true_eq, if_true, if_false, Bool.false_eq_true, Bool.true_and, Bool.and_true, ite_true, ite_false, reduceIte, eq_self, true_and, and_true, Bool.not_eq_true', decide_eq_false_iff_not]
  (try simp only [sNil_e, sPass_e, sNever_e, fCst_e, fVar_e, fMov_e, fOV_e, rdSlot_e, fOP_e, as_val, as_lst, bo_e, sv_e, iv_e, ol_e, fO2_e, fBo_e, fNot_e, fAnd_e, fOr_e, fAndV_e, fOrV_e, fNotV_e, fIf_e, fONil_e, fOCons_e, fLNil_e, fLCons_e, fTup_e, fLst_e, fNeg_e, rdAll_nil, rdAll_cons, fCB_e, fIsI_e, fTName_e, fTsNil_e, fTsCons_e, fTTup_e, fMut_e, fYes_e, fComp_e, fISeq_e, fIRng1_e, fCall_e, fANil_e, fAV_e, inR_nil, inR_v, inR_s, dropE_nil, dropE_v, dropE_s, outE_nil, outE_v, outE_s, fPNo_e, fPInt_e, fSl_e, fM1_e, fTIx_e, cAdd_i, cAdd_s, cAdd_l, cAdd_t, cSub_i, cMul_i, cFdiv_i, cMod_i, cPow_i, cLt_i, cLe_i, cGt_i, cGe_i, cEq_e, cNe_e, cIs_e, cIsNot_e, cIx_l, cIx_t, cIx_s, cNeg_i, cLen_l, cLen_t, cLen_s, cList_l, cList_t, cTuple_l, cTuple_t, cAll_e, cAny_e, cAbs_i, cInt_b, cInt_i, cStrI_i, cIntS_s, cSplit_s, cJoin_e, cSl_l, cSl_t, cSl_s, mAppend_e, fnM_e, finK_nil, atI_zero, atI_one, ex_some, keepE, wipeE, restE, List.foldr_cons, List.foldr_nil, List.all_cons, List.all_nil, startE, idxs, List.map_cons, List.map_nil, List.length_cons, List.length_nil, Nat.reduceAdd, Nat.reduceSub, Int.reduceToNat, List.reduceReplicate, List.nil_append, List.cons_append, List.append_nil, List.getElem?_cons_zero, List.getElem?_cons_succ, List.set_cons_zero, List.set_cons_succ, Nat.zero_add, Bool.not_true, Bool.not_false, decide_eq_true_eq, if_true, if_false, Bool.false_eq_true, Bool.true_and, Bool.and_true, ite_true, ite_false, reduceIte, eq_self, true_and, and_true, Bool.not_eq_true', decide_eq_false_iff_not])
  cases ns with
  | nil =>
    refine cell_ret0 _ _ ?_
    (try simp only [sNil_e, sPass_e, sNever_e, fCst_e, fVar_e, fMov_e, fOV_e, rdSlot_e, fOP_e, as_val, as_lst, bo_e, sv_e, iv_e, ol_e, fO2_e, fBo_e, fNot_e, fAnd_e, fOr_e, fAndV_e, fOrV_e, fNotV_e, fIf_e, fONil_e, fOCons_e, fLNil_e, fLCons_e, fTup_e, fLst_e, fNeg_e, rdAll_nil, rdAll_cons, fCB_e, fIsI_e, fTName_e, fTsNil_e, fTsCons_e, fTTup_e, fMut_e, fYes_e, fComp_e, fISeq_e, fIRng1_e, fCall_e, fANil_e, fAV_e, inR_nil, inR_v, inR_s, dropE_nil, dropE_v, dropE_s, outE_nil, outE_v, outE_s, fPNo_e, fPInt_e, fSl_e, fM1_e, fTIx_e, cAdd_i, cAdd_s, cAdd_l, cAdd_t, cSub_i, cMul_i, cFdiv_i, cMod_i, cPow_i, cLt_i, cLe_i, cGt_i, cGe_i, cEq_e, cNe_e, cIs_e, cIsNot_e, cIx_l, cIx_t, cIx_s, cNeg_i, cLen_l, cLen_t, cLen_s, cList_l, cList_t, cTuple_l, cTuple_t, cAll_e, cAny_e, cAbs_i, cInt_b, cInt_i, cStrI_i, cIntS_s, cSplit_s, cJoin_e, cSl_l, cSl_t, cSl_s, mAppend_e, fnM_e, finK_nil, atI_zero, atI_one, ex_some, keepE, wipeE, restE, List.foldr_cons, List.foldr_nil, List.all_cons, List.all_nil, startE, idxs, List.map_cons, List.map_nil, List.length_cons, List.length_nil, Nat.reduceAdd, Nat.reduceSub, Int.reduceToNat, List.reduceReplicate, List.nil_append, List.cons_append, List.append_nil, List.getElem?_cons_zero, List.getElem?_cons_succ, List.set_cons_zero, List.set_cons_succ, Nat.zero_add, Bool.not_true, Bool.not_false, decide_eq_true_eq, if_true, if_false, Bool.false_eq_true, Bool.true_and, Bool.and_true, ite_true, ite_false, reduceIte, eq_self, true_and, and_true, Bool.not_eq_true', decide_eq_false_iff_not])
    refine ⟨by simp [cutL]; omega, ?_⟩
    exact H [0] _
  | cons a r =>
    refine cell_ret _ _ _ _ ?_
    (try simp only [sNil_e, sPass_e, sNever_e, fCst_e, fVar_e, fMov_e, fOV_e, rdSlot_e, fOP_e, as_val, as_lst, bo_e, sv_e, iv_e, ol_e, fO2_e, fBo_e, fNot_e, fAnd_e, fOr_e, fAndV_e, fOrV_e, fNotV_e, fIf_e, fONil_e, fOCons_e, fLNil_e, fLCons_e, fTup_e, fLst_e, fNeg_e, rdAll_nil, rdAll_cons, fCB_e, fIsI_e, fTName_e, fTsNil_e, fTsCons_e, fTTup_e, fMut_e, fYes_e, fComp_e, fISeq_e, fIRng1_e, fCall_e, fANil_e, fAV_e, inR_nil, inR_v, inR_s, dropE_nil, dropE_v, dropE_s, outE_nil, outE_v, outE_s, fPNo_e, fPInt_e, fSl_e, fM1_e, fTIx_e, cAdd_i, cAdd_s, cAdd_l, cAdd_t, cSub_i, cMul_i, cFdiv_i, cMod_i, cPow_i, cLt_i, cLe_i, cGt_i, cGe_i, cEq_e, cNe_e, cIs_e, cIsNot_e, cIx_l, cIx_t, cIx_s, cNeg_i, cLen_l, cLen_t, cLen_s, cList_l, cList_t, cTuple_l, cTuple_t, cAll_e, cAny_e, cAbs_i, cInt_b, cInt_i, cStrI_i, cIntS_s, cSplit_s, cJoin_e, cSl_l, cSl_t, cSl_s, mAppend_e, fnM_e, finK_nil, atI_zero, atI_one, ex_some, keepE, wipeE, restE, List.foldr_cons, List.foldr_nil, List.all_cons, List.all_nil, startE, idxs, List.map_cons, List.map_nil, List.length_cons, List.length_nil, Nat.reduceAdd, Nat.reduceSub, Int.reduceToNat, List.reduceReplicate, List.nil_append, List.cons_append, List.append_nil, List.getElem?_cons_zero, List.getElem?_cons_succ, List.set_cons_zero, List.set_cons_succ, Nat.zero_add, Bool.not_true, Bool.not_false, decide_eq_true_eq, if_true, if_false, Bool.false_eq_true, Bool.true_and, Bool.and_true, ite_true, ite_false, reduceIte, eq_self, true_and, and_true, Bool.not_eq_true', decide_eq_false_iff_not])
    rw [show PyData.int a :: List.map PyData.int r = (a :: r).map PyData.int from rfl, cutL_map]
    refine ⟨?_, H (a :: cutL (a :: r) (some 1) (some 30)) _⟩
    have : (cutL (a :: r) (some 1) (some 30)).length ≤ 64 := by
      unfold cutL
      rw [List.length_take, List.length_drop]
      omega
    simp only [List.length_cons, List.length_nil, List.length_map]
    omega
end K77
end

section
set_option maxRecDepth 100000
set_option maxHeartbeats 4000000
namespace K77
open PySem PySem.Spec PyProof.Rows L2 Cr
theorem all_mk {l : PySem.W.OpenLaw} {w : World} {K : PySem.W.Frag} {h : Heap} {mg : Str → Option Value} {fa : Addr} (X : K.In h) (G : h.Ns mainGlobals mg) (hfa : mg "law" = some (.ref fa))
    {f0 : Addr} {od0 an0 : Option Addr} {sl0 : Array (Option Value)} {oc0 kV0 dc0 pm0 cd0 ct0 : Value}
    (a0 : PySem.W.nsIn K mainGlobals "is_whole" = some (some (.ref f0))) (l0 : K.lookup f0 = some ⟨oc0, od0, .func (PySem.W.fnOf "is_whole" "is_whole" (defArgs st_is_whole) (defBody st_is_whole) (defScope st_is_whole) .none kV0 dc0 pm0 an0 cd0 ct0), sl0⟩) (c0 : PySem.W.codeIn K cd0 "is_whole" = true) (k0 : PySem.W.keepIn K (.ref f0) = true)
    {f1 : Addr} {od1 an1 : Option Addr} {sl1 : Array (Option Value)} {oc1 kV1 dc1 pm1 cd1 ct1 : Value}
    (a1 : PySem.W.nsIn K mainGlobals "common" = some (some (.ref f1))) (l1 : K.lookup f1 = some ⟨oc1, od1, .func (PySem.W.fnOf "common" "common" (defArgs st_common) (defBody st_common) (defScope st_common) .none kV1 dc1 pm1 an1 cd1 ct1), sl1⟩) (c1 : PySem.W.codeIn K cd1 "common" = true) (k1 : PySem.W.keepIn K (.ref f1) = true)
    {f2 : Addr} {od2 an2 : Option Addr} {sl2 : Array (Option Value)} {oc2 kV2 dc2 pm2 cd2 ct2 : Value}
    (a2 : PySem.W.nsIn K mainGlobals "ratio" = some (some (.ref f2))) (l2 : K.lookup f2 = some ⟨oc2, od2, .func (PySem.W.fnOf "ratio" "ratio" (defArgs st_ratio) (defBody st_ratio) (defScope st_ratio) .none kV2 dc2 pm2 an2 cd2 ct2), sl2⟩) (c2 : PySem.W.codeIn K cd2 "ratio" = true) (k2 : PySem.W.keepIn K (.ref f2) = true)
    {f3 : Addr} {od3 an3 : Option Addr} {sl3 : Array (Option Value)} {oc3 kV3 dc3 pm3 cd3 ct3 : Value}
    (a3 : PySem.W.nsIn K mainGlobals "is_ratio" = some (some (.ref f3))) (l3 : K.lookup f3 = some ⟨oc3, od3, .func (PySem.W.fnOf "is_ratio" "is_ratio" (defArgs st_is_ratio) (defBody st_is_ratio) (defScope st_is_ratio) .none kV3 dc3 pm3 an3 cd3 ct3), sl3⟩) (c3 : PySem.W.codeIn K cd3 "is_ratio" = true) (k3 : PySem.W.keepIn K (.ref f3) = true)
    {f4 : Addr} {od4 an4 : Option Addr} {sl4 : Array (Option Value)} {oc4 kV4 dc4 pm4 cd4 ct4 : Value}
    (a4 : PySem.W.nsIn K mainGlobals "ratio_text" = some (some (.ref f4))) (l4 : K.lookup f4 = some ⟨oc4, od4, .func (PySem.W.fnOf "ratio_text" "ratio_text" (defArgs st_ratio_text) (defBody st_ratio_text) (defScope st_ratio_text) .none kV4 dc4 pm4 an4 cd4 ct4), sl4⟩) (c4 : PySem.W.codeIn K cd4 "ratio_text" = true) (k4 : PySem.W.keepIn K (.ref f4) = true)
    {f5 : Addr} {od5 an5 : Option Addr} {sl5 : Array (Option Value)} {oc5 kV5 dc5 pm5 cd5 ct5 : Value}
    (a5 : PySem.W.nsIn K mainGlobals "words_text" = some (some (.ref f5))) (l5 : K.lookup f5 = some ⟨oc5, od5, .func (PySem.W.fnOf "words_text" "words_text" (defArgs st_words_text) (defBody st_words_text) (defScope st_words_text) .none kV5 dc5 pm5 an5 cd5 ct5), sl5⟩) (c5 : PySem.W.codeIn K cd5 "words_text" = true) (k5 : PySem.W.keepIn K (.ref f5) = true)
    {f6 : Addr} {od6 an6 : Option Addr} {sl6 : Array (Option Value)} {oc6 kV6 dc6 pm6 cd6 ct6 : Value}
    (a6 : PySem.W.nsIn K mainGlobals "ratios_text" = some (some (.ref f6))) (l6 : K.lookup f6 = some ⟨oc6, od6, .func (PySem.W.fnOf "ratios_text" "ratios_text" (defArgs st_ratios_text) (defBody st_ratios_text) (defScope st_ratios_text) .none kV6 dc6 pm6 an6 cd6 ct6), sl6⟩) (c6 : PySem.W.codeIn K cd6 "ratios_text" = true) (k6 : PySem.W.keepIn K (.ref f6) = true)
    {f7 : Addr} {od7 an7 : Option Addr} {sl7 : Array (Option Value)} {oc7 kV7 dc7 pm7 cd7 ct7 : Value}
    (a7 : PySem.W.nsIn K mainGlobals "number_read" = some (some (.ref f7))) (l7 : K.lookup f7 = some ⟨oc7, od7, .func (PySem.W.fnOf "number_read" "number_read" (defArgs st_number_read) (defBody st_number_read) (defScope st_number_read) .none kV7 dc7 pm7 an7 cd7 ct7), sl7⟩) (c7 : PySem.W.codeIn K cd7 "number_read" = true) (k7 : PySem.W.keepIn K (.ref f7) = true)
    {f8 : Addr} {od8 an8 : Option Addr} {sl8 : Array (Option Value)} {oc8 kV8 dc8 pm8 cd8 ct8 : Value}
    (a8 : PySem.W.nsIn K mainGlobals "ratio_of_word" = some (some (.ref f8))) (l8 : K.lookup f8 = some ⟨oc8, od8, .func (PySem.W.fnOf "ratio_of_word" "ratio_of_word" (defArgs st_ratio_of_word) (defBody st_ratio_of_word) (defScope st_ratio_of_word) .none kV8 dc8 pm8 an8 cd8 ct8), sl8⟩) (c8 : PySem.W.codeIn K cd8 "ratio_of_word" = true) (k8 : PySem.W.keepIn K (.ref f8) = true)
    {f9 : Addr} {od9 an9 : Option Addr} {sl9 : Array (Option Value)} {oc9 kV9 dc9 pm9 cd9 ct9 : Value}
    (a9 : PySem.W.nsIn K mainGlobals "words_of" = some (some (.ref f9))) (l9 : K.lookup f9 = some ⟨oc9, od9, .func (PySem.W.fnOf "words_of" "words_of" (defArgs st_words_of) (defBody st_words_of) (defScope st_words_of) .none kV9 dc9 pm9 an9 cd9 ct9), sl9⟩) (c9 : PySem.W.codeIn K cd9 "words_of" = true) (k9 : PySem.W.keepIn K (.ref f9) = true)
    {f10 : Addr} {od10 an10 : Option Addr} {sl10 : Array (Option Value)} {oc10 kV10 dc10 pm10 cd10 ct10 : Value}
    (a10 : PySem.W.nsIn K mainGlobals "row_of_words" = some (some (.ref f10))) (l10 : K.lookup f10 = some ⟨oc10, od10, .func (PySem.W.fnOf "row_of_words" "row_of_words" (defArgs st_row_of_words) (defBody st_row_of_words) (defScope st_row_of_words) .none kV10 dc10 pm10 an10 cd10 ct10), sl10⟩) (c10 : PySem.W.codeIn K cd10 "row_of_words" = true) (k10 : PySem.W.keepIn K (.ref f10) = true)
    {f11 : Addr} {od11 an11 : Option Addr} {sl11 : Array (Option Value)} {oc11 kV11 dc11 pm11 cd11 ct11 : Value}
    (a11 : PySem.W.nsIn K mainGlobals "read_ratio" = some (some (.ref f11))) (l11 : K.lookup f11 = some ⟨oc11, od11, .func (PySem.W.fnOf "read_ratio" "read_ratio" (defArgs st_read_ratio) (defBody st_read_ratio) (defScope st_read_ratio) .none kV11 dc11 pm11 an11 cd11 ct11), sl11⟩) (c11 : PySem.W.codeIn K cd11 "read_ratio" = true) (k11 : PySem.W.keepIn K (.ref f11) = true)
    {f12 : Addr} {od12 an12 : Option Addr} {sl12 : Array (Option Value)} {oc12 kV12 dc12 pm12 cd12 ct12 : Value}
    (a12 : PySem.W.nsIn K mainGlobals "read_ratios" = some (some (.ref f12))) (l12 : K.lookup f12 = some ⟨oc12, od12, .func (PySem.W.fnOf "read_ratios" "read_ratios" (defArgs st_read_ratios) (defBody st_read_ratios) (defScope st_read_ratios) .none kV12 dc12 pm12 an12 cd12 ct12), sl12⟩) (c12 : PySem.W.codeIn K cd12 "read_ratios" = true) (k12 : PySem.W.keepIn K (.ref f12) = true)
    {f13 : Addr} {od13 an13 : Option Addr} {sl13 : Array (Option Value)} {oc13 kV13 dc13 pm13 cd13 ct13 : Value}
    (a13 : PySem.W.nsIn K mainGlobals "_law_cell" = some (some (.ref f13))) (l13 : K.lookup f13 = some ⟨oc13, od13, .func (PySem.W.fnOf "_law_cell" "_law_cell" (defArgs st__law_cell) (defBody st__law_cell) (defScope st__law_cell) .none kV13 dc13 pm13 an13 cd13 ct13), sl13⟩) (c13 : PySem.W.codeIn K cd13 "_law_cell" = true) (k13 : PySem.W.keepIn K (.ref f13) = true)
    {f14 : Addr} {od14 an14 : Option Addr} {sl14 : Array (Option Value)} {oc14 kV14 dc14 pm14 cd14 ct14 : Value}
    (a14 : PySem.W.nsIn K mainGlobals "_law_deal" = some (some (.ref f14))) (l14 : K.lookup f14 = some ⟨oc14, od14, .func (PySem.W.fnOf "_law_deal" "_law_deal" (defArgs st__law_deal) (defBody st__law_deal) (defScope st__law_deal) .none kV14 dc14 pm14 an14 cd14 ct14), sl14⟩) (c14 : PySem.W.codeIn K cd14 "_law_deal" = true) (k14 : PySem.W.keepIn K (.ref f14) = true)
    {f15 : Addr} {od15 an15 : Option Addr} {sl15 : Array (Option Value)} {oc15 kV15 dc15 pm15 cd15 ct15 : Value}
    (a15 : PySem.W.nsIn K mainGlobals "_law_common" = some (some (.ref f15))) (l15 : K.lookup f15 = some ⟨oc15, od15, .func (PySem.W.fnOf "_law_common" "_law_common" (defArgs st__law_common) (defBody st__law_common) (defScope st__law_common) .none kV15 dc15 pm15 an15 cd15 ct15), sl15⟩) (c15 : PySem.W.codeIn K cd15 "_law_common" = true) (k15 : PySem.W.keepIn K (.ref f15) = true)
    {f16 : Addr} {od16 an16 : Option Addr} {sl16 : Array (Option Value)} {oc16 kV16 dc16 pm16 cd16 ct16 : Value}
    (a16 : PySem.W.nsIn K mainGlobals "_law_some_ratio" = some (some (.ref f16))) (l16 : K.lookup f16 = some ⟨oc16, od16, .func (PySem.W.fnOf "_law_some_ratio" "_law_some_ratio" (defArgs st__law_some_ratio) (defBody st__law_some_ratio) (defScope st__law_some_ratio) .none kV16 dc16 pm16 an16 cd16 ct16), sl16⟩) (c16 : PySem.W.codeIn K cd16 "_law_some_ratio" = true) (k16 : PySem.W.keepIn K (.ref f16) = true)
    {f17 : Addr} {od17 an17 : Option Addr} {sl17 : Array (Option Value)} {oc17 kV17 dc17 pm17 cd17 ct17 : Value}
    (a17 : PySem.W.nsIn K mainGlobals "_law_text" = some (some (.ref f17))) (l17 : K.lookup f17 = some ⟨oc17, od17, .func (PySem.W.fnOf "_law_text" "_law_text" (defArgs st__law_text) (defBody st__law_text) (defScope st__law_text) .none kV17 dc17 pm17 an17 cd17 ct17), sl17⟩) (c17 : PySem.W.codeIn K cd17 "_law_text" = true) (k17 : PySem.W.keepIn K (.ref f17) = true)
    {f18 : Addr} {od18 an18 : Option Addr} {sl18 : Array (Option Value)} {oc18 kV18 dc18 pm18 cd18 ct18 : Value}
    (a18 : PySem.W.nsIn K mainGlobals "_law_row" = some (some (.ref f18))) (l18 : K.lookup f18 = some ⟨oc18, od18, .func (PySem.W.fnOf "_law_row" "_law_row" (defArgs st__law_row) (defBody st__law_row) (defScope st__law_row) .none kV18 dc18 pm18 an18 cd18 ct18), sl18⟩) (c18 : PySem.W.codeIn K cd18 "_law_row" = true) (k18 : PySem.W.keepIn K (.ref f18) = true)
    {f19 : Addr} {od19 an19 : Option Addr} {sl19 : Array (Option Value)} {oc19 kV19 dc19 pm19 cd19 ct19 : Value}
    (a19 : PySem.W.nsIn K mainGlobals "law" = some (some (.ref f19))) (l19 : K.lookup f19 = some ⟨oc19, od19, .func (PySem.W.fnOf "law" "law" (defArgs st_law) (defBody st_law) (defScope st_law) .none kV19 dc19 pm19 an19 cd19 ct19), sl19⟩) (c19 : PySem.W.codeIn K cd19 "law" = true) (k19 : PySem.W.keepIn K (.ref f19) = true)
    (z_abs : PySem.W.nsIn K mainGlobals "abs" = some none)
    (z_all : PySem.W.nsIn K mainGlobals "all" = some none)
    (z_bool : PySem.W.nsIn K mainGlobals "bool" = some none)
    (z_divmod : PySem.W.nsIn K mainGlobals "divmod" = some none)
    (z_int : PySem.W.nsIn K mainGlobals "int" = some none)
    (z_isinstance : PySem.W.nsIn K mainGlobals "isinstance" = some none)
    (z_len : PySem.W.nsIn K mainGlobals "len" = some none)
    (z_list : PySem.W.nsIn K mainGlobals "list" = some none)
    (z_range : PySem.W.nsIn K mainGlobals "range" = some none)
    (z_str : PySem.W.nsIn K mainGlobals "str" = some none)
    (z_tuple : PySem.W.nsIn K mainGlobals "tuple" = some none)
    {t_EMPTY : Tok} (m_EMPTY : PySem.W.nsIn K mainGlobals "EMPTY" = some (some (.str "." t_EMPTY)))
    {t_FIGURES : Tok} (m_FIGURES : PySem.W.nsIn K mainGlobals "FIGURES" = some (some (.str "0123456789" t_FIGURES)))
    {t_MOST_FIGURES : Tok} (m_MOST_FIGURES : PySem.W.nsIn K mainGlobals "MOST_FIGURES" = some (some (.int 60 t_MOST_FIGURES)))
    {t_MOST_THINGS : Tok} (m_MOST_THINGS : PySem.W.nsIn K mainGlobals "MOST_THINGS" = some (some (.int 100 t_MOST_THINGS)))
    : ∃ (cm : CM) (fd : FuncData), (∀ (s : Shared) (u : Value), BindsTo s fd ⟨[u], []⟩ [("script", u)]) ∧
      ∀ base : Heap, K.In base → base.Ns mainGlobals mg → FnOk l.prog w K mg base (L2.CX l.prog w) 5 fa fd ["script"] (spD ⟨K, cm⟩ [false] M_law) := by
  have e := hfa.symm.trans (PySem.W.mg_of X G a19)
  cases e
  have g : Gs mg := ⟨PySem.W.mg_none_of X G z_abs, PySem.W.mg_none_of X G z_all, PySem.W.mg_none_of X G z_bool, PySem.W.mg_none_of X G z_divmod, PySem.W.mg_none_of X G z_int, PySem.W.mg_none_of X G z_isinstance, PySem.W.mg_none_of X G z_len, PySem.W.mg_none_of X G z_list, PySem.W.mg_none_of X G z_range, PySem.W.mg_none_of X G z_str, PySem.W.mg_none_of X G z_tuple, ⟨_, PySem.W.mg_of X G m_EMPTY⟩, ⟨_, PySem.W.mg_of X G m_FIGURES⟩, ⟨_, PySem.W.mg_of X G m_MOST_FIGURES⟩, ⟨_, PySem.W.mg_of X G m_MOST_THINGS⟩⟩
  have F0 := fun_mk (st := st_is_whole) l0 c0 k0
  have F1 := fun_mk (st := st_common) l1 c1 k1
  have F2 := fun_mk (st := st_ratio) l2 c2 k2
  have F3 := fun_mk (st := st_is_ratio) l3 c3 k3
  have F4 := fun_mk (st := st_ratio_text) l4 c4 k4
  have F5 := fun_mk (st := st_words_text) l5 c5 k5
  have F6 := fun_mk (st := st_ratios_text) l6 c6 k6
  have F7 := fun_mk (st := st_number_read) l7 c7 k7
  have F8 := fun_mk (st := st_ratio_of_word) l8 c8 k8
  have F9 := fun_mk (st := st_words_of) l9 c9 k9
  have F10 := fun_mk (st := st_row_of_words) l10 c10 k10
  have F11 := fun_mk (st := st_read_ratio) l11 c11 k11
  have F12 := fun_mk (st := st_read_ratios) l12 c12 k12
  have F13 := fun_mk (st := st__law_cell) l13 c13 k13
  have F14 := fun_mk (st := st__law_deal) l14 c14 k14
  have F15 := fun_mk (st := st__law_common) l15 c15 k15
  have F16 := fun_mk (st := st__law_some_ratio) l16 c16 k16
  have F17 := fun_mk (st := st__law_text) l17 c17 k17
  have F18 := fun_mk (st := st__law_row) l18 c18 k18
  have F19 := fun_mk (st := st_law) l19 c19 k19
  refine ⟨fun _ => none, PySem.W.fnOf "law" "law" (defArgs st_law) (defBody st_law) (defScope st_law) .none kV19 dc19 pm19 an19 cd19 ct19, fun s v => .of_eq rfl, fun base _ _ => ?_⟩
  have A_is_whole : FnAt l.prog w K mg base (fun _ => none) 1 "is_whole" ["thing"] [false] M_is_whole := ⟨_, _, ok_is_whole g  F0, PySem.W.mg_of X G a0, F0.kp, F0.binds fun _ _ _ _ _ _ us hl => match us, hl with | [_], _ => rfl⟩
  have A_common : FnAt l.prog w K mg base (fun _ => none) 1 "common" ["one", "other"] [false, false] M_common := ⟨_, _, ok_common g  F1, PySem.W.mg_of X G a1, F1.kp, F1.binds fun _ _ _ _ _ _ us hl => match us, hl with | [_, _], _ => rfl⟩
  have A_ratio : FnAt l.prog w K mg base (fun _ => none) 2 "ratio" ["top", "bottom"] [false, false] M_ratio := ⟨_, _, ok_ratio g A_common F2, PySem.W.mg_of X G a2, F2.kp, F2.binds fun _ _ _ _ _ _ us hl => match us, hl with | [_, _], _ => rfl⟩
  have A_is_ratio : FnAt l.prog w K mg base (fun _ => none) 2 "is_ratio" ["thing"] [false] M_is_ratio := ⟨_, _, ok_is_ratio g A_is_whole A_common F3, PySem.W.mg_of X G a3, F3.kp, F3.binds fun _ _ _ _ _ _ us hl => match us, hl with | [_], _ => rfl⟩
  have A_ratio_text : FnAt l.prog w K mg base (fun _ => none) 1 "ratio_text" ["one"] [false] M_ratio_text := ⟨_, _, ok_ratio_text g  F4, PySem.W.mg_of X G a4, F4.kp, F4.binds fun _ _ _ _ _ _ us hl => match us, hl with | [_], _ => rfl⟩
  have A_words_text : FnAt l.prog w K mg base (fun _ => none) 1 "words_text" ["words"] [false] M_words_text := ⟨_, _, ok_words_text g  F5, PySem.W.mg_of X G a5, F5.kp, F5.binds fun _ _ _ _ _ _ us hl => match us, hl with | [_], _ => rfl⟩
  have A_ratios_text : FnAt l.prog w K mg base (fun _ => none) 2 "ratios_text" ["some"] [false] M_ratios_text := ⟨_, _, ok_ratios_text g A_words_text A_ratio_text F6, PySem.W.mg_of X G a6, F6.kp, F6.binds fun _ _ _ _ _ _ us hl => match us, hl with | [_], _ => rfl⟩
  have A_number_read : FnAt l.prog w K mg base (fun _ => none) 1 "number_read" ["word"] [false] M_number_read := ⟨_, _, ok_number_read g  F7, PySem.W.mg_of X G a7, F7.kp, F7.binds fun _ _ _ _ _ _ us hl => match us, hl with | [_], _ => rfl⟩
  have A_ratio_of_word : FnAt l.prog w K mg base (fun _ => none) 3 "ratio_of_word" ["word"] [false] M_ratio_of_word := ⟨_, _, ok_ratio_of_word g A_number_read A_is_ratio F8, PySem.W.mg_of X G a8, F8.kp, F8.binds fun _ _ _ _ _ _ us hl => match us, hl with | [_], _ => rfl⟩
  have A_words_of : FnAt l.prog w K mg base (fun _ => none) 1 "words_of" ["thing"] [false] M_words_of := ⟨_, _, ok_words_of g  F9, PySem.W.mg_of X G a9, F9.kp, F9.binds fun _ _ _ _ _ _ us hl => match us, hl with | [_], _ => rfl⟩
  have A_row_of_words : FnAt l.prog w K mg base (fun _ => none) 1 "row_of_words" ["words"] [false] M_row_of_words := ⟨_, _, ok_row_of_words g  F10, PySem.W.mg_of X G a10, F10.kp, F10.binds fun _ _ _ _ _ _ us hl => match us, hl with | [_], _ => rfl⟩
  have A_read_ratio : FnAt l.prog w K mg base (fun _ => none) 4 "read_ratio" ["thing"] [false] M_read_ratio := ⟨_, _, ok_read_ratio g A_words_of A_ratio_of_word A_ratio F11, PySem.W.mg_of X G a11, F11.kp, F11.binds fun _ _ _ _ _ _ us hl => match us, hl with | [_], _ => rfl⟩
  have A_read_ratios : FnAt l.prog w K mg base (fun _ => none) 4 "read_ratios" ["thing"] [false] M_read_ratios := ⟨_, _, ok_read_ratios g A_row_of_words A_words_of A_ratio_of_word F12, PySem.W.mg_of X G a12, F12.kp, F12.binds fun _ _ _ _ _ _ us hl => match us, hl with | [_], _ => rfl⟩
  have A__law_cell : FnAt l.prog w K mg base (fun _ => none) 1 "_law_cell" ["script", "k"] [false, false] M__law_cell := ⟨_, _, ok__law_cell g  F13, PySem.W.mg_of X G a13, F13.kp, F13.binds fun _ _ _ _ _ _ us hl => match us, hl with | [_, _], _ => rfl⟩
  have A__law_deal : FnAt l.prog w K mg base (fun _ => none) 1 "_law_deal" ["cell", "salt"] [false, false] M__law_deal := ⟨_, _, ok__law_deal g  F14, PySem.W.mg_of X G a14, F14.kp, F14.binds fun _ _ _ _ _ _ us hl => match us, hl with | [_, _], _ => rfl⟩
  have A__law_common : FnAt l.prog w K mg base (fun _ => none) 1 "_law_common" ["one", "other"] [false, false] M__law_common := ⟨_, _, ok__law_common g  F15, PySem.W.mg_of X G a15, F15.kp, F15.binds fun _ _ _ _ _ _ us hl => match us, hl with | [_, _], _ => rfl⟩
  have A__law_some_ratio : FnAt l.prog w K mg base (fun _ => none) 2 "_law_some_ratio" ["number"] [false] M__law_some_ratio := ⟨_, _, ok__law_some_ratio g A__law_common F16, PySem.W.mg_of X G a16, F16.kp, F16.binds fun _ _ _ _ _ _ us hl => match us, hl with | [_], _ => rfl⟩
  have A__law_text : FnAt l.prog w K mg base (fun _ => none) 1 "_law_text" ["one"] [false] M__law_text := ⟨_, _, ok__law_text g  F17, PySem.W.mg_of X G a17, F17.kp, F17.binds fun _ _ _ _ _ _ us hl => match us, hl with | [_], _ => rfl⟩
  have A__law_row : FnAt l.prog w K mg base (fun _ => none) 3 "_law_row" ["number"] [false] M__law_row := ⟨_, _, ok__law_row g A__law_some_ratio F18, PySem.W.mg_of X G a18, F18.kp, F18.binds fun _ _ _ _ _ _ us hl => match us, hl with | [_], _ => rfl⟩
  exact ok_law (cm := fun _ => none) g A__law_cell A__law_deal A__law_some_ratio A_ratio_text A__law_text A_read_ratio A__law_row A_ratios_text A_read_ratios F19
end K77
open PySem PySem.W PyProof.Rows
set_option maxRecDepth 100000 in
set_option maxHeartbeats 0 in
theorem PySem.Challenge.cw_twainhoard_k77_ratios_written_and_read_holds : PySem.Challenge.rw_twainhoard_k77_ratios_written_and_read.Holds := by
  w_on; o_law; k_head; (case hw => w_witness2)
  k_fill
  refine Cr.walk_law (l := PySem.Challenge.rw_twainhoard_k77_ratios_written_and_read) (k := 5) (x := "script") (M := K77.M_law) rfl rfl ⟨rfl, by decide, by decide⟩ (fun w h Y => PySem.W.kIn_of Y) ?F K77.law_true
  case F =>
    intro w mg fa h KX G hmg
    refine' K77.all_mk KX G hmg ?a0 ?l0 ?c0 ?k0 ?a1 ?l1 ?c1 ?k1 ?a2 ?l2 ?c2 ?k2 ?a3 ?l3 ?c3 ?k3 ?a4 ?l4 ?c4 ?k4 ?a5 ?l5 ?c5 ?k5 ?a6 ?l6 ?c6 ?k6 ?a7 ?l7 ?c7 ?k7 ?a8 ?l8 ?c8 ?k8 ?a9 ?l9 ?c9 ?k9 ?a10 ?l10 ?c10 ?k10 ?a11 ?l11 ?c11 ?k11 ?a12 ?l12 ?c12 ?k12 ?a13 ?l13 ?c13 ?k13 ?a14 ?l14 ?c14 ?k14 ?a15 ?l15 ?c15 ?k15 ?a16 ?l16 ?c16 ?k16 ?a17 ?l17 ?c17 ?k17 ?a18 ?l18 ?c18 ?k18 ?a19 ?l19 ?c19 ?k19 ?z_abs ?z_all ?z_bool ?z_divmod ?z_int ?z_isinstance ?z_len ?z_list ?z_range ?z_str ?z_tuple ?m_EMPTY ?m_FIGURES ?m_MOST_FIGURES ?m_MOST_THINGS
    (case a0 => k_is); (case l0 => k_is); (case c0 => k_is); (case k0 => k_is); (case a1 => k_is); (case l1 => k_is); (case c1 => k_is); (case k1 => k_is); (case a2 => k_is); (case l2 => k_is); (case c2 => k_is); (case k2 => k_is); (case a3 => k_is); (case l3 => k_is); (case c3 => k_is); (case k3 => k_is); (case a4 => k_is); (case l4 => k_is); (case c4 => k_is); (case k4 => k_is); (case a5 => k_is); (case l5 => k_is); (case c5 => k_is); (case k5 => k_is); (case a6 => k_is); (case l6 => k_is); (case c6 => k_is); (case k6 => k_is); (case a7 => k_is); (case l7 => k_is); (case c7 => k_is); (case k7 => k_is); (case a8 => k_is); (case l8 => k_is); (case c8 => k_is); (case k8 => k_is); (case a9 => k_is); (case l9 => k_is); (case c9 => k_is); (case k9 => k_is); (case a10 => k_is); (case l10 => k_is); (case c10 => k_is); (case k10 => k_is); (case a11 => k_is); (case l11 => k_is); (case c11 => k_is); (case k11 => k_is); (case a12 => k_is); (case l12 => k_is); (case c12 => k_is); (case k12 => k_is); (case a13 => k_is); (case l13 => k_is); (case c13 => k_is); (case k13 => k_is); (case a14 => k_is); (case l14 => k_is); (case c14 => k_is); (case k14 => k_is); (case a15 => k_is); (case l15 => k_is); (case c15 => k_is); (case k15 => k_is); (case a16 => k_is); (case l16 => k_is); (case c16 => k_is); (case k16 => k_is); (case a17 => k_is); (case l17 => k_is); (case c17 => k_is); (case k17 => k_is); (case a18 => k_is); (case l18 => k_is); (case c18 => k_is); (case k18 => k_is); (case a19 => k_is); (case l19 => k_is); (case c19 => k_is); (case k19 => k_is); (case z_abs => k_is); (case z_all => k_is); (case z_bool => k_is); (case z_divmod => k_is); (case z_int => k_is); (case z_isinstance => k_is); (case z_len => k_is); (case z_list => k_is); (case z_range => k_is); (case z_str => k_is); (case z_tuple => k_is); (case m_EMPTY => k_is); (case m_FIGURES => k_is); (case m_MOST_FIGURES => k_is); (case m_MOST_THINGS => k_is)
end
