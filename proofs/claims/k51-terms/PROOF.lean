import PyProof.Rows.All
import Wide.All
import OpenK.AllK
import Wide.FinOn
import HandS.ForMost
import HandS.Wide
import HandS.Flow
import KE.KDictKeyed
import HandS.Deep
import KE.DataCmp
import HandS.IsInst
import KE.DataMinMax
import KE.SortData
import PyProof.ReprRoads
import HandS.RaiseMore
import HandS.Style
import HandS.SortKw
import HandS.Walk
import HandS.Zip
import HandS.Rev
import HandS.NoneIn
import KE.GoesMore
import KE.GoesEnum
import HandS.Comp
import HandS.DictComp
import KE.KDictSum
import KE.KDictCopyH
import HandS.Star
import HandS.HeadWalk
import HandS.Words
import HandS.Defaults
import HandS.Ends
import HandS.HeadHook4
import HandS.Head0
import HandS.Head1
import HandS.Head2
import HandS.HeadEnd
import PySem.Challenge.RW_typedcurve_k51_terms_make_the_curve
set_option Elab.async false
set_option linter.all false
set_option maxRecDepth 100000
set_option maxHeartbeats 4000000
/-! The clean layer, part A: values with inline tuples, the abstract heap of what may change, how both lie in HandS' values and heap. -/
namespace Cl
open PySem PySem.Spec PyProof.Rows L2
abbrev Frag := PySem.W.Frag
inductive PV where
  | non | bl (b : Bool) | int (i : Int) | str (x : Str) | tup (xs : List PV) | ref (a : Addr)
  /-- a list that nobody changes (the script) -/
  | rl (xs : List PV)
inductive PO where
  /-- a list; a dict with tuple keys; a dict with keys ints and texts; an instance -/
  | lst (xs : List PV) | dT (kvs : List (NestedKey × PV)) | dK (kvs : List (Key × PV)) | ins (C : Addr) (fs : List (Str × PV))
  /-- a dict with tuple keys while it is walked: it may be read -/
  | fT (kvs : List (NestedKey × PV))
abbrev PG := Addr → Option PO
abbrev Rho := List (Option PV)
abbrev St := L2.St
abbrev WK := PV → PG → Prop
abbrev WE := Rho → PG → WK → Prop
abbrev PSp := List PV → PG → WK → Prop
def pup (G : PG) (a : Addr) (o : PO) : PG := fun b => if b = a then some o else G b
theorem pup_same {G : PG} {a : Addr} {o : PO} : pup G a o a = some o := by unfold pup; rw [if_pos rfl]
theorem pup_ne {G : PG} {a b : Addr} {o : PO} (h : b ≠ a) : pup G a o b = G b := by unfold pup; rw [if_neg h]
/-- a list that stays -/
def ImL (K : Frag) (H : Hp) (a : Addr) (xs : List V) : Prop :=
  (∃ o, H a = some (.frz o (.lst xs))) ∨
    ∃ (o : Obj) (its : Array Value) (n : Nat), K.lookup a = some o ∧ o.cls = .type "list" ∧ o.dict = none ∧ o.data = .seq its n ∧ its.size ≤ sizeLine ∧ Vals xs its.toList
theorem ImL.sq {K : Frag} {H : Hp} {a : Addr} {xs : List V} (h : ImL K H a xs) : SqL K H a xs := by
  rcases h with h | h
  · exact .inl (.inr h)
  · exact .inr h
mutual
def RV (K : Frag) (H : Hp) : PV → V → Prop
  | .non, x => x = .non
  | .bl b, x => x = .bl b
  | .int i, x => x = .int i
  | .str s, x => x = .str s
  | .ref a, x => x = .ref a
  | .tup vs, x => ∃ a xs, x = .ref a ∧ SqT K H a xs ∧ RVs K H vs xs
  | .rl vs, x => ∃ a xs, x = .ref a ∧ ImL K H a xs ∧ RVs K H vs xs
def RVs (K : Frag) (H : Hp) : List PV → List V → Prop
  | [], xs => xs = []
  | v :: vs, xs => ∃ x r, xs = x :: r ∧ RV K H v x ∧ RVs K H vs r
end
/-- the tuples stay -/
structure TupLe (K : Frag) (H H' : Hp) : Prop where
  tup : ∀ b xs, H b = some (.tup xs) → H' b = some (.tup xs)
  frt : ∀ b o xs, H b = some (.frz o (.tup xs)) → H' b = some (.frz o (.tup xs))
  frl : ∀ b o xs, H b = some (.frz o (.lst xs)) → H' b = some (.frz o (.lst xs))
  frx : ∀ b o P, H b = some (.frz o (.ext P)) → H' b = some (.frz o (.ext P))
theorem TupLe.refl {K : Frag} {H : Hp} : TupLe K H H := ⟨fun _ _ h => h, fun _ _ _ h => h, fun _ _ _ h => h, fun _ _ _ h => h⟩
theorem TupLe.trans {K : Frag} {H H1 H2 : Hp} (a : TupLe K H H1) (b : TupLe K H1 H2) : TupLe K H H2 :=
  ⟨fun c xs h => b.tup c xs (a.tup c xs h), fun c o xs h => b.frt c o xs (a.frt c o xs h), fun c o xs h => b.frl c o xs (a.frl c o xs h), fun c o xs h => b.frx c o xs (a.frx c o xs h)⟩
theorem TupLe.sq {K : Frag} {H H' : Hp} (t : TupLe K H H') {b : Addr} {xs : List V} (h : SqT K H b xs) : SqT K H' b xs := by
  rcases h with (h | ⟨o, h⟩) | h
  · exact .inl (.inl (t.tup _ _ h))
  · exact .inl (.inr ⟨o, t.frt _ _ _ h⟩)
  · exact .inr h
theorem TupLe.im {K : Frag} {H H' : Hp} (t : TupLe K H H') {b : Addr} {xs : List V} (h : ImL K H b xs) : ImL K H' b xs := by
  rcases h with ⟨o, h⟩ | h
  · exact .inl ⟨o, t.frl _ _ _ h⟩
  · exact .inr h
/-- a new object -/
theorem TupLe.new {K : Frag} {H : Hp} {p : Addr} {o : HO} (h : H p = none) : TupLe K H (upd H p o) :=
  ⟨fun b xs e => by rw [upd_ne (ne_of_none e h)]; exact e, fun b o xs e => by rw [upd_ne (ne_of_none e h)]; exact e, fun b o xs e => by rw [upd_ne (ne_of_none e h)]; exact e, fun b o xs e => by rw [upd_ne (ne_of_none e h)]; exact e⟩
/-- one that may change -/
theorem TupLe.chg {K : Frag} {H : Hp} {p : Addr} {u o : HO} (h : H p = some u) (n1 : ∀ xs, u ≠ .tup xs) (n2 : ∀ o w, u ≠ .frz o w) : TupLe K H (upd H p o) :=
  ⟨fun b xs e => by rw [upd_ne (ne_of e h (fun z => n1 _ z.symm))]; exact e, fun b o xs e => by rw [upd_ne (ne_of e h (fun z => n2 _ _ z.symm))]; exact e, fun b o xs e => by rw [upd_ne (ne_of e h (fun z => n2 _ _ z.symm))]; exact e, fun b o xs e => by rw [upd_ne (ne_of e h (fun z => n2 _ _ z.symm))]; exact e⟩
mutual
theorem RV.mono {K : Frag} {H H' : Hp} (t : TupLe K H H') : ∀ (v : PV) (x : V), RV K H v x → RV K H' v x
  | .non, _, h => h
  | .bl _, _, h => h
  | .int _, _, h => h
  | .str _, _, h => h
  | .ref _, _, h => h
  | .tup vs, x, h => by
    rw [RV] at h ⊢
    obtain ⟨a, xs, e, s, r⟩ := h
    exact ⟨a, xs, e, t.sq s, RVs.mono t vs xs r⟩
  | .rl vs, x, h => by
    rw [RV] at h ⊢
    obtain ⟨a, xs, e, s, r⟩ := h
    exact ⟨a, xs, e, t.im s, RVs.mono t vs xs r⟩
theorem RVs.mono {K : Frag} {H H' : Hp} (t : TupLe K H H') : ∀ (vs : List PV) (xs : List V), RVs K H vs xs → RVs K H' vs xs
  | [], _, h => h
  | v :: vs, xs, h => by
    rw [RVs] at h ⊢
    obtain ⟨x, r, e, a, b⟩ := h
    exact ⟨x, r, e, RV.mono t v x a, RVs.mono t vs r b⟩
end
section
variable {K : Frag} {H H' : Hp}
theorem RVs.nil : RVs K H [] [] := rfl
theorem RVs.cons {v : PV} {vs : List PV} {x : V} {xs : List V} (a : RV K H v x) (b : RVs K H vs xs) : RVs K H (v :: vs) (x :: xs) := by
  rw [RVs]; exact ⟨x, xs, rfl, a, b⟩
theorem RVs.length : ∀ {vs : List PV} {xs : List V}, RVs K H vs xs → vs.length = xs.length
  | [], _, h => by rw [RVs] at h; subst h; rfl
  | v :: vs, xs, h => by
    rw [RVs] at h
    obtain ⟨x, r, e, _, b⟩ := h
    subst e
    simp [RVs.length b]
theorem RVs.get : ∀ {vs : List PV} {xs : List V} {i : Nat} {v : PV}, RVs K H vs xs → vs[i]? = some v → ∃ x, xs[i]? = some x ∧ RV K H v x
  | [], _, _, _, _, e => by simp at e
  | v :: vs, xs, i, w, h, e => by
    rw [RVs] at h
    obtain ⟨x, r, rfl, a, b⟩ := h
    cases i with
    | zero => simp at e; subst e; exact ⟨x, rfl, a⟩
    | succ i => simp at e; obtain ⟨y, h1, h2⟩ := RVs.get b e; exact ⟨y, by simpa using h1, h2⟩
theorem RVs.get' : ∀ {vs : List PV} {xs : List V} {i : Nat} {x : V}, RVs K H vs xs → xs[i]? = some x → ∃ v, vs[i]? = some v ∧ RV K H v x := by
  intro vs xs i x h e
  have hl := h.length
  have hi : i < xs.length := (List.getElem?_eq_some_iff.mp e).1
  obtain ⟨y, h1, h2⟩ := h.get (List.getElem?_eq_getElem (show i < vs.length by omega))
  rw [h1] at e; cases e
  exact ⟨_, List.getElem?_eq_getElem _, h2⟩
theorem RVs.append : ∀ {vs ws : List PV} {xs ys : List V}, RVs K H vs xs → RVs K H ws ys → RVs K H (vs ++ ws) (xs ++ ys)
  | [], _, _, _, h, h2 => by rw [RVs] at h; subst h; exact h2
  | v :: vs, ws, xs, ys, h, h2 => by
    rw [RVs] at h
    obtain ⟨x, r, rfl, a, b⟩ := h
    exact .cons a (RVs.append b h2)
theorem RVs.set : ∀ {vs : List PV} {xs : List V} {v : PV} {x : V} (i : Nat), RVs K H vs xs → RV K H v x → RVs K H (vs.set i v) (xs.set i x)
  | [], _, _, _, _, h, _ => by rw [RVs] at h; subst h; exact .nil
  | v :: vs, xs, w, y, i, h, h2 => by
    rw [RVs] at h
    obtain ⟨x, r, rfl, a, b⟩ := h
    cases i with
    | zero => exact .cons h2 b
    | succ i => exact .cons a (RVs.set i b h2)
theorem RVs.take : ∀ {vs : List PV} {xs : List V} (n : Nat), RVs K H vs xs → RVs K H (vs.take n) (xs.take n)
  | [], _, _, h => by rw [RVs] at h; subst h; simp [RVs]
  | v :: vs, xs, n, h => by
    rw [RVs] at h
    obtain ⟨x, r, rfl, a, b⟩ := h
    cases n with
    | zero => exact .nil
    | succ n => exact .cons a (RVs.take n b)
theorem RVs.drop : ∀ {vs : List PV} {xs : List V} (n : Nat), RVs K H vs xs → RVs K H (vs.drop n) (xs.drop n)
  | [], _, _, h => by rw [RVs] at h; subst h; simp [RVs]
  | v :: vs, xs, n, h => by
    rw [RVs] at h
    obtain ⟨x, r, rfl, a, b⟩ := h
    cases n with
    | zero => exact .cons a b
    | succ n => exact RVs.drop n b
theorem RVs.rev {vs : List PV} {xs : List V} (h : RVs K H vs xs) : RVs K H vs.reverse xs.reverse := by
  induction vs generalizing xs with
  | nil => rw [RVs] at h; subst h; exact .nil
  | cons v vs ih =>
    rw [RVs] at h
    obtain ⟨x, r, rfl, a, b⟩ := h
    simp only [List.reverse_cons]
    exact (ih b).append (.cons a .nil)
theorem RVs.rep {v : PV} {x : V} (h : RV K H v x) : ∀ n, RVs K H (List.replicate n v) (List.replicate n x)
  | 0 => .nil
  | n + 1 => .cons h (RVs.rep h n)
theorem RVs.flat {vs : List PV} {xs : List V} (h : RVs K H vs xs) : ∀ n : Nat, RVs K H (List.replicate n vs).flatten (List.replicate n xs).flatten
  | 0 => .nil
  | n + 1 => by simp only [List.replicate_succ, List.flatten_cons]; exact h.append (RVs.flat h n)
theorem RVs.one {v : PV} {x : V} (h : RV K H v x) : RVs K H [v] [x] := .cons h .nil
theorem RVs.inv1 {v : PV} {xs : List V} (h : RVs K H [v] xs) : ∃ x, xs = [x] ∧ RV K H v x := by
  rw [RVs] at h; obtain ⟨x, r, rfl, a, b⟩ := h; rw [RVs] at b; subst b; exact ⟨x, rfl, a⟩
theorem RVs.invc {v : PV} {vs : List PV} {xs : List V} (h : RVs K H (v :: vs) xs) : ∃ x r, xs = x :: r ∧ RV K H v x ∧ RVs K H vs r := by
  rw [RVs] at h; exact h
theorem RVs.ints : ∀ {ns : List Int} {xs : List V}, RVs K H (ns.map PV.int) xs → xs = ns.map V.int
  | [], _, h => by simp only [List.map_nil, RVs] at h; subst h; rfl
  | n :: ns, xs, h => by
    simp only [List.map_cons] at h
    obtain ⟨x, r, rfl, a, b⟩ := h.invc
    rw [RV] at a; subst a
    rw [RVs.ints b]; rfl
theorem RVs.ints_of : ∀ {ns : List Int}, RVs K H (ns.map PV.int) (ns.map V.int)
  | [] => .nil
  | n :: ns => .cons rfl RVs.ints_of
theorem RVs.bls : ∀ {ns : List Bool} {xs : List V}, RVs K H (ns.map PV.bl) xs → xs = ns.map V.bl
  | [], _, h => by simp only [List.map_nil, RVs] at h; subst h; rfl
  | n :: ns, xs, h => by
    simp only [List.map_cons] at h
    obtain ⟨x, r, rfl, a, b⟩ := h.invc
    rw [RV] at a; subst a
    rw [RVs.bls b]; rfl
theorem RV.int {i : Int} {x : V} (h : RV K H (.int i) x) : x = .int i := h
theorem RV.tup {vs : List PV} {x : V} (h : RV K H (.tup vs) x) : ∃ a xs, x = .ref a ∧ SqT K H a xs ∧ RVs K H vs xs := by rw [RV] at h; exact h
theorem RV.tup_of {vs : List PV} {xs : List V} {a : Addr} (h : SqT K H a xs) (r : RVs K H vs xs) : RV K H (.tup vs) (.ref a) := by
  rw [RV]; exact ⟨a, xs, rfl, h, r⟩
end
/-! ### the locals' values, the heap's objects -/
structure RS (K : Frag) (ρ : Rho) (σ : St) (H : Hp) : Prop where
  len : ρ.length = σ.length
  get : ∀ (i : Nat) (v : PV), ρ[i]? = some (some v) → ∃ x, σ[i]? = some (some x) ∧ RV K H v x
theorem RS.mono {K : Frag} {ρ : Rho} {σ : St} {H H' : Hp} (t : TupLe K H H') (r : RS K ρ σ H) : RS K ρ σ H' :=
  ⟨r.len, fun i v e => let ⟨x, h1, h2⟩ := r.get i v e; ⟨x, h1, RV.mono t v x h2⟩⟩
theorem RS.set {K : Frag} {ρ : Rho} {σ : St} {H : Hp} {v : PV} {x : V} (r : RS K ρ σ H) (i : Nat) (h : RV K H v x) : RS K (ρ.set i (some v)) (σ.set i (some x)) H := by
  refine ⟨by simp [r.len], fun j w e => ?_⟩
  by_cases hj : j = i
  · subst hj
    have hl : j < ρ.length := by
      have := (List.getElem?_eq_some_iff.mp e).1
      simpa using this
    rw [List.getElem?_set_self hl] at e
    cases e
    exact ⟨x, List.getElem?_set_self (by rw [← r.len]; exact hl), h⟩
  · rw [List.getElem?_set_ne (Ne.symm hj)] at e
    obtain ⟨y, h1, h2⟩ := r.get j w e
    exact ⟨y, by rw [List.getElem?_set_ne (Ne.symm hj)]; exact h1, h2⟩
/-- pairs with one key -/
def RK {κ : Type} (K : Frag) (H : Hp) : List (κ × PV) → List (κ × V) → Prop
  | [], xs => xs = []
  | p :: ps, xs => ∃ x r, xs = (p.1, x) :: r ∧ RV K H p.2 x ∧ RK K H ps r
theorem RK.mono {κ : Type} {K : Frag} {H H' : Hp} (t : TupLe K H H') : ∀ {ps : List (κ × PV)} {xs : List (κ × V)}, RK K H ps xs → RK K H' ps xs
  | [], _, h => h
  | p :: ps, xs, h => by
    obtain ⟨x, r, e, a, b⟩ := h
    exact ⟨x, r, e, RV.mono t _ _ a, RK.mono t b⟩
mutual
/-- what is asked of a key: it is such data -/
def NKV (K : Frag) (H : Hp) : NestedKey → V → Prop
  | .none, x => x = .non
  | .num i, x => x = .int i
  | .text t, x => x = .str t
  | .tup ks, x => ∃ a ys, x = .ref a ∧ SqT K H a ys ∧ NKVs K H ks ys
def NKVs (K : Frag) (H : Hp) : List NestedKey → List V → Prop
  | [], xs => xs = []
  | k :: ks, xs => ∃ x r, xs = x :: r ∧ NKV K H k x ∧ NKVs K H ks r
end
mutual
theorem NKV.mono {K : Frag} {H H' : Hp} (t : TupLe K H H') : ∀ (k : NestedKey) (x : V), NKV K H k x → NKV K H' k x
  | .none, _, h => h
  | .num _, _, h => h
  | .text _, _, h => h
  | .tup ks, x, h => by
    rw [NKV] at h ⊢
    obtain ⟨a, xs, e, s, r⟩ := h
    exact ⟨a, xs, e, t.sq s, NKVs.mono t ks xs r⟩
theorem NKVs.mono {K : Frag} {H H' : Hp} (t : TupLe K H H') : ∀ (ks : List NestedKey) (xs : List V), NKVs K H ks xs → NKVs K H' ks xs
  | [], _, h => h
  | k :: ks, xs, h => by
    rw [NKVs] at h ⊢
    obtain ⟨x, r, e, a, b⟩ := h
    exact ⟨x, r, e, NKV.mono t k x a, NKVs.mono t ks r b⟩
end
/-- the entries of a dict with tuple keys: each key's own tuple, its value -/
def RX (K : Frag) (H : Hp) : List (NestedKey × PV) → List (NestedKey × Addr × Value) → Prop
  | [], xs => xs = []
  | p :: ps, xs => ∃ q u x r, xs = (p.1, q, u) :: r ∧ NKV K H p.1 (.ref q) ∧ RelV x u ∧ RV K H p.2 x ∧ RX K H ps r
theorem RX.mono {K : Frag} {H H' : Hp} (t : TupLe K H H') : ∀ {ps : List (NestedKey × PV)} {xs : List (NestedKey × Addr × Value)}, RX K H ps xs → RX K H' ps xs
  | [], _, h => h
  | p :: ps, xs, h => by
    obtain ⟨q, u, x, r, e, n, l, a, b⟩ := h
    exact ⟨q, u, x, r, e, NKV.mono t _ _ n, l, RV.mono t _ _ a, RX.mono t b⟩
/-- all keys that a table holds are not too deep -/
def shallow (kvs : List (NestedKey × PV)) : Prop := ∀ p ∈ kvs, p.1.depth ≤ 8
/-- the program, the world, the written part -/
structure Ky where
  P : Program
  w : World
  K : Frag
/-- a dict with tuple keys, by its own object -/
def dX (Z : Ky) (a : Addr) (xs : List (NestedKey × Addr × Value)) : HO := .ext fun h => (a == sysModules) = false ∧ ∃ o es ep, h.get? a = some o ∧ o.ExactDict ∧ o.data = .dict es ep ∧
  es.toList = xs.map (entryOfKey (nestedKind Z.P Z.w)) ∧ (xs.map (·.1)).Nodup
def RO (Z : Ky) (H : Hp) (a : Addr) : PO → Prop
  | .lst vs => ∃ xs, H a = some (.lst xs) ∧ RVs Z.K H vs xs
  | .dT kvs => ∃ xs, H a = some (dX Z a xs) ∧ shallow kvs ∧ RX Z.K H kvs xs
  | .dK kvs => ∃ xs, H a = some (.dK xs) ∧ RK Z.K H kvs xs
  | .fT kvs => ∃ o xs, H a = some (.frz o (dX Z a xs)) ∧ shallow kvs ∧ RX Z.K H kvs xs
  | .ins C fs => ∃ dx xs, H a = some (.ins C dx xs) ∧ RK Z.K H fs xs
def RG (Z : Ky) (G : PG) (H : Hp) : Prop := ∀ a o, G a = some o → RO Z H a o
theorem RO.there {Z : Ky} {H : Hp} {a : Addr} {o : PO} (h : RO Z H a o) : ∃ u, H a = some u ∧ True := by
  cases o with
  | lst vs => obtain ⟨xs, h1, _⟩ := h; exact ⟨_, h1, trivial⟩
  | dT vs => obtain ⟨xs, h1, _⟩ := h; exact ⟨_, h1, trivial⟩
  | dK vs => obtain ⟨xs, h1, _⟩ := h; exact ⟨_, h1, trivial⟩
  | ins C vs => obtain ⟨_, xs, h1, _⟩ := h; exact ⟨_, h1, trivial⟩
  | fT vs => obtain ⟨_, xs, h1, _⟩ := h; exact ⟨_, h1, trivial⟩
theorem RG.fresh {Z : Ky} {G : PG} {H : Hp} {p : Addr} (r : RG Z G H) (h : H p = none) : G p = none := by
  cases e : G p with
  | none => rfl
  | some o =>
    obtain ⟨u, h1, _⟩ := (r p o e).there
    rw [h] at h1; cases h1
theorem RO.mono {Z : Ky} {H H' : Hp} {a : Addr} {o : PO} (t : TupLe Z.K H H') (e : H' a = H a) (h : RO Z H a o) : RO Z H' a o := by
  cases o with
  | lst vs => obtain ⟨xs, h1, h2⟩ := h; exact ⟨xs, e.trans h1, h2.mono t⟩
  | dT vs => obtain ⟨xs, h1, h2, h3⟩ := h; exact ⟨xs, e.trans h1, h2, h3.mono t⟩
  | dK vs => obtain ⟨xs, h1, h2⟩ := h; exact ⟨xs, e.trans h1, h2.mono t⟩
  | ins C vs => obtain ⟨dx, xs, h1, h2⟩ := h; exact ⟨dx, xs, e.trans h1, h2.mono t⟩
  | fT vs => obtain ⟨o, xs, h1, h2, h3⟩ := h; exact ⟨o, xs, e.trans h1, h2, h3.mono t⟩
/-- a new object that the clean heap need not know -/
theorem RG.skip {Z : Ky} {G : PG} {H : Hp} {p : Addr} {o : HO} (r : RG Z G H) (h : H p = none) : RG Z G (upd H p o) := fun a u e => by
  have hp : a ≠ p := by
    intro z; subst z
    obtain ⟨u', h1, _⟩ := (r a u e).there
    rw [h] at h1; cases h1
  exact (r a u e).mono (.new h) (upd_ne hp)
/-- .. that it knows -/
theorem RG.new {Z : Ky} {G : PG} {H : Hp} {p : Addr} {o : HO} {u : PO} (r : RG Z G H) (h : H p = none) (hu : RO Z (upd H p o) p u) : RG Z (pup G p u) (upd H p o) := fun a v e => by
  by_cases hp : a = p
  · subst hp
    rw [pup_same] at e; cases e; exact hu
  · rw [pup_ne hp] at e
    exact (r a v e).mono (.new h) (upd_ne hp)
/-- one that is changed -/
theorem RG.chg {Z : Ky} {G : PG} {H : Hp} {p : Addr} {w o : HO} {u : PO} (r : RG Z G H) (h : H p = some w) (n1 : ∀ xs, w ≠ .tup xs) (n2 : ∀ o v, w ≠ .frz o v) (hu : RO Z (upd H p o) p u) : RG Z (pup G p u) (upd H p o) := fun a v e => by
  by_cases hp : a = p
  · subst hp
    rw [pup_same] at e; cases e; exact hu
  · rw [pup_ne hp] at e
    exact (r a v e).mono (.chg h n1 n2) (upd_ne hp)
theorem RG.newL {Z : Ky} {G : PG} {H : Hp} {p : Addr} {vs : List PV} {xs : List V} (r : RG Z G H) (h : H p = none) (hv : RVs Z.K H vs xs) : RG Z (pup G p (.lst vs)) (upd H p (.lst xs)) :=
  r.new (u := .lst vs) h ⟨xs, upd_same, hv.mono (.new h)⟩
/-- a list is changed -/
theorem RG.chgL {Z : Ky} {G : PG} {H : Hp} {p : Addr} {vs : List PV} {ys xs : List V} (r : RG Z G H) (h : H p = some (.lst ys)) (hv : RVs Z.K H vs xs) : RG Z (pup G p (.lst vs)) (upd H p (.lst xs)) :=
  r.chg (u := .lst vs) h (fun _ z => nomatch z) (fun _ _ z => nomatch z) ⟨xs, upd_same, hv.mono (.chg h (fun _ z => nomatch z) (fun _ _ z => nomatch z))⟩
theorem TupLe.chgL {Z : Ky} {H : Hp} {p : Addr} {ys : List V} {o : HO} (h : H p = some (.lst ys)) : TupLe Z.K H (upd H p o) := .chg h (fun _ z => nomatch z) (fun _ _ z => nomatch z)
/-- knowing less -/
theorem RG.less {Z : Ky} {G G' : PG} {H : Hp} (r : RG Z G H) (h : ∀ a o, G' a = some o → G a = some o) : RG Z G' H := fun a o e => r a o (h a o e)
end Cl
set_option Elab.async false
set_option linter.all false
set_option maxRecDepth 100000
set_option maxHeartbeats 4000000
/-! The clean layer, part B: what expressions ask (by values), and that this is enough for HandS' readings. -/
namespace Cl
open PySem PySem.Spec PyProof.Rows L2
theorem ifT {A B : Prop} (h : A) : if (true : Bool) = true then A else B := by rw [if_pos rfl]; exact h
theorem ifF {A B : Prop} (h : B) : if (false : Bool) = true then A else B := by rw [if_neg Bool.false_ne_true]; exact h
theorem RV.blI {K : Frag} {H : Hp} (b : Bool) : RV K H (.bl b) (.bl b) := by rw [RV]
theorem RV.intI {K : Frag} {H : Hp} (i : Int) : RV K H (.int i) (.int i) := by rw [RV]
theorem RV.strI {K : Frag} {H : Hp} (x : Str) : RV K H (.str x) (.str x) := by rw [RV]
theorem RV.nonI {K : Frag} {H : Hp} : RV K H .non .non := by rw [RV]
theorem RV.refI {K : Frag} {H : Hp} (a : Addr) : RV K H (.ref a) (.ref a) := by rw [RV]
/-! ### truth -/
def tru (v : PV) (G : PG) : Option Bool :=
  match v with
  | .non => some false
  | .bl b => some b
  | .int i => some (i != 0)
  | .str x => if x.length ≤ sizeLine then some ((x.length : Int) != 0) else none
  | .tup xs => some (!xs.isEmpty)
  | .rl xs => some (!xs.isEmpty)
  | .ref a => match G a with
    | some (.lst xs) => some (!xs.isEmpty)
    | some (.dK kvs) => some (!kvs.isEmpty)
    | _ => none
theorem RVs.empty {K : Frag} {H : Hp} {vs : List PV} {xs : List V} (h : RVs K H vs xs) : xs.isEmpty = vs.isEmpty := by
  have := h.length
  cases vs <;> cases xs <;> simp at this ⊢
theorem RK.empty {κ : Type} {K : Frag} {H : Hp} {vs : List (κ × PV)} {xs : List (κ × V)} (h : RK K H vs xs) : xs.isEmpty = vs.isEmpty := by
  cases vs with
  | nil => rw [RK] at h; subst h; rfl
  | cons p ps => rw [RK] at h; obtain ⟨x, r, rfl, _⟩ := h; rfl
theorem tru_ok {Z : Ky} {G : PG} {H : Hp} {v : PV} {x : V} {b : Bool} (rg : RG Z G H) (rv : RV Z.K H v x) (h : tru v G = some b) : TruV Z.K x H b := by
  cases v with
  | non => rw [RV] at rv; subst rv; simp [tru] at h; subst h; rfl
  | bl c => rw [RV] at rv; subst rv; simp [tru] at h; subst h; rfl
  | int i => rw [RV] at rv; subst rv; simp [tru] at h; subst h; rfl
  | str s =>
    rw [RV] at rv; subst rv
    simp only [tru] at h
    split at h
    · rename_i hl; cases h; exact ⟨hl, rfl⟩
    · cases h
  | tup vs =>
    obtain ⟨a, xs, rfl, hs, hr⟩ := rv.tup
    have h : some (!vs.isEmpty) = some b := h
    cases h
    exact .inr (.inl ⟨xs, hs, by rw [hr.empty]⟩)
  | rl vs =>
    rw [RV] at rv
    obtain ⟨a, xs, rfl, hs, hr⟩ := rv
    have h : some (!vs.isEmpty) = some b := h
    cases h
    exact .inl ⟨xs, hs.sq, by rw [hr.empty]⟩
  | ref a =>
    rw [RV] at rv; subst rv
    simp only [tru] at h
    cases e : G a with
    | none => rw [e] at h; cases h
    | some o =>
      rw [e] at h
      have ro := rg a o e
      cases o with
      | lst vs =>
        obtain ⟨xs, h1, h2⟩ := ro
        cases h
        exact .inl ⟨xs, .of h1, by rw [h2.empty]⟩
      | dK kvs =>
        obtain ⟨xs, h1, h2⟩ := ro
        cases h
        exact .inr (.inr ⟨xs, h1, by rw [h2.empty]⟩)
      | _ => cases h
/-! ### readings -/
def tW (Z : Ky) (w : WE) : TE := fun σ H Q => ∃ ρ G QP, RS Z.K ρ σ H ∧ RG Z G H ∧ w ρ G QP ∧ ∀ v G' x H', TupLe Z.K H H' → RG Z G' H' → RV Z.K H' v x → QP v G' → Q x H'
def tWT (Z : Ky) (w : WE) : TT := fun σ H Q => ∃ ρ G QP, RS Z.K ρ σ H ∧ RG Z G H ∧ w ρ G QP ∧ ∀ v G' H', TupLe Z.K H H' → RG Z G' H' → QP v G' → ∃ b, tru v G' = some b ∧ Q b H'
abbrev WL := Rho → PG → (List PV → PG → Prop) → Prop
def tWL (Z : Ky) (w : WL) : TA := fun σ H Q => ∃ ρ G QP, RS Z.K ρ σ H ∧ RG Z G H ∧ w ρ G QP ∧ ∀ vs G' xs H', TupLe Z.K H H' → RG Z G' H' → RVs Z.K H' vs xs → QP vs G' → Q xs H'
abbrev _root_.L2.Cx.ky (X : Cx) : Ky := ⟨X.prog, X.w, X.K⟩
abbrev SE (X : Cx) (e : Expr) (w : WE) : Prop := PE X e (tW X.ky w)
abbrev ST (X : Cx) (e : Expr) (w : WE) : Prop := PT X e (tWT X.ky w)
abbrev SL (X : Cx) (es : List Expr) (w : WL) : Prop := PA X es (tWL X.ky w)
section
variable {X : Cx} {e a b c : Expr} {es : List Expr} {pos : Pos} {w wa wb wc : WE} {wl : WL}
theorem PE.weak {t t' : TE} (h : PE X e t) (i : ∀ σ H Q, t' σ H Q → t σ H Q) : PE X e t' := ⟨fun pins s σ H Q I q => h.run pins s σ H Q I (i σ H Q q)⟩
theorem PT.weak {t t' : TT} (h : PT X e t) (i : ∀ σ H Q, t' σ H Q → t σ H Q) : PT X e t' := ⟨fun pins s σ H Q I q => h.run pins s σ H Q I (i σ H Q q)⟩
theorem PA.weak {t t' : TA} (h : PA X es t) (i : ∀ σ H Q, t' σ H Q → t σ H Q) : PA X es t' := ⟨fun pos pins s σ H Q I q => h.run pos pins s σ H Q I (i σ H Q q)⟩
/-! ### names, constants -/
def wVar (i : Nat) : WE := fun ρ G Q => match ρ[i]? with | some (some v) => Q v G | _ => False
def wC (v : PV) : WE := fun _ G Q => Q v G
theorem se_var {i : Nat} {x : Str} (hN : X.N[i]? = some x) (hv : Vis X.env.scope x) (hd : (x == ("__debug__" : Str)) = false) (hcd : (x == ("__classdict__" : Str)) = false) : SE X (.Name x pos) (wVar i) := by
  refine PE.weak (pe_var hN hv hd hcd) fun σ H Q h => ?_
  obtain ⟨ρ, G, QP, rs, rg, hw, hq⟩ := h
  unfold wVar at hw
  split at hw
  · rename_i v hv
    obtain ⟨x, h1, h2⟩ := rs.get _ _ hv
    exact ⟨x, h1, hq _ _ _ _ .refl rg h2 hw⟩
  · exact hw.elim
theorem se_const {v : PV} {x : V} (h : PE X e (tC x)) (hr : ∀ H, RV X.K H v x) : SE X e (wC v) := by
  refine PE.weak h fun σ H Q h => ?_
  obtain ⟨ρ, G, QP, rs, rg, hw, hq⟩ := h
  exact hq _ _ _ _ .refl rg (hr H) hw
/-! ### lists of expressions -/
def wNil : WL := fun _ G Q => Q [] G
def wCons (w : WE) (wl : WL) : WL := fun ρ G Q => w ρ G fun v G1 => wl ρ G1 fun vs G2 => Q (v :: vs) G2
theorem sl_nil : SL X [] wNil := by
  refine PA.weak pa_nil fun σ H Q h => ?_
  obtain ⟨ρ, G, QP, rs, rg, hw, hq⟩ := h
  exact hq _ _ _ _ .refl rg .nil hw
theorem sl_cons (ha : SE X e w) (hr : SL X es wl) (hs : starEach (e :: es) X.env = (false, eval e X.env) :: starEach es X.env) : SL X (e :: es) (wCons w wl) := by
  refine PA.weak (pa_cons ha hr hs) fun σ H Q h => ?_
  obtain ⟨ρ, G, QP, rs, rg, hw, hq⟩ := h
  refine ⟨ρ, G, _, rs, rg, hw, fun v G1 x H1 t1 rg1 rv1 hw1 => ?_⟩
  refine ⟨ρ, G1, _, rs.mono t1, rg1, hw1, fun vs G2 xs H2 t2 rg2 rv2 hw2 => ?_⟩
  exact hq _ _ _ _ (t1.trans t2) rg2 (.cons (RV.mono t2 _ _ rv1) rv2) hw2
def wTup (wl : WL) : WE := fun ρ G Q => wl ρ G fun vs G1 => vs.length ≤ sizeLine ∧ Q (.tup vs) G1
def wLst (wl : WL) : WE := fun ρ G Q => wl ρ G fun vs G1 => vs.length ≤ sizeLine ∧ ∀ p, G1 p = none → Q (.ref p) (pup G1 p (.lst vs))
theorem se_tup {k : Nat} (h : SL X es wl) : SE X (.Tuple es k pos) (wTup wl) := by
  refine PE.weak (pe_tup h) fun σ H Q h => ?_
  obtain ⟨ρ, G, QP, rs, rg, hw, hq⟩ := h
  refine ⟨ρ, G, _, rs, rg, hw, fun vs G1 xs H1 t1 rg1 rv1 hw1 => ?_⟩
  refine ⟨by rw [← rv1.length]; exact hw1.1, fun p hp => ?_⟩
  have tp : TupLe X.K H1 (upd H1 p (.tup xs)) := .new hp
  exact hq _ _ _ _ (t1.trans tp) (rg1.skip hp) (RV.tup_of (.of upd_same) (rv1.mono tp)) hw1.2
theorem se_lst (h : SL X es wl) : SE X (.List es pos) (wLst wl) := by
  refine PE.weak (pe_lst h) fun σ H Q h => ?_
  obtain ⟨ρ, G, QP, rs, rg, hw, hq⟩ := h
  refine ⟨ρ, G, _, rs, rg, hw, fun vs G1 xs H1 t1 rg1 rv1 hw1 => ?_⟩
  refine ⟨by rw [← rv1.length]; exact hw1.1, fun p hp => ?_⟩
  have tp : TupLe X.K H1 (upd H1 p (.lst xs)) := .new hp
  exact hq _ _ _ _ (t1.trans tp) (rg1.new (u := .lst vs) hp ⟨xs, upd_same, rv1.mono tp⟩) (RV.refI p) (hw1.2 p (rg1.fresh hp))
/-! ### operators by values -/
/-- what a two-place operation on values asks -/
abbrev W2 := PV → PV → PG → WK → Prop
def rW (Z : Ky) (r : W2) : R2 := fun x y H Q => ∃ v1 v2 G QP, RV Z.K H v1 x ∧ RV Z.K H v2 y ∧ RG Z G H ∧ r v1 v2 G QP ∧ ∀ v G' z H', TupLe Z.K H H' → RG Z G' H' → RV Z.K H' v z → QP v G' → Q z H'
def w2 (r : W2) (wa wb : WE) : WE := fun ρ G Q => wa ρ G fun x G1 => wb ρ G1 fun y G2 => r x y G2 Q
theorem tW2 {r : W2} {σ : St} {H : Hp} {Q : VK} (h : tW X.ky (w2 r wa wb) σ H Q) : tW X.ky wa σ H fun x H1 => tW X.ky wb σ H1 fun y H2 => rW X.ky r x y H2 Q := by
  obtain ⟨ρ, G, QP, rs, rg, hw, hq⟩ := h
  refine ⟨ρ, G, _, rs, rg, hw, fun v G1 x H1 t1 rg1 rv1 hw1 => ?_⟩
  refine ⟨ρ, G1, _, rs.mono t1, rg1, hw1, fun u G2 y H2 t2 rg2 rv2 hw2 => ?_⟩
  exact ⟨v, u, G2, QP, RV.mono t2 _ _ rv1, rv2, rg2, hw2, fun z G' zx H' t3 rg3 rv3 q3 => hq _ _ _ _ ((t1.trans t2).trans t3) rg3 rv3 q3⟩
theorem se_bin {op : Operator} {r : W2} (ho : OpR X (binaryOp op) (rW X.ky r)) (ha : SE X a wa) (hb : SE X b wb) : SE X (.BinOp a op b pos) (w2 r wa wb) :=
  PE.weak (pe_op ho ha hb) fun σ H Q h => tW2 h
theorem se_cmp {op : CmpOp} {r : W2} (ho : OpR X (compareOp op) (rW X.ky r)) (ha : SE X a wa) (hb : SE X b wb) (hm : behindInMarks op b = false) : SE X (.Compare a [op] [b] pos) (w2 r wa wb) :=
  PE.weak (pe_cmpR ho ha hb hm) fun σ H Q h => tW2 h
def w3 (r r' : W2) (wa wb wc : WE) : WE := fun ρ G Q => wa ρ G fun x G1 => wb ρ G1 fun y G2 => r x y G2 fun z G3 => match z with
  | .bl true => wc ρ G3 fun u G4 => r' y u G4 Q
  | .bl false => Q (.bl false) G3
  | _ => False
theorem se_chain {op op' : CmpOp} {r r' : W2} (ho : OpR X (compareOp op) (rW X.ky r)) (ho' : OpR X (compareOp op') (rW X.ky r')) (ha : SE X a wa) (hb : SE X b wb) (hc : SE X c wc) (hm : lastMarks [op, op'] [b, c] = false) :
    SE X (.Compare a [op, op'] [b, c] pos) (w3 r r' wa wb wc) := by
  refine PE.weak (pe_chain ho ho' ha hb hc hm) fun σ H Q h => ?_
  obtain ⟨ρ, G, QP, rs, rg, hw, hq⟩ := h
  refine ⟨ρ, G, _, rs, rg, hw, fun v G1 x H1 t1 rg1 rv1 hw1 => ?_⟩
  refine ⟨ρ, G1, _, rs.mono t1, rg1, hw1, fun u G2 y H2 t2 rg2 rv2 hw2 => ?_⟩
  refine ⟨v, u, G2, _, RV.mono t2 _ _ rv1, rv2, rg2, hw2, fun z G3 zx H3 t3 rg3 rv3 q3 => ?_⟩
  cases z with
  | bl k =>
    rw [RV] at rv3; subst rv3
    refine ⟨k, rfl, ?_⟩
    cases k with
    | true =>
      refine ifT ?_
      refine ⟨ρ, G3, _, rs.mono ((t1.trans t2).trans t3), rg3, q3, fun u' G4 y' H4 t4 rg4 rv4 hw4 => ?_⟩
      exact ⟨u, u', G4, QP, RV.mono (t3.trans t4) _ _ rv2, rv4, rg4, hw4, fun z5 G5 zx5 H5 t5 rg5 rv5 q5 => hq _ _ _ _ ((((t1.trans t2).trans t3).trans t4).trans t5) rg5 rv5 q5⟩
    | false => refine ifF ?_; exact hq _ _ _ _ ((t1.trans t2).trans t3) rg3 (RV.blI false) q3
  | _ => exact q3.elim
/-! ### and, or, not, a if c else b -/
def wNot (w : WE) : WE := fun ρ G Q => w ρ G fun v G1 => match tru v G1 with | some b => Q (.bl (!b)) G1 | none => False
def wAnd (wa wb : WE) : WE := fun ρ G Q => wa ρ G fun v G1 => match tru v G1 with | some true => wb ρ G1 Q | some false => Q v G1 | none => False
def wOr (wa wb : WE) : WE := fun ρ G Q => wa ρ G fun v G1 => match tru v G1 with | some true => Q v G1 | some false => wb ρ G1 Q | none => False
def wIf (wc wa wb : WE) : WE := fun ρ G Q => wc ρ G fun v G1 => match tru v G1 with | some true => wa ρ G1 Q | some false => wb ρ G1 Q | none => False
theorem se_not (ha : SE X a wa) : SE X (.UnaryOp .Not a pos) (wNot wa) := by
  refine PE.weak (pe_notT ha) fun σ H Q h => ?_
  obtain ⟨ρ, G, QP, rs, rg, hw, hq⟩ := h
  refine ⟨ρ, G, _, rs, rg, hw, fun v G1 x H1 t1 rg1 rv1 hw1 => ?_⟩
  split at hw1
  · rename_i b hb
    exact ⟨b, Cl.tru_ok rg1 rv1 hb, hq _ _ _ _ t1 rg1 (RV.blI _) hw1⟩
  · exact hw1.elim
theorem se_and {rest : List Expr} (ha : SE X a wa) (hb : SE X (.BoolOp .And (b :: rest) pos) wb) : SE X (.BoolOp .And (a :: b :: rest) pos) (wAnd wa wb) := by
  refine PE.weak (pe_andT ha hb) fun σ H Q h => ?_
  obtain ⟨ρ, G, QP, rs, rg, hw, hq⟩ := h
  refine ⟨ρ, G, _, rs, rg, hw, fun v G1 x H1 t1 rg1 rv1 hw1 => ?_⟩
  split at hw1
  · rename_i hb
    refine ⟨true, Cl.tru_ok rg1 rv1 hb, ?_⟩
    refine ifT ?_
    exact ⟨ρ, G1, _, rs.mono t1, rg1, hw1, fun u G2 y H2 t2 rg2 rv2 hw2 => hq _ _ _ _ (t1.trans t2) rg2 rv2 hw2⟩
  · rename_i hb
    refine ⟨false, Cl.tru_ok rg1 rv1 hb, ?_⟩
    refine ifF ?_
    exact hq _ _ _ _ t1 rg1 rv1 hw1
  · exact hw1.elim
theorem se_or {rest : List Expr} (ha : SE X a wa) (hb : SE X (.BoolOp .Or (b :: rest) pos) wb) : SE X (.BoolOp .Or (a :: b :: rest) pos) (wOr wa wb) := by
  refine PE.weak (pe_orT ha hb) fun σ H Q h => ?_
  obtain ⟨ρ, G, QP, rs, rg, hw, hq⟩ := h
  refine ⟨ρ, G, _, rs, rg, hw, fun v G1 x H1 t1 rg1 rv1 hw1 => ?_⟩
  split at hw1
  · rename_i hb
    refine ⟨true, Cl.tru_ok rg1 rv1 hb, ?_⟩
    refine ifT ?_
    exact hq _ _ _ _ t1 rg1 rv1 hw1
  · rename_i hb
    refine ⟨false, Cl.tru_ok rg1 rv1 hb, ?_⟩
    refine ifF ?_
    exact ⟨ρ, G1, _, rs.mono t1, rg1, hw1, fun u G2 y H2 t2 rg2 rv2 hw2 => hq _ _ _ _ (t1.trans t2) rg2 rv2 hw2⟩
  · exact hw1.elim
theorem se_one {op : BoolOp} (ha : SE X a wa) : SE X (.BoolOp op [a] pos) wa := pe_one ha
/-! tests -/
theorem st_val (h : SE X e w) (he : ∀ whole, isTrue e X.env whole = (do let v ← whole; standAt e.pos; holding [v] (truthy v))) : ST X e w := by
  refine PT.weak (pt_truth h he) fun σ H Q h => ?_
  obtain ⟨ρ, G, QP, rs, rg, hw, hq⟩ := h
  refine ⟨ρ, G, _, rs, rg, hw, fun v G1 x H1 t1 rg1 rv1 hw1 => ?_⟩
  obtain ⟨b, h1, h2⟩ := hq _ _ _ t1 rg1 hw1
  exact ⟨b, Cl.tru_ok rg1 rv1 h1, h2⟩
theorem st_not (ha : ST X a wa) : ST X (.UnaryOp .Not a pos) (wNot wa) := by
  refine PT.weak (pt_not ha) fun σ H Q h => ?_
  obtain ⟨ρ, G, QP, rs, rg, hw, hq⟩ := h
  refine ⟨ρ, G, _, rs, rg, hw, fun v G1 H1 t1 rg1 hw1 => ?_⟩
  split at hw1
  · rename_i b hb
    obtain ⟨b', h1, h2⟩ := hq _ _ _ t1 rg1 hw1
    cases h1
    exact ⟨b, hb, h2⟩
  · exact hw1.elim
abbrev SW (X : Cx) (e : Expr) (w : WE) : Prop := PW X e (tWT X.ky w)
theorem PW.weak {t t' : TT} (h : PW X e t) (i : ∀ σ H Q, t' σ H Q → t σ H Q) : PW X e t' := ⟨fun whole pins s σ H Q I q => h.run whole pins s σ H Q I (i σ H Q q)⟩
theorem sw_and1 (ha : ST X a wa) : SW X (.BoolOp .And [a] pos) wa := pw_and1 ha
theorem sw_or1 (ha : ST X a wa) : SW X (.BoolOp .Or [a] pos) wa := pw_or1 ha
theorem sw_and {rest : List Expr} (ha : ST X a wa) (hb : SW X (.BoolOp .And (b :: rest) pos) wb) : SW X (.BoolOp .And (a :: b :: rest) pos) (wAnd wa wb) := by
  refine PW.weak (pw_and ha hb) fun σ H Q h => ?_
  obtain ⟨ρ, G, QP, rs, rg, hw, hq⟩ := h
  refine ⟨ρ, G, _, rs, rg, hw, fun v G1 H1 t1 rg1 hw1 => ?_⟩
  split at hw1
  · rename_i hb
    refine ⟨true, hb, ?_⟩
    refine ifT ?_
    exact ⟨ρ, G1, _, rs.mono t1, rg1, hw1, fun u G2 H2 t2 rg2 hw2 => hq _ _ _ (t1.trans t2) rg2 hw2⟩
  · rename_i hb
    refine ⟨false, hb, ?_⟩
    refine ifF ?_
    obtain ⟨b', h1, h2⟩ := hq _ _ _ t1 rg1 hw1
    rw [hb] at h1; cases h1
    exact h2
  · exact hw1.elim
theorem sw_or {rest : List Expr} (ha : ST X a wa) (hb : SW X (.BoolOp .Or (b :: rest) pos) wb) : SW X (.BoolOp .Or (a :: b :: rest) pos) (wOr wa wb) := by
  refine PW.weak (pw_or ha hb) fun σ H Q h => ?_
  obtain ⟨ρ, G, QP, rs, rg, hw, hq⟩ := h
  refine ⟨ρ, G, _, rs, rg, hw, fun v G1 H1 t1 rg1 hw1 => ?_⟩
  split at hw1
  · rename_i hb
    refine ⟨true, hb, ?_⟩
    refine ifT ?_
    obtain ⟨b', h1, h2⟩ := hq _ _ _ t1 rg1 hw1
    rw [hb] at h1; cases h1
    exact h2
  · rename_i hb
    refine ⟨false, hb, ?_⟩
    refine ifF ?_
    exact ⟨ρ, G1, _, rs.mono t1, rg1, hw1, fun u G2 H2 t2 rg2 hw2 => hq _ _ _ (t1.trans t2) rg2 hw2⟩
  · exact hw1.elim
theorem se_if (hc : ST X c wc) (ha : SE X a wa) (hb : SE X b wb) : SE X (.IfExp c a b pos) (wIf wc wa wb) := by
  refine PE.weak (pe_ifExp hc ha hb) fun σ H Q h => ?_
  obtain ⟨ρ, G, QP, rs, rg, hw, hq⟩ := h
  refine ⟨ρ, G, _, rs, rg, hw, fun v G1 H1 t1 rg1 hw1 => ?_⟩
  split at hw1
  · rename_i hb
    refine ⟨true, hb, ?_⟩
    refine ifT ?_
    exact ⟨ρ, G1, _, rs.mono t1, rg1, hw1, fun u G2 y H2 t2 rg2 rv2 hw2 => hq _ _ _ _ (t1.trans t2) rg2 rv2 hw2⟩
  · rename_i hb
    refine ⟨false, hb, ?_⟩
    refine ifF ?_
    exact ⟨ρ, G1, _, rs.mono t1, rg1, hw1, fun u G2 y H2 t2 rg2 rv2 hw2 => hq _ _ _ _ (t1.trans t2) rg2 rv2 hw2⟩
  · exact hw1.elim
end
end Cl
set_option Elab.async false
set_option linter.all false
set_option maxRecDepth 100000
set_option maxHeartbeats 4000000
/-! The clean layer, part C: operators, comparisons, subscripts by values. -/
namespace Cl
open PySem PySem.Spec PyProof.Rows L2
/-! ### arithmetic and + of sequences -/
def wBin : Operator → W2
  | .Add, .int i, .int j, G, Q => Q (.int (i + j)) G
  | .Add, .str x, .str y, G, Q => x.length + y.length ≤ sizeLine ∧ Q (.str (x ++ y)) G
  | .Add, .tup xs, .tup ys, G, Q => xs ≠ [] ∧ xs.length + ys.length ≤ sizeLine ∧ Q (.tup (xs ++ ys)) G
  | .Add, .ref a, .ref b, G, Q => ∃ xs ys, G a = some (.lst xs) ∧ G b = some (.lst ys) ∧ xs.length + ys.length ≤ sizeLine ∧ ∀ p, G p = none → Q (.ref p) (pup G p (.lst (xs ++ ys)))
  | .Sub, .int i, .int j, G, Q => Q (.int (i - j)) G
  | .Mult, .int i, .int j, G, Q => (CMulW i j ∨ CMul i j) ∧ Q (.int (i * j)) G
  | .Mult, .ref a, .int k, G, Q => ∃ xs, G a = some (.lst xs) ∧ -(2 ^ 63) ≤ k ∧ k < 2 ^ 63 ∧ xs.length * k.toNat ≤ sizeLine ∧ ∀ p, G p = none → Q (.ref p) (pup G p (.lst (List.replicate k.toNat xs).flatten))
  | .FloorDiv, .int i, .int j, G, Q => CDivW i j ∧ Q (.int (i / j)) G
  | .Mod, .int i, .int j, G, Q => 0 < j ∧ Q (.int (i % j)) G
  | .Pow, .int i, .int j, G, Q => CPow i j ∧ Q (.int (i ^ j.toNat)) G
  | _, _, _, _, _ => False
section
variable {X : Cx}
theorem op_bin (op : Operator) : OpR X (binaryOp op) (rW X.ky (wBin op)) := by
  intro pins s σ H x y v u Q I rx ry h
  obtain ⟨v1, v2, G, QP, r1, r2, rg, hw, hq⟩ := h
  unfold wBin at hw
  split at hw
  · rw [RV] at r1; rw [RV] at r2; subst r1; subst r2
    exact op_add pins s σ H _ _ v u Q I rx ry ⟨_, _, rfl, rfl, hq _ _ _ _ .refl rg (RV.intI _) hw⟩
  · rw [RV] at r1; rw [RV] at r2; subst r1; subst r2
    exact op_add_str pins s σ H _ _ v u Q I rx ry ⟨_, _, rfl, rfl, hw.1, hq _ _ _ _ .refl rg (RV.strI _) hw.2⟩
  · obtain ⟨a, xs, rfl, h1, h2⟩ := r1.tup
    obtain ⟨b, ys, rfl, h3, h4⟩ := r2.tup
    obtain ⟨n1, n2, n3⟩ := hw
    refine op_catT pins s σ H _ _ v u Q I rx ry ⟨a, b, xs, ys, rfl, rfl, h1, h3, ?_, ?_, ?_, ?_⟩
    · intro e; subst e; exact n1 (List.eq_nil_of_length_eq_zero h2.length)
    · rw [← h2.length, ← h4.length]; exact n2
    · intro e; subst e
      have e2 := List.eq_nil_of_length_eq_zero h4.length
      subst e2
      rw [List.append_nil] at n3
      exact hq _ _ _ _ .refl rg (RV.tup_of h1 h2) n3
    · intro _ p hp
      have tp : TupLe X.K H (upd H p (.tup (xs ++ ys))) := .new hp
      exact hq _ _ _ _ tp (rg.skip hp) (RV.tup_of (.of upd_same) ((h2.append h4).mono tp)) n3
  · rw [RV] at r1; rw [RV] at r2; subst r1; subst r2
    obtain ⟨vs, ws, ga, gb, hl, hp⟩ := hw
    obtain ⟨xs, h1, h2⟩ := rg _ _ ga
    obtain ⟨ys, h3, h4⟩ := rg _ _ gb
    refine op_cat pins s σ H _ _ v u Q I rx ry ⟨_, _, xs, ys, rfl, rfl, h1, h3, ?_, fun p hp' => ?_⟩
    · rw [← h2.length, ← h4.length]; exact hl
    · exact hq _ _ _ _ (.new hp') (rg.newL hp' (h2.append h4)) (RV.refI p) (hp p (rg.fresh hp'))
  · rw [RV] at r1; rw [RV] at r2; subst r1; subst r2
    exact op_sub pins s σ H _ _ v u Q I rx ry ⟨_, _, rfl, rfl, hq _ _ _ _ .refl rg (RV.intI _) hw⟩
  · rw [RV] at r1; rw [RV] at r2; subst r1; subst r2
    rcases hw.1 with hm | hm
    · exact op_mulW pins s σ H _ _ v u Q I rx ry ⟨_, _, rfl, rfl, hm, hq _ _ _ _ .refl rg (RV.intI _) hw.2⟩
    · exact op_mul pins s σ H _ _ v u Q I rx ry ⟨_, _, rfl, rfl, hm, hq _ _ _ _ .refl rg (RV.intI _) hw.2⟩
  · rw [RV] at r1; rw [RV] at r2; subst r1; subst r2
    obtain ⟨vs, ga, k1, k2, hl, hp⟩ := hw
    obtain ⟨xs, h1, h2⟩ := rg _ _ ga
    refine op_rep pins s σ H _ _ v u Q I rx ry ⟨_, _, xs, rfl, rfl, h1, k1, k2, by rw [← h2.length]; exact hl, fun p hp' => ?_⟩
    exact hq _ _ _ _ (.new hp') (rg.newL hp' (h2.flat _)) (RV.refI p) (hp p (rg.fresh hp'))
  · rw [RV] at r1; rw [RV] at r2; subst r1; subst r2
    exact op_fdivW pins s σ H _ _ v u Q I rx ry ⟨_, _, rfl, rfl, hw.1, hq _ _ _ _ .refl rg (RV.intI _) hw.2⟩
  · rw [RV] at r1; rw [RV] at r2; subst r1; subst r2
    exact op_mod pins s σ H _ _ v u Q I rx ry ⟨_, _, rfl, rfl, hw.1, hq _ _ _ _ .refl rg (RV.intI _) hw.2⟩
  · rw [RV] at r1; rw [RV] at r2; subst r1; subst r2
    exact op_pow pins s σ H _ _ v u Q I rx ry ⟨_, _, rfl, rfl, hw.1, hq _ _ _ _ .refl rg (RV.intI _) hw.2⟩
  · exact hw.elim
end
/-! ### data, for == and != -/
/-- the data that a value is; lists are looked up n deep -/
def dat (G : PG) : Nat → PV → Option PyData
  | 0, _ => none
  | _ + 1, .non => some .none
  | _ + 1, .bl b => some (.bool b)
  | _ + 1, .int i => some (.int i)
  | _ + 1, .str x => some (.str x)
  | n + 1, .tup xs => (xs.mapM (dat G n)).map .tuple
  | n + 1, .rl xs => (xs.mapM (dat G n)).map .list
  | n + 1, .ref a => match G a with
    | some (.lst xs) => (xs.mapM (dat G n)).map .list
    | _ => none
theorem dats_ok {K : Frag} {H : Hp} {f : PV → Option PyData} (hf : ∀ v x d, RV K H v x → f v = some d → Dp K H x d) : ∀ (vs : List PV) (xs : List V) (ds : List PyData), RVs K H vs xs → vs.mapM f = some ds → DpAll K H xs ds
  | [], xs, ds, r, h => by
    rw [RVs] at r; subst r
    simp at h; subst h; exact .nil
  | v :: vs, xs, ds, r, h => by
    obtain ⟨x, r', rfl, a, b⟩ := r.invc
    rw [List.mapM_cons] at h
    cases e : f v with
    | none => rw [e] at h; cases h
    | some d =>
      rw [e] at h
      cases e2 : vs.mapM f with
      | none => rw [e2] at h; cases h
      | some ds' =>
        rw [e2] at h
        cases h
        exact .cons (hf v x d a e) (dats_ok hf vs r' ds' b e2)
theorem dat_ok {Z : Ky} {G : PG} {H : Hp} (rg : RG Z G H) : ∀ (n : Nat) (v : PV) (x : V) (d : PyData), RV Z.K H v x → dat G n v = some d → Dp Z.K H x d
  | 0, _, _, _, _, h => by cases h
  | n + 1, .non, x, d, r, h => by rw [RV] at r; subst r; cases h; exact .non
  | n + 1, .bl b, x, d, r, h => by rw [RV] at r; subst r; cases h; exact .bl b
  | n + 1, .int i, x, d, r, h => by rw [RV] at r; subst r; cases h; exact .int i
  | n + 1, .str i, x, d, r, h => by rw [RV] at r; subst r; cases h; exact .str i
  | n + 1, .tup vs, x, d, r, h => by
    obtain ⟨a, xs, rfl, h1, h2⟩ := r.tup
    rw [dat] at h
    cases e : vs.mapM (dat G n) with
    | none => rw [e] at h; cases h
    | some ds => rw [e] at h; cases h; exact .tup h1 (dats_ok (fun v x d => dat_ok rg n v x d) vs xs ds h2 e)
  | n + 1, .rl vs, x, d, r, h => by
    rw [RV] at r
    obtain ⟨a, xs, rfl, h1, h2⟩ := r
    rw [dat] at h
    cases e : vs.mapM (dat G n) with
    | none => rw [e] at h; cases h
    | some ds => rw [e] at h; cases h; exact .lst h1.sq (dats_ok (fun v x d => dat_ok rg n v x d) vs xs ds h2 e)
  | n + 1, .ref a, x, d, r, h => by
    rw [RV] at r; subst r
    rw [dat] at h
    split at h
    · rename_i vs ga
      obtain ⟨xs, h1, h2⟩ := rg _ _ ga
      cases e : vs.mapM (dat G n) with
      | none => rw [e] at h; cases h
      | some ds => rw [e] at h; cases h; exact .lst (.of h1) (dats_ok (fun v x d => dat_ok rg n v x d) vs xs ds h2 e)
    · cases h
/-- how deep lists in lists are looked up -/
def datN : Nat := 12
end Cl
set_option Elab.async false
set_option linter.all false
set_option maxRecDepth 100000
set_option maxHeartbeats 4000000
/-! The clean layer, part D: dicts with tuple keys; comparisons, subscripts, isinstance by values. -/
namespace Cl
open PySem PySem.Spec PyProof.Rows L2
/-! ### keys -/
mutual
def nk : PV → Option NestedKey
  | .non => some .none
  | .int i => some (.num i)
  | .str x => some (.text x)
  | .tup xs => match nks xs with | some ks => some (.tup ks) | none => none
  | .bl _ => none
  | .ref _ => none
  | .rl _ => none
def nks : List PV → Option (List NestedKey)
  | [] => some []
  | v :: vs => match nk v, nks vs with | some k, some ks => some (k :: ks) | _, _ => none
end
mutual
theorem nk_ok {K : Frag} {H : Hp} : ∀ (v : PV) (x : V) (k : NestedKey), RV K H v x → nk v = some k → NKV K H k x
  | .non, x, k, r, h => by rw [RV] at r; subst r; rw [nk] at h; cases h; rw [NKV]
  | .int i, x, k, r, h => by rw [RV] at r; subst r; rw [nk] at h; cases h; rw [NKV]
  | .str i, x, k, r, h => by rw [RV] at r; subst r; rw [nk] at h; cases h; rw [NKV]
  | .tup vs, x, k, r, h => by
    obtain ⟨a, xs, rfl, h1, h2⟩ := r.tup
    rw [nk] at h
    cases e : nks vs with
    | none => rw [e] at h; cases h
    | some ks => rw [e] at h; cases h; rw [NKV]; exact ⟨a, xs, rfl, h1, nks_ok vs xs ks h2 e⟩
  | .bl _, x, k, r, h => by rw [nk] at h; cases h
  | .ref _, x, k, r, h => by rw [nk] at h; cases h
  | .rl _, x, k, r, h => by rw [nk] at h; cases h
theorem nks_ok {K : Frag} {H : Hp} : ∀ (vs : List PV) (xs : List V) (ks : List NestedKey), RVs K H vs xs → nks vs = some ks → NKVs K H ks xs
  | [], xs, ks, r, h => by rw [RVs] at r; subst r; rw [nks] at h; cases h; rw [NKVs]
  | v :: vs, xs, ks, r, h => by
    obtain ⟨x, r', rfl, a, b⟩ := r.invc
    rw [nks] at h
    cases e1 : nk v with
    | none => rw [e1] at h; cases h
    | some k =>
      cases e2 : nks vs with
      | none => rw [e1, e2] at h; cases h
      | some ks' => rw [e1, e2] at h; cases h; rw [NKVs]; exact ⟨x, r', rfl, nk_ok v x k a e1, nks_ok vs r' ks' b e2⟩
end
mutual
theorem key_is {X : Cx} {pins : List (Addr × Obj)} {σ : St} {H : Hp} {s : Shared} (I : Inv X pins σ H s) : ∀ (k : NestedKey) (x : V) (u : Value), NKV X.K H k x → RelV x u → NestedIs s.heap k u
  | .none, x, u, n, r => by rw [NKV] at n; subst n; cases r; exact .none
  | .num i, x, u, n, r => by rw [NKV] at n; subst n; obtain ⟨t, rfl⟩ := r; exact .int _ _
  | .text i, x, u, n, r => by rw [NKV] at n; subst n; obtain ⟨t, rfl⟩ := r; exact .text _ _
  | .tup ks, x, u, n, r => by
    rw [NKV] at n
    obtain ⟨a, ys, rfl, h1, h2⟩ := n
    cases (show u = Value.ref a from r)
    obtain ⟨its, rr, ⟨o, e1, e2, m, e3⟩, _⟩ := I.tuple h1
    exact .tup e1 e2 e3 (by simpa using keys_are I ks ys its h2 rr)
theorem keys_are {X : Cx} {pins : List (Addr × Obj)} {σ : St} {H : Hp} {s : Shared} (I : Inv X pins σ H s) : ∀ (ks : List NestedKey) (xs : List V) (us : List Value), NKVs X.K H ks xs → Vals xs us → NestedAll s.heap ks us
  | [], xs, us, n, r => by rw [NKVs] at n; subst n; cases r; exact .nil
  | k :: ks, xs, us, n, r => by
    rw [NKVs] at n
    obtain ⟨x, r', rfl, a, b⟩ := n
    cases r with
    | cons r1 r2 => exact .cons (key_is I k x _ a r1) (keys_are I ks r' _ b r2)
end
/-! ### tables -/
def dLook {κ : Type} [DecidableEq κ] (kvs : List (κ × PV)) (k : κ) : Option PV := (kvs.find? fun p => decide (p.1 = k)).map (·.2)
def dPut {κ : Type} [DecidableEq κ] (kvs : List (κ × PV)) (k : κ) (v : PV) : List (κ × PV) :=
  if (dLook kvs k).isSome then kvs.map (fun p => if p.1 = k then (p.1, v) else p) else kvs ++ [(k, v)]
theorem RX.look {K : Frag} {H : Hp} {k : NestedKey} : ∀ {kvs : List (NestedKey × PV)} {xs : List (NestedKey × Addr × Value)}, RX K H kvs xs →
    (∀ v, dLook kvs k = some v → ∃ q u x, atKey xs k = some (q, u) ∧ RelV x u ∧ RV K H v x) ∧ (dLook kvs k = none → atKey xs k = none)
  | [], xs, r => by rw [RX] at r; subst r; exact ⟨fun v h => by simp [dLook] at h, fun _ => rfl⟩
  | p :: ps, xs, r => by
    rw [RX] at r
    obtain ⟨q, u, x, r', rfl, n, l, a, b⟩ := r
    by_cases e : p.1 = k
    · refine ⟨fun v h => ?_, fun h => ?_⟩
      · simp [dLook, e] at h; subst h
        exact ⟨q, u, x, by simp [atKey, e], l, a⟩
      · simp [dLook, e] at h
    · obtain ⟨h1, h2⟩ := RX.look b
      refine ⟨fun v h => ?_, fun h => ?_⟩
      · obtain ⟨q', u', x', h3, h4⟩ := h1 v (by simpa [dLook, e] using h)
        exact ⟨q', u', x', by simpa [atKey, e] using h3, h4⟩
      · have := h2 (by simpa [dLook, e] using h)
        simpa [atKey, e] using this
theorem RX.isSome {K : Frag} {H : Hp} {k : NestedKey} {kvs : List (NestedKey × PV)} {xs : List (NestedKey × Addr × Value)} (r : RX K H kvs xs) : (dLook kvs k).isSome = (atKey xs k).isSome := by
  obtain ⟨h1, h2⟩ := r.look (k := k)
  cases e : dLook kvs k with
  | none => rw [h2 e]; rfl
  | some v => obtain ⟨q, u, x, h3, _⟩ := h1 v e; rw [h3]; rfl
theorem RX.length {K : Frag} {H : Hp} : ∀ {kvs : List (NestedKey × PV)} {xs : List (NestedKey × Addr × Value)}, RX K H kvs xs → kvs.length = xs.length
  | [], xs, r => by rw [RX] at r; subst r; rfl
  | p :: ps, xs, r => by
    rw [RX] at r
    obtain ⟨q, u, x, r', rfl, n, l, a, b⟩ := r
    simp [RX.length b]
theorem RX.snoc {K : Frag} {H : Hp} {k : NestedKey} {v : PV} {q : Addr} {u : Value} {x : V} (n : NKV K H k (.ref q)) (l : RelV x u) (a : RV K H v x) : ∀ {kvs : List (NestedKey × PV)} {xs : List (NestedKey × Addr × Value)}, RX K H kvs xs → RX K H (kvs ++ [(k, v)]) (xs ++ [(k, q, u)])
  | [], xs, r => by rw [RX] at r; subst r; rw [List.nil_append, RX]; exact ⟨q, u, x, [], rfl, n, l, a, by rw [RX]⟩
  | p :: ps, xs, r => by
    rw [RX] at r
    obtain ⟨q', u', x', r', rfl, n', l', a', b'⟩ := r
    rw [List.cons_append, RX]
    exact ⟨q', u', x', _, rfl, n', l', a', RX.snoc n l a b'⟩
theorem RX.repl {K : Frag} {H : Hp} {k : NestedKey} {v : PV} {u : Value} {x : V} (l : RelV x u) (a : RV K H v x) : ∀ {kvs : List (NestedKey × PV)} {xs : List (NestedKey × Addr × Value)}, RX K H kvs xs → RX K H (kvs.map fun p => if p.1 = k then (p.1, v) else p) (xs.map (putAt k u))
  | [], xs, r => by rw [RX] at r; subst r; simp [RX]
  | p :: ps, xs, r => by
    rw [RX] at r
    obtain ⟨q', u', x', r', rfl, n', l', a', b'⟩ := r
    have ih := RX.repl (k := k) l a b'
    by_cases e : p.1 = k
    · rw [List.map_cons, if_pos e, RX]
      exact ⟨q', u, x, _, by simp [putAt, e], n', l, a, ih⟩
    · rw [List.map_cons, if_neg e, RX]
      exact ⟨q', u', x', _, by simp [putAt, e], n', l', a', ih⟩
theorem RX.put {K : Frag} {H : Hp} {k : NestedKey} {v : PV} {q : Addr} {u : Value} {x : V} {kvs : List (NestedKey × PV)} {xs : List (NestedKey × Addr × Value)} (r : RX K H kvs xs) (n : NKV K H k (.ref q)) (l : RelV x u) (a : RV K H v x) :
    RX K H (dPut kvs k v) (storedH xs k q u) := by
  unfold dPut storedH
  rw [r.isSome]
  split
  · exact r.repl l a
  · exact r.snoc n l a
theorem dPut_length {κ : Type} [DecidableEq κ] (kvs : List (κ × PV)) (k : κ) (v : PV) : (dPut kvs k v).length ≤ kvs.length + 1 := by
  unfold dPut; split <;> simp
theorem shallow.put {kvs : List (NestedKey × PV)} {k : NestedKey} {v : PV} (h : shallow kvs) (hk : k.depth ≤ 8) : shallow (dPut kvs k v) := by
  intro p hp
  unfold dPut at hp
  split at hp
  · obtain ⟨q, hq, e⟩ := List.mem_map.mp hp
    have := h q hq
    split at e <;> (subst e; exact this)
  · rcases List.mem_append.mp hp with hp | hp
    · exact h p hp
    · simp at hp; subst hp; exact hk
/-! ### the dict's object -/
section
variable {X : Cx} {pins : List (Addr × Obj)} {σ : St} {H : Hp} {s : Shared} {a : Addr} {xs : List (NestedKey × Addr × Value)} {kvs : List (NestedKey × PV)}
theorem RX.all {K : Frag} : ∀ {kvs : List (NestedKey × PV)} {xs : List (NestedKey × Addr × Value)}, RX K H kvs xs → ∀ x ∈ xs, NKV K H x.1 (.ref x.2.1) ∧ x.1 ∈ kvs.map (·.1)
  | [], xs, r, x, hx => by rw [RX] at r; subst r; cases hx
  | p :: ps, xs, r, x, hx => by
    rw [RX] at r
    obtain ⟨q', u', x', r', rfl, n', l', a', b'⟩ := r
    rcases List.mem_cons.mp hx with e | hx
    · subst e; exact ⟨n', by simp⟩
    · obtain ⟨h1, h2⟩ := RX.all b' x hx
      exact ⟨h1, by simp only [List.map_cons, List.mem_cons]; exact .inr h2⟩
/-- the dict stands there, may be while it is walked -/
def RdX (Z : Ky) (H : Hp) (a : Addr) (xs : List (NestedKey × Addr × Value)) : Prop := H a = some (dX Z a xs) ∨ ∃ o, H a = some (.frz o (dX Z a xs))
theorem RdX.has (I : Inv X pins σ H s) (e : RdX X.ky H a xs) : (a == sysModules) = false ∧ ∃ (o : Obj) (es : Array DictEntry) (ep : Nat), s.heap.get? a = some o ∧ o.ExactDict ∧ o.data = .dict es ep ∧ es.toList = xs.map (entryOfKey (nestedKind X.prog X.w)) ∧ (xs.map (·.1)).Nodup := by
  rcases e with e | ⟨o0, e⟩
  · exact (I.hok a _ e).1
  · exact (I.hok a _ e).2.1
theorem dX_of (I : Inv X pins σ H s) (e : RdX X.ky H a xs) (r : RX X.K H kvs xs) (sh : shallow kvs) : (a == sysModules) = false ∧ s.heap.DictOfH (nestedKind X.prog X.w) a xs := by
  obtain ⟨h1, o, es, ep, h2, h3, h4, h5, h6⟩ := e.has I
  refine ⟨h1, o, es, ep, h2, h3, h4, h5, fun x hx => ?_, h6⟩
  obtain ⟨n, m⟩ := r.all x hx
  obtain ⟨p, hp, e⟩ := List.mem_map.mp m
  exact ⟨key_is I _ _ _ n rfl, by rw [← e]; exact sh p hp⟩
theorem dX_ok {P : Program} {w : World} {K : Frag} {H' : Hp} {h' : Heap} (hd : (a == sysModules) = false) (d : h'.DictOfH (nestedKind P w) a xs) : ObjOk P w H' h' a (dX ⟨P, w, K⟩ a xs) := by
  obtain ⟨o, es, ep, h2, h3, h4, h5, h6, h7⟩ := d
  refine ⟨⟨hd, o, es, ep, h2, h3, h4, h5, h7⟩, ⟨o, h2⟩, fun h1 h2' ⟨g1, o', es', ep', g2, g3⟩ k => ⟨g1, o', es', ep', k _ g2, g3⟩⟩
theorem x_getItem {A : Around} {E : Value → Shared → Prop} {k : NestedKey} {v : PV} {q : Addr} {Q : Value → Shared → Prop} (hu : A.units + 9 < cLine) (I : Inv X pins σ H s) (e : RdX X.ky H a xs) (r : RX X.K H kvs xs) (sh : shallow kvs)
    (hk : NKV X.K H k (.ref q)) (hd : k.depth ≤ 8) (l : dLook kvs k = some v) (h : ∀ x u s', Inv X pins σ H s' → RelV x u → RV X.K H v x → Q u s') : wpAny (model X.prog X.w) A (getItem (.ref a) (.ref q)) Q E s := by
  obtain ⟨_, d⟩ := dX_of I e r sh
  obtain ⟨q', u, x, h1, h2, h3⟩ := r.look.1 v l
  exact wpAny_getItem_heap (knd := nestedKind X.prog X.w) (show A.units + 1 + 8 < cLine by omega) ⟨key_is I _ _ _ hk rfl, hd⟩ d h1 (h x u _ (I.tok _) h2 h3)
theorem x_in {A : Around} {E : Value → Shared → Prop} {k : NestedKey} {q : Addr} {Q : Value → Shared → Prop} (hu : A.units + 9 < cLine) (I : Inv X pins σ H s) (e : RdX X.ky H a xs) (r : RX X.K H kvs xs) (sh : shallow kvs)
    (hk : NKV X.K H k (.ref q)) (hd : k.depth ≤ 8) (h : ∀ s', Inv X pins σ H s' → Q (.bool (dLook kvs k).isSome) s') : wpAny (model X.prog X.w) A (compareOp .In (.ref q) (.ref a)) Q E s := by
  obtain ⟨hm, d⟩ := dX_of I e r sh
  refine wpAny_in_heap (knd := nestedKind X.prog X.w) (show A.units + 1 + 8 < cLine by omega) ⟨key_is I _ _ _ hk rfl, hd⟩ hm d ?_
  rw [← r.isSome]
  exact h _ (I.tok _)
theorem x_notIn {A : Around} {E : Value → Shared → Prop} {k : NestedKey} {q : Addr} {Q : Value → Shared → Prop} (hu : A.units + 9 < cLine) (I : Inv X pins σ H s) (e : RdX X.ky H a xs) (r : RX X.K H kvs xs) (sh : shallow kvs)
    (hk : NKV X.K H k (.ref q)) (hd : k.depth ≤ 8) (h : ∀ s', Inv X pins σ H s' → Q (.bool (!(dLook kvs k).isSome)) s') : wpAny (model X.prog X.w) A (compareOp .NotIn (.ref q) (.ref a)) Q E s := by
  obtain ⟨hm, d⟩ := dX_of I e r sh
  refine wpAny_notIn_heap (knd := nestedKind X.prog X.w) (show A.units + 1 + 8 < cLine by omega) ⟨key_is I _ _ _ hk rfl, hd⟩ hm d ?_
  rw [← r.isSome]
  exact h _ (I.tok _)
theorem x_setItem {A : Around} {E : Value → Shared → Prop} {k : NestedKey} {v : PV} {x : V} {u : Value} {q : Addr} {Q : Unit → Shared → Prop} (hu : A.units + 9 < cLine) (I : Inv X pins σ H s) (e : H a = some (dX X.ky a xs)) (r : RX X.K H kvs xs) (sh : shallow kvs) (hl : kvs.length < sizeLine)
    (hk : NKV X.K H k (.ref q)) (hd : k.depth ≤ 8) (rx : RelV x u) (rv : RV X.K H v x) (h : ∀ s', Inv X pins σ (upd H a (dX X.ky a (storedH xs k q u))) s' → Q () s') : wpAny (model X.prog X.w) A (setItem (.ref a) (.ref q) u) Q E s := by
  obtain ⟨hm, d⟩ := dX_of I (.inl e) r sh
  refine wpAny_setItem_heap (knd := nestedKind X.prog X.w) (hsz := by rw [← r.length]; omega) (show A.units + 1 + 8 < cLine by omega) ⟨key_is I _ _ _ hk rfl, hd⟩ d fun h' d' hs => h _ ?_
  refine d_write I (by rw [e]; exact True.intro) hs ?_ (dX_ok hm d')
  obtain ⟨o, _, _, h2, _⟩ := d'
  exact ⟨o, h2⟩
theorem x_get2 {A : Around} {E : Value → Shared → Prop} {k : NestedKey} {q : Addr} {dv : PV} {dx : V} {du : Value} {Q : Value → Shared → Prop} (hu : A.units + 9 < cLine) (I : Inv X pins σ H s) (e : RdX X.ky H a xs) (r : RX X.K H kvs xs) (sh : shallow kvs)
    (hk : NKV X.K H k (.ref q)) (hd : k.depth ≤ 8) (rx : RelV dx du) (rv : RV X.K H dv dx) (h : ∀ x u s', Inv X pins σ H s' → RelV x u → RV X.K H ((dLook kvs k).getD dv) x → Q u s') : wpAny (model X.prog X.w) A (call (.builtin "dict.get") [.ref a, .ref q, du]) Q E s := by
  obtain ⟨hm, d⟩ := dX_of I e r sh
  refine call_meetsIn PySem.F.slot_dict_get d.typeIs PySem.F.entry_dict_get (PySem.F.args_dict_get_3 _ _ _) (meetsH_dict_get_default (nestedKind X.prog X.w) a q hm du) ⟨(show A.units + 1 + 8 < cLine by omega), k, xs, ⟨key_is I _ _ _ hk rfl, hd⟩, d, ?_⟩
  cases l : dLook kvs k with
  | none => rw [r.look.2 l]; exact h dx du _ (I.tok _) rx (by rw [l]; exact rv)
  | some v =>
    obtain ⟨q', u, x, h1, h2, h3⟩ := r.look.1 v l
    rw [h1]; exact h x u _ (I.tok _) h2 (by rw [l]; exact h3)
end
end Cl
set_option Elab.async false
set_option linter.all false
set_option maxRecDepth 100000
set_option maxHeartbeats 4000000
/-! The clean layer, part E: comparisons, subscripts, stores by values. -/
namespace Cl
open PySem PySem.Spec PyProof.Rows L2
def isNon : PV → Bool | .non => true | _ => false
theorem isNon_ok {K : Frag} {H : Hp} {v : PV} {x : V} (r : RV K H v x) : decide (x = .non) = isNon v := by
  cases v with
  | tup vs => obtain ⟨a, xs, rfl, _⟩ := r.tup; rfl
  | rl vs => rw [RV] at r; obtain ⟨a, xs, rfl, _⟩ := r; rfl
  | _ => rw [RV] at r; subst r; rfl
/-- a key within a dict -/
def wIn (neg : Bool) (x : PV) (a : Addr) (G : PG) (Q : WK) : Prop :=
  match G a, x with
  | some (.dT kvs), .tup ks => match nks ks with
    | some ks => (NestedKey.tup ks).depth ≤ 8 ∧ Q (.bl (if neg then !(dLook kvs (.tup ks)).isSome else (dLook kvs (.tup ks)).isSome)) G
    | none => False
  | some (.fT kvs), .tup ks => match nks ks with
    | some ks => (NestedKey.tup ks).depth ≤ 8 ∧ Q (.bl (if neg then !(dLook kvs (.tup ks)).isSome else (dLook kvs (.tup ks)).isSome)) G
    | none => False
  | some (.dK kvs), .int i => Q (.bl (if neg then !(dLook kvs (.inl i)).isSome else (dLook kvs (.inl i)).isSome)) G
  | some (.dK kvs), .str i => Q (.bl (if neg then !(dLook kvs (.inr i)).isSome else (dLook kvs (.inr i)).isSome)) G
  | some (.lst xs), x => ∃ d ds, dat G datN x = some d ∧ xs.mapM (dat G datN) = some ds ∧ SeqAt.shaped d = true ∧ SeqAt.shaped (.list ds) = true ∧ Q (.bl (if neg then !ds.any fun z => PyData.eqv z d else ds.any fun z => PyData.eqv z d)) G
  | _, _ => False
def wCmp : CmpOp → W2
  | .Eq, x, y, G, Q => ∃ d e, dat G datN x = some d ∧ dat G datN y = some e ∧ SeqAt.shaped d = true ∧ SeqAt.shaped e = true ∧ Q (.bl (PyData.eqv d e)) G
  | .NotEq, x, y, G, Q => ∃ d e, dat G datN x = some d ∧ dat G datN y = some e ∧ SeqAt.shaped d = true ∧ SeqAt.shaped e = true ∧ Q (.bl (!PyData.eqv d e)) G
  | .Lt, .int i, .int j, G, Q => Q (.bl (decide (i < j))) G
  | .LtE, .int i, .int j, G, Q => Q (.bl (decide (i ≤ j))) G
  | .Gt, .int i, .int j, G, Q => Q (.bl (decide (j < i))) G
  | .GtE, .int i, .int j, G, Q => Q (.bl (decide (j ≤ i))) G
  | .Is, x, .non, G, Q => Q (.bl (isNon x)) G
  | .IsNot, x, .non, G, Q => Q (.bl (!isNon x)) G
  | .In, x, .ref a, G, Q => wIn false x a G Q
  | .NotIn, x, .ref a, G, Q => wIn true x a G Q
  | .In, x, .tup ys, G, Q => ∃ d ds, dat G datN x = some d ∧ ys.mapM (dat G datN) = some ds ∧ SeqAt.shaped d = true ∧ SeqAt.shaped (.tuple ds) = true ∧ Q (.bl (ds.any fun z => PyData.eqv z d)) G
  | .NotIn, x, .tup ys, G, Q => ∃ d ds, dat G datN x = some d ∧ ys.mapM (dat G datN) = some ds ∧ SeqAt.shaped d = true ∧ SeqAt.shaped (.tuple ds) = true ∧ Q (.bl (!ds.any fun z => PyData.eqv z d)) G
  | .Lt, .tup xs, .tup ys, G, Q => ∃ d e, dat G datN (.tup xs) = some d ∧ dat G datN (.tup ys) = some e ∧ PySem.W.alike d e = true ∧ d ≠ .none ∧ min d.depth e.depth ≤ 64 ∧ Q (.bl (PySem.W.dataLt d e)) G
  | .Gt, .tup xs, .tup ys, G, Q => ∃ d e, dat G datN (.tup xs) = some d ∧ dat G datN (.tup ys) = some e ∧ PySem.W.alike d e = true ∧ d ≠ .none ∧ min d.depth e.depth ≤ 64 ∧ Q (.bl (PySem.W.dataLt e d)) G
  | _, _, _, _, _ => False
theorem RK.look {κ : Type} [DecidableEq κ] {K : Frag} {H : Hp} {k : κ} : ∀ {kvs : List (κ × PV)} {xs : List (κ × V)}, RK K H kvs xs →
    (∀ v, dLook kvs k = some v → ∃ x, valV xs k = some x ∧ RV K H v x) ∧ (dLook kvs k = none → valV xs k = none)
  | [], xs, r => by rw [RK] at r; subst r; exact ⟨fun v h => by simp [dLook] at h, fun _ => rfl⟩
  | p :: ps, xs, r => by
    rw [RK] at r
    obtain ⟨x, r', rfl, a, b⟩ := r
    by_cases e : p.1 = k
    · refine ⟨fun v h => ?_, fun h => ?_⟩
      · simp [dLook, e] at h; subst h
        exact ⟨x, by simp [valV, e], a⟩
      · simp [dLook, e] at h
    · obtain ⟨h1, h2⟩ := RK.look b
      refine ⟨fun v h => ?_, fun h => ?_⟩
      · obtain ⟨x', h3, h4⟩ := h1 v (by simpa [dLook, e] using h)
        exact ⟨x', by simpa [valV, e] using h3, h4⟩
      · have := h2 (by simpa [dLook, e] using h)
        simpa [valV, e] using this
theorem RK.isSome {κ : Type} [DecidableEq κ] {K : Frag} {H : Hp} {k : κ} {kvs : List (κ × PV)} {xs : List (κ × V)} (r : RK K H kvs xs) : (valV xs k).isSome = (dLook kvs k).isSome := by
  obtain ⟨h1, h2⟩ := r.look (k := k)
  cases e : dLook kvs k with
  | none => rw [h2 e]; rfl
  | some v => obtain ⟨x, h3, _⟩ := h1 v e; rw [h3]; rfl
section
variable {X : Cx}
theorem op_in (neg : Bool) (hu : X.A.units + 200 < cLine) {pins : List (Addr × Obj)} {s : Shared} {σ : St} {H : Hp} {x : V} {v : Value} {pv : PV} {a : Addr} {Q : VK} {G : PG} {QP : WK} (I : Inv X pins σ H s) (rx : RelV x v) (r1 : RV X.K H pv x) (rg : RG X.ky G H)
    (hw : wIn neg pv a G QP) (hq : ∀ v G' z H', TupLe X.K H H' → RG X.ky G' H' → RV X.K H' v z → QP v G' → Q z H') :
    wpAny (model X.prog X.w) X.A (compareOp (if neg then .NotIn else .In) v (.ref a)) (EP X pins σ Q) X.xe s := by
  have fin : ∀ b s', Inv X pins σ H s' → QP (.bl b) G → EP X pins σ Q (.bool b) s' := fun b s' I' q => ⟨.bl b, H, I', rfl, hq _ _ _ _ .refl rg (RV.blI b) q⟩
  unfold wIn at hw
  split at hw
  · rename_i kvs ks ga
    split at hw
    · rename_i nks' e
      obtain ⟨b, ys, rfl, h1, h2⟩ := r1.tup
      cases (show v = Value.ref b from rx)
      obtain ⟨xs, g1, g2, g3⟩ := rg _ _ ga
      have hk : NKV X.K H (.tup nks') (.ref b) := nk_ok (.tup ks) _ _ (RV.tup_of h1 h2) (by rw [nk, e])
      cases neg with
      | true => exact x_notIn (by omega) I (.inl g1) g3 g2 hk hw.1 fun s' I' => fin _ s' I' hw.2
      | false => exact x_in (by omega) I (.inl g1) g3 g2 hk hw.1 fun s' I' => fin _ s' I' hw.2
    · exact hw.elim
  · rename_i kvs ks ga
    split at hw
    · rename_i nks' e
      obtain ⟨b, ys, rfl, h1, h2⟩ := r1.tup
      cases (show v = Value.ref b from rx)
      obtain ⟨o, xs, g1, g2, g3⟩ := rg _ _ ga
      have hk : NKV X.K H (.tup nks') (.ref b) := nk_ok (.tup ks) _ _ (RV.tup_of h1 h2) (by rw [nk, e])
      cases neg with
      | true => exact x_notIn (by omega) I (.inr ⟨o, g1⟩) g3 g2 hk hw.1 fun s' I' => fin _ s' I' hw.2
      | false => exact x_in (by omega) I (.inr ⟨o, g1⟩) g3 g2 hk hw.1 fun s' I' => fin _ s' I' hw.2
    · exact hw.elim
  · rename_i kvs i ga
    rw [RV] at r1; subst r1
    obtain ⟨xs, g1, g2⟩ := rg _ _ ga
    cases neg with
    | true => exact d_notIn (by omega) I (DGet.k (k := .inl i) g1) rx fun s' I' => fin _ s' I' (by rw [g2.isSome]; exact hw)
    | false => exact d_in (by omega) I (DGet.k (k := .inl i) g1) rx fun s' I' => fin _ s' I' (by rw [g2.isSome]; exact hw)
  · rename_i kvs i ga
    rw [RV] at r1; subst r1
    obtain ⟨xs, g1, g2⟩ := rg _ _ ga
    cases neg with
    | true => exact d_notIn (by omega) I (DGet.k (k := .inr i) g1) rx fun s' I' => fin _ s' I' (by rw [g2.isSome]; exact hw)
    | false => exact d_in (by omega) I (DGet.k (k := .inr i) g1) rx fun s' I' => fin _ s' I' (by rw [g2.isSome]; exact hw)
  · rename_i vs ga
    obtain ⟨xs, g1, g2⟩ := rg _ _ ga
    obtain ⟨d, ds, e1, e2, e3, e4, q⟩ := hw
    have p1 := dat_ok rg _ _ _ _ r1 e1
    have p2 : Dp X.K H (.ref a) (.list ds) := .lst (.of g1) (dats_ok (fun v x d => dat_ok rg _ v x d) vs xs ds g2 e2)
    cases neg with
    | true => exact op_notInD (by omega) pins s σ H _ _ v _ Q I rx (show RelV (.ref a) (.ref a) from rfl) ⟨d, ds, p1, p2, e3, e4, hq _ _ _ _ .refl rg (RV.blI _) q⟩
    | false => exact op_inD (by omega) pins s σ H _ _ v _ Q I rx (show RelV (.ref a) (.ref a) from rfl) ⟨d, ds, p1, p2, e3, e4, hq _ _ _ _ .refl rg (RV.blI _) q⟩
  · exact hw.elim
theorem op_cmp (hu : X.A.units + 200 < cLine) (op : CmpOp) : OpR X (compareOp op) (rW X.ky (wCmp op)) := by
  intro pins s σ H x y v u Q I rx ry h
  obtain ⟨v1, v2, G, QP, r1, r2, rg, hw, hq⟩ := h
  unfold wCmp at hw
  split at hw
  · obtain ⟨d, e, h1, h2, h3, h4, q⟩ := hw
    exact op_eqD (by omega) pins s σ H _ _ v u Q I rx ry ⟨d, e, dat_ok rg _ _ _ _ r1 h1, dat_ok rg _ _ _ _ r2 h2, h3, h4, hq _ _ _ _ .refl rg (RV.blI _) q⟩
  · obtain ⟨d, e, h1, h2, h3, h4, q⟩ := hw
    exact op_neD (by omega) pins s σ H _ _ v u Q I rx ry ⟨d, e, dat_ok rg _ _ _ _ r1 h1, dat_ok rg _ _ _ _ r2 h2, h3, h4, hq _ _ _ _ .refl rg (RV.blI _) q⟩
  · rw [RV] at r1; rw [RV] at r2; subst r1; subst r2
    exact op_lt pins s σ H _ _ v u Q I rx ry ⟨_, _, rfl, rfl, hq _ _ _ _ .refl rg (RV.blI _) hw⟩
  · rw [RV] at r1; rw [RV] at r2; subst r1; subst r2
    exact op_le pins s σ H _ _ v u Q I rx ry ⟨_, _, rfl, rfl, hq _ _ _ _ .refl rg (RV.blI _) hw⟩
  · rw [RV] at r1; rw [RV] at r2; subst r1; subst r2
    exact op_gt pins s σ H _ _ v u Q I rx ry ⟨_, _, rfl, rfl, hq _ _ _ _ .refl rg (RV.blI _) hw⟩
  · rw [RV] at r1; rw [RV] at r2; subst r1; subst r2
    exact op_ge pins s σ H _ _ v u Q I rx ry ⟨_, _, rfl, rfl, hq _ _ _ _ .refl rg (RV.blI _) hw⟩
  · rw [RV] at r2; subst r2
    exact op_isN pins s σ H _ _ v u Q I rx ry ⟨rfl, by rw [isNon_ok r1]; exact hq _ _ _ _ .refl rg (RV.blI _) hw⟩
  · rw [RV] at r2; subst r2
    exact op_notN pins s σ H _ _ v u Q I rx ry ⟨rfl, by rw [isNon_ok r1]; exact hq _ _ _ _ .refl rg (RV.blI _) hw⟩
  · rw [RV] at r2; subst r2
    cases (show u = Value.ref _ from ry)
    exact op_in false hu I rx r1 rg hw hq
  · rw [RV] at r2; subst r2
    cases (show u = Value.ref _ from ry)
    exact op_in true hu I rx r1 rg hw hq
  · obtain ⟨b, ys, rfl, k1, k2⟩ := r2.tup
    obtain ⟨d, ds, e1, e2, e3, e4, q⟩ := hw
    obtain ⟨as, p1⟩ := Dp.reads I d _ v (dat_ok rg _ _ _ _ r1 e1) rx
    obtain ⟨bs, p2⟩ := Dp.reads I (.tuple ds) (.ref b) u (.tup k1 (dats_ok (fun v x d => dat_ok rg _ v x d) _ ys ds k2 e2)) ry
    exact SeqAt.in_tuple_reads p2 p1 (SeqAt.canLay_of_shaped e4) (SeqAt.canLay_of_shaped e3) (room_in_shaped e3 (by omega)) ⟨.bl _, H, I, rfl, hq _ _ _ _ .refl rg (RV.blI _) q⟩
  · obtain ⟨b, ys, rfl, k1, k2⟩ := r2.tup
    obtain ⟨d, ds, e1, e2, e3, e4, q⟩ := hw
    obtain ⟨as, p1⟩ := Dp.reads I d _ v (dat_ok rg _ _ _ _ r1 e1) rx
    obtain ⟨bs, p2⟩ := Dp.reads I (.tuple ds) (.ref b) u (.tup k1 (dats_ok (fun v x d => dat_ok rg _ v x d) _ ys ds k2 e2)) ry
    exact SeqAt.notIn_tuple_reads p2 p1 (SeqAt.canLay_of_shaped e4) (SeqAt.canLay_of_shaped e3) (room_in_shaped e3 (by omega)) ⟨.bl _, H, I, rfl, hq _ _ _ _ .refl rg (RV.blI _) q⟩
  · obtain ⟨d, e, e1, e2, e3, e4, e5, q⟩ := hw
    obtain ⟨as, p1⟩ := Dp.reads I d _ v (dat_ok rg _ _ _ _ r1 e1) rx
    obtain ⟨bs, p2⟩ := Dp.reads I e _ u (dat_ok rg _ _ _ _ r2 e2) ry
    exact PySem.W.lt_data p1 p2 e3 e4 (by omega) ⟨.bl _, H, I, rfl, hq _ _ _ _ .refl rg (RV.blI _) q⟩
  · obtain ⟨d, e, e1, e2, e3, e4, e5, q⟩ := hw
    obtain ⟨as, p1⟩ := Dp.reads I d _ v (dat_ok rg _ _ _ _ r1 e1) rx
    obtain ⟨bs, p2⟩ := Dp.reads I e _ u (dat_ok rg _ _ _ _ r2 e2) ry
    exact PySem.W.gt_data p1 p2 e3 e4 (by omega) ⟨.bl _, H, I, rfl, hq _ _ _ _ .refl rg (RV.blI _) q⟩
  · exact hw.elim
end
/-! ### subscripts -/
def wIdx : W2
  | .tup xs, .int i, G, Q => match atI xs i with | some v => Q v G | none => False
  | .rl xs, .int i, G, Q => match atI xs i with | some v => Q v G | none => False
  | .str z, .int i, G, Q => z.length ≤ sizeLine ∧ match atI z.cps.toList i with | some c => Q (.str ⟨#[c]⟩) G | none => False
  | .ref a, .int i, G, Q => match G a with
    | some (.lst xs) => (match atI xs i with | some v => Q v G | none => False)
    | some (.dK kvs) => (match dLook kvs (.inl i) with | some v => Q v G | none => False)
    | _ => False
  | .ref a, .str z, G, Q => match G a with
    | some (.dK kvs) => (match dLook kvs (.inr z) with | some v => Q v G | none => False)
    | _ => False
  | .ref a, .tup ks, G, Q => match G a, nks ks with
    | some (.dT kvs), some ks => (NestedKey.tup ks).depth ≤ 8 ∧ (match dLook kvs (.tup ks) with | some v => Q v G | none => False)
    | some (.fT kvs), some ks => (NestedKey.tup ks).depth ≤ 8 ∧ (match dLook kvs (.tup ks) with | some v => Q v G | none => False)
    | _, _ => False
  | _, _, _, _ => False
theorem RVs.at {K : Frag} {H : Hp} {vs : List PV} {xs : List V} {i : Int} {v : PV} (r : RVs K H vs xs) (h : atI vs i = some v) : ∃ x, atI xs i = some x ∧ RV K H v x := by
  unfold atI at h ⊢
  rw [← r.length]
  cases e : ixN vs.length i with
  | none => rw [e] at h; cases h
  | some j => rw [e] at h; exact r.get h
section
variable {X : Cx}
/-- a subscript of a dict -/
theorem tailD {value slice : Expr} {A : Around} {E : Value → Shared → Prop} {s : Shared} {o i : Value} {Q : Value → Shared → Prop} (hT : s.TypeIs o "dict") (hs : subscripted slice false o i = operate [o, i] (getItem o i))
    (h : wpAny (model X.prog X.w) A (getItem o i) Q E s) : wpAny (model X.prog X.w) A (subscriptTail value slice o i) Q E s := by
  unfold subscriptTail
  refine wpAny_bind ?_
  rw [getitemInPython_of_ne hT.not_modules]
  refine wpAny_bind (wpAny_specialOf hT PySem.F.slot_dict_getitem.lookup ?_)
  have fin : wpAny (model X.prog X.w) A (subscripted slice false o i) (fun r s₃ => wpAny (model X.prog X.w) A (letTemporaryGo value o r >>= fun _ => pure r) Q E s₃) E s := by
    rw [hs]
    exact wpAny_operating (wpAny_mono h (fun r s₃ h₃ => wpAny_bind (wpAny_letTemporaryGo (wpAny_pure h₃))) fun _ _ x => x)
  first
    | exact wpAny_pure (wpAny_bind fin)
    | exact wpAny_bind (wpAny_pure (wpAny_bind fin))
    | exact wpAny_bind fin
theorem ix_all (hu : X.A.units + 200 < cLine) : IxR X (rW X.ky wIdx) := by
  intro value slice pins s σ H x y v u Q I rx ry h hs
  obtain ⟨v1, v2, G, QP, r1, r2, rg, hw, hq⟩ := h
  unfold wIdx at hw
  split at hw
  · rw [RV] at r2; subst r2
    obtain ⟨a, xs, rfl, h1, h2⟩ := r1.tup
    split at hw
    · rename_i w e
      obtain ⟨z, e2, rz⟩ := h2.at e
      exact ix_tup value slice pins s σ H _ _ v u Q I rx ry ⟨a, xs, _, z, rfl, rfl, h1, e2, hq _ _ _ _ .refl rg rz hw⟩ hs
    · exact hw.elim
  · rw [RV] at r1; rw [RV] at r2; subst r2
    obtain ⟨a, xs, rfl, h1, h2⟩ := r1
    split at hw
    · rename_i w e
      obtain ⟨z, e2, rz⟩ := h2.at e
      exact ix_list value slice pins s σ H _ _ v u Q I rx ry ⟨a, xs, _, z, rfl, rfl, h1.sq, e2, hq _ _ _ _ .refl rg rz hw⟩ hs
    · exact hw.elim
  · rw [RV] at r1; rw [RV] at r2; subst r1; subst r2
    obtain ⟨hl, hw⟩ := hw
    split at hw
    · rename_i c e
      exact ix_str value slice pins s σ H _ _ v u Q I rx ry ⟨_, _, c, rfl, rfl, hl, e, hq _ _ _ _ .refl rg (RV.strI _) hw⟩ hs
    · exact hw.elim
  · rename_i a i
    rw [RV] at r1; rw [RV] at r2; subst r1; subst r2
    split at hw
    · rename_i vs ga
      obtain ⟨xs, h1, h2⟩ := rg _ _ ga
      split at hw
      · rename_i w e
        obtain ⟨z, e2, rz⟩ := h2.at e
        exact ix_list value slice pins s σ H _ _ v u Q I rx ry ⟨_, xs, _, z, rfl, rfl, .of h1, e2, hq _ _ _ _ .refl rg rz hw⟩ hs
      · exact hw.elim
    · rename_i kvs ga
      obtain ⟨xs, h1, h2⟩ := rg _ _ ga
      split at hw
      · rename_i w e
        obtain ⟨z, e2, rz⟩ := h2.look.1 _ e
        cases (show v = Value.ref a from rx)
        have g : DGet H a (kV (.inl i)) (some z) := by rw [← e2]; exact DGet.k h1
        exact tailD (dict_typeIs I g) hs (d_getItem (by omega) I g ry fun w' s3 I3 rw' => ⟨z, H, I3, rw', hq _ _ _ _ .refl rg rz hw⟩)
      · exact hw.elim
    · exact hw.elim
  · rename_i a i
    rw [RV] at r1; rw [RV] at r2; subst r1; subst r2
    split at hw
    · rename_i kvs ga
      obtain ⟨xs, h1, h2⟩ := rg _ _ ga
      split at hw
      · rename_i w e
        obtain ⟨z, e2, rz⟩ := h2.look.1 _ e
        cases (show v = Value.ref a from rx)
        have g : DGet H a (kV (.inr i)) (some z) := by rw [← e2]; exact DGet.k h1
        exact tailD (dict_typeIs I g) hs (d_getItem (by omega) I g ry fun w' s3 I3 rw' => ⟨z, H, I3, rw', hq _ _ _ _ .refl rg rz hw⟩)
      · exact hw.elim
    · exact hw.elim
  · rename_i a ks
    rw [RV] at r1; subst r1
    split at hw
    · rename_i kvs ks' ga ek
      obtain ⟨hd, hw⟩ := hw
      obtain ⟨xs, h1, h2, h3⟩ := rg _ _ ga
      split at hw
      · rename_i w e
        obtain ⟨b, ys, rfl, k1, k2⟩ := r2.tup
        cases (show v = Value.ref a from rx)
        cases (show u = Value.ref b from ry)
        have hk : NKV X.K H (.tup ks') (.ref b) := nk_ok (.tup ks) _ _ (RV.tup_of k1 k2) (by rw [nk, ek])
        exact tailD (dX_of I (.inl h1) h3 h2).2.typeIs hs (x_getItem (by omega) I (.inl h1) h3 h2 hk hd e fun z u s3 I3 rz rv => ⟨z, H, I3, rz, hq _ _ _ _ .refl rg rv hw⟩)
      · exact hw.elim
    · rename_i kvs ks' ga ek
      obtain ⟨hd, hw⟩ := hw
      obtain ⟨o, xs, h1, h2, h3⟩ := rg _ _ ga
      split at hw
      · rename_i w e
        obtain ⟨b, ys, rfl, k1, k2⟩ := r2.tup
        cases (show v = Value.ref a from rx)
        cases (show u = Value.ref b from ry)
        have hk : NKV X.K H (.tup ks') (.ref b) := nk_ok (.tup ks) _ _ (RV.tup_of k1 k2) (by rw [nk, ek])
        exact tailD (dX_of I (.inr ⟨o, h1⟩) h3 h2).2.typeIs hs (x_getItem (by omega) I (.inr ⟨o, h1⟩) h3 h2 hk hd e fun z u s3 I3 rz rv => ⟨z, H, I3, rz, hq _ _ _ _ .refl rg rv hw⟩)
      · exact hw.elim
    · exact hw.elim
  · exact hw.elim
/-! ### o[i] = v -/
def wSet (o i v : PV) (G : PG) (Q : PG → Prop) : Prop :=
  match o, i with
  | .ref a, .int i => match G a with
    | some (.lst xs) => (match ixN xs.length i with | some j => Q (pup G a (.lst (xs.set j v))) | none => False)
    | some (.dK kvs) => kvs.length < sizeLine ∧ Q (pup G a (.dK (dPut kvs (.inl i) v)))
    | _ => False
  | .ref a, .str z => match G a with
    | some (.dK kvs) => kvs.length < sizeLine ∧ Q (pup G a (.dK (dPut kvs (.inr z) v)))
    | _ => False
  | .ref a, .tup ks => match G a, nks ks with
    | some (.dT kvs), some ks => (NestedKey.tup ks).depth ≤ 8 ∧ kvs.length < sizeLine ∧ Q (pup G a (.dT (dPut kvs (.tup ks) v)))
    | _, _ => False
  | _, _ => False
def rWS (Z : Ky) : TSet := fun o i v H Q => ∃ po pi pv G QP, RV Z.K H po o ∧ RV Z.K H pi i ∧ RV Z.K H pv v ∧ RG Z G H ∧ wSet po pi pv G QP ∧ ∀ G' H', TupLe Z.K H H' → RG Z G' H' → QP G' → Q H'
theorem RK.length {κ : Type} {K : Frag} {H : Hp} : ∀ {kvs : List (κ × PV)} {xs : List (κ × V)}, RK K H kvs xs → kvs.length = xs.length
  | [], xs, r => by rw [RK] at r; subst r; rfl
  | p :: ps, xs, r => by
    rw [RK] at r
    obtain ⟨x, r', rfl, a, b⟩ := r
    simp [RK.length b]
theorem RK.snoc {κ : Type} {K : Frag} {H : Hp} {k : κ} {v : PV} {x : V} (a : RV K H v x) : ∀ {kvs : List (κ × PV)} {xs : List (κ × V)}, RK K H kvs xs → RK K H (kvs ++ [(k, v)]) (xs ++ [(k, x)])
  | [], xs, r => by rw [RK] at r; subst r; rw [List.nil_append, RK]; exact ⟨x, [], rfl, a, by rw [RK]⟩
  | p :: ps, xs, r => by
    rw [RK] at r
    obtain ⟨x', r', rfl, a', b'⟩ := r
    rw [List.cons_append, RK]
    exact ⟨x', _, rfl, a', RK.snoc a b'⟩
theorem RK.repl {κ : Type} [DecidableEq κ] {K : Frag} {H : Hp} {k : κ} {v : PV} {x : V} (a : RV K H v x) : ∀ {kvs : List (κ × PV)} {xs : List (κ × V)}, RK K H kvs xs → RK K H (kvs.map fun p => if p.1 = k then (p.1, v) else p) (xs.map fun p => if p.1 = k then (p.1, x) else p)
  | [], xs, r => by rw [RK] at r; subst r; simp [RK]
  | p :: ps, xs, r => by
    rw [RK] at r
    obtain ⟨x', r', rfl, a', b'⟩ := r
    have ih := RK.repl (k := k) a b'
    by_cases e : p.1 = k
    · rw [List.map_cons, if_pos e, RK]
      exact ⟨x, _, by simp [e], a, ih⟩
    · rw [List.map_cons, if_neg e, RK]
      exact ⟨x', _, by simp [e], a', ih⟩
theorem RK.put {κ : Type} [DecidableEq κ] {K : Frag} {H : Hp} {k : κ} {v : PV} {x : V} {kvs : List (κ × PV)} {xs : List (κ × V)} (r : RK K H kvs xs) (a : RV K H v x) : RK K H (dPut kvs k v) (putK xs k x) := by
  unfold dPut putK
  rw [valV_any, r.isSome]
  split
  · exact r.repl a
  · exact r.snoc a
theorem set_all (hu : X.A.units + 200 < cLine) : PSet X (rWS X.ky) := by
  intro pins s σ H o i v ov iv u Q I ro ri rv h
  obtain ⟨po, pi, pv, G, QP, r1, r2, r3, rg, hw, hq⟩ := h
  unfold wSet at hw
  have dk : ∀ {a : Addr} {kvs : List (Key × PV)} {k : Key} {iv : Value}, G a = some (.dK kvs) → RelV (kV k) iv → kvs.length < sizeLine → QP (pup G a (.dK (dPut kvs k pv))) → wpAny (model X.prog X.w) X.A (setItem (.ref a) iv u) (fun _ s' => ∃ H', Inv X pins σ H' s' ∧ Q H') X.xe s := by
    intro a kvs k iv ga rk hl q
    obtain ⟨xs, h1, h2⟩ := rg _ _ ga
    refine d_setItem (by omega) I (DPut.k h1 (by rw [← h2.length]; exact hl)) rk rv fun s' I' => ⟨_, I', ?_⟩
    have t : TupLe X.K H (upd H a (.dK (putK xs k v))) := .chg h1 (fun _ z => nomatch z) (fun _ _ z => nomatch z)
    exact hq _ _ t (rg.chg (u := .dK (dPut kvs k pv)) h1 (fun _ z => nomatch z) (fun _ _ z => nomatch z) ⟨_, upd_same, (h2.put r3).mono t⟩) q
  split at hw
  · rename_i a j
    rw [RV] at r1; rw [RV] at r2; subst r1; subst r2
    cases (show ov = Value.ref a from ro)
    split at hw
    · rename_i vs ga
      obtain ⟨xs, h1, h2⟩ := rg _ _ ga
      split at hw
      · rename_i m e
        exact set_list pins s σ H _ _ v _ iv u Q I (show RelV (.ref a) (.ref a) from rfl) ri rv ⟨a, xs, j, m, rfl, rfl, h1, by rw [← h2.length]; exact e, hq _ _ (.chgL h1) (rg.chgL h1 (h2.set m r3)) hw⟩
      · exact hw.elim
    · rename_i kvs ga
      exact dk (k := .inl j) ga ri hw.1 hw.2
    · exact hw.elim
  · rename_i a z
    rw [RV] at r1; rw [RV] at r2; subst r1; subst r2
    cases (show ov = Value.ref a from ro)
    split at hw
    · rename_i kvs ga
      exact dk (k := .inr z) ga ri hw.1 hw.2
    · exact hw.elim
  · rename_i a ks
    rw [RV] at r1; subst r1
    cases (show ov = Value.ref a from ro)
    split at hw
    · rename_i kvs ks' ga ek
      obtain ⟨hd, hl, hw⟩ := hw
      obtain ⟨xs, h1, h2, h3⟩ := rg _ _ ga
      obtain ⟨b, ys, rfl, k1, k2⟩ := r2.tup
      cases (show iv = Value.ref b from ri)
      have hk : NKV X.K H (.tup ks') (.ref b) := nk_ok (.tup ks) _ _ (RV.tup_of k1 k2) (by rw [nk, ek])
      refine x_setItem (by omega) I h1 h3 h2 hl hk hd rv r3 fun s' I' => ⟨_, I', ?_⟩
      have t : TupLe X.K H (upd H a (dX X.ky a (storedH xs (.tup ks') b u))) := .chg h1 (fun _ z => nomatch z) (fun _ _ z => nomatch z)
      exact hq _ _ t (rg.chg (u := .dT (dPut kvs (.tup ks') pv)) h1 (fun _ z => nomatch z) (fun _ _ z => nomatch z) ⟨_, upd_same, h2.put hd, (h3.put hk rv r3).mono t⟩) hw
    · exact hw.elim
  · exact hw.elim
end
end Cl
set_option Elab.async false
set_option linter.all false
set_option maxRecDepth 100000
set_option maxHeartbeats 4000000
/-! The clean layer, part F: calls of the text's own defs, classes made, attributes, isinstance, built-ins, sequences, slices. -/
namespace Cl
open PySem PySem.Spec PyProof.Rows L2
/-! ### calls of defs -/
/-- a def's promise in HandS' words -/
def hsp (Z : Ky) (sp : PSp) : Sp := fun vs H Q _ => ∃ pvs G QP, RVs Z.K H pvs vs ∧ RG Z G H ∧ sp pvs G QP ∧ ∀ v G' x H', TupLe Z.K H H' → RG Z G' H' → RV Z.K H' v x → QP v G' → Q x H'
def E0' : XK := fun _ _ _ => False
/-- the def at the module's name x may be called -/
structure FnG (X : Cx) (x : Str) (sp : PSp) : Prop where
  ex : ∃ f : Addr, CallR X (.ref f) (fun vs H Q => hsp X.ky sp vs H Q E0') ∧ X.mg x = some (.ref f) ∧ PySem.W.keepIn X.K (.ref f) = true
def wCall (sp : PSp) (wl : WL) : WE := fun ρ G Q => wl ρ G fun vs G1 => sp vs G1 Q
section
variable {X : Cx} {e a b o : Expr} {es : List Expr} {pos p apos : Pos} {w wa wb : WE} {wl wk : WL} {x : Str} {sp : PSp}
theorem tCall_ok {σ : St} {H : Hp} {Q : VK} (h : tW X.ky (wCall sp wl) σ H Q) : tWL X.ky wl σ H fun vs H1 => hsp X.ky sp vs H1 Q E0' := by
  obtain ⟨ρ, G, QP, rs, rg, hw, hq⟩ := h
  refine ⟨ρ, G, _, rs, rg, hw, fun vs G1 xs H1 t1 rg1 rv1 hw1 => ?_⟩
  exact ⟨vs, G1, QP, rv1, rg1, hw1, fun v G' x H' t2 rg2 rv2 q => hq _ _ _ _ (t1.trans t2) rg2 rv2 q⟩
theorem se_call (F : FnG X x sp) (hg : Gl X x) (ha : SL X (e :: es) wl) (hdb : (x == ("__debug__" : Str)) = false) (he : starEach (e :: es) X.env = (false, eval e X.env) :: starEach es X.env) (hpl : (backTo pos (starEach es X.env)).any (·.1) = false) :
    SE X (.Call (.Name x p) (e :: es) [] pos) (wCall sp wl) := by
  obtain ⟨f, F1, hm, hk⟩ := F.ex
  refine ⟨fun pins s σ H Q I h => ?_⟩
  refine wpAny_Call_Name_kw (ld_glob I hg hm ?_ hdb)
  exact PySem.W.callWith_K (h₀ := X.base) I.ok.mod.kin hk (thn (ha.run pos pins s σ H _ I (tCall_ok h)) fun us s1 ⟨vs, H1, I1, r, q⟩ => ⟨I1.kIn, F1 pins s1 σ H1 vs us Q I1 r q⟩) he hpl
theorem se_call0 (F : FnG X x sp) (hg : Gl X x) (hdb : (x == ("__debug__" : Str)) = false) : SE X (.Call (.Name x p) [] [] pos) (wCall sp wNil) := by
  obtain ⟨f, F1, hm, hk⟩ := F.ex
  refine ⟨fun pins s σ H Q I h => ?_⟩
  obtain ⟨ρ, G, QP, rs, rg, hw, hq⟩ := h
  refine wpAny_Call_Name_kw (ld_glob I hg hm ?_ hdb)
  exact PySem.W.callWith_K0 I.kIn hk (F1 pins s σ H [] [] Q I .nil ⟨[], G, QP, .nil, rg, hw, hq⟩)
/-! with keywords and defaults -/
def gP {α : Type} (np nk : Nat) (perm : List Nat) (us ws : List α) : List α := if us.length = np ∧ ws.length = nk then perm.filterMap fun i => (us ++ ws)[i]? else []
structure FnK (X : Cx) (x : Str) (np : Nat) (ks : List Str) (perm : List Nat) (sp : PSp) : Prop where
  ex : ∃ f : Addr, (∀ (pins : List (Addr × Obj)) (s : Shared) (σ : St) (H : Hp) (vs zs : List V) (us ws : List Value) (Q : VK), Inv X pins σ H s → Vals vs us → Vals zs ws → hsp X.ky sp (gP np ks.length perm vs zs) H Q E0' →
      wpAny (model X.prog X.w) X.A (call (.ref f) us (ks.zip ws)) (EP X pins σ Q) X.xe s) ∧ X.mg x = some (.ref f) ∧ PySem.W.keepIn X.K (.ref f) = true
def wCallK (sp : PSp) (np nk : Nat) (perm : List Nat) (wl wk : WL) : WE := fun ρ G Q => wl ρ G fun vs G1 => wk ρ G1 fun zs G2 => sp (gP np nk perm vs zs) G2 Q
theorem Vals.perm {xs : List V} {us : List Value} (r : Vals xs us) : ∀ perm : List Nat, Vals (perm.filterMap fun i => xs[i]?) (perm.filterMap fun i => us[i]?)
  | [] => .nil
  | i :: r' => by
    simp only [List.filterMap_cons]
    cases e : xs[i]? with
    | none => rw [r.none_of e]; exact Vals.perm r r'
    | some x => obtain ⟨u, h1, h2⟩ := r.get e; rw [h1]; exact .cons h2 (Vals.perm r r')
theorem RVs.perm {K : Frag} {H : Hp} {vs : List PV} {xs : List V} (r : RVs K H vs xs) : ∀ perm : List Nat, RVs K H (perm.filterMap fun i => vs[i]?) (perm.filterMap fun i => xs[i]?)
  | [] => .nil
  | i :: r' => by
    simp only [List.filterMap_cons]
    cases e : vs[i]? with
    | none =>
      have : xs[i]? = none := by
        have h1 := List.getElem?_eq_none_iff.mp e
        exact List.getElem?_eq_none_iff.mpr (by rw [← r.length]; exact h1)
      rw [this]; exact RVs.perm r r'
    | some v => obtain ⟨u, h1, h2⟩ := r.get e; rw [h1]; exact .cons h2 (RVs.perm r r')
/-- keywords -/
abbrev SK (X : Cx) (kws : List Keyword) (w : WL) : Prop := PK X kws (tWL X.ky w)
theorem PK.weak {kws : List Keyword} {t t' : TA} (h : PK X kws t) (i : ∀ σ H Q, t' σ H Q → t σ H Q) : PK X kws t' := ⟨fun pos pins s σ H Q I q => h.run pos pins s σ H Q I (i σ H Q q)⟩
theorem sk_nil : SK X [] wNil := by
  refine PK.weak pk_nil fun σ H Q h => ?_
  obtain ⟨ρ, G, QP, rs, rg, hw, hq⟩ := h
  exact hq _ _ _ _ .refl rg .nil hw
theorem sk_cons {kws : List Keyword} {nm : Option Str} {kpos : Pos} (ha : SE X e w) (hr : SK X kws wk) : SK X (⟨nm, e, kpos⟩ :: kws) (wCons w wk) := by
  refine PK.weak (pk_cons ha hr) fun σ H Q h => ?_
  obtain ⟨ρ, G, QP, rs, rg, hw, hq⟩ := h
  refine ⟨ρ, G, _, rs, rg, hw, fun v G1 x H1 t1 rg1 rv1 hw1 => ?_⟩
  refine ⟨ρ, G1, _, rs.mono t1, rg1, hw1, fun vs G2 xs H2 t2 rg2 rv2 hw2 => ?_⟩
  exact hq _ _ _ _ (t1.trans t2) rg2 (.cons (RV.mono t2 _ _ rv1) rv2) hw2
theorem se_callK {np : Nat} {ks : List Str} {perm : List Nat} {kws : List Keyword} (F : FnK X x np ks perm sp) (hg : Gl X x) (ha : SL X (e :: es) wl) (hkw : SK X kws wk) (hall : (backToKw pos (keywordEach kws X.env)).all (·.1.isSome) = true) (hks : (backToKw pos (keywordEach kws X.env)).filterMap (·.1) = ks)
    (hdb : (x == ("__debug__" : Str)) = false) (he : starEach (e :: es) X.env = (false, eval e X.env) :: starEach es X.env)
    (hpl : ((backTo pos (starEach (e :: es) X.env)).any (·.1) || (backToKw pos (keywordEach kws X.env)).any (·.1.isNone)) = false) :
    SE X (.Call (.Name x p) (e :: es) kws pos) (wCallK sp np ks.length perm wl wk) := by
  obtain ⟨f, F1, hm, hk⟩ := F.ex
  refine ⟨fun pins s σ H Q I h => ?_⟩
  obtain ⟨ρ, G, QP, rs, rg, hw, hq⟩ := h
  refine wpAny_Call_Name_kw (ld_glob I hg hm ?_ hdb)
  refine PySem.W.callWith_KW (h₀ := X.base) I.ok.mod.kin hk hall (thn (ha.run pos pins s σ H _ I ⟨ρ, G, _, rs, rg, hw, fun vs G1 xs H1 t1 rg1 rv1 hw1 => (⟨ρ, G1, _, rs.mono t1, rg1, hw1, fun zs G2 ys H2 t2 rg2 rv2 hw2 => ?_⟩ : tWL X.ky wk σ H1 fun ys H2 => hsp X.ky sp (gP np ks.length perm xs ys) H2 Q E0')⟩) fun us s1 hh => ?_) hpl he
  · refine ⟨gP np ks.length perm vs zs, G2, QP, ?_, rg2, hw2, fun v G' x H' t3 rg3 rv3 q => hq _ _ _ _ ((t1.trans t2).trans t3) rg3 rv3 q⟩
    unfold gP
    rw [rv1.length, rv2.length]
    split
    · exact RVs.perm ((rv1.mono t2).append rv2) perm
    · exact .nil
  · obtain ⟨vs, H1, I1, r, q⟩ := hh
    refine thn (hkw.run pos pins s1 σ H1 _ I1 q) fun ws s2 ⟨zs, H2, I2, rz, q2⟩ => ⟨I2.kIn, ?_⟩
    rw [hks]
    exact F1 pins s2 σ H2 vs zs us ws Q I2 r rz q2
/-! ### classes made -/
def rMk (Z : Ky) (C : Addr) (sp : PSp) : List V → Hp → VK → Prop := fun vs H Q => ∀ x dx, H x = none → H dx = none → dx ≠ x → hsp Z sp (.ref x :: vs) (upd (upd H dx (.own x)) x (.ins C dx [])) (fun v H2 => v = .non ∧ Q (.ref x) H2) E0'
structure MkG (X : Cx) (x : Str) (C : Addr) (sp : PSp) : Prop where
  run : CallR X (.ref C) (rMk X.ky C sp)
  mg : X.mg x = some (.ref C)
  kp : PySem.W.keepIn X.K (.ref C) = true
def wMake (C : Addr) (sp : PSp) (wl : WL) : WE := fun ρ G Q => wl ρ G fun vs G1 => ∀ p, G1 p = none → sp (.ref p :: vs) (pup G1 p (.ins C [])) fun v G2 => v = .non ∧ Q (.ref p) G2
theorem se_make {C : Addr} (F : MkG X x C sp) (hg : Gl X x) (ha : SL X (e :: es) wl) (hdb : (x == ("__debug__" : Str)) = false) (he : starEach (e :: es) X.env = (false, eval e X.env) :: starEach es X.env) (hpl : (backTo pos (starEach es X.env)).any (·.1) = false) :
    SE X (.Call (.Name x p) (e :: es) [] pos) (wMake C sp wl) := by
  refine ⟨fun pins s σ H Q I h => ?_⟩
  obtain ⟨ρ, G, QP, rs, rg, hw, hq⟩ := h
  refine wpAny_Call_Name_kw (ld_glob I hg F.mg ?_ hdb)
  refine PySem.W.callWith_K (h₀ := X.base) I.ok.mod.kin F.kp (thn (ha.run pos pins s σ H (fun vs H1 => rMk X.ky C sp vs H1 Q) I ⟨ρ, G, _, rs, rg, hw, fun vs G1 xs H1 t1 rg1 rv1 hw1 => ?_⟩) fun us s1 ⟨vs, H1, I1, r, q⟩ => ⟨I1.kIn, F.run pins s1 σ H1 vs us Q I1 r q⟩) he hpl
  intro y dx hy hdx hne
  have hy' : upd H1 dx (.own y) y = none := by rw [upd_ne (Ne.symm hne)]; exact hy
  have t2 : TupLe X.K H1 (upd H1 dx (.own y)) := .new hdx
  have t3 : TupLe X.K (upd H1 dx (.own y)) (upd (upd H1 dx (.own y)) y (.ins C dx [])) := .new hy'
  have rg2 := (rg1.skip (o := .own y) hdx).new (u := .ins C []) (o := .ins C dx []) hy' ⟨dx, [], upd_same, by rw [RK]⟩
  refine ⟨.ref y :: vs, _, _, .cons (RV.refI y) (rv1.mono (t2.trans t3)), rg2, hw1 y (rg1.fresh hy), fun v G' z H' t4 rg4 rv4 q => ?_⟩
  obtain ⟨q1, q2⟩ := q
  subst q1
  rw [RV] at rv4
  exact ⟨rv4, hq _ _ _ _ (((t1.trans t2).trans t3).trans t4) rg4 (RV.refI y) q2⟩
/-! ### attributes -/
def wFld (cs : List Addr) (f : Str) (w : WE) : WE := fun ρ G Q => w ρ G fun v G1 => match v with
  | .ref a => (match G1 a with
    | some (.ins C fs) => C ∈ cs ∧ (match fs.lookup f with | some y => Q y G1 | none => False)
    | _ => False)
  | _ => False
theorem RK.lookup {K : Frag} {H : Hp} {f : Str} {v : PV} : ∀ {fs : List (Str × PV)} {xs : List (Str × V)}, RK K H fs xs → fs.lookup f = some v → ∃ x, xs.lookup f = some x ∧ RV K H v x
  | [], xs, r, h => by simp at h
  | p :: ps, xs, r, h => by
    rw [RK] at r
    obtain ⟨x, r', rfl, a, b⟩ := r
    obtain ⟨g, y⟩ := p
    rw [List.lookup_cons] at h ⊢
    split at h
    · cases h; rename_i e; simp only [e]; exact ⟨x, rfl, a⟩
    · rename_i e; simp only [e]; exact RK.lookup b h
theorem se_fld {cs : List Addr} {f : Str} (hc : ∀ C ∈ cs, Cls X.K C ∧ NoAttr X.K C f) (he : SE X e w) (hb : attributeBase e f X.env (eval e X.env) = eval e X.env) : SE X (.Attribute e f pos) (wFld cs f w) := by
  refine PE.weak (pe_fld he hb) fun σ H Q h => ?_
  obtain ⟨ρ, G, QP, rs, rg, hw, hq⟩ := h
  refine ⟨ρ, G, _, rs, rg, hw, fun v G1 x H1 t1 rg1 rv1 hw1 => ?_⟩
  split at hw1
  · rename_i v' a
    rw [RV] at rv1; subst rv1
    split at hw1
    · rename_i o' C fs ga
      obtain ⟨hC, hw1⟩ := hw1
      obtain ⟨dx, xs, h1, h2⟩ := rg1 _ _ ga
      split at hw1
      · rename_i y e
        obtain ⟨z, e2, rz⟩ := h2.lookup e
        exact ⟨a, C, dx, xs, z, rfl, h1, (hc C hC).1, (hc C hC).2, e2, hq _ _ _ _ t1 rg1 rz hw1⟩
      · exact hw1.elim
    · exact hw1.elim
  · exact hw1.elim
end
/-! ### isinstance -/
inductive PTy where
  | b (n : String) | o (C : Addr)
  deriving DecidableEq
def tyOf (v : PV) (G : PG) : Option PTy :=
  match v with
  | .non => some (.b "NoneType")
  | .bl _ => some (.b "bool")
  | .int _ => some (.b "int")
  | .str _ => some (.b "str")
  | .tup _ => some (.b "tuple")
  | .rl _ => some (.b "list")
  | .ref a => match G a with
    | some (.lst _) => some (.b "list")
    | some (.dK _) => some (.b "dict")
    | some (.ins C _) => some (.o C)
    | _ => none
/-- isinstance for one class: bool is below int -/
def isOne (sub : Addr → Addr → Bool) : PTy → PTy → Bool
  | .b t, .b n => t == n || (t == "bool" && n == "int")
  | .o C, .o D => sub C D
  | _, _ => false
def bTypes : List String := ["NoneType", "bool", "int", "str", "list", "tuple", "dict"]
def bTests : List String := ["bool", "int", "str", "list", "tuple", "dict"]
theorem kitB_all : ∀ t ∈ bTypes, ∀ n ∈ bTests, kitB t n = some (t == n || (t == "bool" && n == "int")) := by decide +kernel
/-- what of the written part the own classes (at cs) must have for isinstance -/
structure ClsIs (K : Frag) (cs : List Addr) (sub : Addr → Addr → Bool) : Prop where
  cl : ∀ C ∈ cs, Cls K C ∧ PySem.W.findIn K (.ref C) "__class__" = some (some (.builtin "object.__class__")) ∧ PySem.W.specialIn K (.builtin "object.__class__") "__get__" = some (some (.builtin "getset_descriptor.__get__")) ∧
    PySem.W.takesIn K (.builtin "object.__class__") = some true ∧ PySem.W.mroIn K C (.type "object") = some true
  own : ∀ C ∈ cs, ∀ D ∈ cs, PySem.W.kitOne K (.ref C) (.ref D) = some (sub C D)
  ob : ∀ C ∈ cs, ∀ n ∈ bTests, PySem.W.kitOne K (.ref C) (.type n) = some false
  bo : ∀ D ∈ cs, ∀ t ∈ bTypes, PySem.W.kitOne K (.type t) (.ref D) = some false
def PTy.val : PTy → Value
  | .b n => .type n
  | .o C => .ref C
def PTy.v : PTy → V
  | .b n => .ty n
  | .o C => .ref C
def okTest (cs : List Addr) : PTy → Prop
  | .b n => n ∈ bTests
  | .o C => C ∈ cs
def okType (cs : List Addr) : PTy → Prop
  | .b n => n ∈ bTypes
  | .o C => C ∈ cs
theorem isOne_ok {K : Frag} {cs : List Addr} {sub : Addr → Addr → Bool} (h : ClsIs K cs sub) : ∀ t n : PTy, okType cs t → okTest cs n → PySem.W.kitOne K t.val n.val = some (isOne sub t n)
  | .b t, .b n, h1, h2 => kit_ty (kitB_all t h1 n h2)
  | .o C, .o D, h1, h2 => h.own C h1 D h2
  | .o C, .b n, h1, h2 => h.ob C h1 n h2
  | .b t, .o D, h1, h2 => h.bo D h2 t h1
theorem isAny_ok {K : Frag} {cs : List Addr} {sub : Addr → Addr → Bool} (h : ClsIs K cs sub) (t : PTy) (ht : okType cs t) : ∀ ns : List PTy, (∀ n ∈ ns, okTest cs n) → PySem.W.kitAny K t.val (ns.map PTy.val) = some (ns.any (isOne sub t))
  | [], _ => kitAny_nil
  | n :: ns, hn => by
    have ih := isAny_ok h t ht ns fun m hm => hn m (List.mem_cons_of_mem _ hm)
    refine kitAny_cons (isOne_ok h t n ht (hn n List.mem_cons_self)) (fun e => ?_) (fun e => ?_)
    · rw [ih, List.any_cons, e, Bool.false_or]
    · rw [List.any_cons, e, Bool.true_or]
theorem tyOf_ok {Z : Ky} {G : PG} {H : Hp} {cs : List Addr} {sub : Addr → Addr → Bool} (h : ClsIs Z.K cs sub) (rg : RG Z G H) {v : PV} {x : V} {t : PTy} (r : RV Z.K H v x) (e : tyOf v G = some t) (ht : ∀ C, t = .o C → C ∈ cs) : TyX Z.K H x t.val ∧ okType cs t := by
  cases v with
  | non => rw [RV] at r; subst r; cases e; exact ⟨.base .non, (show "NoneType" ∈ bTypes by decide)⟩
  | bl b => rw [RV] at r; subst r; cases e; exact ⟨.base (.bl b), (show "bool" ∈ bTypes by decide)⟩
  | int i => rw [RV] at r; subst r; cases e; exact ⟨.base (.int i), (show "int" ∈ bTypes by decide)⟩
  | str i => rw [RV] at r; subst r; cases e; exact ⟨.base (.str i), (show "str" ∈ bTypes by decide)⟩
  | tup vs =>
    obtain ⟨a, xs, rfl, h1, h2⟩ := r.tup
    cases e
    refine ⟨?_, (show "tuple" ∈ bTypes by decide)⟩
    rcases h1 with (h1 | ⟨o, h1⟩) | ⟨o, its, n, h1, h2, _⟩
    · exact .base (.tup h1)
    · exact .fTuple h1
    · exact .kTuple h1 h2
  | rl vs =>
    rw [RV] at r
    obtain ⟨a, xs, rfl, h1, h2⟩ := r
    cases e
    refine ⟨?_, (show "list" ∈ bTypes by decide)⟩
    rcases h1 with ⟨o, h1⟩ | ⟨o, its, n, h1, h2, _⟩
    · exact .base (.frz h1)
    · exact .kList h1 h2
  | ref a =>
    rw [RV] at r; subst r
    simp only [tyOf] at e
    split at e
    · rename_i o vs ga
      obtain ⟨xs, h1, h2⟩ := rg _ _ ga
      cases e; exact ⟨.base (.lst h1), (show "list" ∈ bTypes by decide)⟩
    · rename_i o vs ga
      obtain ⟨xs, h1, h2⟩ := rg _ _ ga
      cases e; exact ⟨.base (.dK h1), (show "dict" ∈ bTypes by decide)⟩
    · rename_i o C vs ga
      obtain ⟨dx, xs, h1, h2⟩ := rg _ _ ga
      cases e
      have hC := ht C rfl
      obtain ⟨c1, c2, c3, c4, c5⟩ := h.cl C hC
      exact ⟨.base (.ins h1 c1 c2 c3 c4 c5), hC⟩
    · cases e
def wIsi (sub : Addr → Addr → Bool) (cs : List Addr) (ns : List PTy) (w : WE) : WE := fun ρ G Q => w ρ G fun v G1 => match tyOf v G1 with
  | some t => (∀ C, t = .o C → C ∈ cs) ∧ Q (.bl (ns.any (isOne sub t))) G1
  | none => False
section
variable {X : Cx} {e : Expr} {pos p p1 p2 : Pos} {w : WE} {cs : List Addr} {sub : Addr → Addr → Bool}
/-- a class by its name -/
def ClsName (X : Cx) (cs : List Addr) (n : PTy) (ex : Expr) : Prop := PE X ex (tC n.v) ∧ okTest cs n ∧ ∀ es, starEach (ex :: es) X.env = (false, eval ex X.env) :: starEach es X.env
theorem clsV (n : PTy) : ClsV n.v n.val := by cases n <;> constructor
theorem se_isi1 {n : PTy} {c : Expr} (h : ClsIs X.K cs sub) (he : SE X e w) (hc : ClsName X cs n c) (hg : Gl X "isinstance") (hm : X.mg "isinstance" = none)
    (hs : starEach [e, c] X.env = (false, eval e X.env) :: starEach [c] X.env) (hpl : (backTo pos (starEach [c] X.env)).any (·.1) = false) :
    SE X (.Call (.Name "isinstance" p) [e, c] [] pos) (wIsi sub cs [n] w) := by
  refine PE.weak (pe_callB call_isi hg hm (by decide +kernel) (pa_cons he (pa_cons hc.1 pa_nil (hc.2.2 [])) hs) (by decide) (by decide) hs hpl) fun σ H Q h' => ?_
  obtain ⟨ρ, G, QP, rs, rg, hw, hq⟩ := h'
  refine ⟨ρ, G, _, rs, rg, hw, fun v G1 x H1 t1 rg1 rv1 hw1 => ?_⟩
  split at hw1
  · rename_i t e
    obtain ⟨h1, h2⟩ := tyOf_ok h rg1 rv1 e hw1.1
    refine ⟨x, n.v, t.val, n.val, _, rfl, clsV n, h1, isOne_ok h t n h2 hc.2.1, ?_⟩
    have q := hw1.2
    rw [List.any_cons, List.any_nil, Bool.or_false] at q
    exact hq _ _ _ _ t1 rg1 (RV.blI _) q
  · exact hw1.elim
theorem pa_cls : ∀ {ns : List PTy} {es : List Expr}, Paired (ClsName X cs) ns es → PA X es fun _ H Q => Q (ns.map PTy.v) H
  | _, _, .nil => pa_nil
  | _, _, .cons h t => pa_cons h.1 (pa_cls t) (h.2.2 _)
theorem cls_paired : ∀ ns : List PTy, Paired ClsV (ns.map PTy.v) (ns.map PTy.val)
  | [] => .nil
  | n :: ns => .cons (clsV n) (cls_paired ns)
theorem se_isiT {ns : List PTy} {es : List Expr} {k : Nat} (h : ClsIs X.K cs sub) (he : SE X e w) (hc : Paired (ClsName X cs) ns es) (hok : ∀ n ∈ ns, okTest cs n) (hl : ns.length ≤ 100) (hg : Gl X "isinstance") (hm : X.mg "isinstance" = none)
    (hs : starEach [e, .Tuple es k p1] X.env = (false, eval e X.env) :: starEach [.Tuple es k p1] X.env) (hs2 : starEach [.Tuple es k p1] X.env = (false, eval (.Tuple es k p1) X.env) :: starEach [] X.env) (hpl : (backTo pos (starEach [.Tuple es k p1] X.env)).any (·.1) = false) :
    SE X (.Call (.Name "isinstance" p) [e, .Tuple es k p1] [] pos) (wIsi sub cs ns w) := by
  refine PE.weak (pe_callB call_isiT hg hm (by decide +kernel) (pa_cons he (pa_cons (pe_tup (pa_cls hc)) pa_nil hs2) hs) (by decide) (by decide) hs hpl) fun σ H Q h' => ?_
  obtain ⟨ρ, G, QP, rs, rg, hw, hq⟩ := h'
  refine ⟨ρ, G, _, rs, rg, hw, fun v G1 x H1 t1 rg1 rv1 hw1 => ?_⟩
  split at hw1
  · rename_i t e
    refine ⟨by rw [List.length_map]; exact Nat.le_trans hl (by decide), fun tp htp => ?_⟩
    have tn : TupLe X.K H1 (upd H1 tp (.tup (ns.map PTy.v))) := .new htp
    have rg2 := rg1.skip (o := .tup (ns.map PTy.v)) htp
    obtain ⟨h1, h2⟩ := tyOf_ok h rg2 (RV.mono tn _ _ rv1) e hw1.1
    exact ⟨x, tp, ns.map PTy.v, t.val, ns.map PTy.val, _, rfl, upd_same, cls_paired ns, h1, isAny_ok h t h2 ns hok, hq _ _ _ _ (t1.trans tn) rg2 (RV.blI _) hw1.2⟩
  · exact hw1.elim
end
end Cl
set_option Elab.async false
set_option linter.all false
set_option maxRecDepth 100000
set_option maxHeartbeats 4000000
/-! The clean layer, part G: built-ins, sequences, slices, methods of lists and dicts. -/
namespace Cl
open PySem PySem.Spec PyProof.Rows L2 SkE
/-- what a built-in asks of values -/
abbrev WB := List PV → PG → WK → Prop
def rB (Z : Ky) (r : WB) : List V → Hp → VK → Prop := fun xs H Q => ∃ vs G QP, RVs Z.K H vs xs ∧ RG Z G H ∧ r vs G QP ∧ ∀ v G' z H', TupLe Z.K H H' → RG Z G' H' → RV Z.K H' v z → QP v G' → Q z H'
def wB (r : WB) (wl : WL) : WE := fun ρ G Q => wl ρ G fun vs G1 => r vs G1 Q
section
variable {X : Cx} {x : Str} {p pos apos : Pos} {e a b o : Expr} {es : List Expr} {wl wm : WL} {w wa wb wc : WE} {bid T : String} {r : WB}
theorem tB_ok {σ : St} {H : Hp} {Q : VK} (h : tW X.ky (wB r wl) σ H Q) : tCB (rB X.ky r) (tWL X.ky wl) σ H Q := by
  obtain ⟨ρ, G, QP, rs, rg, hw, hq⟩ := h
  refine ⟨ρ, G, _, rs, rg, hw, fun vs G1 xs H1 t1 rg1 rv1 hw1 => ?_⟩
  exact ⟨vs, G1, QP, rv1, rg1, hw1, fun v G' x H' t2 rg2 rv2 q => hq _ _ _ _ (t1.trans t2) rg2 rv2 q⟩
theorem se_blt (hc : CallR X (.builtin bid) (rB X.ky r)) (hg : Gl X x) (hm : X.mg x = none) (hv : bootBuiltins x = some (.builtin bid)) (ha : SL X (e :: es) wl) (hn : x ≠ "__name__") (hdb : (x == ("__debug__" : Str)) = false)
    (he : starEach (e :: es) X.env = (false, eval e X.env) :: starEach es X.env) (hpl : (backTo pos (starEach es X.env)).any (·.1) = false) : SE X (.Call (.Name x p) (e :: es) [] pos) (wB r wl) :=
  PE.weak (pe_callB hc hg hm hv ha hn hdb he hpl) fun σ H Q h => tB_ok h
theorem se_blty (hc : CallR X (.type T) (rB X.ky r)) (hg : Gl X x) (hm : X.mg x = none) (hv : bootBuiltins x = some (.type T)) (ha : SL X (e :: es) wl) (hn : x ≠ "__name__") (hdb : (x == ("__debug__" : Str)) = false)
    (he : starEach (e :: es) X.env = (false, eval e X.env) :: starEach es X.env) (hpl : (backTo pos (starEach es X.env)).any (·.1) = false) : SE X (.Call (.Name x p) (e :: es) [] pos) (wB r wl) :=
  PE.weak (pe_callTy hc hg hm hv ha hn hdb he hpl) fun σ H Q h => tB_ok h
/-! ### the scalar ones -/
def bAbs : WB := fun vs G Q => match vs with | [.int i] => Q (.int i.natAbs) G | _ => False
def bLen : WB := fun vs G Q => match vs with
  | [.str x] => x.length ≤ sizeLine ∧ Q (.int x.length) G
  | [.tup xs] => Q (.int xs.length) G
  | [.rl xs] => Q (.int xs.length) G
  | [.ref a] => (match G a with
    | some (.lst xs) => Q (.int xs.length) G
    | some (.dK kvs) => Q (.int kvs.length) G
    | some (.dT kvs) => kvs.length ≤ sizeLine ∧ Q (.int kvs.length) G
    | _ => False)
  | _ => False
def bInt : WB := fun vs G Q => match vs with
  | [.int i] => Q (.int i) G
  | [.bl b] => Q (.int (if b then 1 else 0)) G
  | _ => False
def bBool : WB := fun vs G Q => match vs with
  | [.int i] => Q (.bl (i != 0)) G
  | [.bl b] => Q (.bl b) G
  | _ => False
def bMax2 : WB := fun vs G Q => match vs with | [.int i, .int j] => Q (.int (if j > i then j else i)) G | _ => False
def bMin2 : WB := fun vs G Q => match vs with | [.int i, .int j] => Q (.int (if j < i then j else i)) G | _ => False
def bRepr : WB := fun vs G Q => match vs with
  | [.int i] => i.natAbs.log2 < 1920 ∧ Q (.str (toString i)) G
  | [.tup xs] => ∃ d, dat G datN (.tup xs) = some d ∧ d.showable = true ∧ d.hasDict = false ∧ d.shown.length ≤ sizeLine ∧ d.depth ≤ 64 ∧ Q (.str d.shown) G
  | [.ref a] => ∃ d, dat G datN (.ref a) = some d ∧ d.showable = true ∧ d.hasDict = false ∧ d.shown.length ≤ sizeLine ∧ d.depth ≤ 64 ∧ Q (.str d.shown) G
  | _ => False
def bStr : WB := fun vs G Q => match vs with
  | [.int i] => i.natAbs.log2 < 1920 ∧ Q (.str (toString i)) G
  | [.str x] => Q (.str x) G
  | _ => False
theorem call_abs' : CallR X (.builtin "abs") (rB X.ky bAbs) := by
  intro pins s σ H xs us Q I r h
  obtain ⟨vs, G, QP, rv, rg, hw, hq⟩ := h
  unfold bAbs at hw
  split at hw
  · rename_i i
    obtain ⟨x, rfl, h1⟩ := rv.inv1
    rw [RV] at h1; subst h1
    refine call_abs pins s σ H _ us Q I r ⟨i, rfl, ?_⟩
    rw [show (if i < 0 then -i else i) = (i.natAbs : Int) by split <;> omega]
    exact hq _ _ _ _ .refl rg (RV.intI _) hw
  · exact hw.elim
theorem call_int' : CallR X (.type "int") (rB X.ky bInt) := by
  intro pins s σ H xs us Q I r h
  obtain ⟨vs, G, QP, rv, rg, hw, hq⟩ := h
  unfold bInt at hw
  split at hw
  · obtain ⟨x, rfl, h1⟩ := rv.inv1
    rw [RV] at h1; subst h1
    exact call_int1 pins s σ H _ us Q I r (.inl ⟨_, rfl, hq _ _ _ _ .refl rg (RV.intI _) hw⟩)
  · obtain ⟨x, rfl, h1⟩ := rv.inv1
    rw [RV] at h1; subst h1
    exact call_int1 pins s σ H _ us Q I r (.inr ⟨_, rfl, hq _ _ _ _ .refl rg (RV.intI _) hw⟩)
  · exact hw.elim
theorem call_bool' : CallR X (.type "bool") (rB X.ky bBool) := by
  intro pins s σ H xs us Q I r h
  obtain ⟨vs, G, QP, rv, rg, hw, hq⟩ := h
  unfold bBool at hw
  split at hw
  · obtain ⟨x, rfl, h1⟩ := rv.inv1
    rw [RV] at h1; subst h1
    exact call_bool1 pins s σ H _ us Q I r (.inl ⟨_, rfl, hq _ _ _ _ .refl rg (RV.blI _) hw⟩)
  · obtain ⟨x, rfl, h1⟩ := rv.inv1
    rw [RV] at h1; subst h1
    exact call_bool1 pins s σ H _ us Q I r (.inr ⟨_, rfl, hq _ _ _ _ .refl rg (RV.blI _) hw⟩)
  · exact hw.elim
theorem RVs.inv2 {K : Frag} {H : Hp} {v w : PV} {xs : List V} (h : RVs K H [v, w] xs) : ∃ x y, xs = [x, y] ∧ RV K H v x ∧ RV K H w y := by
  obtain ⟨x, r, rfl, a, b⟩ := h.invc
  obtain ⟨y, rfl, c⟩ := b.inv1
  exact ⟨x, y, rfl, a, c⟩
theorem call_max2' (hc : X.calm = true) : CallR X (.builtin "max") (rB X.ky bMax2) := by
  intro pins s σ H xs us Q I r h
  obtain ⟨vs, G, QP, rv, rg, hw, hq⟩ := h
  unfold bMax2 at hw
  split at hw
  · obtain ⟨x, y, rfl, h1, h2⟩ := rv.inv2
    rw [RV] at h1 h2; subst h1; subst h2
    exact call_max2 hc pins s σ H _ us Q I r ⟨_, _, rfl, hq _ _ _ _ .refl rg (RV.intI _) hw⟩
  · exact hw.elim
theorem call_min2' (hc : X.calm = true) : CallR X (.builtin "min") (rB X.ky bMin2) := by
  intro pins s σ H xs us Q I r h
  obtain ⟨vs, G, QP, rv, rg, hw, hq⟩ := h
  unfold bMin2 at hw
  split at hw
  · obtain ⟨x, y, rfl, h1, h2⟩ := rv.inv2
    rw [RV] at h1 h2; subst h1; subst h2
    exact call_min2 hc pins s σ H _ us Q I r ⟨_, _, rfl, hq _ _ _ _ .refl rg (RV.intI _) hw⟩
  · exact hw.elim
theorem x_len {pins : List (Addr × Obj)} {σ : St} {H : Hp} {s : Shared} {a : Addr} {xs : List (NestedKey × Addr × Value)} {kvs : List (NestedKey × PV)} {E : Value → Shared → Prop} {Q : Value → Shared → Prop} (I : Inv X pins σ H s) (e : RdX X.ky H a xs) (r : RX X.K H kvs xs) (sh : shallow kvs) (hl : kvs.length ≤ sizeLine)
    (h : ∀ t s', Inv X pins σ H s' → Q (.int kvs.length t) s') : wpAny (model X.prog X.w) X.A (call (.builtin "len") [.ref a]) Q E s := by
  obtain ⟨hm, d⟩ := dX_of I e r sh
  have dk : s.heap.DictKeyed (nestedKind X.prog X.w) a (pairsH xs) := ⟨xs, d, rfl⟩
  have hn : (pairsH xs).length = kvs.length := by rw [pairsH_length, r.length]
  refine PyProof.Rows.call_len_slot (n := (pairsH xs).length) dk.typeIs F.slot_dict_len (fun Q' hq => len_keyed hm dk hq) (by omega) (by rw [hn]; have : sizeLine < 2 ^ 62 := (by decide); omega) ?_
  rw [hn]
  exact h _ _ (I.tok _)
theorem call_len' : CallR X (.builtin "len") (rB X.ky bLen) := by
  intro pins s σ H xs us Q I r h
  obtain ⟨vs, G, QP, rv, rg, hw, hq⟩ := h
  unfold bLen at hw
  split at hw
  · obtain ⟨x, rfl, h1⟩ := rv.inv1
    rw [RV] at h1; subst h1
    exact call_len_str pins s σ H _ us Q I r ⟨_, rfl, hw.1, hq _ _ _ _ .refl rg (RV.intI _) hw.2⟩
  · obtain ⟨x, rfl, h1⟩ := rv.inv1
    obtain ⟨a, xs, rfl, h2, h3⟩ := h1.tup
    rw [h3.length] at hw
    exact call_len_seq pins s σ H _ us Q I r ⟨a, xs, rfl, .inr h2, hq _ _ _ _ .refl rg (RV.intI _) hw⟩
  · obtain ⟨x, rfl, h1⟩ := rv.inv1
    rw [RV] at h1
    obtain ⟨a, xs, rfl, h2, h3⟩ := h1
    rw [h3.length] at hw
    exact call_len_seq pins s σ H _ us Q I r ⟨a, xs, rfl, .inl h2.sq, hq _ _ _ _ .refl rg (RV.intI _) hw⟩
  · rename_i a
    obtain ⟨x, rfl, h1⟩ := rv.inv1
    rw [RV] at h1; subst h1
    split at hw
    · rename_i vs ga
      obtain ⟨xs, h2, h3⟩ := rg _ _ ga
      rw [h3.length] at hw
      exact call_len_seq pins s σ H _ us Q I r ⟨a, xs, rfl, .inl (.of h2), hq _ _ _ _ .refl rg (RV.intI _) hw⟩
    · rename_i kvs ga
      obtain ⟨xs, h2, h3⟩ := rg _ _ ga
      obtain ⟨u, rfl, hu⟩ := vals1 r
      cases (show u = Value.ref a from hu)
      rw [h3.length] at hw
      exact d_len I (.of h2) fun t s' I' => ⟨.int _, H, I', ⟨t, rfl⟩, hq _ _ _ _ .refl rg (RV.intI _) hw⟩
    · rename_i kvs ga
      obtain ⟨xs, h2, h3, h4⟩ := rg _ _ ga
      obtain ⟨u, rfl, hu⟩ := vals1 r
      cases (show u = Value.ref a from hu)
      exact x_len I (.inl h2) h4 h3 hw.1 fun t s' I' => ⟨.int _, H, I', ⟨t, rfl⟩, hq _ _ _ _ .refl rg (RV.intI _) hw.2⟩
    · exact hw.elim
  · exact hw.elim
theorem repr_ref (gd : X.A.guards = some []) (hu : X.A.units + 200 < cLine) {pins : List (Addr × Obj)} {s : Shared} {σ : St} {H : Hp} {Q : VK} {a : Addr} {d : PyData} (I : Inv X pins σ H s) (h : Dp X.K H (.ref a) d) (h1 : d.showable = true) (h2 : d.hasDict = false)
    (h3 : d.shown.length ≤ sizeLine) (h4 : d.depth ≤ 64) (q : Q (.str d.shown) H) : wpAny (model X.prog X.w) X.A (call (.builtin "repr") [.ref a]) (EP X pins σ Q) X.xe s := by
  obtain ⟨as, rd⟩ := Dp.reads I d (.ref a) (.ref a) h rfl
  refine repr_of_reads' rd h1 (noDict_hsm' h2) gd (by omega) (fun b o e => e) (fun h' u tk k => ?_) h3
  exact ⟨.str _, H, I.kept k, ⟨u, rfl⟩, q⟩
where
  noDict_hsm' {d : PyData} {as : List Addr} (h : d.hasDict = false) : d.hasDict = true → sysModules ∉ as := fun e => by rw [h] at e; cases e
theorem call_repr' (gd : X.A.guards = some []) (hu : X.A.units + 200 < cLine) : CallR X (.builtin "repr") (rB X.ky bRepr) := by
  intro pins s σ H xs us Q I r h
  obtain ⟨vs, G, QP, rv, rg, hw, hq⟩ := h
  unfold bRepr at hw
  split at hw
  · obtain ⟨x, rfl, h1⟩ := rv.inv1
    rw [RV] at h1; subst h1
    exact call_repr_int pins s σ H _ us Q I r ⟨_, rfl, hw.1, hq _ _ _ _ .refl rg (RV.strI _) hw.2⟩
  · obtain ⟨x, rfl, h1⟩ := rv.inv1
    obtain ⟨d, e1, e2, e3, e4, e5, q⟩ := hw
    have dp := dat_ok rg _ _ _ _ h1 e1
    obtain ⟨a, xs, rfl, _⟩ := h1.tup
    obtain ⟨u, rfl, hu'⟩ := vals1 r
    cases (show u = Value.ref a from hu')
    exact repr_ref gd hu I dp e2 e3 e4 e5 (hq _ _ _ _ .refl rg (RV.strI _) q)
  · rename_i a
    obtain ⟨x, rfl, h1⟩ := rv.inv1
    obtain ⟨d, e1, e2, e3, e4, e5, q⟩ := hw
    have dp := dat_ok rg _ _ _ _ h1 e1
    rw [RV] at h1; subst h1
    obtain ⟨u, rfl, hu'⟩ := vals1 r
    cases (show u = Value.ref a from hu')
    exact repr_ref gd hu I dp e2 e3 e4 e5 (hq _ _ _ _ .refl rg (RV.strI _) q)
  · exact hw.elim
theorem call_str' : CallR X (.type "str") (rB X.ky bStr) := by
  intro pins s σ H xs us Q I r h
  obtain ⟨vs, G, QP, rv, rg, hw, hq⟩ := h
  unfold bStr at hw
  split at hw
  · obtain ⟨x, rfl, h1⟩ := rv.inv1
    rw [RV] at h1; subst h1
    exact call_str_int pins s σ H _ us Q I r ⟨_, rfl, hw.1, hq _ _ _ _ .refl rg (RV.strI _) hw.2⟩
  · obtain ⟨x, rfl, h1⟩ := rv.inv1
    rw [RV] at h1; subst h1
    exact call_str_str pins s σ H _ us Q I r ⟨_, rfl, hq _ _ _ _ .refl rg (RV.strI _) hw⟩
  · exact hw.elim
/-! ### sequences: lists that need not be known, lists and tuples -/
/-- a list of these values -/
def tQ (Z : Ky) (wl : WL) : TE := fun σ H Q => ∃ ρ G QP, RS Z.K ρ σ H ∧ RG Z G H ∧ wl ρ G QP ∧ ∀ vs G' a xs H', TupLe Z.K H H' → RG Z G' H' → SqL Z.K H' a xs → RVs Z.K H' vs xs → QP vs G' → Q (.ref a) H'
/-- a list or a tuple -/
def tS (Z : Ky) (wl : WL) : TE := fun σ H Q => ∃ ρ G QP, RS Z.K ρ σ H ∧ RG Z G H ∧ wl ρ G QP ∧ ∀ vs G' a xs H', TupLe Z.K H H' → RG Z G' H' → (SqL Z.K H' a xs ∨ SqT Z.K H' a xs) → RVs Z.K H' vs xs → QP vs G' → Q (.ref a) H'
abbrev SQ (X : Cx) (e : Expr) (w : WL) : Prop := PE X e (tQ X.ky w)
abbrev SS (X : Cx) (e : Expr) (w : WL) : Prop := PE X e (tS X.ky w)
theorem ss_sq (h : SQ X e wl) : SS X e wl := PE.weak h fun σ H Q h => by
  obtain ⟨ρ, G, QP, rs, rg, hw, hq⟩ := h
  exact ⟨ρ, G, QP, rs, rg, hw, fun vs G' a xs H' t r l v q => hq vs G' a xs H' t r (.inl l) v q⟩
def wSeqL (w : WE) : WL := fun ρ G Q => w ρ G fun v G1 => match v with
  | .rl vs => Q vs G1
  | .ref a => (match G1 a with | some (.lst vs) => Q vs G1 | _ => False)
  | _ => False
def wSeq (w : WE) : WL := fun ρ G Q => w ρ G fun v G1 => match v with
  | .tup vs => Q vs G1
  | .rl vs => Q vs G1
  | .ref a => (match G1 a with | some (.lst vs) => Q vs G1 | _ => False)
  | _ => False
def wDisp (wl : WL) : WL := fun ρ G Q => wl ρ G fun vs G1 => vs.length ≤ sizeLine ∧ Q vs G1
theorem sq_val (h : SE X e w) : SQ X e (wSeqL w) := PE.weak h fun σ H Q h => by
  obtain ⟨ρ, G, QP, rs, rg, hw, hq⟩ := h
  refine ⟨ρ, G, _, rs, rg, hw, fun v G1 x H1 t1 rg1 rv1 hw1 => ?_⟩
  split at hw1
  · rw [RV] at rv1
    obtain ⟨a, xs, rfl, h1, h2⟩ := rv1
    exact hq _ _ _ _ _ t1 rg1 h1.sq h2 hw1
  · rw [RV] at rv1; subst rv1
    split at hw1
    · rename_i vs ga
      obtain ⟨xs, h1, h2⟩ := rg1 _ _ ga
      exact hq _ _ _ _ _ t1 rg1 (.of h1) h2 hw1
    · exact hw1.elim
  · exact hw1.elim
theorem ss_val (h : SE X e w) : SS X e (wSeq w) := PE.weak h fun σ H Q h => by
  obtain ⟨ρ, G, QP, rs, rg, hw, hq⟩ := h
  refine ⟨ρ, G, _, rs, rg, hw, fun v G1 x H1 t1 rg1 rv1 hw1 => ?_⟩
  split at hw1
  · obtain ⟨a, xs, rfl, h1, h2⟩ := rv1.tup
    exact hq _ _ _ _ _ t1 rg1 (.inr h1) h2 hw1
  · rw [RV] at rv1
    obtain ⟨a, xs, rfl, h1, h2⟩ := rv1
    exact hq _ _ _ _ _ t1 rg1 (.inl h1.sq) h2 hw1
  · rw [RV] at rv1; subst rv1
    split at hw1
    · rename_i vs ga
      obtain ⟨xs, h1, h2⟩ := rg1 _ _ ga
      exact hq _ _ _ _ _ t1 rg1 (.inl (.of h1)) h2 hw1
    · exact hw1.elim
  · exact hw1.elim
theorem sq_disp (h : SL X es wl) : SQ X (.List es pos) (wDisp wl) := PE.weak (pe_lst h) fun σ H Q h => by
  obtain ⟨ρ, G, QP, rs, rg, hw, hq⟩ := h
  refine ⟨ρ, G, _, rs, rg, hw, fun vs G1 xs H1 t1 rg1 rv1 hw1 => ?_⟩
  refine ⟨by rw [← rv1.length]; exact hw1.1, fun p hp => ?_⟩
  exact hq _ _ _ _ _ (t1.trans (.new hp)) (rg1.skip hp) (.of upd_same) (rv1.mono (.new hp)) hw1.2
theorem ss_tup {k : Nat} (h : SL X es wl) : SS X (.Tuple es k pos) (wDisp wl) := PE.weak (pe_tup h) fun σ H Q h => by
  obtain ⟨ρ, G, QP, rs, rg, hw, hq⟩ := h
  refine ⟨ρ, G, _, rs, rg, hw, fun vs G1 xs H1 t1 rg1 rv1 hw1 => ?_⟩
  refine ⟨by rw [← rv1.length]; exact hw1.1, fun p hp => ?_⟩
  exact hq _ _ _ _ _ (t1.trans (.new hp)) (rg1.skip hp) (.inr (.of upd_same)) (rv1.mono (.new hp)) hw1.2
/-! tuple(..), list(..), all, any, max, sum -/
def wTupOf (wl : WL) : WE := fun ρ G Q => wl ρ G fun vs G1 => Q (.tup vs) G1
def wLstOf (wl : WL) : WE := fun ρ G Q => wl ρ G fun vs G1 => ∀ p, G1 p = none → Q (.ref p) (pup G1 p (.lst vs))
theorem tCons1 {t : TE} {σ : St} {H : Hp} {Q : List V → Hp → Prop} (h : t σ H fun x H1 => Q [x] H1) : tCons t tNil σ H Q := h
theorem se_tupOf (he : SS X e wl) (hg : Gl X "tuple") (hm : X.mg "tuple" = none) (hs : starEach [e] X.env = (false, eval e X.env) :: starEach [] X.env) (hpl : (backTo pos (starEach [] X.env)).any (·.1) = false) : SE X (.Call (.Name "tuple" p) [e] [] pos) (wTupOf wl) :=
  PE.weak (pe_callTy call_tuple_of hg hm (by decide +kernel) (pa_cons he pa_nil hs) (by decide) (by decide) hs hpl) fun σ H Q h => by
  obtain ⟨ρ, G, QP, rs, rg, hw, hq⟩ := h
  refine tCons1 ⟨ρ, G, _, rs, rg, hw, fun vs G1 a xs H1 t1 rg1 hl rv1 hw1 => ?_⟩
  refine ⟨a, xs, rfl, ?_⟩
  rcases hl with hl | hl
  · exact .inl ⟨hl, fun l hl' => hq _ _ _ _ (t1.trans (.new hl')) (rg1.skip hl') (RV.tup_of (.of upd_same) (rv1.mono (.new hl'))) hw1⟩
  · exact .inr ⟨hl, hq _ _ _ _ t1 rg1 (RV.tup_of hl rv1) hw1⟩
theorem se_lstOf (he : SS X e wl) (hg : Gl X "list") (hm : X.mg "list" = none) (hs : starEach [e] X.env = (false, eval e X.env) :: starEach [] X.env) (hpl : (backTo pos (starEach [] X.env)).any (·.1) = false) : SE X (.Call (.Name "list" p) [e] [] pos) (wLstOf wl) :=
  PE.weak (pe_callTy call_list_of hg hm (by decide +kernel) (pa_cons he pa_nil hs) (by decide) (by decide) hs hpl) fun σ H Q h => by
  obtain ⟨ρ, G, QP, rs, rg, hw, hq⟩ := h
  refine tCons1 ⟨ρ, G, _, rs, rg, hw, fun vs G1 a xs H1 t1 rg1 hl rv1 hw1 => ?_⟩
  exact ⟨a, xs, rfl, hl, fun l hl' => hq _ _ _ _ (t1.trans (.new hl')) (rg1.newL hl' rv1) (RV.refI l) (hw1 l (rg1.fresh hl'))⟩
def bools : List PV → Option (List Bool)
  | [] => some []
  | .bl b :: r => match bools r with | some bs => some (b :: bs) | none => none
  | _ => none
def intsOf : List PV → Option (List Int)
  | [] => some []
  | .int b :: r => match intsOf r with | some bs => some (b :: bs) | none => none
  | _ => none
theorem bools_eq : ∀ {vs : List PV} {bs : List Bool}, bools vs = some bs → vs = bs.map .bl
  | [], bs, h => by cases h; rfl
  | .bl b :: r, bs, h => by
    simp only [bools] at h
    split at h
    · rename_i bs' e; cases h; rw [bools_eq e]; rfl
    · cases h
  | .non :: _, _, h => by simp [bools] at h
  | .int _ :: _, _, h => by simp [bools] at h
  | .str _ :: _, _, h => by simp [bools] at h
  | .tup _ :: _, _, h => by simp [bools] at h
  | .rl _ :: _, _, h => by simp [bools] at h
  | .ref _ :: _, _, h => by simp [bools] at h
theorem ints_eq : ∀ {vs : List PV} {bs : List Int}, intsOf vs = some bs → vs = bs.map .int
  | [], bs, h => by cases h; rfl
  | .int b :: r, bs, h => by
    simp only [intsOf] at h
    split at h
    · rename_i bs' e; cases h; rw [ints_eq e]; rfl
    · cases h
  | .non :: _, _, h => by simp [intsOf] at h
  | .bl _ :: _, _, h => by simp [intsOf] at h
  | .str _ :: _, _, h => by simp [intsOf] at h
  | .tup _ :: _, _, h => by simp [intsOf] at h
  | .rl _ :: _, _, h => by simp [intsOf] at h
  | .ref _ :: _, _, h => by simp [intsOf] at h
theorem bools_map : ∀ bs : List Bool, bools (bs.map .bl) = some bs
  | [] => rfl
  | b :: bs => by simp only [List.map_cons, bools, bools_map bs]
theorem ints_map : ∀ bs : List Int, intsOf (bs.map .int) = some bs
  | [] => rfl
  | b :: bs => by simp only [List.map_cons, intsOf, ints_map bs]
def wAll (wl : WL) : WE := fun ρ G Q => wl ρ G fun vs G1 => match bools vs with | some bs => Q (.bl (bs.all (fun b => b))) G1 | none => False
def wAny (wl : WL) : WE := fun ρ G Q => wl ρ G fun vs G1 => match bools vs with | some bs => Q (.bl (bs.any (fun b => b))) G1 | none => False
def wMax (wl : WL) : WE := fun ρ G Q => wl ρ G fun vs G1 => match intsOf vs with | some ns => ns ≠ [] ∧ ∀ m, m ∈ ns → (∀ y, y ∈ ns → y ≤ m) → Q (.int m) G1 | none => False
def wMin (wl : WL) : WE := fun ρ G Q => wl ρ G fun vs G1 => match intsOf vs with | some ns => ns ≠ [] ∧ ∀ m, m ∈ ns → (∀ y, y ∈ ns → m ≤ y) → Q (.int m) G1 | none => False
def wSum (wl : WL) : WE := fun ρ G Q => wl ρ G fun vs G1 => match intsOf vs with | some ns => Q (.int ns.sum) G1 | none => False
section
variable (hc : X.calm = true) (he : SQ X e wl) (hs : starEach [e] X.env = (false, eval e X.env) :: starEach [] X.env) (hpl : (backTo pos (starEach [] X.env)).any (·.1) = false)
include hc he hs hpl
theorem se_all (hg : Gl X "all") (hm : X.mg "all" = none) : SE X (.Call (.Name "all" p) [e] [] pos) (wAll wl) :=
  PE.weak (pe_callB (cr_all hc) hg hm (by decide +kernel) (pa_cons he pa_nil hs) (by decide) (by decide) hs hpl) fun σ H Q h => by
  obtain ⟨ρ, G, QP, rs, rg, hw, hq⟩ := h
  refine tCons1 ⟨ρ, G, _, rs, rg, hw, fun vs G1 a xs H1 t1 rg1 hl rv1 hw1 => ?_⟩
  split at hw1
  · rename_i bs e
    have := bools_eq e
    subst this
    rw [rv1.bls] at hl
    exact ⟨a, bs, rfl, hl, hq _ _ _ _ t1 rg1 (RV.blI _) hw1⟩
  · exact hw1.elim
theorem se_any (hg : Gl X "any") (hm : X.mg "any" = none) : SE X (.Call (.Name "any" p) [e] [] pos) (wAny wl) :=
  PE.weak (pe_callB (cr_any hc) hg hm (by decide +kernel) (pa_cons he pa_nil hs) (by decide) (by decide) hs hpl) fun σ H Q h => by
  obtain ⟨ρ, G, QP, rs, rg, hw, hq⟩ := h
  refine tCons1 ⟨ρ, G, _, rs, rg, hw, fun vs G1 a xs H1 t1 rg1 hl rv1 hw1 => ?_⟩
  split at hw1
  · rename_i bs e
    have := bools_eq e
    subst this
    rw [rv1.bls] at hl
    exact ⟨a, bs, rfl, hl, hq _ _ _ _ t1 rg1 (RV.blI _) hw1⟩
  · exact hw1.elim
theorem se_max (hg : Gl X "max") (hm : X.mg "max" = none) : SE X (.Call (.Name "max" p) [e] [] pos) (wMax wl) :=
  PE.weak (pe_callB (cr_max hc) hg hm (by decide +kernel) (pa_cons he pa_nil hs) (by decide) (by decide) hs hpl) fun σ H Q h => by
  obtain ⟨ρ, G, QP, rs, rg, hw, hq⟩ := h
  refine tCons1 ⟨ρ, G, _, rs, rg, hw, fun vs G1 a xs H1 t1 rg1 hl rv1 hw1 => ?_⟩
  split at hw1
  · rename_i ns e
    have := ints_eq e
    subst this
    rw [rv1.ints] at hl
    exact ⟨a, ns, rfl, hl, List.length_pos_iff.mpr hw1.1, fun m h1 h2 => hq _ _ _ _ t1 rg1 (RV.intI _) (hw1.2 m h1 h2)⟩
  · exact hw1.elim
theorem se_min (hg : Gl X "min") (hm : X.mg "min" = none) : SE X (.Call (.Name "min" p) [e] [] pos) (wMin wl) :=
  PE.weak (pe_callB (cr_min hc) hg hm (by decide +kernel) (pa_cons he pa_nil hs) (by decide) (by decide) hs hpl) fun σ H Q h => by
  obtain ⟨ρ, G, QP, rs, rg, hw, hq⟩ := h
  refine tCons1 ⟨ρ, G, _, rs, rg, hw, fun vs G1 a xs H1 t1 rg1 hl rv1 hw1 => ?_⟩
  split at hw1
  · rename_i ns e
    have := ints_eq e
    subst this
    rw [rv1.ints] at hl
    exact ⟨a, ns, rfl, hl, List.length_pos_iff.mpr hw1.1, fun m h1 h2 => hq _ _ _ _ t1 rg1 (RV.intI _) (hw1.2 m h1 h2)⟩
  · exact hw1.elim
theorem se_sum (hg : Gl X "sum") (hm : X.mg "sum" = none) : SE X (.Call (.Name "sum" p) [e] [] pos) (wSum wl) :=
  PE.weak (pe_callB (cr_sum hc) hg hm (by decide +kernel) (pa_cons he pa_nil hs) (by decide) (by decide) hs hpl) fun σ H Q h => by
  obtain ⟨ρ, G, QP, rs, rg, hw, hq⟩ := h
  refine tCons1 ⟨ρ, G, _, rs, rg, hw, fun vs G1 a xs H1 t1 rg1 hl rv1 hw1 => ?_⟩
  split at hw1
  · rename_i ns e
    have := ints_eq e
    subst this
    rw [rv1.ints] at hl
    exact ⟨a, ns, rfl, hl, hq _ _ _ _ t1 rg1 (RV.intI _) hw1⟩
  · exact hw1.elim
end
end
end Cl
set_option Elab.async false
set_option linter.all false
set_option maxRecDepth 100000
set_option maxHeartbeats 4000000
/-! The clean layer, part H: slices, methods of lists and dicts, empty dicts, max with a default, sorted. -/
namespace Cl
open PySem PySem.Spec PyProof.Rows L2 SkE
/-! ### slices -/
def cutP (xs : List PV) (lo hi : Option Int) : List PV := (xs.drop (HT.sIx xs.length 0 lo)).take (HT.sIx xs.length xs.length hi - HT.sIx xs.length 0 lo)
theorem RVs.cut {K : Frag} {H : Hp} {vs : List PV} {xs : List V} (r : RVs K H vs xs) (lo hi : Option Int) : RVs K H (cutP vs lo hi) (cutV xs lo hi) := by
  unfold cutP cutV
  rw [r.length]
  exact (r.drop _).take _
abbrev WO := Rho → PG → (Option Int → PG → Prop) → Prop
def tWO (Z : Ky) (w : WO) : TO := fun σ H Q => ∃ ρ G QP, RS Z.K ρ σ H ∧ RG Z G H ∧ w ρ G QP ∧ ∀ o G' H', TupLe Z.K H H' → RG Z G' H' → QP o G' → Q o H'
abbrev SO (X : Cx) (e : Option Expr) (w : WO) : Prop := L2.PO X e (tWO X.ky w)
def wNoP : WO := fun _ G Q => Q none G
def wPart (w : WE) : WO := fun ρ G Q => w ρ G fun v G1 => match v with | .int i => Q (some i) G1 | _ => False
theorem PO.weak {X : Cx} {e : Option Expr} {t t' : TO} (h : L2.PO X e t) (i : ∀ σ H Q, t' σ H Q → t σ H Q) : L2.PO X e t' := ⟨fun pins s σ H Q I q => h.run pins s σ H Q I (i σ H Q q)⟩
section
variable {X : Cx} {p pos apos p2 : Pos} {e a b o : Expr} {es : List Expr} {wl wm : WL} {w wa wb wc : WE} {lo hi : Option Expr} {wlo whi : WO}
theorem so_none : SO X none wNoP := PO.weak po_none fun σ H Q h => by
  obtain ⟨ρ, G, QP, rs, rg, hw, hq⟩ := h
  exact hq _ _ _ .refl rg hw
theorem so_some (he : SE X e w) : SO X (some e) (wPart w) := PO.weak (po_some he) fun σ H Q h => by
  obtain ⟨ρ, G, QP, rs, rg, hw, hq⟩ := h
  refine ⟨ρ, G, _, rs, rg, hw, fun v G1 x H1 t1 rg1 rv1 hw1 => ?_⟩
  split at hw1
  · rw [RV] at rv1; subst rv1
    exact ⟨_, rfl, hq _ _ _ t1 rg1 hw1⟩
  · exact hw1.elim
/-- v[lo:hi] of a tuple (not the whole) or of a list -/
def wSlice (w : WE) (wlo whi : WO) : WE := fun ρ G Q => w ρ G fun v G1 => wlo ρ G1 fun l G2 => whi ρ G2 fun h G3 => match v with
  | .tup xs => ¬ (HT.sIx xs.length 0 l = 0 ∧ HT.sIx xs.length xs.length h = xs.length) ∧ Q (.tup (cutP xs l h)) G3
  | .rl xs => ∀ p, G3 p = none → Q (.ref p) (pup G3 p (.lst (cutP xs l h)))
  | .ref a => (match G3 a with | some (.lst xs) => ∀ p, G3 p = none → Q (.ref p) (pup G3 p (.lst (cutP xs l h))) | _ => False)
  | _ => False
/-- the same of a list, the new list itself not known -/
def wSliceQ (w : WE) (wlo whi : WO) : WL := fun ρ G Q => w ρ G fun v G1 => wlo ρ G1 fun l G2 => whi ρ G2 fun h G3 => match v with
  | .rl xs => Q (cutP xs l h) G3
  | .ref a => (match G3 a with | some (.lst xs) => Q (cutP xs l h) G3 | _ => False)
  | _ => False
def wSliceS (w : WE) (wlo whi : WO) : WL := fun ρ G Q => w ρ G fun v G1 => wlo ρ G1 fun l G2 => whi ρ G2 fun h G3 => match v with
  | .tup xs => ¬ (HT.sIx xs.length 0 l = 0 ∧ HT.sIx xs.length xs.length h = xs.length) ∧ Q (cutP xs l h) G3
  | .rl xs => Q (cutP xs l h) G3
  | .ref a => (match G3 a with | some (.lst xs) => Q (cutP xs l h) G3 | _ => False)
  | _ => False
theorem se_slice (he : SE X e w) (hl : SO X lo wlo) (hh : SO X hi whi) : SE X (.Subscript e (.Slice lo hi none p2) pos) (wSlice w wlo whi) :=
  PE.weak (pe_slice (sl_list.or sl_tup) he hl hh) fun σ H Q h => by
  obtain ⟨ρ, G, QP, rs, rg, hw, hq⟩ := h
  refine ⟨ρ, G, _, rs, rg, hw, fun v G1 x H1 t1 rg1 rv1 hw1 => ?_⟩
  refine ⟨ρ, G1, _, rs.mono t1, rg1, hw1, fun l G2 H2 t2 rg2 hw2 => ?_⟩
  refine ⟨ρ, G2, _, rs.mono (t1.trans t2), rg2, hw2, fun u G3 H3 t3 rg3 hw3 => ?_⟩
  have rv3 := RV.mono (t2.trans t3) _ _ rv1
  have t := (t1.trans t2).trans t3
  split at hw3
  · obtain ⟨c, xs, rfl, h1, h2⟩ := rv3.tup
    rw [h2.length] at hw3
    exact .inr ⟨c, xs, rfl, h1, hw3.1, fun p hp => hq _ _ _ _ (t.trans (.new hp)) (rg3.skip hp) (RV.tup_of (.of upd_same) ((h2.cut l u).mono (.new hp))) hw3.2⟩
  · rw [RV] at rv3
    obtain ⟨c, xs, rfl, h1, h2⟩ := rv3
    exact .inl ⟨c, xs, rfl, h1.sq, fun p hp => hq _ _ _ _ (t.trans (.new hp)) (rg3.newL hp (h2.cut l u)) (RV.refI p) (hw3 p (rg3.fresh hp))⟩
  · rw [RV] at rv3; subst rv3
    split at hw3
    · rename_i vs ga
      obtain ⟨xs, h1, h2⟩ := rg3 _ _ ga
      exact .inl ⟨_, xs, rfl, .of h1, fun p hp => hq _ _ _ _ (t.trans (.new hp)) (rg3.newL hp (h2.cut l u)) (RV.refI p) (hw3 p (rg3.fresh hp))⟩
    · exact hw3.elim
  · exact hw3.elim
theorem sq_slice (he : SE X e w) (hl : SO X lo wlo) (hh : SO X hi whi) : SQ X (.Subscript e (.Slice lo hi none p2) pos) (wSliceQ w wlo whi) :=
  PE.weak (pe_slice sl_list he hl hh) fun σ H Q h => by
  obtain ⟨ρ, G, QP, rs, rg, hw, hq⟩ := h
  refine ⟨ρ, G, _, rs, rg, hw, fun v G1 x H1 t1 rg1 rv1 hw1 => ?_⟩
  refine ⟨ρ, G1, _, rs.mono t1, rg1, hw1, fun l G2 H2 t2 rg2 hw2 => ?_⟩
  refine ⟨ρ, G2, _, rs.mono (t1.trans t2), rg2, hw2, fun u G3 H3 t3 rg3 hw3 => ?_⟩
  have rv3 := RV.mono (t2.trans t3) _ _ rv1
  have t := (t1.trans t2).trans t3
  split at hw3
  · rw [RV] at rv3
    obtain ⟨c, xs, rfl, h1, h2⟩ := rv3
    exact ⟨c, xs, rfl, h1.sq, fun p hp => hq _ _ _ _ _ (t.trans (.new hp)) (rg3.skip hp) (.of upd_same) ((h2.cut l u).mono (.new hp)) hw3⟩
  · rw [RV] at rv3; subst rv3
    split at hw3
    · rename_i vs ga
      obtain ⟨xs, h1, h2⟩ := rg3 _ _ ga
      exact ⟨_, xs, rfl, .of h1, fun p hp => hq _ _ _ _ _ (t.trans (.new hp)) (rg3.skip hp) (.of upd_same) ((h2.cut l u).mono (.new hp)) hw3⟩
    · exact hw3.elim
  · exact hw3.elim
theorem ss_slice (he : SE X e w) (hl : SO X lo wlo) (hh : SO X hi whi) : SS X (.Subscript e (.Slice lo hi none p2) pos) (wSliceS w wlo whi) :=
  PE.weak (pe_slice (sl_list.or sl_tup) he hl hh) fun σ H Q h => by
  obtain ⟨ρ, G, QP, rs, rg, hw, hq⟩ := h
  refine ⟨ρ, G, _, rs, rg, hw, fun v G1 x H1 t1 rg1 rv1 hw1 => ?_⟩
  refine ⟨ρ, G1, _, rs.mono t1, rg1, hw1, fun l G2 H2 t2 rg2 hw2 => ?_⟩
  refine ⟨ρ, G2, _, rs.mono (t1.trans t2), rg2, hw2, fun u G3 H3 t3 rg3 hw3 => ?_⟩
  have rv3 := RV.mono (t2.trans t3) _ _ rv1
  have t := (t1.trans t2).trans t3
  split at hw3
  · obtain ⟨c, xs, rfl, h1, h2⟩ := rv3.tup
    rw [h2.length] at hw3
    exact .inr ⟨c, xs, rfl, h1, hw3.1, fun p hp => hq _ _ _ _ _ (t.trans (.new hp)) (rg3.skip hp) (.inr (.of upd_same)) ((h2.cut l u).mono (.new hp)) hw3.2⟩
  · rw [RV] at rv3
    obtain ⟨c, xs, rfl, h1, h2⟩ := rv3
    exact .inl ⟨c, xs, rfl, h1.sq, fun p hp => hq _ _ _ _ _ (t.trans (.new hp)) (rg3.skip hp) (.inl (.of upd_same)) ((h2.cut l u).mono (.new hp)) hw3⟩
  · rw [RV] at rv3; subst rv3
    split at hw3
    · rename_i vs ga
      obtain ⟨xs, h1, h2⟩ := rg3 _ _ ga
      exact .inl ⟨_, xs, rfl, .of h1, fun p hp => hq _ _ _ _ _ (t.trans (.new hp)) (rg3.skip hp) (.inl (.of upd_same)) ((h2.cut l u).mono (.new hp)) hw3⟩
    · exact hw3.elim
  · exact hw3.elim
end
/-! ### t[::-1] -/
section
variable {prog : Program} {w : World} {A : Around} {E : Value → Shared → Prop} {s : Shared}
theorem sliceApplied_rev {sl : Addr} {vs : Value} {n : Nat} {Q : Int × Int × Nat → Shared → Prop} (hs : s.heap.IsSliceOf sl .none .none vs) (ps : IsPart vs (some (-1)))
    (h : Q ((n : Int) - 1, -1, n) s) : wpAny (model prog w) A (Builtin.Slice.sliceApplied (.ref sl) (pure (n : Int))) Q E s := by
  obtain ⟨os, hos, hcs, hds⟩ := id hs
  unfold Builtin.Slice.sliceApplied Builtin.Slice.sliceFields
  refine wpAny_bind (wpAny_bind (wpAny_field hos hds (x := .none) rfl (wpAny_bind (wpAny_field hos hds (x := .none) rfl (wpAny_bind (wpAny_field hos hds (x := vs) rfl (wpAny_pure ?_)))))))
  refine wpAny_bind (HT.slicePart_ ps ?_)
  show wpAny _ _ (if ((-1 : Int) == 0) = true then _ else _) _ _ s
  rw [if_neg (by decide)]
  refine wpAny_bind (slicePart_none (wpAny_bind (slicePart_none (wpAny_bind (wpAny_pure ?_)))))
  show wpAny _ _ (match Builtin.Slice.sliceAdjust none none (-1) (n : Int) with | (lo, hi) => pure (lo, (-1 : Int), Builtin.Slice.slicePlaces lo hi (-1))) _ _ s
  have e1 : Builtin.Slice.sliceAdjust none none (-1) (n : Int) = ((n : Int) - 1, -1) := by
    unfold Builtin.Slice.sliceAdjust
    simp
  rw [e1]
  have e2 : Builtin.Slice.slicePlaces ((n : Int) - 1) (-1) (-1) = n := by
    unfold Builtin.Slice.slicePlaces
    have h1 : ¬ ((-1 : Int) > 0) := by omega
    simp only [h1, if_false]
    have e3 : ((n : Int) - 1 - (-1) - 1) / (- -1) = (n : Int) - 1 := by
      rw [show (- -1 : Int) = 1 by decide, Int.ediv_one]; omega
    split
    · try rw [e3]
      omega
    · omega
  show wpAny _ _ (pure ((n : Int) - 1, (-1 : Int), Builtin.Slice.slicePlaces ((n : Int) - 1) (-1) (-1))) _ _ s
  rw [e2]
  exact wpAny_pure h
theorem pick_rev (xs : Array Value) : ((List.range xs.size).filterMap fun (m : Nat) => xs[(((xs.size : Int) - 1) + (m : Int) * (-1)).toNat]?).toArray = xs.toList.reverse.toArray := by
  congr 1
  apply List.ext_getElem?
  intro i
  have e : ∀ m ∈ List.range xs.size, (fun (m : Nat) => xs[(((xs.size : Int) - 1) + (m : Int) * (-1)).toNat]?) m = some (xs.toList.reverse.getD m .none) := by
    intro m hm
    have hm' := List.mem_range.mp hm
    have e1 : (((xs.size : Int) - 1) + (m : Int) * (-1)).toNat = xs.size - 1 - m := by omega
    show xs[(((xs.size : Int) - 1) + (m : Int) * (-1)).toNat]? = _
    rw [e1, ← Array.getElem?_toList]
    have hl : xs.toList.reverse[m]? = xs.toList[xs.toList.length - 1 - m]? := List.getElem?_reverse (by simpa using hm')
    rw [List.getD_eq_getElem?_getD, hl, Array.length_toList]
    have : xs.size - 1 - m < xs.toList.length := by rw [Array.length_toList]; omega
    rw [List.getElem?_eq_getElem this]; rfl
  have e2 : (List.range xs.size).filterMap (fun (m : Nat) => xs[(((xs.size : Int) - 1) + (m : Int) * (-1)).toNat]?) = (List.range xs.size).map fun m => xs.toList.reverse.getD m .none := by
    generalize List.range xs.size = l at e
    induction l with
    | nil => rfl
    | cons a l ih =>
      have ea : xs[(((xs.size : Int) - 1) + (a : Int) * (-1)).toNat]? = some (xs.toList.reverse.getD a .none) := e a List.mem_cons_self
      rw [List.filterMap_cons, ea, List.map_cons]
      simp only
      rw [ih fun m hm => e m (List.mem_cons_of_mem _ hm)]
  rw [e2, List.getElem?_map, List.getElem?_range_eq]
  split
  · rename_i hi
    have : i < xs.toList.reverse.length := by simpa using hi
    show some (xs.toList.reverse.getD i .none) = _
    rw [List.getD_eq_getElem?_getD, List.getElem?_eq_getElem this]; rfl
  · rename_i hi
    have : xs.toList.reverse.length ≤ i := by simpa using hi
    rw [List.getElem?_eq_none this]; rfl
where
  List.getElem?_range_eq {n i : Nat} : (List.range n)[i]? = if i < n then some i else none := by
    split
    · rename_i h; rw [List.getElem?_range h]
    · rename_i h; exact List.getElem?_eq_none (by simpa using h)
theorem getItem_tuple_rev {t sl : Addr} {items : Array Value} {vs : Value} {Q : Value → Shared → Prop} (ht : IsTup s.heap t items) (hs : s.heap.IsSliceOf sl .none .none vs) (ps : IsPart vs (some (-1)))
    (h : Q (.ref s.heap.objs.size) { s with heap := s.heap.push { cls := .type "tuple", data := .seq items.toList.reverse.toArray } })
    (hsz : items.size ≤ sizeLine) : wpAny (model prog w) A (getItem (.ref t) (.ref sl)) Q E s := by
  have htake : sizeOk (.seq items.toList.reverse.toArray) := by
    show items.toList.reverse.toArray.size ≤ sizeLine
    rw [List.size_toArray, List.length_reverse, Array.length_toList]
    omega
  obtain ⟨os, hos, hcs, hds⟩ := id hs
  have hTs : s.TypeIs (.ref sl) "slice" := ⟨os, hos, hcs⟩
  unfold getItem
  try with_reducible refine wpAny_holding ?_
  first | refine wpAny_bind (wpAny_pure ?_) | skip
  refine wpAny_bind (wpAny_sequenceKey ht.typeIs (by decide) ?_)
  refine wpAny_bind (wpAny_callSpecial?_slot (name := Str.ofString "__getitem__") ht.typeIs PyProof.Rows.slot_tuple_getitem
    (wpAny_call_entry PyProof.Rows.slot_tuple_getitem ht.typeIs entry_tuple_getitem ?_ (args_tuple_getitem _ _)))
  show wpAny _ _ (Builtin.Tuple.tupleItemsOf (.ref t) >>= _) _ _ s
  refine wpAny_bind (tupleItemsOf_ ht ?_)
  refine wpAny_bind (wpAny_typeOf hTs ?_)
  rw [if_pos (by decide)]
  refine wpAny_bind (sliceApplied_rev hs ps ?_)
  have hno : ¬ (((((items.size : Int) - 1)) == 0 && (-1 : Int) == 1 && items.size == items.size) = true) := by
    simp
  show wpAny _ _ (if (((items.size : Int) - 1) == 0 && (-1 : Int) == 1 && items.size == items.size) = true then _ else _) _ _ s
  rw [if_neg hno, pick_rev]
  first
    | exact wpAny_bind (m := Builtin.Tuple.tupleExact _) (wpAny_newObj_type (wpAny_pure ⟨_, rfl, wpAny_pure h⟩) htake)
    | exact wpAny_bind (m := Builtin.Tuple.tupleExact _) (wpAny_newObj_type (wpAny_bind (wpAny_pure (wpAny_pure ⟨_, rfl, wpAny_pure h⟩))) htake)
    | exact wpAny_bind (wpAny_bind (m := Builtin.Tuple.tupleExact _) (wpAny_newObj_type (wpAny_pure (wpAny_pure ⟨_, rfl, wpAny_pure h⟩)) htake))
    | exact wpAny_bind (wpAny_bind (m := Builtin.Tuple.tupleExact _) (wpAny_newObj_type (wpAny_pure ⟨_, rfl, wpAny_pure h⟩) htake))
end
section
variable {X : Cx} {p pos apos p1 p2 p3 : Pos} {e a b o : Expr} {es : List Expr} {wl wm : WL} {w wa wb wc : WE}
def wRev (w : WE) : WE := fun ρ G Q => w ρ G fun v G1 => match v with
  | .tup xs => Q (.tup xs.reverse) G1
  | .rl xs => ∀ p, G1 p = none → Q (.ref p) (pup G1 p (.lst xs.reverse))
  | .ref a => (match G1 a with | some (.lst xs) => ∀ p, G1 p = none → Q (.ref p) (pup G1 p (.lst xs.reverse)) | _ => False)
  | _ => False
theorem se_rev {k : Nat} (he : SE X e w) : SE X (.Subscript e (.Slice none none (some (.UnaryOp .USub (.Constant (.int 1) k p1) p2)) p3) pos) (wRev w) := by
  refine ⟨fun pins s σ H Q I h => ?_⟩
  obtain ⟨ρ, G, QP, rs, rg, hw, hq⟩ := h
  refine Subscript_ (thn (he.run pins s σ H (fun x H1 => ∃ v G1, TupLe X.K H H1 ∧ RG X.ky G1 H1 ∧ RV X.K H1 v x ∧ (match v with
    | .tup xs => QP (.tup xs.reverse) G1
    | .rl xs => ∀ p, G1 p = none → QP (.ref p) (pup G1 p (.lst xs.reverse))
    | .ref a => (match G1 a with | some (.lst xs) => ∀ p, G1 p = none → QP (.ref p) (pup G1 p (.lst xs.reverse)) | _ => False)
    | _ => False)) I ⟨ρ, G, _, rs, rg, hw, fun v G1 x H1 t1 rg1 rv1 hw1 => ⟨v, G1, t1, rg1, rv1, hw1⟩⟩) fun v s1 hh => ?_)
  obtain ⟨x, H1, I1, r1, pv, G1, t1, rg1, rv1, hw1⟩ := hh
  have hst : L2.PO X (some (.UnaryOp .USub (.Constant (.int 1) k p1) p2)) (tPart (tUn (rU fun i => .int (-i)) (tC (.int 1)))) := po_some (pe_un un_neg pe_int)
  refine wpAny_Slice (thn (po_none.run pins s1 σ H1 (fun o H2 => o = none ∧ H2 = H1) I1 ⟨rfl, rfl⟩) fun vl s2 ⟨l, H2, I2, pl, el, e2⟩ => ?_)
  subst el e2
  refine thn (po_none.run pins s2 σ H2 (fun o H3 => o = none ∧ H3 = H2) I2 ⟨rfl, rfl⟩) fun vu s3 ⟨u, H3, I3, pu, eu, e3⟩ => ?_
  subst eu e3
  refine thn (hst.run pins s3 σ H3 (fun o H4 => o = some (-1) ∧ H4 = H3) I3 ⟨1, rfl, -1, rfl, rfl, rfl⟩) fun vs s4 ⟨o, H4, I4, ps, eo, e4⟩ => ?_
  subst eo e4
  have I5 : Inv X pins σ H4 { s4 with heap := s4.heap.push { cls := .type "slice", data := .fields #[vl, vu, vs] } } := I4.kept (t' := s4.toks) fun b ob q => Heap.get?_push_of_some _ q
  cases pl
  cases pu
  have lst : ∀ {c : Addr} {vs' : List PV} {xs : List V}, SqL X.K H4 c xs → RVs X.K H4 vs' xs → (∀ p, G1 p = none → QP (.ref p) (pup G1 p (.lst vs'.reverse))) →
      wpAny (model X.prog X.w) X.A (subscriptTail e (.Slice none none (some (.UnaryOp .USub (.Constant (.int 1) k p1) p2)) p3) (.ref c) (.ref s4.heap.objs.size)) (EP X pins σ Q) X.xe { s4 with heap := s4.heap.push { cls := .type "slice", data := .fields #[.none, .none, vs] } } := by
    intro c vs' xs hx hr hp
    obtain ⟨its, r, ht, hz⟩ := I5.list hx
    have hlen := r.length
    refine tail_any (ops := [.ref c, .ref s4.heap.objs.size]) ht.isList.typeIs (PySem.slot_list_getitem.lookup) ?_ (by with_unfolding_all rfl)
    refine wpAny_getItem_list_slice ht.isList (Heap.IsSliceOf.new _ .none .none vs) .none .none ps (by decide) ?_ (by rw [List.size_toArray]; omega)
    rw [PySem.W.krv_pick]
    have hf := I5.hok.fresh (Nat.le_refl _)
    refine ⟨.ref _, _, I5.laid (t' := s4.toks) (o := .lst xs.reverse) (fun b ob q => Heap.get?_push_of_some _ q) (Nat.le_refl _) ?_, rfl, hq _ _ _ _ (t1.trans (.new hf)) (rg1.newL hf hr.rev) (RV.refI _) (hp _ (rg1.fresh hf))⟩
    exact ⟨by rw [List.length_reverse]; exact hz, _, 0, r.reverse, Heap.get?_push_size _ rfl⟩
  split at hw1
  · obtain ⟨c, xs, rfl, h1, h2⟩ := rv1.tup
    cases r1
    obtain ⟨its, r, ht, hz⟩ := I5.tuple h1
    have hlen := r.length
    refine tail_any (ops := [.ref c, .ref s4.heap.objs.size]) ht.typeIs (PyProof.Rows.slot_tuple_getitem.lookup) ?_ (by with_unfolding_all rfl)
    refine getItem_tuple_rev ht (Heap.IsSliceOf.new _ .none .none vs) ps ?_ (by rw [List.size_toArray]; omega)
    have hf := I5.hok.fresh (Nat.le_refl _)
    refine ⟨.ref _, _, I5.laid (t' := s4.toks) (o := .tup xs.reverse) (fun b ob q => Heap.get?_push_of_some _ q) (Nat.le_refl _) ?_, rfl, hq _ _ _ _ (t1.trans (.new hf)) (rg1.skip hf) (RV.tup_of (.of upd_same) (h2.rev.mono (.new hf))) hw1⟩
    exact ⟨by rw [List.length_reverse]; exact hz, its.reverse, r.reverse, _, Heap.get?_push_size _ rfl, rfl, 0, by simp⟩
  · rw [RV] at rv1
    obtain ⟨c, xs, rfl, h1, h2⟩ := rv1
    cases r1
    exact lst h1.sq h2 hw1
  · rw [RV] at rv1; subst rv1
    cases r1
    split at hw1
    · rename_i vs' ga
      obtain ⟨xs, h1, h2⟩ := rg1 _ _ ga
      exact lst (.of h1) h2 hw1
    · exact hw1.elim
  · exact hw1.elim
end
end Cl
set_option Elab.async false
set_option linter.all false
set_option maxRecDepth 100000
set_option maxHeartbeats 4000000
/-! The clean layer, part I: append, get, empty dicts, max with a default, sorted. -/
namespace Cl
open PySem PySem.Spec PyProof.Rows L2 SkE
section
variable {X : Cx} {p pos apos p2 cpos : Pos} {e a b o : Expr} {es : List Expr} {wl wm wk : WL} {w wo wa wb wc : WE}
/-! ### xs.append(e) -/
def wApp (wo we : WE) : WE := fun ρ G Q => wo ρ G fun v G1 => match v with
  | .ref a => (match G1 a with
    | some (.lst _) => we ρ G1 fun y G2 => (match G2 a with
      | some (.lst xs) => xs.length < sizeLine ∧ Q .non (pup G2 a (.lst (xs ++ [y])))
      | _ => False)
    | _ => False)
  | _ => False
theorem se_append (ho : SE X o wo) (he : SE X e w) (hs : starEach [e] X.env = (false, eval e X.env) :: starEach [] X.env) (hbase : attributeBase o "append" X.env (eval o X.env) = eval o X.env) (hline : (apos.endLine == cpos.line) = true)
    (hpl : (backTo cpos (starEach [e] X.env)).any (·.1) = false) (hx : PE X (.Call (.Attribute o "append" apos) [e] [] cpos) (tBM X.K "list" rAppend (tW X.ky wo) (tCons (tW X.ky w) tNil))) :
    SE X (.Call (.Attribute o "append" apos) [e] [] cpos) (wApp wo w) := PE.weak hx fun σ H Q h => by
  obtain ⟨ρ, G, QP, rs, rg, hw, hq⟩ := h
  refine ⟨ρ, G, _, rs, rg, hw, fun v G1 x H1 t1 rg1 rv1 hw1 => ?_⟩
  split at hw1
  · rename_i v' c
    rw [RV] at rv1; subst rv1
    split at hw1
    · rename_i ys ga
      obtain ⟨xs1, h1, h2⟩ := rg1 _ _ ga
      refine ⟨.inl ⟨rfl, xs1, .of h1⟩, ρ, G1, _, rs.mono t1, rg1, hw1, fun y G2 z H2 t2 rg2 rv2 hw2 => ?_⟩
      split at hw2
      · rename_i xs gb
        obtain ⟨zs, h3, h4⟩ := rg2 _ _ gb
        exact ⟨c, zs, z, rfl, rfl, h3, by rw [← h4.length]; exact hw2.1, hq _ _ _ _ ((t1.trans t2).trans (.chgL h3)) (rg2.chgL h3 (h4.append (.one rv2))) RV.nonI hw2.2⟩
      · exact hw2.elim
    · exact hw1.elim
  · exact hw1.elim
/-! ### xs.extend(list) -/
def wExt (wo : WE) (wl : WL) : WE := fun ρ G Q => wo ρ G fun v G1 => match v with
  | .ref a => (match G1 a with
    | some (.lst _) => wl ρ G1 fun ys G2 => (match G2 a with
      | some (.lst xs) => xs.length + ys.length ≤ sizeLine ∧ Q .non (pup G2 a (.lst (xs ++ ys)))
      | _ => False)
    | _ => False)
  | _ => False
/-- a list that may be read as one of the tracked (for extend) -/
def tQT (Z : Ky) (wl : WL) : TE := fun σ H Q => ∃ ρ G QP, RS Z.K ρ σ H ∧ RG Z G H ∧ wl ρ G QP ∧ ∀ vs G' a xs H', TupLe Z.K H H' → RG Z G' H' → H' a = some (.lst xs) → RVs Z.K H' vs xs → QP vs G' → Q (.ref a) H'
abbrev SQT (X : Cx) (e : Expr) (w : WL) : Prop := PE X e (tQT X.ky w)
theorem sqt_disp (h : SL X es wl) : SQT X (.List es pos) (wDisp wl) := PE.weak (pe_lst h) fun σ H Q h => by
  obtain ⟨ρ, G, QP, rs, rg, hw, hq⟩ := h
  refine ⟨ρ, G, _, rs, rg, hw, fun vs G1 xs H1 t1 rg1 rv1 hw1 => ?_⟩
  refine ⟨by rw [← rv1.length]; exact hw1.1, fun p hp => ?_⟩
  exact hq _ _ _ _ _ (t1.trans (.new hp)) (rg1.skip hp) upd_same (rv1.mono (.new hp)) hw1.2
def wSeqT (w : WE) : WL := fun ρ G Q => w ρ G fun v G1 => match v with
  | .ref a => (match G1 a with | some (.lst vs) => Q vs G1 | _ => False)
  | _ => False
theorem sqt_val (h : SE X e w) : SQT X e (wSeqT w) := PE.weak h fun σ H Q h => by
  obtain ⟨ρ, G, QP, rs, rg, hw, hq⟩ := h
  refine ⟨ρ, G, _, rs, rg, hw, fun v G1 x H1 t1 rg1 rv1 hw1 => ?_⟩
  split at hw1
  · rw [RV] at rv1; subst rv1
    split at hw1
    · rename_i vs ga
      obtain ⟨xs, h1, h2⟩ := rg1 _ _ ga
      exact hq _ _ _ _ _ t1 rg1 h1 h2 hw1
    · exact hw1.elim
  · exact hw1.elim
/-! ### {} -/
def wNewT : WE := fun _ G Q => ∀ p, G p = none → Q (.ref p) (pup G p (.dT []))
def wNewK : WE := fun _ G Q => ∀ p, G p = none → Q (.ref p) (pup G p (.dK []))
theorem se_dnewK : SE X (.Dict [] [] pos) wNewK := PE.weak pe_dnewK fun σ H Q h => by
  obtain ⟨ρ, G, QP, rs, rg, hw, hq⟩ := h
  exact fun p hp => hq _ _ _ _ (.new hp) (rg.new (u := .dK []) hp ⟨[], upd_same, by rw [RK]⟩) (RV.refI p) (hw p (rg.fresh hp))
theorem x_empty {P : Program} {w : World} {K : Frag} {H : Hp} (h : Heap) (hb : sysModules < h.objs.size) : ObjOk P w H (h.push { cls := .type "dict", data := .dict #[] }) h.objs.size (dX ⟨P, w, K⟩ h.objs.size []) := by
  obtain ⟨xs, d, e⟩ := Heap.DictKeyed.new (knd := nestedKind P w) h
  have e' : xs = [] := by
    have := congrArg List.length e
    rw [pairsH_length] at this
    exact List.eq_nil_of_length_eq_zero this
  subst e'
  exact dX_ok (by simpa using Nat.ne_of_gt hb) d
theorem se_dnewT : SE X (.Dict [] [] pos) wNewT := ⟨fun pins s σ H Q I h => by
  obtain ⟨ρ, G, QP, rs, rg, hw, hq⟩ := h
  have hf := I.hok.fresh (Nat.le_refl s.heap.objs.size)
  refine wpAny_Dict_empty ⟨.ref s.heap.objs.size, _, I.laid (a := s.heap.objs.size) (o := dX X.ky s.heap.objs.size []) (t' := s.toks) (fun _ _ q => Heap.get?_push_of_some _ q) (Nat.le_refl _) (x_empty s.heap I.big), rfl, ?_⟩
  exact hq _ _ _ _ (.new hf) (rg.new (u := .dT []) hf ⟨[], upd_same, (fun p hp => nomatch hp), by rw [RX]⟩) (RV.refI _) (hw _ (rg.fresh hf))⟩
/-! ### d.get(k, x) -/
def gT (c : Addr) (k xv : PV) (G : PG) (Q : WK) : Prop := match G c, k with
  | some (.dT kvs), .tup ks => (match nks ks with
    | some ks => (NestedKey.tup ks).depth ≤ 8 ∧ Q ((dLook kvs (.tup ks)).getD xv) G
    | none => False)
  | _, _ => False
def gK (c : Addr) (k xv : PV) (G : PG) (Q : WK) : Prop := match G c, k with
  | some (.dK kvs), .int i => Q ((dLook kvs (.inl i)).getD xv) G
  | some (.dK kvs), .str i => Q ((dLook kvs (.inr i)).getD xv) G
  | _, _ => False
def wGet2 (wo wk wx : WE) : WE := fun ρ G Q => wo ρ G fun v G1 => match v with
  | .ref a => (match G1 a with
    | some (.dT _) => wk ρ G1 fun k G2 => wx ρ G2 fun x G3 => gT a k x G3 Q
    | some (.dK _) => wk ρ G1 fun k G2 => wx ρ G2 fun x G3 => gK a k x G3 Q
    | _ => False)
  | _ => False
theorem gT_inv {c : Addr} {k xv : PV} {G : PG} {Q : WK} (h : gT c k xv G Q) : ∃ kvs ks ks', G c = some (.dT kvs) ∧ k = .tup ks ∧ nks ks = some ks' ∧ (NestedKey.tup ks').depth ≤ 8 ∧ Q ((dLook kvs (.tup ks')).getD xv) G := by
  unfold gT at h
  split at h
  · split at h
    · rename_i h1 ks' h2
      exact ⟨_, _, _, by assumption, rfl, h2, h.1, h.2⟩
    · exact h.elim
  · exact h.elim
theorem gK_inv {c : Addr} {k xv : PV} {G : PG} {Q : WK} (h : gK c k xv G Q) : ∃ kvs, G c = some (.dK kvs) ∧ ((∃ i, k = .int i ∧ Q ((dLook kvs (.inl i)).getD xv) G) ∨ ∃ i, k = .str i ∧ Q ((dLook kvs (.inr i)).getD xv) G) := by
  unfold gK at h
  split at h
  · exact ⟨_, by assumption, .inl ⟨_, rfl, h⟩⟩
  · exact ⟨_, by assumption, .inr ⟨_, rfl, h⟩⟩
  · exact h.elim
theorem se_get2 {f : Expr} (hu : X.A.units + 200 < cLine) (ho : SE X o wo) (he : SE X e wa) (hf : SE X f wb) (m : M2 X o "get" apos e f cpos) : SE X (.Call (.Attribute o "get" apos) [e, f] [] cpos) (wGet2 wo wa wb) := by
  refine ⟨fun pins s σ H Q I h => ?_⟩
  obtain ⟨ρ, G, QP, rs, rg, hw, hq⟩ := h
  refine wpAny_Call_method m.base m.few m.line PySem.F.plainAttrs_dict PySem.F.slot_dict_get PySem.F.type_dict_get (thn (ho.run pins s σ H (fun x H1 => ∃ v G1, TupLe X.K H H1 ∧ RG X.ky G1 H1 ∧ RV X.K H1 v x ∧ (match v with
    | .ref a => (match G1 a with
      | some (.dT _) => wa ρ G1 fun k G2 => wb ρ G2 fun x G3 => gT a k x G3 QP
      | some (.dK _) => wa ρ G1 fun k G2 => wb ρ G2 fun x G3 => gK a k x G3 QP
      | _ => False)
    | _ => False)) I ⟨ρ, G, _, rs, rg, hw, fun v G1 x H1 t1 rg1 rv1 hw1 => ⟨v, G1, t1, rg1, rv1, hw1⟩⟩) fun u s1 hh => ?_)
  obtain ⟨x, H1, I1, rx, pv, G1, t1, rg1, rv1, hw1⟩ := hh
  split at hw1
  · rename_i c
    rw [RV] at rv1; subst rv1
    obtain rfl : u = Value.ref c := rx
    split at hw1
    · rename_i kvs0 ga
      obtain ⟨xs0, g1, g2, g3⟩ := rg1 _ _ ga
      obtain ⟨hsm, d0⟩ := dX_of I1 (.inl g1) g3 g2
      refine ⟨d0.typeIs, fun b q => ?_, ?_⟩
      · cases q
        obtain ⟨ob, _, _, h1, h2, _⟩ := d0
        exact ⟨ob, h1, h2.2.1⟩
      · rw [m.trees]
        refine Calls.callWith_builtin rfl (Calls.evalArgs_plain (Calls.spliced_cons (thn (he.run pins s1 σ H1 (fun y H2 => ∃ k G2, TupLe X.K H1 H2 ∧ RG X.ky G2 H2 ∧ RV X.K H2 k y ∧ wb ρ G2 fun x G3 => gT c k x G3 QP) I1 ⟨ρ, G1, _, rs.mono t1, rg1, hw1, fun v G2 x H2 t2 rg2 rv2 hw2 => ⟨v, G2, t2, rg2, rv2, hw2⟩⟩) fun iv s2 ⟨y, H2, I2, ry, k, G2, t2, rg2, rv2, hw2⟩ =>
          Calls.spliced_cons (thn (hf.run pins s2 σ H2 (fun z H3 => ∃ xv G3, TupLe X.K H2 H3 ∧ RG X.ky G3 H3 ∧ RV X.K H3 xv z ∧ gT c k xv G3 QP) I2 ⟨ρ, G2, _, rs.mono (t1.trans t2), rg2, hw2, fun v G3 x H3 t3 rg3 rv3 hw3 => ⟨v, G3, t3, rg3, rv3, hw3⟩⟩) fun fv s3 ⟨z, H3, I3, rz, xv, G3, t3, rg3, rv3, hw3⟩ => Calls.spliced_nil ?_))))
        obtain ⟨kvs, ks, ks', gb, rfl, ek, hd, hq'⟩ := gT_inv hw3
        obtain ⟨xs, k1, k2, k3⟩ := rg3 _ _ gb
        obtain ⟨q, ys, rfl, m1, m2⟩ := (RV.mono t3 _ _ rv2).tup
        cases (show iv = Value.ref q from ry)
        have hk : NKV X.K H3 (.tup ks') (.ref q) := nk_ok (.tup ks) _ _ (RV.tup_of m1 m2) (by rw [nk, ek])
        exact x_get2 (by omega) I3 (.inl k1) k3 k2 hk hd rz rv3 fun x' u' s4 I4 rx' rvx => ⟨x', H3, I4, rx', hq _ _ _ _ ((t1.trans t2).trans t3) rg3 rvx hq'⟩
    · rename_i kvs0 ga
      obtain ⟨xs0, g1, g2⟩ := rg1 _ _ ga
      obtain ⟨e1, e2, _⟩ := isD_at I1 (.inl ⟨xs0, .of g1⟩)
      refine ⟨e1, e2, ?_⟩
      rw [m.trees]
      refine Calls.callWith_builtin rfl (Calls.evalArgs_plain (Calls.spliced_cons (thn (he.run pins s1 σ H1 (fun y H2 => ∃ k G2, TupLe X.K H1 H2 ∧ RG X.ky G2 H2 ∧ RV X.K H2 k y ∧ wb ρ G2 fun x G3 => gK c k x G3 QP) I1 ⟨ρ, G1, _, rs.mono t1, rg1, hw1, fun v G2 x H2 t2 rg2 rv2 hw2 => ⟨v, G2, t2, rg2, rv2, hw2⟩⟩) fun iv s2 ⟨y, H2, I2, ry, k, G2, t2, rg2, rv2, hw2⟩ =>
          Calls.spliced_cons (thn (hf.run pins s2 σ H2 (fun z H3 => ∃ xv G3, TupLe X.K H2 H3 ∧ RG X.ky G3 H3 ∧ RV X.K H3 xv z ∧ gK c k xv G3 QP) I2 ⟨ρ, G2, _, rs.mono (t1.trans t2), rg2, hw2, fun v G3 x H3 t3 rg3 rv3 hw3 => ⟨v, G3, t3, rg3, rv3, hw3⟩⟩) fun fv s3 ⟨z, H3, I3, rz, xv, G3, t3, rg3, rv3, hw3⟩ => Calls.spliced_nil ?_))))
      have fin : ∀ (kk : Key) (kvs : List (Key × PV)), G3 c = some (.dK kvs) → y = kV kk → QP ((dLook kvs kk).getD xv) G3 → wpAny (model X.prog X.w) X.A (call (.builtin "dict.get") [.ref c, iv, fv]) (EP X pins σ Q) X.xe s3 := by
        intro kk kvs gb ek q
        subst ek
        obtain ⟨xs, k1, k2⟩ := rg3 _ _ gb
        refine d_get2 (by omega) I3 (DGet.k (k := kk) k1) ry rz fun w' s4 I4 rw' => ⟨_, H3, I4, rw', ?_⟩
        refine hq _ _ _ _ ((t1.trans t2).trans t3) rg3 ?_ q
        cases el : dLook kvs kk with
        | none => rw [k2.look.2 el]; exact rv3
        | some v' => obtain ⟨x', e1, e2⟩ := k2.look.1 v' el; rw [e1]; exact e2
      obtain ⟨kvs, gb, hw4⟩ := gK_inv hw3
      have rk := RV.mono t3 _ _ rv2
      rcases hw4 with ⟨i, rfl, hw4⟩ | ⟨i, rfl, hw4⟩
      · rw [RV] at rk
        exact fin (.inl i) kvs gb rk hw4
      · rw [RV] at rk
        exact fin (.inr i) kvs gb rk hw4
    · exact hw1.elim
  · exact hw1.elim
/-! ### max(xs, default=..) of whole numbers -/
def wMaxD (wl : WL) (wd : WE) : WE := fun ρ G Q => wl ρ G fun vs G1 => wd ρ G1 fun d G2 => match intsOf vs with
  | some [] => Q d G2
  | some (n :: ns) => Q (.int (ns.foldl max n)) G2
  | none => False
/-- a list that stays while other things are reckoned: only such as do not change lists -/
def rMaxD (K : Frag) (d0 : V) : List V → List V → Hp → VK → Prop := fun vs zs H Q => ∃ (a : Addr) (ns : List Int), vs = [V.ref a] ∧ zs = [d0] ∧ SqL K H a (ns.map V.int) ∧ (ns = [] → Q d0 H) ∧ ∀ n r, ns = n :: r → Q (.int (r.foldl max n)) H
theorem alikeAll_ints (ns : List Int) : PySem.W.AlikeAll (ns.map PyData.int) := by
  refine ⟨fun x hx y hy => ?_, fun x hx => ?_⟩
  · obtain ⟨i, _, rfl⟩ := List.mem_map.mp hx
    obtain ⟨j, _, rfl⟩ := List.mem_map.mp hy
    simp [PySem.W.alike]
  · obtain ⟨i, _, rfl⟩ := List.mem_map.mp hx
    exact fun z => nomatch z
theorem depthAll_ints : ∀ ns : List Int, PyData.depthAll (ns.map PyData.int) = 0
  | [] => by simp [PyData.depthAll]
  | n :: ns => by simp [PyData.depthAll, PyData.depth, depthAll_ints ns]
theorem readsAll_ints {h : Heap} : ∀ {ns : List Int} {us : List Value}, Vals (ns.map V.int) us → ∃ as, ReadsAll h us (ns.map PyData.int) as
  | [], _, .nil => ⟨_, .nil⟩
  | n :: ns, _, .cons r t => by
    obtain ⟨as, h2⟩ := readsAll_ints t
    obtain ⟨tk, rfl⟩ := r
    exact ⟨_, .cons (.int _ _) h2⟩
theorem cr_maxD (hc : X.calm = true) (hu : X.A.units + 200 < cLine) {d0 : V} : CallRK X (.builtin "max") [Str.ofString "default"] (rMaxD X.K d0) := by
  intro pins s σ H xs zs us ws Q I r rz h
  obtain ⟨a, ns, rfl, rfl, hl, h0, h1⟩ := h
  obtain ⟨u, rfl, rd⟩ := vals1 rz
  obtain ⟨its, rv, pl, _⟩ := I.list hl
  rw [Vals.ref1 r]
  obtain ⟨as, hr⟩ := readsAll_ints (h := s.heap) rv
  refine PySem.W.max_list_default (I.ok.hd hc) pl.isList (xs := ns.map PyData.int) (as := as) (by simpa using hr) (alikeAll_ints ns) (by rw [depthAll_ints]; omega) (fun e h' tk k => ?_) (fun y ys i v h' tk bs e hi rd' k => ?_)
  · have : ns = [] := by simpa using e
    exact ⟨d0, H, I.kept k, rd, h0 this⟩
  · cases ns with
    | nil => cases e
    | cons n r' =>
      simp only [List.map_cons, List.cons.injEq] at e
      obtain ⟨rfl, rfl⟩ := e
      rw [PySem.W.maxD_ints] at rd'
      have : ∃ t, v = Value.int (r'.foldl max n) t := by
        cases rd'
        exact ⟨_, rfl⟩
      obtain ⟨t, rfl⟩ := this
      exact ⟨.int _, H, I.kept k, ⟨t, rfl⟩, h1 n r' rfl⟩
end
end Cl
set_option Elab.async false
set_option linter.all false
set_option maxRecDepth 100000
set_option maxHeartbeats 4000000
/-! The clean layer, part J: statements, targets, iteration, loops. -/
namespace Cl
open PySem PySem.Spec PyProof.Rows L2
/-- what is wanted behind a statement -/
structure PEnds where
  nx : Rho → PG → Prop
  rt : PV → PG → Prop
  bk : Rho → PG → Prop := fun _ _ => False
  ct : Rho → PG → Prop := fun _ _ => False
abbrev WS := PEnds → Rho → PG → Prop
structure ELe (Z : Ky) (H : Hp) (P : PEnds) (D : Ends) : Prop where
  nx : ∀ ρ' G' σ' H', TupLe Z.K H H' → RG Z G' H' → RS Z.K ρ' σ' H' → P.nx ρ' G' → D.nx σ' H'
  rt : ∀ v G' x H', TupLe Z.K H H' → RG Z G' H' → RV Z.K H' v x → P.rt v G' → D.rt x H'
  bk : ∀ ρ' G' σ' H', TupLe Z.K H H' → RG Z G' H' → RS Z.K ρ' σ' H' → P.bk ρ' G' → D.bk σ' H'
  ct : ∀ ρ' G' σ' H', TupLe Z.K H H' → RG Z G' H' → RS Z.K ρ' σ' H' → P.ct ρ' G' → D.ct σ' H'
theorem ELe.up {Z : Ky} {H H1 : Hp} {P : PEnds} {D : Ends} (e : ELe Z H P D) (t : TupLe Z.K H H1) : ELe Z H1 P D :=
  ⟨fun ρ G σ H' t' => e.nx ρ G σ H' (t.trans t'), fun v G x H' t' => e.rt v G x H' (t.trans t'), fun ρ G σ H' t' => e.bk ρ G σ H' (t.trans t'), fun ρ G σ H' t' => e.ct ρ G σ H' (t.trans t')⟩
def tWS (Z : Ky) (w : WS) : TS := fun D σ H => ∃ ρ G P, RS Z.K ρ σ H ∧ RG Z G H ∧ w P ρ G ∧ ELe Z H P D
abbrev SS1 (X : Cx) (st : Stmt) (w : WS) : Prop := PS X st (tWS X.ky w)
abbrev SSs (X : Cx) (st : List Stmt) (w : WS) : Prop := PSs X st (tWS X.ky w)
theorem PS.weak {X : Cx} {st : Stmt} {t t' : TS} (h : PS X st t) (i : ∀ D σ H, t' D σ H → t D σ H) : PS X st t' := ⟨fun pins s σ H D I q => h.run pins s σ H D I (i D σ H q)⟩
theorem PSs.weak {X : Cx} {st : List Stmt} {t t' : TS} (h : PSs X st t) (i : ∀ D σ H, t' D σ H → t D σ H) : PSs X st t' := ⟨fun pins s σ H D I q => h.run pins s σ H D I (i D σ H q)⟩
section
variable {X : Cx} {st : Stmt} {rest body els : List Stmt} {e a b c d : Expr} {es : List Expr} {pos pos' : Pos} {w wa wb wc : WE} {u v : WS} {wl : WL}
def sNext : WS := fun P ρ G => P.nx ρ G
def sSeq (u v : WS) : WS := fun P ρ G => u { P with nx := fun ρ1 G1 => v P ρ1 G1 } ρ G
theorem tSeq_ok {D : Ends} {σ : St} {H : Hp} (h : tWS X.ky (sSeq u v) D σ H) : tSeq (tWS X.ky u) (tWS X.ky v) D σ H := by
  obtain ⟨ρ, G, P, rs, rg, hw, e⟩ := h
  exact ⟨ρ, G, _, rs, rg, hw, ⟨fun ρ' G' σ' H' t r s q => ⟨ρ', G', P, s, r, q, e.up t⟩, e.rt, e.bk, e.ct⟩⟩
theorem sss_nil : SSs X [] sNext := PSs.weak pss_nil fun D σ H h => by
  obtain ⟨ρ, G, P, rs, rg, hw, e⟩ := h
  exact e.nx _ _ _ _ .refl rg rs hw
theorem sss_cons (h1 : SS1 X st u) (h2 : SSs X rest v) : SSs X (st :: rest) (sSeq u v) := PSs.weak (pss_cons h1 h2) fun _ _ _ h => tSeq_ok h
theorem sss_one (h1 : SS1 X st u) : SSs X [st] u := pss_one h1
theorem ss_pass : SS1 X (.Pass pos) sNext := PS.weak ps_pass fun D σ H h => by
  obtain ⟨ρ, G, P, rs, rg, hw, e⟩ := h
  exact e.nx _ _ _ _ .refl rg rs hw
def sBrk : WS := fun P ρ G => P.bk ρ G
def sCont : WS := fun P ρ G => P.ct ρ G
theorem ss_brk : SS1 X (.Break pos) sBrk := PS.weak ps_break fun D σ H h => by
  obtain ⟨ρ, G, P, rs, rg, hw, e⟩ := h
  exact e.bk _ _ _ _ .refl rg rs hw
theorem ss_cont : SS1 X (.Continue pos) sCont := PS.weak ps_continue fun D σ H h => by
  obtain ⟨ρ, G, P, rs, rg, hw, e⟩ := h
  exact e.ct _ _ _ _ .refl rg rs hw
def sDrop (w : WE) : WS := fun P ρ G => w ρ G fun _ G1 => P.nx ρ G1
theorem ss_expr (he : SE X e w) (hs : swapsWith e none pos.line X.env = pure false) : SS1 X (.Expr e pos) (sDrop w) := PS.weak (ps_expr he hs) fun D σ H h => by
  obtain ⟨ρ, G, P, rs, rg, hw, e⟩ := h
  exact ⟨ρ, G, _, rs, rg, hw, fun v G1 x H1 t1 rg1 rv1 hw1 => e.nx _ _ _ _ t1 rg1 (rs.mono t1) hw1⟩
theorem ss_doc {x j p} : SS1 X (.Expr (.Constant (.str x) j p) pos) sNext := PS.weak ps_doc fun D σ H h => by
  obtain ⟨ρ, G, P, rs, rg, hw, e⟩ := h
  exact e.nx _ _ _ _ .refl rg rs hw
def sRet (w : WE) : WS := fun P ρ G => w ρ G fun v G1 => P.rt v G1
theorem ss_ret (he : SE X e w) : SS1 X (.Return (some e) pos) (sRet w) := PS.weak (ps_ret he) fun D σ H h => by
  obtain ⟨ρ, G, P, rs, rg, hw, e⟩ := h
  exact ⟨ρ, G, _, rs, rg, hw, fun v G1 x H1 t1 rg1 rv1 hw1 => e.rt _ _ _ _ t1 rg1 rv1 hw1⟩
def sRetN : WS := fun P ρ G => P.rt .non G
theorem ss_retN : SS1 X (.Return none pos) sRetN := PS.weak ps_retN fun D σ H h => by
  obtain ⟨ρ, G, P, rs, rg, hw, e⟩ := h
  exact e.rt _ _ _ _ .refl rg RV.nonI hw
def sIf (wc : WE) (u v : WS) : WS := fun P ρ G => wc ρ G fun x G1 => match tru x G1 with | some true => u P ρ G1 | some false => v P ρ G1 | none => False
theorem ss_if (hc : ST X c wc) (ha : SSs X body u) (hb : SSs X els v) : SS1 X (.If c body els pos) (sIf wc u v) := PS.weak (ps_if hc ha hb) fun D σ H h => by
  obtain ⟨ρ, G, P, rs, rg, hw, e⟩ := h
  refine ⟨ρ, G, _, rs, rg, hw, fun v G1 H1 t1 rg1 hw1 => ?_⟩
  split at hw1
  · rename_i hb
    refine ⟨true, hb, ?_⟩
    refine ifT ?_
    exact ⟨ρ, G1, P, rs.mono t1, rg1, hw1, e.up t1⟩
  · rename_i hb
    refine ⟨false, hb, ?_⟩
    refine ifF ?_
    exact ⟨ρ, G1, P, rs.mono t1, rg1, hw1, e.up t1⟩
  · exact hw1.elim
/-! targets -/
abbrev WG := PV → Rho → PG → (Rho → PG → Prop) → Prop
abbrev WGs := List PV → Rho → PG → (Rho → PG → Prop) → Prop
def tWG (Z : Ky) (g : WG) : TG := fun x σ H Q => ∃ v ρ G QP, RV Z.K H v x ∧ RS Z.K ρ σ H ∧ RG Z G H ∧ g v ρ G QP ∧ ∀ ρ' G' σ' H', TupLe Z.K H H' → RG Z G' H' → RS Z.K ρ' σ' H' → QP ρ' G' → Q σ' H'
def tWGs (Z : Ky) (g : WGs) : TGs := fun xs σ H Q => ∃ vs ρ G QP, RVs Z.K H vs xs ∧ RS Z.K ρ σ H ∧ RG Z G H ∧ g vs ρ G QP ∧ ∀ ρ' G' σ' H', TupLe Z.K H H' → RG Z G' H' → RS Z.K ρ' σ' H' → QP ρ' G' → Q σ' H'
abbrev SG (X : Cx) (tg : Expr) (g : WG) : Prop := L2.PG X tg (tWG X.ky g)
abbrev SGs (X : Cx) (tg : List Expr) (g : WGs) : Prop := L2.PGs X tg (tWGs X.ky g)
theorem PG.weak {tg : Expr} {t t' : TG} (h : L2.PG X tg t) (i : ∀ x σ H Q, t' x σ H Q → t x σ H Q) : L2.PG X tg t' := ⟨fun pins s σ H v u Q I r q => h.run pins s σ H v u Q I r (i v σ H Q q)⟩
theorem PGs.weak {tg : List Expr} {t t' : TGs} (h : L2.PGs X tg t) (i : ∀ x σ H Q, t' x σ H Q → t x σ H Q) : L2.PGs X tg t' := ⟨fun pins s σ H v u Q I r q => h.run pins s σ H v u Q I r (i v σ H Q q)⟩
theorem PG.or {tg : Expr} {t t' : TG} (h : L2.PG X tg t) (h' : L2.PG X tg t') : L2.PG X tg (fun x σ H Q => t x σ H Q ∨ t' x σ H Q) := ⟨fun pins s σ H v u Q I r q => q.elim (h.run pins s σ H v u Q I r) (h'.run pins s σ H v u Q I r)⟩
def gN (i : Nat) : WG := fun v ρ G Q => Q (ρ.set i (some v)) G
theorem sg_name {i : Nat} {x : Str} (hN : X.N.Nodup) (hi : X.N[i]? = some x) (hx : Loc X.env.scope x) (hf : X.fn x = true ∨ X.env.scope.names.lookup x = some .local) : SG X (.Name x pos) (gN i) := PG.weak (pg_name hN hi hx hf) fun x σ H Q h => by
  obtain ⟨v, ρ, G, QP, rv, rs, rg, hw, hq⟩ := h
  exact hq _ _ _ _ .refl rg (rs.set i rv) hw
def gZ : WGs := fun vs ρ G Q => vs = [] ∧ Q ρ G
def gC (g : WG) (gs : WGs) : WGs := fun vs ρ G Q => match vs with | [] => False | v :: vs => g v ρ G fun ρ1 G1 => gs vs ρ1 G1 Q
theorem sgs_nil : SGs X [] gZ := PGs.weak pgs_nil fun x σ H Q h => by
  obtain ⟨v, ρ, G, QP, rv, rs, rg, hw, hq⟩ := h
  obtain ⟨rfl, hw⟩ := hw
  rw [RVs] at rv
  exact ⟨rv, hq _ _ _ _ .refl rg rs hw⟩
theorem sgs_cons {g : WG} {gs : WGs} (h1 : SG X e g) (h2 : SGs X es gs) (hs : (assignEach (e :: es) X.env).map (·.2) = assign e X.env :: (assignEach es X.env).map (·.2)) : SGs X (e :: es) (gC g gs) := PGs.weak (pgs_cons h1 h2 hs) fun x σ H Q h => by
  obtain ⟨v, ρ, G, QP, rv, rs, rg, hw, hq⟩ := h
  cases v with
  | nil => exact hw.elim
  | cons v vs =>
    obtain ⟨x, r, rfl, r1, r2⟩ := rv.invc
    refine ⟨x, r, rfl, v, ρ, G, _, r1, rs, rg, hw, fun ρ' G' σ' H' t1 rg1 rs1 hw1 => ?_⟩
    exact ⟨vs, ρ', G', QP, r2.mono t1, rs1, rg1, hw1, fun ρ2 G2 σ2 H2 t2 rg2 rs2 q => hq _ _ _ _ (t1.trans t2) rg2 rs2 q⟩
/-- (a, b, ..) = a tuple or a list -/
def gTp (n : Nat) (gs : WGs) : WG := fun v ρ G Q => match v with
  | .tup vs => vs.length = n ∧ gs vs ρ G Q
  | .rl vs => vs.length = n ∧ gs vs ρ G Q
  | .ref a => (match G a with | some (.lst vs) => vs.length = n ∧ gs vs ρ G Q | _ => False)
  | _ => False
theorem sg_tup {gs : WGs} {k n : Nat} (hc : X.calm = true) (h : SGs X es gs) (hn : (assignEach es X.env).length = n) (hst : (assignEach es X.env).findIdx? (·.1) = none) : SG X (.Tuple es k pos) (gTp n gs) :=
  PG.weak (PG.or (pg_tup hc h hn hst) (pg_unl hc h hn hst)) fun x σ H Q h => by
  obtain ⟨v, ρ, G, QP, rv, rs, rg, hw, hq⟩ := h
  unfold gTp at hw
  split at hw
  · obtain ⟨a, xs, rfl, h1, h2⟩ := rv.tup
    exact .inl ⟨a, xs, rfl, h1, by rw [← h2.length]; exact hw.1, _, ρ, G, QP, h2, rs, rg, hw.2, hq⟩
  · rw [RV] at rv
    obtain ⟨a, xs, rfl, h1, h2⟩ := rv
    exact .inr ⟨a, xs, rfl, h1.sq, by rw [← h2.length]; exact hw.1, _, ρ, G, QP, h2, rs, rg, hw.2, hq⟩
  · rw [RV] at rv; subst rv
    split at hw
    · rename_i vs ga
      obtain ⟨xs, h1, h2⟩ := rg _ _ ga
      exact .inr ⟨_, xs, rfl, .of h1, by rw [← h2.length]; exact hw.1, _, ρ, G, QP, h2, rs, rg, hw.2, hq⟩
    · exact hw.elim
  · exact hw.elim
def gS (wo wi : WE) : WG := fun v ρ G Q => wo ρ G fun o G1 => wi ρ G1 fun i G2 => wSet o i v G2 fun G3 => Q ρ G3
theorem sg_sub {o i : Expr} {wo wi : WE} (hu : X.A.units + 200 < cLine) (ho : SE X o wo) (hi : SE X i wi)
    (ha : ∀ v, assign (.Subscript o i pos) X.env v = (do
      let ov ← holding [v] (eval o X.env)
      let iv ← holding [v, ov] (eval i X.env)
      standAt pos
      holding [v, ov, iv] (setItem ov iv v)
      release [v, ov, iv] [])) : SG X (.Subscript o i pos) (gS wo wi) := PG.weak (pg_sub ho hi (set_all hu) ha) fun x σ H Q h => by
  obtain ⟨v, ρ, G, QP, rv, rs, rg, hw, hq⟩ := h
  refine ⟨ρ, G, _, rs, rg, hw, fun ov G1 ox H1 t1 rg1 rv1 hw1 => ?_⟩
  refine ⟨ρ, G1, _, rs.mono t1, rg1, hw1, fun iv G2 ix H2 t2 rg2 rv2 hw2 => ?_⟩
  exact ⟨ov, iv, v, G2, _, RV.mono t2 _ _ rv1, rv2, RV.mono (t1.trans t2) _ _ rv, rg2, hw2, fun G3 H3 t3 rg3 q => hq _ _ _ _ ((t1.trans t2).trans t3) rg3 (rs.mono ((t1.trans t2).trans t3)) q⟩
/-! assignments -/
def sAsg (w : WE) (g : WG) : WS := fun P ρ G => w ρ G fun v G1 => g v ρ G1 P.nx
theorem tAsg_ok {g : WG} {D : Ends} {σ : St} {H : Hp} (h : tWS X.ky (sAsg w g) D σ H) : tAsg (tW X.ky w) (tWG X.ky g) D σ H := by
  obtain ⟨ρ, G, P, rs, rg, hw, e⟩ := h
  refine ⟨ρ, G, _, rs, rg, hw, fun v G1 x H1 t1 rg1 rv1 hw1 => ?_⟩
  exact ⟨v, ρ, G1, P.nx, rv1, rs.mono t1, rg1, hw1, fun ρ' G' σ' H' t r s q => e.nx _ _ _ _ (t1.trans t) r s q⟩
theorem ss_asg {tg : Expr} {g : WG} (he : SE X e w) (hg : SG X tg g) (hs : swapsWithSole [tg] e pos.line X.env = pure false) (hw : swappedStores [tg] e X.env = pure none) (h1 : (assignEach [tg] X.env).map (·.2) = [assign tg X.env]) : SS1 X (.Assign [tg] e pos) (sAsg w g) :=
  PS.weak (ps_asg he hg hs hw h1) fun _ _ _ h => tAsg_ok h
/-- a, b = x, y -/
def sPar2 (i j : Nat) (wl : WL) : WS := fun P ρ G => wl ρ G fun vs G1 => match vs with | [v, w] => P.nx ((ρ.set i (some v)).set j (some w)) G1 | _ => False
def sPar3 (i j l : Nat) (wl : WL) : WS := fun P ρ G => wl ρ G fun vs G1 => match vs with | [u, v, w] => P.nx (((ρ.set i (some u)).set j (some v)).set l (some w)) G1 | _ => False
theorem ss_par2 {i j : Nat} {x y : Str} {px py pt : Pos} {kt k2 pt2} (hc : X.calm = true) (hN : X.N.Nodup) (hi : X.N[i]? = some x) (hj : X.N[j]? = some y) (hij : i ≠ j)
    (hx : X.env.scope.names.lookup x = some .local) (hy : X.env.scope.names.lookup y = some .local) (ha : SL X [a, b] wl)
    (hw : swappedStores [.Tuple [.Name x px, .Name y py] kt pt] (.Tuple [a, b] k2 pt2) X.env = pure (some [x, y]))
    (hs : swapsWithSole [.Tuple [.Name x px, .Name y py] kt pt] (.Tuple [a, b] k2 pt2) pos.line X.env = pure false) : SS1 X (.Assign [.Tuple [.Name x px, .Name y py] kt pt] (.Tuple [a, b] k2 pt2) pos) (sPar2 i j wl) :=
  PS.weak (ps_par hc hN hi hj hij hx hy ha hw hs) fun D σ H h => by
  obtain ⟨ρ, G, P, rs, rg, hw, e⟩ := h
  refine ⟨ρ, G, _, rs, rg, hw, fun vs G1 xs H1 t1 rg1 rv1 hw1 => ?_⟩
  split at hw1
  · obtain ⟨x1, r, rfl, r1, r2⟩ := rv1.invc
    obtain ⟨x2, rfl, r3⟩ := r2.inv1
    exact ⟨x1, x2, rfl, e.nx _ _ _ _ t1 rg1 (((rs.mono t1).set i r1).set j r3) hw1⟩
  · exact hw1.elim
theorem ss_par3 {i j l : Nat} {x y z : Str} {px py pz pt : Pos} {kt k2 pt2} (hc : X.calm = true) (hN : X.N.Nodup) (hi : X.N[i]? = some x) (hj : X.N[j]? = some y) (hl : X.N[l]? = some z) (hij : i ≠ j) (hil : i ≠ l) (hjl : j ≠ l)
    (hx : X.env.scope.names.lookup x = some .local) (hy : X.env.scope.names.lookup y = some .local) (hz : X.env.scope.names.lookup z = some .local) (ha : SL X [a, b, c] wl)
    (hw : swappedStores [.Tuple [.Name x px, .Name y py, .Name z pz] kt pt] (.Tuple [a, b, c] k2 pt2) X.env = pure (some [x, y, z]))
    (hs : swapsWithSole [.Tuple [.Name x px, .Name y py, .Name z pz] kt pt] (.Tuple [a, b, c] k2 pt2) pos.line X.env = pure false) : SS1 X (.Assign [.Tuple [.Name x px, .Name y py, .Name z pz] kt pt] (.Tuple [a, b, c] k2 pt2) pos) (sPar3 i j l wl) :=
  PS.weak (ps_par3 hc hN hi hj hl hij hil hjl hx hy hz ha hw hs) fun D σ H h => by
  obtain ⟨ρ, G, P, rs, rg, hw, e⟩ := h
  refine ⟨ρ, G, _, rs, rg, hw, fun vs G1 xs H1 t1 rg1 rv1 hw1 => ?_⟩
  split at hw1
  · obtain ⟨x1, r, rfl, r1, r2⟩ := rv1.invc
    obtain ⟨x2, r', rfl, r3, r4⟩ := r2.invc
    obtain ⟨x3, rfl, r5⟩ := r4.inv1
    exact ⟨x1, x2, x3, rfl, e.nx _ _ _ _ t1 rg1 ((((rs.mono t1).set i r1).set j r3).set l r5) hw1⟩
  · exact hw1.elim
/-! while -/
def sWhile (wc : WE) (u : WS) : WS := fun P ρ G => ∃ W : Nat → Rho → PG → Prop, (∃ m, W m ρ G) ∧ ∀ m ρ G, W m ρ G → wc ρ G fun x G1 => match tru x G1 with
  | some true => u { nx := fun ρ' G' => ∃ m', m' < m ∧ W m' ρ' G', ct := fun ρ' G' => ∃ m', m' < m ∧ W m' ρ' G', bk := P.nx, rt := P.rt } ρ G1
  | some false => P.nx ρ G1
  | none => False
theorem ss_while (hp : PassesOwn (model X.prog X.w) X.A X.env X.xe) (hc : ST X c wc) (hb : SSs X body u) : SS1 X (.While c body [] pos) (sWhile wc u) := PS.weak (ps_while hp hc hb) fun D σ H h => by
  obtain ⟨ρ, G, P, rs, rg, ⟨W, ⟨m0, w0⟩, turn⟩, e⟩ := h
  refine ⟨fun m σ' H' => ∃ ρ' G', RS X.K ρ' σ' H' ∧ RG X.ky G' H' ∧ TupLe X.K H H' ∧ W m ρ' G', ⟨m0, ρ, G, rs, rg, .refl, w0⟩, ?_⟩
  rintro m σ' H' ⟨ρ', G', rs', rg', t', wm⟩
  refine ⟨ρ', G', _, rs', rg', turn m ρ' G' wm, fun v G1 H1 t1 rg1 hw1 => ?_⟩
  split at hw1
  · rename_i hb
    refine ⟨true, hb, ?_⟩
    refine ifT ?_
    refine ⟨fun σ2 H2 => ∃ ρ2 G2, RS X.K ρ2 σ2 H2 ∧ RG X.ky G2 H2 ∧ TupLe X.K H H2 ∧ ∃ m', m' < m ∧ W m' ρ2 G2, fun σ2 H2 ⟨ρ2, G2, a1, a2, a3, m', hm, a4⟩ => ⟨m', hm, ρ2, G2, a1, a2, a3, a4⟩, ?_⟩
    refine ⟨ρ', G1, _, rs'.mono t1, rg1, hw1, ⟨fun ρ2 G2 σ2 H2 t2 r2 s2 q => ⟨ρ2, G2, s2, r2, (t'.trans t1).trans t2, q⟩, fun v G2 x H2 t2 r2 v2 q => e.rt _ _ _ _ ((t'.trans t1).trans t2) r2 v2 q, fun ρ2 G2 σ2 H2 t2 r2 s2 q => e.nx _ _ _ _ ((t'.trans t1).trans t2) r2 s2 q, fun ρ2 G2 σ2 H2 t2 r2 s2 q => ⟨ρ2, G2, s2, r2, (t'.trans t1).trans t2, q⟩⟩⟩
  · rename_i hb
    refine ⟨false, hb, ?_⟩
    refine ifF ?_
    exact e.nx _ _ _ _ (t'.trans t1) rg1 (rs'.mono t1) hw1
  · exact hw1.elim
end
/-! ### what is walked -/
abbrev Ws := List (Addr × List PV)
def watch (ws : Ws) (G : PG) : Prop := ∀ p ∈ ws, G p.1 = some (.lst p.2)
abbrev WI := Rho → PG → (Ws → List PV → PG → Prop) → Prop
structure ItOk (Z : Ky) (J : It) (Gd : Hp → Prop) (vs : List PV) : Prop where
  go : ∀ i H, i < vs.length → Gd H → J.go i H
  stop : ∀ H, Gd H → J.stop vs.length H
  yld : ∀ i H x H', i < vs.length → Gd H → J.yld i H x H' → ∃ v, vs[i]? = some v ∧ RV Z.K H' v x ∧ TupLe Z.K H H' ∧ ∀ G, RG Z G H → RG Z G H'
def tWI (Z : Ky) (w : WI) : TI := fun σ H R => ∃ ρ G QP, RS Z.K ρ σ H ∧ RG Z G H ∧ w ρ G QP ∧
  ∀ ws vs G' H' J Gd, TupLe Z.K H H' → RG Z G' H' → ItOk Z J Gd vs → (∀ G2 H2, TupLe Z.K H' H2 → RG Z G2 H2 → watch ws G2 → Gd H2) → QP ws vs G' → R J H'
abbrev SI (X : Cx) (tg iter : Expr) (w : WI) : Prop := PI X tg iter (tWI X.ky w)
section
variable {X : Cx} {tg iter e a b c d : Expr} {es : List Expr} {body : List Stmt} {pos p : Pos} {w wa wb wc : WE} {wi : WI} {g : WG} {u : WS} {wl : WL}
theorem PI.weak {t t' : TI} (h : PI X tg iter t) (i : ∀ σ H R, t' σ H R → t σ H R) : PI X tg iter t' := ⟨fun pins s σ H R I q => h.run pins s σ H R I (i σ H R q)⟩
theorem PI.or {t t' : TI} (h : PI X tg iter t) (h' : PI X tg iter t') : PI X tg iter (fun σ H R => t σ H R ∨ t' σ H R) := ⟨fun pins s σ H R I q => q.elim (h.run pins s σ H R I) (h'.run pins s σ H R I)⟩
def forL (ws : Ws) (g : WG) (u : WS) (P : PEnds) : List PV → Rho → PG → Prop
  | [], ρ, G => watch ws G ∧ P.nx ρ G
  | v :: vs, ρ, G => watch ws G ∧ g v ρ G fun ρ1 G1 => u { nx := forL ws g u P vs, ct := forL ws g u P vs, bk := P.nx, rt := P.rt } ρ1 G1
theorem forL_watch {ws : Ws} {g : WG} {u : WS} {P : PEnds} {vs : List PV} {ρ : Rho} {G : PG} (h : forL ws g u P vs ρ G) : watch ws G := by
  cases vs with
  | nil => exact h.1
  | cons v vs => exact h.1
def sFor (wi : WI) (g : WG) (u : WS) : WS := fun P ρ G => wi ρ G fun ws vs G1 => forL ws g u P vs ρ G1
theorem ss_for (hp : PassesOwn (model X.prog X.w) X.A X.env X.xe) (hc : X.calm = true) (hi : SI X tg iter wi) (hg : SG X tg g) (hb : SSs X body u) (hs : ∀ x, foldedSetIterable iter X.env x = pure x) : SS1 X (.For tg iter body [] pos) (sFor wi g u) :=
  PS.weak (ps_for hp hc hi hg hb hs) fun D σ H h => by
  obtain ⟨ρ, G, P, rs, rg, hw, e⟩ := h
  refine ⟨ρ, G, _, rs, rg, hw, fun ws vs G1 H1 J Gd t1 rg1 ok hgd hw1 => ?_⟩
  have wk : Walk J vs.length Gd (fun i H x H' => ∃ v, vs[i]? = some v ∧ RV X.K H' v x ∧ TupLe X.K H H' ∧ ∀ G, RG X.ky G H → RG X.ky G H') := ⟨ok.go, ok.stop, ok.yld⟩
  refine for_it wk (fun i σ' H' => ∃ ρ' G', RS X.K ρ' σ' H' ∧ RG X.ky G' H' ∧ TupLe X.K H1 H' ∧ forL ws g u P (vs.drop i) ρ' G') ⟨ρ, G1, rs.mono t1, rg1, .refl, hw1⟩ ?_ ?_ ?_
  · rintro i σ' H' hi ⟨ρ', G', a1, a2, a3, a4⟩
    exact hgd G' H' a3 a2 (forL_watch a4)
  · rintro i x σ' H' H'' hi ⟨ρ', G', a1, a2, a3, a4⟩ ⟨v, hv, rv, tl, rgk⟩
    have hd : vs.drop i = v :: vs.drop (i + 1) := by
      rw [List.drop_eq_getElem_cons hi]
      congr 1
      rw [List.getElem?_eq_getElem hi] at hv
      exact Option.some.inj hv
    rw [hd] at a4
    obtain ⟨_, a4⟩ := a4
    refine ⟨v, ρ', G', _, rv, a1.mono tl, rgk _ a2, a4, fun ρ2 G2 σ2 H2 t2 r2 s2 q => ?_⟩
    have t12 := (a3.trans tl).trans t2
    refine ⟨ρ2, G2, _, s2, r2, q, ⟨fun ρ3 G3 σ3 H3 t3 r3 s3 q3 => ⟨ρ3, G3, s3, r3, t12.trans t3, q3⟩, fun v G3 x H3 t3 r3 v3 q3 => e.rt _ _ _ _ (t1.trans (t12.trans t3)) r3 v3 q3, fun ρ3 G3 σ3 H3 t3 r3 s3 q3 => e.nx _ _ _ _ (t1.trans (t12.trans t3)) r3 s3 q3, fun ρ3 G3 σ3 H3 t3 r3 s3 q3 => ⟨ρ3, G3, s3, r3, t12.trans t3, q3⟩⟩⟩
  · rintro σ' H' ⟨ρ', G', a1, a2, a3, a4⟩
    rw [List.drop_length] at a4
    exact e.nx _ _ _ _ (t1.trans a3) a2 a1 a4.2
/-! sources -/
theorem ItOk.list {Z : Ky} {a : Addr} {vs : List PV} : ItOk Z (Itl Z.K a) (fun H => ∃ xs, SqL Z.K H a xs ∧ RVs Z.K H vs xs) vs where
  go := fun i H hi ⟨xs, h1, h2⟩ => ⟨xs, xs[i]'(by rw [← h2.length]; exact hi), h1, by simp⟩
  stop := fun H ⟨xs, h1, h2⟩ => ⟨xs, h1, by rw [h2.length]; exact Nat.le_refl _⟩
  yld := fun i H x H' hi ⟨xs, h1, h2⟩ y => by
    obtain ⟨rfl, y2⟩ := y
    obtain ⟨v, h3, h4⟩ := h2.get' (y2 xs h1)
    exact ⟨v, h3, h4, .refl, fun _ r => r⟩
theorem ItOk.tuple {Z : Ky} {a : Addr} {vs : List PV} : ItOk Z (Itt Z.K a) (fun H => ∃ xs, SqT Z.K H a xs ∧ RVs Z.K H vs xs) vs where
  go := fun i H hi ⟨xs, h1, h2⟩ => ⟨xs, xs[i]'(by rw [← h2.length]; exact hi), h1, by simp⟩
  stop := fun H ⟨xs, h1, h2⟩ => ⟨xs, h1, by rw [h2.length]; exact Nat.le_refl _⟩
  yld := fun i H x H' hi ⟨xs, h1, h2⟩ y => by
    obtain ⟨rfl, y2⟩ := y
    obtain ⟨v, h3, h4⟩ := h2.get' (y2 xs h1)
    exact ⟨v, h3, h4, .refl, fun _ r => r⟩
theorem ItOk.range {Z : Ky} {lo : Int} {n : Nat} : ItOk Z (Itr lo n) (fun _ => True) ((List.range n).map fun (i : Nat) => PV.int (lo + i)) where
  go := fun i H hi _ => by show i < n; simpa using hi
  stop := fun H _ => by show n ≤ _; simp
  yld := fun i H x H' hi _ y => by
    obtain ⟨rfl, rfl⟩ := y
    have hi' : i < n := by simpa using hi
    exact ⟨.int (lo + i), by simp [hi'], RV.intI _, .refl, fun _ r => r⟩
theorem ItOk.rangeC {Z : Ky} {lo c : Int} {n : Nat} : ItOk Z (Itc lo c n) (fun _ => True) ((List.range n).map fun (i : Nat) => PV.int (lo + i * c)) where
  go := fun i H hi _ => by show i < n; simpa using hi
  stop := fun H _ => by show n ≤ _; simp
  yld := fun i H x H' hi _ y => by
    obtain ⟨rfl, rfl⟩ := y
    have hi' : i < n := by simpa using hi
    exact ⟨.int (lo + i * c), by simp [hi'], RV.intI _, .refl, fun _ r => r⟩
/-- over the value of an expression -/
def iVal (w : WE) : WI := fun ρ G Q => w ρ G fun v G1 => match v with
  | .tup vs => Q [] vs G1
  | .rl vs => Q [] vs G1
  | .ref a => (match G1 a with | some (.lst vs) => Q [(a, vs)] vs G1 | _ => False)
  | _ => False
/-- a list or a tuple -/
def iAnyS (K : Frag) (tl : TE) : TI := fun σ H R => tl σ H fun x H1 => ∃ a, x = .ref a ∧ (((∃ xs, SqL K H1 a xs) ∧ R (Itl K a) H1) ∨ ((∃ xs, SqT K H1 a xs) ∧ R (Itt K a) H1))
theorem pi_anyS {l : Expr} {tl : TE} (hl : PE X l tl) : PI X tg l (iAnyS X.K tl) := by
  refine ⟨fun pins s σ H R I h => ?_⟩
  refine thn (hl.run pins s σ H _ I h) fun v s1 ⟨x, H1, I1, r1, q1⟩ => ?_
  obtain ⟨a, e, q⟩ := q1
  subst e
  cases r1
  have fp : ∀ b ∈ [s1.heap.objs.size], FpOk X pins H1 b := fun b hb => by
    have e : b = s1.heap.objs.size := by simpa using hb
    subst e
    exact I1.fpOk (Nat.le_refl _) (I1.hok.fresh (Nat.le_refl _))
  rcases q with ⟨⟨xs, hq⟩, q⟩ | ⟨⟨xs, hq⟩, q⟩
  · obtain ⟨its, rv, p, hz⟩ := I1.list hq
    refine wpAny_pyIter_list p.isList ?_
    exact ⟨s1.heap.objs.size, [s1.heap.objs.size], _, _, H1, rfl, I1.kept (t' := s1.toks) fun b o e => Heap.get?_push_of_some _ e, turn_list a _, ⟨_, Heap.get?_push_size _ rfl, rfl, rfl⟩, fp, q⟩
  · obtain ⟨its, rv, p, hz⟩ := I1.tuple hq
    refine wpAny_pyIter_tuple (show s1.heap.IsTuple a its.toArray from p) ?_
    exact ⟨s1.heap.objs.size, [s1.heap.objs.size], _, _, H1, rfl, I1.kept (t' := s1.toks) fun b o e => Heap.get?_push_of_some _ e, turn_tuple a _, ⟨_, Heap.get?_push_size _ rfl, rfl, rfl⟩, fp, q⟩
theorem si_val (he : SE X e w) : SI X tg e (iVal w) := PI.weak (pi_anyS he) fun σ H R h => by
  obtain ⟨ρ, G, QP, rs, rg, hw, hq⟩ := h
  refine ⟨ρ, G, _, rs, rg, hw, fun v G1 x H1 t1 rg1 rv1 hw1 => ?_⟩
  split at hw1
  · obtain ⟨a, xs, rfl, h1, h2⟩ := rv1.tup
    exact ⟨a, rfl, .inr ⟨⟨xs, h1⟩, hq _ _ _ _ _ _ t1 rg1 .tuple (fun G2 H2 t2 _ _ => ⟨xs, t2.sq h1, h2.mono t2⟩) hw1⟩⟩
  · rw [RV] at rv1
    obtain ⟨a, xs, rfl, h1, h2⟩ := rv1
    exact ⟨a, rfl, .inl ⟨⟨xs, h1.sq⟩, hq _ _ _ _ _ _ t1 rg1 .list (fun G2 H2 t2 _ _ => ⟨xs, (t2.im h1).sq, h2.mono t2⟩) hw1⟩⟩
  · rw [RV] at rv1; subst rv1
    split at hw1
    · rename_i vs ga
      obtain ⟨xs, h1, h2⟩ := rg1 _ _ ga
      refine ⟨_, rfl, .inl ⟨⟨xs, .of h1⟩, hq _ _ _ _ _ _ t1 rg1 .list (fun G2 H2 t2 rg2 wt => ?_) hw1⟩⟩
      obtain ⟨ys, h3, h4⟩ := rg2 _ _ (wt _ List.mem_cons_self)
      exact ⟨ys, .of h3, h4⟩
    · exact hw1.elim
  · exact hw1.elim
/-- range -/
def iR1 (w : WE) : WI := fun ρ G Q => w ρ G fun v G1 => match v with
  | .int j => j < 2 ^ 62 ∧ -(2 ^ 62) ≤ j ∧ Q [] ((List.range j.toNat).map fun (i : Nat) => PV.int i) G1
  | _ => False
def iR2 (wa wb : WE) : WI := fun ρ G Q => wa ρ G fun u G1 => wb ρ G1 fun v G2 => match u, v with
  | .int i, .int j => (-(2 ^ 62) ≤ i ∧ i < 2 ^ 62 ∧ -(2 ^ 62) ≤ j ∧ j < 2 ^ 62) ∧ Q [] ((List.range (j - i).toNat).map fun (k : Nat) => PV.int (i + k)) G2
  | _, _ => False
def iR3 (wa wb wc : WE) : WI := fun ρ G Q => wa ρ G fun u G1 => wb ρ G1 fun v G2 => wc ρ G2 fun z G3 => match u, v, z with
  | .int i, .int j, .int c => ∃ n, RgC i j c n ∧ Q [] ((List.range n).map fun (k : Nat) => PV.int (i + k * c)) G3
  | _, _, _ => False
section
variable (hg : Gl X "range") (hm : X.mg "range" = none)
include hg hm
theorem si_r1 (ha : SE X a wa) (hs : starEach [a] X.env = (false, eval a X.env) :: starEach [] X.env) : SI X tg (.Call (.Name "range" p) [a] [] pos) (iR1 wa) :=
  PI.weak (pi_range1 hg hm (pa_cons ha pa_nil hs) hs) fun σ H R h => by
  obtain ⟨ρ, G, QP, rs, rg, hw, hq⟩ := h
  refine tCons1 (Q := fun vs H1 => ∃ j : Int, vs = [.int j] ∧ -(2 ^ 62) ≤ j ∧ j < 2 ^ 62 ∧ R (Itr 0 j.toNat) H1) ⟨ρ, G, _, rs, rg, hw, fun v G1 x H1 t1 rg1 rv1 hw1 => ?_⟩
  split at hw1
  · rename_i j
    rw [RV] at rv1; subst rv1
    refine ⟨j, rfl, hw1.2.1, hw1.1, hq [] _ _ _ _ _ t1 rg1 ItOk.range (fun _ _ _ _ _ => trivial) ?_⟩
    simpa using hw1.2.2
  · exact hw1.elim
theorem tCons2 {t t' : TE} {σ : St} {H : Hp} {Q : List V → Hp → Prop} (h : t σ H fun x H1 => t' σ H1 fun y H2 => Q [x, y] H2) : tCons t (tCons t' tNil) σ H Q := h
theorem si_r2 (ha : SE X a wa) (hb : SE X b wb) (hs : starEach [a, b] X.env = (false, eval a X.env) :: starEach [b] X.env) (hs2 : starEach [b] X.env = (false, eval b X.env) :: starEach [] X.env) : SI X tg (.Call (.Name "range" p) [a, b] [] pos) (iR2 wa wb) :=
  PI.weak (pi_range2 hg hm (pa_cons ha (pa_cons hb pa_nil hs2) hs) (by rw [hs, hs2]; rfl) hs2) fun σ H R h => by
  obtain ⟨ρ, G, QP, rs, rg, hw, hq⟩ := h
  show tW X.ky wa σ H fun x H1 => tW X.ky wb σ H1 fun y H2 => _
  refine ⟨ρ, G, _, rs, rg, hw, fun v G1 x H1 t1 rg1 rv1 hw1 => ?_⟩
  refine ⟨ρ, G1, _, rs.mono t1, rg1, hw1, fun u G2 y H2 t2 rg2 rv2 hw2 => ?_⟩
  have rv1' := RV.mono t2 _ _ rv1
  split at hw2
  · rw [RV] at rv1'; rw [RV] at rv2; subst rv1'; subst rv2
    exact ⟨_, _, rfl, hw2.1, hq _ _ _ _ _ _ (t1.trans t2) rg2 ItOk.range (fun _ _ _ _ _ => trivial) hw2.2⟩
  · exact hw2.elim
theorem si_r3 (ha : SE X a wa) (hb : SE X b wb) (hc : SE X c wc) (hs : starEach [a, b, c] X.env = (false, eval a X.env) :: starEach [b, c] X.env) (hs2 : starEach [b, c] X.env = (false, eval b X.env) :: starEach [c] X.env) (hs3 : starEach [c] X.env = (false, eval c X.env) :: starEach [] X.env)
    (hpl : (backTo pos (starEach [b, c] X.env)).any (·.1) = false) : SI X tg (.Call (.Name "range" p) [a, b, c] [] pos) (iR3 wa wb wc) :=
  PI.weak (pi_range3 hg hm (pa_cons ha (pa_cons hb (pa_cons hc pa_nil hs3) hs2) hs) hs hpl) fun σ H R h => by
  obtain ⟨ρ, G, QP, rs, rg, hw, hq⟩ := h
  show tW X.ky wa σ H fun x H1 => tW X.ky wb σ H1 fun y H2 => tW X.ky wc σ H2 fun z H3 => _
  refine ⟨ρ, G, _, rs, rg, hw, fun v G1 x H1 t1 rg1 rv1 hw1 => ?_⟩
  refine ⟨ρ, G1, _, rs.mono t1, rg1, hw1, fun u G2 y H2 t2 rg2 rv2 hw2 => ?_⟩
  refine ⟨ρ, G2, _, rs.mono (t1.trans t2), rg2, hw2, fun u G3 z H3 t3 rg3 rv3 hw3 => ?_⟩
  have rv1' := RV.mono (t2.trans t3) _ _ rv1
  have rv2' := RV.mono t3 _ _ rv2
  split at hw3
  · rw [RV] at rv1'; rw [RV] at rv2'; rw [RV] at rv3; subst rv1'; subst rv2'; subst rv3
    obtain ⟨n, h1, h2⟩ := hw3
    exact ⟨_, _, _, n, rfl, h1, hq _ _ _ _ _ _ ((t1.trans t2).trans t3) rg3 ItOk.rangeC (fun _ _ _ _ _ => trivial) h2⟩
  · exact hw3.elim
end
end
/-! ### o.f = v -/
def putP (f : Str) (v : PV) : List (Str × PV) → List (Str × PV)
  | [] => [(f, v)]
  | (g, w) :: r => if g = f then (g, v) :: r else (g, w) :: putP f v r
theorem RK.putF {K : Frag} {H : Hp} {f : Str} {v : PV} {x : V} (a : RV K H v x) : ∀ {fs : List (Str × PV)} {xs : List (Str × V)}, RK K H fs xs → RK K H (putP f v fs) (L2.putF f x xs)
  | [], xs, r => by
    rw [RK] at r; subst r
    rw [putP, L2.putF, RK]; exact ⟨x, [], rfl, a, by rw [RK]⟩
  | (g, w) :: r, xs, h => by
    rw [RK] at h
    obtain ⟨y, r', rfl, b, c⟩ := h
    rw [putP, L2.putF]
    by_cases e : g = f
    · rw [if_pos e, if_pos e, RK]; exact ⟨x, r', rfl, a, c⟩
    · rw [if_neg e, if_neg e, RK]; exact ⟨y, _, rfl, b, RK.putF a c⟩
def sFldP (cs : List Addr) (f : Str) (we wo : WE) : WS := fun P ρ G => we ρ G fun v G1 => wo ρ G1 fun o G2 => match o with
  | .ref a => (match G2 a with | some (.ins C fs) => C ∈ cs ∧ fs.length < 1000 ∧ P.nx ρ (pup G2 a (.ins C (putP f v fs))) | _ => False)
  | _ => False
section
variable {X : Cx} {o e : Expr} {pos pos' : Pos} {we wo : WE}
theorem ss_fld {cs : List Addr} {f : Str} (hc : ∀ C ∈ cs, Cls X.K C ∧ NoAttr X.K C f) (ho : SE X o wo) (he : SE X e we) (hs : swapsWith e (some (.Attribute o f pos')) pos.line X.env = pure false) : SS1 X (.Assign [.Attribute o f pos'] e pos) (sFldP cs f we wo) :=
  PS.weak (ps_fld ho he hs) fun D σ H h => by
  obtain ⟨ρ, G, P, rs, rg, hw, e⟩ := h
  refine ⟨ρ, G, _, rs, rg, hw, fun v G1 x H1 t1 rg1 rv1 hw1 => ?_⟩
  refine ⟨ρ, G1, _, rs.mono t1, rg1, hw1, fun u G2 y H2 t2 rg2 rv2 hw2 => ?_⟩
  split at hw2
  · rename_i a
    rw [RV] at rv2; subst rv2
    split at hw2
    · rename_i C fs ga
      obtain ⟨hC, hl, q⟩ := hw2
      obtain ⟨dx, xs, h1, h2⟩ := rg2 _ _ ga
      refine ⟨a, C, dx, xs, rfl, h1, (hc C hC).1, (hc C hC).2, by rw [← h2.length]; exact hl, ?_⟩
      have t3 : TupLe X.K H2 (upd H2 a (.ins C dx (L2.putF f x xs))) := .chg h1 (fun _ z => nomatch z) (fun _ _ z => nomatch z)
      exact e.nx _ _ _ _ ((t1.trans t2).trans t3) (rg2.chg (u := .ins C (putP f v fs)) h1 (fun _ z => nomatch z) (fun _ _ z => nomatch z) ⟨dx, _, upd_same, (RK.putF (RV.mono t2 _ _ rv1) h2).mono t3⟩) (rs.mono ((t1.trans t2).trans t3)) q
    · exact hw2.elim
  · exact hw2.elim
theorem ss_never {st : Stmt} : SS1 X st (fun _ _ _ => False) := PS.weak ps_never fun D σ H h => by
  obtain ⟨_, _, _, _, _, hw, _⟩ := h
  exact hw
end
end Cl
set_option Elab.async false
set_option linter.all false
set_option maxRecDepth 100000
set_option maxHeartbeats 4000000
/-! The clean layer, part K: enumerate and zip over lists and tuples in any mix. -/
namespace Cl
open PySem PySem.Spec PyProof.Rows L2
open Builtin
/-- a tuple (t) or a list -/
def SqX (K : Frag) (H : Hp) (t : Bool) (a : Addr) (xs : List V) : Prop := match t with | true => SqT K H a xs | false => SqL K H a xs
def IterAt (t : Bool) (h : Heap) (it a : Addr) (i : Nat) : Prop := match t with | true => h.IsTupleIter it a i | false => h.IsListIter it a i
def SeqAt (t : Bool) (h : Heap) (a : Addr) (its : Array Value) : Prop := match t with | true => h.IsTuple a its | false => h.IsList a its
def itObj (t : Bool) (a : Addr) : Obj := match t with | true => { cls := .type "tuple_iterator", data := .fields #[.ref a, .int 0 0] } | false => { cls := .type "list_iterator", data := .fields #[.ref a, .int 0 0] }
section
variable {prog : Program} {w : World} {A : Around} {E : Value → Shared → Prop} {s : Shared} {X : Cx} {pins : List (Addr × Obj)} {σ : L2.St} {H : Hp} {t : Bool} {a : Addr} {xs ys : List V}
theorem sqx_of (I : Inv X pins σ H s) (h : SqX X.K H t a xs) : ∃ its : List Value, Vals xs its ∧ SeqAt t s.heap a its.toArray := by
  cases t with
  | true => obtain ⟨its, rv, p, _⟩ := I.tuple h; exact ⟨its, rv, p⟩
  | false => obtain ⟨its, rv, p, _⟩ := I.list h; exact ⟨its, rv, p.isList⟩
theorem sqx_inj (I : Inv X pins σ H s) (h : SqX X.K H t a xs) (h' : SqX X.K H t a ys) : xs = ys := by
  cases t with
  | true => exact I.tuple_inj h h'
  | false => exact I.list_inj h h'
theorem drawsAt (hh : A.handled = none) (it : Addr) (hne : a ≠ it) (items : Array Value) :
    Draws prog w A it [it, a] items.size (fun i v => items[i]? = some v) (fun i h => IterAt t h it a i ∧ SeqAt t h a items) := by
  cases t with
  | true => exact Draws.tuple hh it a hne items
  | false => exact Draws.list hh it a hne items
theorem begins (items : Array Value) : Begins (.ref a) (itObj t a) fun h => SeqAt t h a items := by
  cases t with
  | true => exact begins_tuple a items
  | false => exact begins_list a items
theorem IterAt.frame {h h' : Heap} {it : Addr} {i : Nat} (x : IterAt t h it a i) (k : ∀ o, h.get? it = some o → h'.get? it = some o) : IterAt t h' it a i := by
  cases t with
  | true => exact Heap.IsTupleIter.at x k
  | false => exact Heap.IsListIter.at x k
theorem IterAt.obj {h : Heap} {it : Addr} {i : Nat} (x : IterAt t h it a i) : ∃ o, h.get? it = some o ∧ ∀ v, o.data ≠ .cell v := by
  cases t with
  | true => obtain ⟨o, ho, hc, hd⟩ := x; exact ⟨o, ho, fun v q => by rw [hd] at q; cases q⟩
  | false => obtain ⟨o, ho, hc, hd⟩ := x; exact ⟨o, ho, fun v q => by rw [hd] at q; cases q⟩
theorem IterAt.of {h : Heap} {it : Addr} (x : h.get? it = some (itObj t a)) : IterAt t h it a 0 := by
  cases t with
  | true => exact ⟨_, x, rfl, rfl⟩
  | false => exact ⟨_, x, rfl, rfl⟩
theorem SeqAt.lt {h : Heap} {its : Array Value} (x : SeqAt t h a its) : a < h.objs.size := by
  cases t with
  | true => obtain ⟨o, ho, _⟩ := x; exact Heap.lt_size ho
  | false => obtain ⟨o, ho, _⟩ := x; exact Heap.lt_size ho
/-! enumerate -/
set_option maxHeartbeats 1000000 in
theorem meets_enum1 {v : Value} {o : Obj} {H : Heap → Prop} (B : Begins v o H) :
    Meets (Builtin.«enumerate.__new__» ⟨[.type "enumerate", v], []⟩) (fun _ R s => H s.heap ∧
      R (.ok (.ret (.ref (s.heap.push o).objs.size))) { s with heap := (s.heap.push o).push { cls := .type "enumerate", data := .fields #[.none, .bool false, .ref s.heap.objs.size, rawInt 0, .none, .none] } }) :=
  .of_wp fun prog w A R s h => by
    obtain ⟨hp, g, d, tk, os⟩ := s; obtain ⟨h1, h⟩ := h
    have hsub := sub_enumerate
    have q1 : ∀ {A' : Around} {E : Value → Shared → Prop} {Q : Value → Shared → Prop}, Q (.ref hp.objs.size) ⟨hp.push o, g, d, tk, os⟩ → wpAny (model prog w) A' (pyIter v) Q E ⟨hp, g, d, tk, os⟩ :=
      fun q => B.iter prog w _ _ ⟨hp, g, d, tk, os⟩ _ h1 q
    wp_walk using q1
    refine wpAny_stack_any fun st => wpAny_pure ?_
    split
    · rename_i c _ _ _ _ _
      cases (c == Value.type "enumerate")
      · wp_walk using q1
        exact ⟨_, rfl, h⟩
      · wp_walk using q1
        exact ⟨_, rfl, h⟩
    · wp_walk using q1
      exact ⟨_, rfl, h⟩
theorem enum_begins1 {v : Value} {o : Obj} {H : Heap → Prop} {Q : Value → Shared → Prop} (B : Begins v o H) (h1 : H s.heap)
    (h : ∀ h', IsEnum h' (s.heap.objs.size + 1) s.heap.objs.size 0 .none → h'.get? s.heap.objs.size = some o → h'.objs.size = s.heap.objs.size + 2 →
      (∀ b o, s.heap.get? b = some o → h'.get? b = some o) → Q (.ref (s.heap.objs.size + 1)) { s with heap := h' }) :
    wpAny (model prog w) A (call (.type "enumerate") [v]) Q E s := by
  refine callType_new F.called_enumerate (by decide) (F.typeCall_enumerate_1 _) (F.newCall_enumerate_1 _) (fun obj => F.args_object_init_2 obj _) F.entry_enumerate_new
    (meets_enum1 B) ⟨h1, ?_⟩
  have hz : (s.heap.push o).objs.size = s.heap.objs.size + 1 := Heap.size_push ..
  show _ ∧ _
  rw [hz]
  have he : IsEnum ((s.heap.push o).push { cls := .type "enumerate", data := .fields #[.none, .bool false, .ref s.heap.objs.size, rawInt 0, .none, .none] }) (s.heap.objs.size + 1) s.heap.objs.size 0 .none := by
    have := Heap.get?_push_size (s.heap.push o) (o := { cls := .type "enumerate", data := .fields #[.none, .bool false, .ref s.heap.objs.size, rawInt 0, .none, .none] }) rfl
    rw [hz] at this; exact this
  refine ⟨⟨_, he, rfl⟩, h _ he (Heap.get?_push_of_some _ (Heap.get?_push_size _ B.free)) (by rw [Heap.size_push, hz]) fun b o x => Heap.get?_push_of_some _ (Heap.get?_push_of_some _ x)⟩
end
def IteX (K : Frag) (t : Bool) (a : Addr) : It :=
  ⟨fun i H => ∃ (xs : List V) (x : V), SqX K H t a xs ∧ xs[i]? = some x, fun i H v H' => ∃ T x, v = .ref T ∧ H T = none ∧ H' = upd H T (.tup [.int (i : Nat), x]) ∧ ∀ xs, SqX K H t a xs → xs[i]? = some x, fun i H => ∃ xs : List V, SqX K H t a xs ∧ i = xs.length⟩
theorem turn_enumX {P : Program} {w : World} {K : Frag} {elts : List Expr} {kk : Nat} {tpos : Pos} (t : Bool) (a e it : Addr) :
    Turn P w K (.Tuple elts kk tpos) (IteX K t a) [e, it] e (fun i h => (∃ old, IsEnum h e it ((i : Nat) : Int) old) ∧ IterAt t h it a i ∧ e ≠ it ∧ a ≠ it ∧ a ≠ e) where
  mem := by simp
  obj := fun i h st b hb => by
    obtain ⟨⟨old, he⟩, hi, _⟩ := st
    have e' : b = e ∨ b = it := by simpa using hb
    rcases e' with z | z
    · rw [z]; exact ⟨_, he, fun v q => nomatch q⟩
    · rw [z]; exact hi.obj
  keep := fun i h h' st k => let ⟨⟨old, he⟩, hi, hne, r⟩ := st; ⟨⟨old, k e (by simp) _ he⟩, hi.frame fun o q => k it (by simp) o q, hne, r⟩
  item := by
    intro X hP hw hK hc i pins s σ H E I hf st hg
    subst hP hw hK
    obtain ⟨⟨old, he⟩, hit, hne, hai, hae⟩ := st
    obtain ⟨xs, x, hq, hx⟩ := hg
    obtain ⟨its, rv, p⟩ := sqx_of I hq
    obtain ⟨u, hu, ru⟩ := rv.get hx
    have hel : e < s.heap.objs.size := Heap.lt_size he
    have hil : it < s.heap.objs.size := by obtain ⟨_, q, _⟩ := hit.obj; exact Heap.lt_size q
    have hlt : i < its.toArray.size := by
      have := (List.getElem?_eq_some_iff.mp hu).1
      simpa using this
    refine wpAny_pyNext_enum_itemD (drawsAt (t := t) (a := a) (A := X.A.in1) (show X.A.in1.handled = none from I.ok.hd hc) it hai its.toArray) he ⟨hit, p⟩ hlt hne (by simp; exact ⟨hne, Ne.symm hae⟩) fun y h' tk hP ho hit' hT hsz hk => ?_
    have hy : y = u := by
      have h1 : its[i]? = some y := by simpa using hP
      rw [hu] at h1; exact (Option.some.inj h1).symm
    subst hy
    refine ⟨_, rfl, wpAny_letOwnedTupleGo_enum (s := { s with heap := h', toks := tk + 1 }) ho fun h'' he' sb => ?_⟩
    have hT2 : h''.get? s.heap.objs.size = some { cls := .type "tuple", data := .seq #[.int i tk, y] } := (sb.2 _ (Nat.ne_of_gt hel)).trans hT
    have new : ObjOk X.prog X.w (upd H s.heap.objs.size (.tup [.int (i : Nat), x])) h'' s.heap.objs.size (.tup [.int (i : Nat), x]) :=
      ⟨by show 2 ≤ sizeLine; decide, [.int i tk, y], .cons ⟨_, rfl⟩ (.cons ru .nil), ⟨_, hT2, rfl, _, rfl⟩⟩
    have I1 : Inv X pins σ (upd H s.heap.objs.size (.tup [.int (i : Nat), x])) { s with heap := h'', toks := tk + 1 } :=
      I.turnedNew (t' := tk + 1) (ch := [e, it]) (fun b ob hb q => (sb.2 b (fun z => hb (by simp [z]))).trans (hk b ob (fun z => hb (by simp [z])) (fun z => hb (by simp [z])) q)) hf (Nat.le_refl _) new
    refine ⟨.ref s.heap.objs.size, _, I1, rfl, ⟨_, x, rfl, I.hok.fresh (Nat.le_refl _), rfl, fun ys hy => by rw [sqx_inj I hy hq]; exact hx⟩, ⟨⟨y, ?_⟩, hit'.1.frame fun o q => (sb.2 it (Ne.symm hne)).trans q, hne, hai, hae⟩, fun b hb => ?_⟩
    · have e1 : ((i + 1 : Nat) : Int) = (i : Int) + 1 := by omega
      rw [e1]; exact he'
    · have hb' : b < s.heap.objs.size := by
        have e' : b = e ∨ b = it := by simpa using hb
        rcases e' with z | z
        · rw [z]; exact hel
        · rw [z]; exact hil
      rw [upd_ne (Nat.ne_of_lt hb')]
      exact (hf b hb).1
  done := by
    intro X hP hw hK hc i pins s σ H E I hf st hg
    subst hP hw hK
    obtain ⟨⟨old, he⟩, hit, hne, hai, hae⟩ := st
    obtain ⟨xs, hq, hx⟩ := hg
    obtain ⟨its, rv, p⟩ := sqx_of I hq
    obtain ⟨f0, f1, f2, f3, f4, f5⟩ := hf it (by simp)
    have hl := rv.length
    have hi : i = its.toArray.size := by simp; omega
    subst hi
    exact wpAny_pyNext_enum_endD (drawsAt (t := t) (a := a) (A := X.A.in1) (show X.A.in1.handled = none from I.ok.hd hc) it hai its.toArray) he ⟨hit, p⟩ fun h' eb => ⟨rfl, I.turned (t' := s.toks) (fun b o hb q => eb b o hb q) f0 f1 f3 f4 f5⟩
  self := fun A i s Q E st h => let ⟨⟨_, he⟩, _⟩ := st; wpAny_pyIter_enum he h
/-! zip -/
def ItzX (K : Frag) (t t' : Bool) (a b : Addr) : It :=
  ⟨fun i H => ∃ (xs ys : List V) (x y : V), SqX K H t a xs ∧ SqX K H t' b ys ∧ xs[i]? = some x ∧ ys[i]? = some y,
    fun i H v H' => ∃ T x y, v = .ref T ∧ H T = none ∧ H' = upd H T (.tup [x, y]) ∧ (∀ xs, SqX K H t a xs → xs[i]? = some x) ∧ ∀ ys, SqX K H t' b ys → ys[i]? = some y,
    fun i H => ∃ xs ys : List V, SqX K H t a xs ∧ SqX K H t' b ys ∧ i = min xs.length ys.length⟩
theorem turn_zipX {P : Program} {w : World} {K : Frag} {elts : List Expr} {kk : Nat} {tpos : Pos} {t t' : Bool} {a b z TI TO i1 i2 : Addr} (D : ZipSep2 z TI TO i1 i2 [i1, a] [i2, b]) (ha1 : a ≠ i1) (hb2 : b ≠ i2) :
    Turn P w K (.Tuple elts kk tpos) (ItzX K t t' a b) [z, TI, TO, i1, i2] z (fun i h => IsZip h z TI TO .none ∧ IsTupOf2 h TI (.ref i1) (.ref i2) ∧ (∃ x y, IsTupOf2 h TO x y) ∧ IterAt t h i1 a i ∧ IterAt t' h i2 b i) where
  mem := by simp
  obj := fun i h st c hc => by
    obtain ⟨hz, hTI, ⟨x, y, hTO⟩, h1, h2⟩ := st
    have e' : c = z ∨ c = TI ∨ c = TO ∨ c = i1 ∨ c = i2 := by simpa using hc
    rcases e' with q | q | q | q | q
    · rw [q]; exact ⟨_, hz, fun v q => nomatch q⟩
    · rw [q]; exact ⟨_, hTI, fun v q => nomatch q⟩
    · rw [q]; exact ⟨_, hTO, fun v q => nomatch q⟩
    · rw [q]; exact h1.obj
    · rw [q]; exact h2.obj
  keep := fun i h h' st k => by
    obtain ⟨hz, hTI, ⟨x, y, hTO⟩, h1, h2⟩ := st
    exact ⟨k z (by simp) _ hz, k TI (by simp) _ hTI, ⟨x, y, k TO (by simp) _ hTO⟩, h1.frame fun o q => k i1 (by simp) o q, h2.frame fun o q => k i2 (by simp) o q⟩
  item := by
    intro X hP hw hK hc i pins s σ H E I hf st hg
    subst hP hw hK
    obtain ⟨hz, hTI, ⟨x0, y0, hTO⟩, h1, h2⟩ := st
    obtain ⟨xs, ys, x, y, hqx, hqy, hx, hy⟩ := hg
    obtain ⟨its, rv, p⟩ := sqx_of I hqx
    obtain ⟨its2, rv2, p2⟩ := sqx_of I hqy
    obtain ⟨u, hu, ru⟩ := rv.get hx
    obtain ⟨u2, hu2, ru2⟩ := rv2.get hy
    have hzl : z < s.heap.objs.size := Heap.lt_size hz
    have hlt : i < its.toArray.size := by
      have := (List.getElem?_eq_some_iff.mp hu).1
      simpa using this
    have hlt2 : i < its2.toArray.size := by
      have := (List.getElem?_eq_some_iff.mp hu2).1
      simpa using this
    have hh : X.A.in1.handled = none := I.ok.hd hc
    refine wpAny_pyNext_zipD2_item D (drawsAt (t := t) (a := a) hh i1 ha1 its.toArray) (drawsAt (t := t') (a := b) hh i2 hb2 its2.toArray) hz hTI hTO ⟨h1, p⟩ ⟨h2, p2⟩ hlt hlt2 fun v1 v2 h' tk hP1 hP2 z' TO' h1' h2' hT hsz hk => ?_
    have hv1 : v1 = u := by
      have q : its[i]? = some v1 := by simpa using hP1
      rw [hu] at q; exact (Option.some.inj q).symm
    have hv2 : v2 = u2 := by
      have q : its2[i]? = some v2 := by simpa using hP2
      rw [hu2] at q; exact (Option.some.inj q).symm
    subst hv1; subst hv2
    refine ⟨_, rfl, wpAny_letOwnedTupleGo_zip (s := { s with heap := h', toks := tk }) z' fun h'' z'' sb => ?_⟩
    have hT2 : h''.get? s.heap.objs.size = some { cls := .type "tuple", data := .seq #[v1, v2] } := (sb.2 _ (Nat.ne_of_gt hzl)).trans hT
    have new : ObjOk X.prog X.w (upd H s.heap.objs.size (.tup [x, y])) h'' s.heap.objs.size (.tup [x, y]) :=
      ⟨by show 2 ≤ sizeLine; decide, [v1, v2], .cons ru (.cons ru2 .nil), ⟨_, hT2, rfl, _, rfl⟩⟩
    have I1 : Inv X pins σ (upd H s.heap.objs.size (.tup [x, y])) { s with heap := h'', toks := tk } :=
      I.turnedNew (t' := tk) (ch := [z, TI, TO, i1, i2]) (fun c o hb q => (sb.2 c (fun q' => hb (by simp [q']))).trans (hk c o (fun q' => hb (by simp [q'])) (fun q' => hb (by simp [q'])) (fun q' => hb (by simp [q'])) (fun q' => hb (by simp [q'])) q)) hf (Nat.le_refl _) new
    have n1 : i1 ≠ z := Ne.symm D.zi1
    have n2 : i2 ≠ z := Ne.symm D.zi2
    refine ⟨.ref s.heap.objs.size, _, I1, rfl, ⟨_, x, y, rfl, I.hok.fresh (Nat.le_refl _), rfl, fun l hl => by rw [sqx_inj I hl hqx]; exact hx, fun l hl => by rw [sqx_inj I hl hqy]; exact hy⟩, ⟨z'', ?_, ⟨v1, v2, ?_⟩, ?_, ?_⟩, fun c hcm => ?_⟩
    · exact (sb.2 _ D.TIz).trans (hk _ _ D.TIz D.TITO D.TIi1 D.TIi2 hTI)
    · exact (sb.2 _ D.TOz).trans TO'
    · exact h1'.1.frame fun o q => (sb.2 _ n1).trans q
    · exact h2'.1.frame fun o q => (sb.2 _ n2).trans q
    · have hlt : c < s.heap.objs.size := by
        have e' : c = z ∨ c = TI ∨ c = TO ∨ c = i1 ∨ c = i2 := by simpa using hcm
        rcases e' with q | q | q | q | q
        · rw [q]; exact hzl
        · rw [q]; exact Heap.lt_size hTI
        · rw [q]; exact Heap.lt_size hTO
        · rw [q]; obtain ⟨_, e1, _⟩ := h1.obj; exact Heap.lt_size e1
        · rw [q]; obtain ⟨_, e2, _⟩ := h2.obj; exact Heap.lt_size e2
      rw [upd_ne (Nat.ne_of_lt hlt)]
      exact (hf c hcm).1
  done := by
    intro X hP hw hK hc i pins s σ H E I hf st hg
    subst hP hw hK
    obtain ⟨hz, hTI, ⟨x0, y0, hTO⟩, h1, h2⟩ := st
    obtain ⟨xs, ys, hqx, hqy, hend⟩ := hg
    obtain ⟨its, rv, p⟩ := sqx_of I hqx
    obtain ⟨its2, rv2, p2⟩ := sqx_of I hqy
    have l1 := rv.length
    have l2 := rv2.length
    have hh : X.A.in1.handled = none := I.ok.hd hc
    have e1 : its.toArray.size = its.length := by simp
    have e2 : its2.toArray.size = its2.length := by simp
    refine wpAny_pyNext_zipD2_end D (drawsAt (t := t) (a := a) hh i1 ha1 its.toArray) (drawsAt (t := t') (a := b) hh i2 hb2 its2.toArray) hz hTI hTO ⟨h1, p⟩ ⟨h2, p2⟩ (by omega) (by omega) (by omega) fun h' tk hk => ?_
    exact ⟨rfl, I.turnedL (t' := tk) (ch := [z, TI, TO, i1, i2]) (fun c o hb q => hk c o (fun q' => hb (by simp [q'])) (fun q' => hb (by simp [q'])) (fun q' => hb (by simp [q'])) (fun q' => hb (by simp [q'])) q) hf⟩
  self := fun A i s Q E st h => wpAny_pyIter_zip st.1 h
/-! in the clean layer -/
section
variable {X : Cx} {e e2 : Expr} {p pos tpos : Pos} {elts : List Expr} {kk : Nat} {w wa wb : WE}
/-- what is a sequence: its kind, its items, what must stay -/
def seqOf (v : PV) (G : PG) : Option (Ws × List PV) :=
  match v with
  | .tup vs => some ([], vs)
  | .rl vs => some ([], vs)
  | .ref a => (match G a with | some (.lst vs) => some ([(a, vs)], vs) | _ => none)
  | _ => none
theorem seqOf_ok {Z : Ky} {G : PG} {H : Hp} {v : PV} {x : V} {ws : Ws} {vs : List PV} (rg : RG Z G H) (rv : RV Z.K H v x) (h : seqOf v G = some (ws, vs)) :
    ∃ t a, x = .ref a ∧ (∃ xs, SqX Z.K H t a xs ∧ RVs Z.K H vs xs) ∧ ∀ G2 H2, TupLe Z.K H H2 → RG Z G2 H2 → watch ws G2 → ∃ xs, SqX Z.K H2 t a xs ∧ RVs Z.K H2 vs xs := by
  cases v with
  | tup us =>
    obtain ⟨a, xs, rfl, h1, h2⟩ := rv.tup
    cases h
    exact ⟨true, a, rfl, ⟨xs, h1, h2⟩, fun G2 H2 t _ _ => ⟨xs, t.sq h1, h2.mono t⟩⟩
  | rl us =>
    rw [RV] at rv
    obtain ⟨a, xs, rfl, h1, h2⟩ := rv
    cases h
    exact ⟨false, a, rfl, ⟨xs, h1.sq, h2⟩, fun G2 H2 t _ _ => ⟨xs, (t.im h1).sq, h2.mono t⟩⟩
  | ref a =>
    rw [RV] at rv; subst rv
    simp only [seqOf] at h
    split at h
    · rename_i us ga
      cases h
      obtain ⟨xs, h1, h2⟩ := rg _ _ ga
      refine ⟨false, a, rfl, ⟨xs, .of h1, h2⟩, fun G2 H2 t rg2 wt => ?_⟩
      obtain ⟨ys, h3, h4⟩ := rg2 _ _ (wt _ List.mem_cons_self)
      exact ⟨ys, .of h3, h4⟩
    · cases h
  | _ => cases h
theorem watch_app {ws ws' : Ws} {G : PG} (h : watch (ws ++ ws') G) : watch ws G ∧ watch ws' G := ⟨fun p hp => h p (List.mem_append_left _ hp), fun p hp => h p (List.mem_append_right _ hp)⟩
def enumP : Nat → List PV → List PV
  | _, [] => []
  | n, v :: vs => .tup [.int n, v] :: enumP (n + 1) vs
theorem enumP_get : ∀ {vs : List PV} {n i : Nat} {v : PV}, vs[i]? = some v → (enumP n vs)[i]? = some (.tup [.int (n + i : Nat), v])
  | [], _, _, _, h => by simp at h
  | u :: us, n, 0, v, h => by simp at h; subst h; rfl
  | u :: us, n, i + 1, v, h => by
    have := enumP_get (vs := us) (n := n + 1) (i := i) (v := v) (by simpa using h)
    rw [show n + (i + 1) = n + 1 + i by omega]
    simpa [enumP] using this
theorem enumP_length : ∀ {vs : List PV} {n : Nat}, (enumP n vs).length = vs.length
  | [], _ => rfl
  | u :: us, n => by simp [enumP, enumP_length]
def zipP : List PV → List PV → List PV
  | v :: vs, u :: us => .tup [v, u] :: zipP vs us
  | _, _ => []
theorem zipP_length : ∀ {vs us : List PV}, (zipP vs us).length = min vs.length us.length
  | [], us => by simp [zipP]
  | v :: vs, [] => by simp [zipP]
  | v :: vs, u :: us => by simp only [zipP, zipP_length, List.length_cons]; omega
theorem zipP_get : ∀ {vs us : List PV} {i : Nat} {v u : PV}, vs[i]? = some v → us[i]? = some u → (zipP vs us)[i]? = some (.tup [v, u])
  | [], _, _, _, _, h, _ => by simp at h
  | v :: vs, [], _, _, _, _, h => by simp at h
  | v :: vs, u :: us, 0, _, _, h, h' => by simp at h h'; subst h; subst h'; rfl
  | v :: vs, u :: us, i + 1, _, _, h, h' => by
    have := zipP_get (vs := vs) (us := us) (i := i) (by simpa using h) (by simpa using h')
    simpa [zipP] using this
theorem RV.pair {K : Frag} {H : Hp} {T : Addr} {u v : PV} {x y : V} (hT : H T = none) (a : RV K H u x) (b : RV K H v y) : RV K (upd H T (.tup [x, y])) (.tup [u, v]) (.ref T) :=
  RV.tup_of (.of upd_same) (.cons (RV.mono (.new hT) _ _ a) (.cons (RV.mono (.new hT) _ _ b) .nil))
theorem ItOk.enum {Z : Ky} {t : Bool} {a : Addr} {vs : List PV} : ItOk Z (IteX Z.K t a) (fun H => ∃ xs, SqX Z.K H t a xs ∧ RVs Z.K H vs xs) (enumP 0 vs) where
  go := fun i H hi ⟨xs, h1, h2⟩ => ⟨xs, xs[i]'(by rw [enumP_length] at hi; rw [← h2.length]; exact hi), h1, by simp⟩
  stop := fun H ⟨xs, h1, h2⟩ => ⟨xs, h1, by rw [enumP_length, h2.length]⟩
  yld := fun i H x H' hi ⟨xs, h1, h2⟩ y => by
    obtain ⟨T, z, rfl, hT, rfl, y2⟩ := y
    obtain ⟨v, h3, h4⟩ := h2.get' (y2 xs h1)
    exact ⟨_, enumP_get h3, RV.pair hT (by simpa using RV.intI _) h4, .new hT, fun _ r => r.skip hT⟩
theorem ItOk.zip {Z : Ky} {t t' : Bool} {a b : Addr} {vs us : List PV} : ItOk Z (ItzX Z.K t t' a b) (fun H => (∃ xs, SqX Z.K H t a xs ∧ RVs Z.K H vs xs) ∧ ∃ ys, SqX Z.K H t' b ys ∧ RVs Z.K H us ys) (zipP vs us) where
  go := fun i H hi ⟨⟨xs, h1, h2⟩, ys, h3, h4⟩ => ⟨xs, ys, xs[i]'(by rw [zipP_length] at hi; rw [← h2.length]; omega), ys[i]'(by rw [zipP_length] at hi; rw [← h4.length]; omega), h1, h3, by simp, by simp⟩
  stop := fun H ⟨⟨xs, h1, h2⟩, ys, h3, h4⟩ => ⟨xs, ys, h1, h3, by rw [zipP_length, h2.length, h4.length]⟩
  yld := fun i H x H' hi ⟨⟨xs, h1, h2⟩, ys, h3, h4⟩ y => by
    obtain ⟨T, z, z', rfl, hT, rfl, y2, y3⟩ := y
    obtain ⟨v, h5, h6⟩ := h2.get' (y2 xs h1)
    obtain ⟨u, h7, h8⟩ := h4.get' (y3 ys h3)
    exact ⟨_, zipP_get h5 h7, RV.pair hT h6 h8, .new hT, fun _ r => r.skip hT⟩
def iEnumX (K : Frag) (te : TE) : TI := fun σ H R => te σ H fun x H1 => ∃ t a xs, x = .ref a ∧ SqX K H1 t a xs ∧ R (IteX K t a) H1
theorem pi_enumX {te : TE} (hg : Gl X "enumerate") (hm : X.mg "enumerate" = none) (he : PE X e te) (hs : starEach [e] X.env = (false, eval e X.env) :: starEach [] X.env) :
    PI X (.Tuple elts kk tpos) (.Call (.Name "enumerate" p) [e] [] pos) (iEnumX X.K te) := by
  refine ⟨fun pins s σ H R I h => ?_⟩
  refine Call_ (ld_blt I hg hm boot_enumerate (PyProof.Rows.callWith_type1 (thn ((pa_cons he pa_nil hs).run pos pins s σ H (fun vs H1 => ∃ t a xs, vs = [.ref a] ∧ SqX X.K H1 t a xs ∧ R (IteX X.K t a) H1) I (tCons1 ?_)) fun us s1 ⟨vs, H1, I1, r1, q1⟩ => ?_) hs rfl))
  · have : (fun x H1 => ∃ t a xs, x = V.ref a ∧ SqX X.K H1 t a xs ∧ R (IteX X.K t a) H1) = fun x H1 => ∃ t a xs, [x] = [V.ref a] ∧ SqX X.K H1 t a xs ∧ R (IteX X.K t a) H1 := by
      funext x H1; simp
    unfold iEnumX at h
    rw [this] at h
    exact h
  · obtain ⟨t, a, xs, ex, hq, q⟩ := q1
    subst ex
    rw [Vals.ref1 r1]
    obtain ⟨its, rv, p'⟩ := sqx_of I1 hq
    refine enum_begins1 (begins its.toArray) p' fun h' he hit hsz hk => wpAny_pyIter_enum he ?_
    have I2 : Inv X pins σ H1 { s1 with heap := h' } := I1.kept (t' := s1.toks) hk
    have hal : a < s1.heap.objs.size := p'.lt
    refine ⟨s1.heap.objs.size + 1, [s1.heap.objs.size + 1, s1.heap.objs.size], _, _, H1, rfl, I2, turn_enumX t a (s1.heap.objs.size + 1) s1.heap.objs.size, ⟨⟨.none, he⟩, IterAt.of hit, Nat.succ_ne_self _, Nat.ne_of_lt hal, Nat.ne_of_lt (Nat.lt_succ_of_lt hal)⟩, fun b hb => ?_, q⟩
    have e' : b = s1.heap.objs.size + 1 ∨ b = s1.heap.objs.size := by simpa using hb
    have hle : s1.heap.objs.size ≤ b := by
      rcases e' with z | z
      · rw [z]; exact Nat.le_add_right _ _
      · rw [z]; exact Nat.le_refl _
    exact I1.fpOk hle (I1.hok.fresh hle)
def iEnm (w : WE) : WI := fun ρ G Q => w ρ G fun v G1 => match seqOf v G1 with | some (ws, vs) => Q ws (enumP 0 vs) G1 | none => False
theorem si_enum (hg : Gl X "enumerate") (hm : X.mg "enumerate" = none) (he : SE X e w) (hs : starEach [e] X.env = (false, eval e X.env) :: starEach [] X.env) : SI X (.Tuple elts kk tpos) (.Call (.Name "enumerate" p) [e] [] pos) (iEnm w) :=
  PI.weak (pi_enumX hg hm he hs) fun σ H R h => by
  obtain ⟨ρ, G, QP, rs, rg, hw, hq⟩ := h
  refine ⟨ρ, G, _, rs, rg, hw, fun v G1 x H1 t1 rg1 rv1 hw1 => ?_⟩
  split at hw1
  · rename_i ws vs e
    obtain ⟨t, a, rfl, ⟨xs, h1, h2⟩, hk⟩ := seqOf_ok rg1 rv1 e
    exact ⟨t, a, xs, rfl, h1, hq _ _ _ _ _ _ t1 rg1 .enum (fun G2 H2 t2 rg2 wt => hk G2 H2 t2 rg2 wt) hw1⟩
  · exact hw1.elim
def iZipX (K : Frag) (ta : TA) : TI := fun σ H R => ta σ H fun vs H1 => ∃ t t' a b xs ys, vs = [.ref a, .ref b] ∧ SqX K H1 t a xs ∧ SqX K H1 t' b ys ∧ R (ItzX K t t' a b) H1
theorem pi_zipX {ta : TA} (hg : Gl X "zip") (hm : X.mg "zip" = none) (ha : PA X [e, e2] ta)
    (hs : starEach [e, e2] X.env = (false, eval e X.env) :: starEach [e2] X.env) (hpl : (backTo pos (starEach [e2] X.env)).any (·.1) = false) :
    PI X (.Tuple elts kk tpos) (.Call (.Name "zip" p) [e, e2] [] pos) (iZipX X.K ta) := by
  refine ⟨fun pins s σ H R I h => ?_⟩
  refine Call_ (ld_blt I hg hm PyProof.Rows.boot_zip (PyProof.Rows.callWith_type1 (thn (ha.run pos pins s σ H _ I h) fun us s1 ⟨vs, H1, I1, r1, q1⟩ => ?_) hs hpl))
  obtain ⟨t, t', a, b, xs, ys, ex, hqx, hqy, q⟩ := q1
  subst ex
  cases r1 with
  | cons r rr =>
    cases rr with
    | cons r' rr =>
      cases rr
      cases r
      cases r'
      obtain ⟨its, rv, p1⟩ := sqx_of I1 hqx
      obtain ⟨its2, rv2, p2⟩ := sqx_of I1 hqy
      have la := p1.lt
      have lb := p2.lt
      refine zip_begins2 (begins its.toArray) (begins its2.toArray) p1 p2 fun h' hz hTI hTO h1 h2 hsz hk => wpAny_pyIter_zip hz ?_
      have I2 : Inv X pins σ H1 { s1 with heap := h' } := I1.kept (t' := s1.toks) hk
      refine ⟨s1.heap.objs.size + 4, [s1.heap.objs.size + 4, s1.heap.objs.size + 2, s1.heap.objs.size + 3, s1.heap.objs.size, s1.heap.objs.size + 1], _, _, H1, rfl, I2, turn_zipX (t := t) (t' := t') (a := a) (b := b) (zip_sep2 (fp1 := [a]) (fp2 := [b]) (by simpa using la) (by simpa using lb)) (Nat.ne_of_lt la) (Nat.ne_of_lt (Nat.lt_succ_of_lt lb)), ⟨hz, hTI, ⟨_, _, hTO⟩, IterAt.of h1, IterAt.of h2⟩, fun c hcm => ?_, q⟩
      have e' : c = s1.heap.objs.size + 4 ∨ c = s1.heap.objs.size + 2 ∨ c = s1.heap.objs.size + 3 ∨ c = s1.heap.objs.size ∨ c = s1.heap.objs.size + 1 := by simpa using hcm
      have hle : s1.heap.objs.size ≤ c := by
        rcases e' with z | z | z | z | z
        · rw [z]; exact Nat.le_add_right _ _
        · rw [z]; exact Nat.le_add_right _ _
        · rw [z]; exact Nat.le_add_right _ _
        · rw [z]; exact Nat.le_refl _
        · rw [z]; exact Nat.le_add_right _ _
      exact I1.fpOk hle (I1.hok.fresh hle)
def iZp (wa wb : WE) : WI := fun ρ G Q => wa ρ G fun u G1 => wb ρ G1 fun v G2 => match seqOf u G2, seqOf v G2 with
  | some (ws, us), some (ws', vs) => Q (ws ++ ws') (zipP us vs) G2
  | _, _ => False
theorem si_zip (hg : Gl X "zip") (hm : X.mg "zip" = none) (ha : SE X e wa) (hb : SE X e2 wb)
    (hs : starEach [e, e2] X.env = (false, eval e X.env) :: starEach [e2] X.env) (hs2 : starEach [e2] X.env = (false, eval e2 X.env) :: starEach [] X.env) (hpl : (backTo pos (starEach [e2] X.env)).any (·.1) = false) :
    SI X (.Tuple elts kk tpos) (.Call (.Name "zip" p) [e, e2] [] pos) (iZp wa wb) :=
  PI.weak (pi_zipX hg hm (pa_cons ha (pa_cons hb pa_nil hs2) hs) hs hpl) fun σ H R h => by
  obtain ⟨ρ, G, QP, rs, rg, hw, hq⟩ := h
  show tW X.ky wa σ H fun x H1 => tW X.ky wb σ H1 fun y H2 => _
  refine ⟨ρ, G, _, rs, rg, hw, fun v G1 x H1 t1 rg1 rv1 hw1 => ?_⟩
  refine ⟨ρ, G1, _, rs.mono t1, rg1, hw1, fun u G2 y H2 t2 rg2 rv2 hw2 => ?_⟩
  have rv1' := RV.mono t2 _ _ rv1
  split at hw2
  · rename_i ws us ws' vs e1 e2
    obtain ⟨t, a, rfl, ⟨xs, h1, h2⟩, hk⟩ := seqOf_ok rg2 rv1' e1
    obtain ⟨t', b, rfl, ⟨ys, h3, h4⟩, hk'⟩ := seqOf_ok rg2 rv2 e2
    exact ⟨t, t', a, b, xs, ys, rfl, h1, h3, hq _ _ _ _ _ _ (t1.trans t2) rg2 .zip (fun G2 H2 t2 rg2 wt => ⟨hk G2 H2 t2 rg2 (watch_app wt).1, hk' G2 H2 t2 rg2 (watch_app wt).2⟩) hw2⟩
  · exact hw2.elim
end
end Cl
set_option Elab.async false
set_option linter.all false
set_option maxRecDepth 100000
set_option maxHeartbeats 4000000
/-! The clean layer, part L: list comprehensions. -/
namespace Cl
open PySem PySem.Spec PyProof.Rows L2
def wipeR (ρ : Rho) : List Nat → Rho
  | [] => ρ
  | v :: vs => (wipeR ρ vs).set v none
theorem RS.unset {K : Frag} {ρ : Rho} {σ : L2.St} {H : Hp} (r : RS K ρ σ H) (i : Nat) : RS K (ρ.set i none) (σ.set i none) H := by
  refine ⟨by simp [r.len], fun j w e => ?_⟩
  by_cases hj : j = i
  · subst hj
    have hl : j < ρ.length := by
      have := (List.getElem?_eq_some_iff.mp e).1
      simpa using this
    rw [List.getElem?_set_self hl] at e
    cases e
  · rw [List.getElem?_set_ne (Ne.symm hj)] at e
    obtain ⟨y, h1, h2⟩ := r.get j w e
    exact ⟨y, by rw [List.getElem?_set_ne (Ne.symm hj)]; exact h1, h2⟩
theorem RS.wipe {K : Frag} {ρ : Rho} {σ : L2.St} {H : Hp} (r : RS K ρ σ H) : ∀ vs : List Nat, RS K (wipeR ρ vs) (L2.wipe σ vs) H
  | [] => r
  | v :: vs => (RS.wipe r vs).unset v
theorem wipe_comm (σ : L2.St) (i : Nat) : ∀ vs : List Nat, L2.wipe (σ.set i none) vs = (L2.wipe σ vs).set i none
  | [] => rfl
  | v :: vs => by
    simp only [L2.wipe, wipe_comm σ i vs]
    by_cases h : i = v
    · subst h; rfl
    · rw [List.set_comm _ _ h]
theorem wipe_set {σ : L2.St} {i : Nat} {x : Option V} : ∀ {vs : List Nat}, i ∈ vs → L2.wipe (σ.set i x) vs = L2.wipe σ vs
  | v :: vs, h => by
    simp only [L2.wipe]
    by_cases hv : i = v
    · subst hv
      by_cases hi : i ∈ vs
      · rw [wipe_set hi]
      · have : ∀ {ws : List Nat}, i ∉ ws → L2.wipe (σ.set i x) ws = (L2.wipe σ ws).set i x := by
          intro ws
          induction ws with
          | nil => intro _; rfl
          | cons w ws ih =>
            intro hm
            simp only [List.mem_cons, not_or] at hm
            simp only [L2.wipe, ih hm.2]
            rw [List.set_comm _ _ hm.1]
        rw [this hi, List.set_set]
    · rcases List.mem_cons.mp h with h | h
      · exact absurd h hv
      · rw [wipe_set h]
theorem wipe_wipe (σ : L2.St) (vs : List Nat) : ∀ ws : List Nat, (∀ w ∈ ws, w ∈ vs) → L2.wipe (L2.wipe σ ws) vs = L2.wipe σ vs
  | [], _ => rfl
  | w :: ws, h => by
    simp only [L2.wipe]
    rw [wipe_set (h w List.mem_cons_self)]
    exact wipe_wipe σ vs ws fun x hx => h x (List.mem_cons_of_mem _ hx)
/-- a target whose names are all of these places -/
def tWGo (vs : List Nat) (Z : Ky) (g : WG) : TG := fun x σ H Q => ∃ v ρ G QP, RV Z.K H v x ∧ RS Z.K ρ σ H ∧ RG Z G H ∧ g v ρ G QP ∧ ∀ ρ' G' σ' H', TupLe Z.K H H' → RG Z G' H' → RS Z.K ρ' σ' H' → L2.wipe σ' vs = L2.wipe σ vs → QP ρ' G' → Q σ' H'
def tWGso (vs : List Nat) (Z : Ky) (g : WGs) : TGs := fun xs σ H Q => ∃ us ρ G QP, RVs Z.K H us xs ∧ RS Z.K ρ σ H ∧ RG Z G H ∧ g us ρ G QP ∧ ∀ ρ' G' σ' H', TupLe Z.K H H' → RG Z G' H' → RS Z.K ρ' σ' H' → L2.wipe σ' vs = L2.wipe σ vs → QP ρ' G' → Q σ' H'
abbrev SGo (X : Cx) (vs : List Nat) (tg : Expr) (g : WG) : Prop := L2.PG X tg (tWGo vs X.ky g)
abbrev SGso (X : Cx) (vs : List Nat) (tg : List Expr) (g : WGs) : Prop := L2.PGs X tg (tWGso vs X.ky g)
section
variable {X : Cx} {tg iter e a b c d elt : Expr} {es : List Expr} {body : List Stmt} {pos p : Pos} {w wa wb wc : WE} {wi : WI} {g : WG} {gs : WGs} {u : WS} {wl : WL} {own : List Nat}
theorem sgo_name {i : Nat} {x : Str} (hN : X.N.Nodup) (hi : X.N[i]? = some x) (hx : Loc X.env.scope x) (hf : X.fn x = true ∨ X.env.scope.names.lookup x = some .local) (ho : i ∈ own) : SGo X own (.Name x pos) (gN i) := PG.weak (pg_name hN hi hx hf) fun x σ H Q h => by
  obtain ⟨v, ρ, G, QP, rv, rs, rg, hw, hq⟩ := h
  exact hq _ _ _ _ .refl rg (rs.set i rv) (wipe_set ho) hw
theorem sgso_nil : SGso X own [] gZ := PGs.weak pgs_nil fun x σ H Q h => by
  obtain ⟨v, ρ, G, QP, rv, rs, rg, hw, hq⟩ := h
  obtain ⟨rfl, hw⟩ := hw
  rw [RVs] at rv
  exact ⟨rv, hq _ _ _ _ .refl rg rs rfl hw⟩
theorem sgso_cons (h1 : SGo X own e g) (h2 : SGso X own es gs) (hs : (assignEach (e :: es) X.env).map (·.2) = assign e X.env :: (assignEach es X.env).map (·.2)) : SGso X own (e :: es) (gC g gs) := PGs.weak (pgs_cons h1 h2 hs) fun x σ H Q h => by
  obtain ⟨v, ρ, G, QP, rv, rs, rg, hw, hq⟩ := h
  cases v with
  | nil => exact hw.elim
  | cons v vs =>
    obtain ⟨x, r, rfl, r1, r2⟩ := rv.invc
    refine ⟨x, r, rfl, v, ρ, G, _, r1, rs, rg, hw, fun ρ' G' σ' H' t1 rg1 rs1 e1 hw1 => ?_⟩
    exact ⟨vs, ρ', G', QP, r2.mono t1, rs1, rg1, hw1, fun ρ2 G2 σ2 H2 t2 rg2 rs2 e2 q => hq _ _ _ _ (t1.trans t2) rg2 rs2 (e2.trans e1) q⟩
theorem sgo_tup {k n : Nat} (hc : X.calm = true) (h : SGso X own es gs) (hn : (assignEach es X.env).length = n) (hst : (assignEach es X.env).findIdx? (·.1) = none) : SGo X own (.Tuple es k pos) (gTp n gs) :=
  PG.weak (PG.or (pg_tup hc h hn hst) (pg_unl hc h hn hst)) fun x σ H Q h => by
  obtain ⟨v, ρ, G, QP, rv, rs, rg, hw, hq⟩ := h
  unfold gTp at hw
  split at hw
  · obtain ⟨a, xs, rfl, h1, h2⟩ := rv.tup
    exact .inl ⟨a, xs, rfl, h1, by rw [← h2.length]; exact hw.1, _, ρ, G, QP, h2, rs, rg, hw.2, hq⟩
  · rw [RV] at rv
    obtain ⟨a, xs, rfl, h1, h2⟩ := rv
    exact .inr ⟨a, xs, rfl, h1.sq, by rw [← h2.length]; exact hw.1, _, ρ, G, QP, h2, rs, rg, hw.2, hq⟩
  · rw [RV] at rv; subst rv
    split at hw
    · rename_i vs ga
      obtain ⟨xs, h1, h2⟩ := rg _ _ ga
      exact .inr ⟨_, xs, rfl, .of h1, by rw [← h2.length]; exact hw.1, _, ρ, G, QP, h2, rs, rg, hw.2, hq⟩
    · exact hw.elim
  · exact hw.elim
/-! tests -/
abbrev WT := Rho → PG → (Bool → PG → Prop) → Prop
def tWTs (Z : Ky) (w : WT) : TT := fun σ H Q => ∃ ρ G QP, RS Z.K ρ σ H ∧ RG Z G H ∧ w ρ G QP ∧ ∀ b G' H', TupLe Z.K H H' → RG Z G' H' → QP b G' → Q b H'
abbrev STs (X : Cx) (ifs : List Expr) (w : WT) : Prop := PTs X ifs (tWTs X.ky w)
theorem PTs.weak {ifs : List Expr} {t t' : TT} (h : PTs X ifs t) (i : ∀ σ H Q, t' σ H Q → t σ H Q) : PTs X ifs t' := ⟨fun pins s σ H Q I q => h.run pins s σ H Q I (i σ H Q q)⟩
def tsYes : WT := fun _ G Q => Q true G
def tsOne (w : WE) : WT := fun ρ G Q => w ρ G fun v G1 => match tru v G1 with | some b => Q b G1 | none => False
theorem sts_nil : STs X [] tsYes := PTs.weak pts_nil fun σ H Q h => by
  obtain ⟨ρ, G, QP, rs, rg, hw, hq⟩ := h
  exact hq _ _ _ .refl rg hw
theorem sts_one (h : ST X c wc) : STs X [c] (tsOne wc) := PTs.weak (pts_one h) fun σ H Q h => by
  obtain ⟨ρ, G, QP, rs, rg, hw, hq⟩ := h
  refine ⟨ρ, G, _, rs, rg, hw, fun v G1 H1 t1 rg1 hw1 => ?_⟩
  split at hw1
  · rename_i b hb
    exact ⟨b, hb, hq _ _ _ t1 rg1 hw1⟩
  · exact hw1.elim
/-! [elt for tg in iter if ..] -/
def lcL (ws : Ws) (g : WG) (wt : WT) (we : WE) (ρ0 : Rho) (D : Addr) (Q : PG → Prop) : List PV → PG → Prop
  | [], G => watch ws G ∧ Q G
  | v :: vs, G => watch ws G ∧ g v ρ0 G fun ρ1 G1 => wt ρ1 G1 fun b G2 => match b with
    | true => we ρ1 G2 fun y G3 => (match G3 D with | some (.lst acc) => acc.length < sizeLine ∧ lcL ws g wt we ρ0 D Q vs (pup G3 D (.lst (acc ++ [y]))) | _ => False)
    | false => lcL ws g wt we ρ0 D Q vs G2
theorem lcL_watch {ws : Ws} {wt : WT} {we : WE} {ρ0 : Rho} {D : Addr} {Q : PG → Prop} {vs : List PV} {G : PG} (h : lcL ws g wt we ρ0 D Q vs G) : watch ws G := by
  cases vs with
  | nil => exact h.1
  | cons v vs => exact h.1
def wLc (wi : WI) (g : WG) (wt : WT) (we : WE) (own : List Nat) : WE := fun ρ G Q => wi ρ G fun ws vs G1 => ∀ D, G1 D = none → lcL ws g wt we (wipeR ρ own) D (fun G2 => Q (.ref D) G2) vs (pup G1 D (.lst []))
def pdel (G : PG) (a : Addr) : PG := fun b => if b = a then none else G b
/-- .. only its items are wanted -/
def wLcQ (wi : WI) (g : WG) (wt : WT) (we : WE) (own : List Nat) : WL := fun ρ G Q => wi ρ G fun ws vs G1 => ∀ D, G1 D = none → lcL ws g wt we (wipeR ρ own) D (fun G2 => match G2 D with | some (.lst acc) => Q acc (pdel G2 D) | _ => False) vs (pup G1 D (.lst []))
/-- the hypotheses about the block -/
structure LcH (X : Cx) (elt tg iter : Expr) (ifs : List Expr) (scope : Scope) (own : List (Str × Nat)) (wi : WI) (g : WG) (wt : WT) (we : WE) : Prop where
  hi : SI X tg iter wi
  ok : BlkOk X.N X.env.scope scope own
  hg : ∀ (s : Shared) (H : Hp) (C : Addr) (cl : List (Str × Addr)) (fp : List Addr), SGo (X.blk s H scope (compEnvC scope cl C X.env) fp) (own.map (·.2)) tg g
  ht : ∀ (s : Shared) (H : Hp) (C : Addr) (cl : List (Str × Addr)) (fp : List Addr), STs (X.blk s H scope (compEnvC scope cl C X.env) fp) ifs wt
  he : ∀ (s : Shared) (H : Hp) (C : Addr) (cl : List (Str × Addr)) (fp : List Addr), SE (X.blk s H scope (compEnvC scope cl C X.env) fp) elt we
  hs : ∀ x, foldedSetIterable iter X.env x = pure x
theorem lc_W {wt : WT} {we : WE} {own : List Nat} {σ : L2.St} {ρ : Rho} {G1 : PG} {H1 : Hp} {Q : VK} {QP : WK} {J : It} {Gd : Hp → Prop} {vs : List PV} {ws : Ws} (ok : ItOk X.ky J Gd vs) (hgd : ∀ G2 H2, TupLe X.K H1 H2 → RG X.ky G2 H2 → watch ws G2 → Gd H2)
    (rs : RS X.K ρ σ H1) (rg1 : RG X.ky G1 H1) (hq : ∀ v G' x H', TupLe X.K H1 H' → RG X.ky G' H' → RV X.K H' v x → QP v G' → Q x H') {D : Addr} (hD : H1 D = none) (hw1 : lcL ws g wt we (wipeR ρ own) D (fun G2 => QP (.ref D) G2) vs (pup G1 D (.lst []))) :
    ∃ W : Nat → Nat → Hp → Prop, (∃ m, W 0 m (upd H1 D (.lst []))) ∧ ∀ i m H, W i m H →
      (J.stop i H ∧ Q (.ref D) H) ∨ (J.go i H ∧ ∃ Nx : Hp → Prop, (∀ H', Nx H' → ∃ m', m' < m ∧ W (i + 1) m' H') ∧ ∀ x H', J.yld i H x H' → tWGo own X.ky g x (L2.wipe σ own) H' fun σ2 H2 => L2.wipe σ2 own = L2.wipe σ own ∧ tWTs X.ky wt σ2 H2 fun b H3 =>
        if b = true then tW X.ky we σ2 H3 fun y H4 => ∃ acc, H4 D = some (.lst acc) ∧ acc.length < sizeLine ∧ Nx (upd H4 D (.lst (acc ++ [y]))) else Nx H3) := by
  have wk : Walk J vs.length Gd (fun i H x H' => ∃ v, vs[i]? = some v ∧ RV X.K H' v x ∧ TupLe X.K H H' ∧ ∀ G, RG X.ky G H → RG X.ky G H') := ⟨ok.go, ok.stop, ok.yld⟩
  have tD : TupLe X.K H1 (upd H1 D (.lst [])) := .new hD
  refine lc_it wk (fun i H' => ∃ G', RG X.ky G' H' ∧ TupLe X.K H1 H' ∧ lcL ws g wt we (wipeR ρ own) D (fun G2 => QP (.ref D) G2) (vs.drop i) G') ⟨_, rg1.newL hD .nil, tD, hw1⟩ ?_ ?_ ?_
  · rintro i H' hi ⟨G', a2, a3, a4⟩
    exact hgd G' H' a3 a2 (lcL_watch a4)
  · rintro i x H' H'' hi ⟨G', a2, a3, a4⟩ ⟨v, hv, rv, tl, rgk⟩
    have hd : vs.drop i = v :: vs.drop (i + 1) := by
      rw [List.drop_eq_getElem_cons hi]
      congr 1
      rw [List.getElem?_eq_getElem hi] at hv
      exact Option.some.inj hv
    rw [hd] at a4
    obtain ⟨_, a4⟩ := a4
    have rw0 : RS X.K (wipeR ρ own) (L2.wipe σ own) H'' := (rs.mono (a3.trans tl)).wipe own
    refine ⟨v, wipeR ρ own, G', _, rv, rw0, rgk _ a2, a4, fun ρ2 G2 σ2 H2 t2 r2 s2 we2 q => ⟨we2.trans (wipe_wipe σ own own fun _ h => h), ?_⟩⟩
    refine ⟨ρ2, G2, _, s2, r2, q, fun b G3 H3 t3 r3 q3 => ?_⟩
    have t13 := ((a3.trans tl).trans t2).trans t3
    cases b with
    | true =>
      refine ifT ?_
      refine ⟨ρ2, G3, _, s2.mono t3, r3, q3, fun y G4 z H4 t4 r4 v4 q4 => ?_⟩
      split at q4
      · rename_i acc ga
        obtain ⟨zs, k1, k2⟩ := r4 _ _ ga
        exact ⟨zs, k1, by rw [← k2.length]; exact q4.1, _, r4.chgL k1 (k2.append (.one v4)), (t13.trans t4).trans (.chgL (Z := X.ky) k1), q4.2⟩
      · exact q4.elim
    | false =>
      refine ifF ?_
      exact ⟨G3, r3, t13, q3⟩
  · rintro H' ⟨G', a2, a3, a4⟩
    rw [List.drop_length] at a4
    exact hq _ _ _ _ a3 a2 (RV.refI D) a4.2
theorem tLc_ok {wt : WT} {we : WE} {own : List Nat} {σ : L2.St} {H : Hp} {Q : VK} (h : tW X.ky (wLc wi g wt we own) σ H Q) : tLc (tWI X.ky wi) (tWGo own X.ky g) (tWTs X.ky wt) (tW X.ky we) own σ H Q := by
  obtain ⟨ρ, G, QP, rs, rg, hw, hq⟩ := h
  refine ⟨ρ, G, _, rs, rg, hw, fun ws vs G1 H1 J Gd t1 rg1 ok hgd hw1 => fun D hD => ?_⟩
  exact lc_W ok hgd (rs.mono t1) rg1 (fun v G' x H' t => hq v G' x H' (t1.trans t)) hD (hw1 D (rg1.fresh hD))
theorem se_lc {ifs : List Expr} {scope : Scope} {own : List (Str × Nat)} {wt : WT} {we : WE} (hc : X.calm = true) (hN : X.N.Nodup) (h : LcH X elt tg iter ifs scope own wi g wt we) :
    SE X (.ListComp elt [⟨tg, iter, ifs, 0⟩] scope pos) (wLc wi g wt we (own.map (·.2))) :=
  PE.weak (pe_lc hc hN h.hi h.ok h.hg h.ht h.he h.hs) fun _ _ _ q => tLc_ok q
theorem RG.del {Z : Ky} {G : PG} {H : Hp} (r : RG Z G H) (D : Addr) : RG Z (pdel G D) H := r.less fun a o e => by
  unfold pdel at e
  split at e
  · cases e
  · exact e
/-
theorem lcL_mono {ws : Ws} {wt : WT} {we : WE} {ρ0 : Rho} {D : Addr} {Q Q' : PG → Prop} (hh : ∀ G, Q G → Q' G) (hg : ∀ v ρ G (R R' : Rho → PG → Prop), (∀ ρ G, R ρ G → R' ρ G) → g v ρ G R → g v ρ G R') : True := trivial
-/
theorem sq_lc {ifs : List Expr} {scope : Scope} {own : List (Str × Nat)} {wt : WT} {we : WE} (hc : X.calm = true) (hN : X.N.Nodup) (h : LcH X elt tg iter ifs scope own wi g wt we) :
    SQ X (.ListComp elt [⟨tg, iter, ifs, 0⟩] scope pos) (wLcQ wi g wt we (own.map (·.2))) :=
  PE.weak (se_lc hc hN h) fun σ H Q q => by
  obtain ⟨ρ, G, QP, rs, rg, hw, hq⟩ := q
  refine ⟨ρ, G, fun v G2 => match v with | .ref D => (match G2 D with | some (.lst acc) => QP acc (pdel G2 D) | _ => False) | _ => False, rs, rg, hw, fun v G1 x H1 t1 rg1 rv1 hw1 => ?_⟩
  dsimp only at hw1
  split at hw1
  · rw [RV] at rv1; subst rv1
    split at hw1
    · rename_i acc ga
      obtain ⟨xs, k1, k2⟩ := rg1 _ _ ga
      exact hq _ _ _ _ _ t1 (rg1.del _) (.of k1) k2 hw1
    · exact hw1.elim
  · exact hw1.elim
/-- name = [..] on one line -/
theorem ss_setLc {i : Nat} {y : Str} {py : Pos} {ifs : List Expr} {scope : Scope} {own : List (Str × Nat)} {spos : Pos} {wt : WT} {we : WE} (hc : X.calm = true) (hN : X.N.Nodup) (hy : X.N[i]? = some y) (hyl : X.env.scope.names.lookup y = some .local)
    (hsw : swapsWith (.ListComp elt [⟨tg, iter, ifs, 0⟩] scope pos) (some (.Name y py)) spos.line X.env = pure true) (h : LcH X elt tg iter ifs scope own wi g wt we) :
    SS1 X (.Assign [.Name y py] (.ListComp elt [⟨tg, iter, ifs, 0⟩] scope pos) spos) (sAsg (wLc wi g wt we (own.map (·.2))) (gN i)) :=
  PS.weak (ps_setLc hc hN hy hyl hsw h.hi h.ok h.hg h.ht h.he h.hs) fun D σ H q => by
  obtain ⟨ρ, G, P, rs, rg, hw, e⟩ := q
  exact tLc_ok ⟨ρ, G, _, rs, rg, hw, fun v G1 x H1 t1 rg1 rv1 hw1 => e.nx _ _ _ _ t1 rg1 ((rs.mono t1).set i rv1) hw1⟩
end
end Cl
set_option Elab.async false
set_option linter.all false
set_option maxRecDepth 100000
set_option maxHeartbeats 4000000
/-! The clean layer, part M: sorted, dict comprehensions, a dict's keys walked. -/
namespace Cl
open PySem PySem.Spec PyProof.Rows L2
open PySem.W (AllAlike Sortable dataLe EachIs)
/-! ### keys as values -/
mutual
def kpv : NestedKey → PV
  | .none => .non
  | .num i => .int i
  | .text x => .str x
  | .tup ks => .tup (kpvs ks)
def kpvs : List NestedKey → List PV
  | [] => []
  | k :: ks => kpv k :: kpvs ks
end
mutual
theorem kpv_ok {K : Frag} {H : Hp} : ∀ (k : NestedKey) (x : V), NKV K H k x → RV K H (kpv k) x
  | .none, x, h => by rw [NKV] at h; subst h; rw [kpv]; exact RV.nonI
  | .num i, x, h => by rw [NKV] at h; subst h; rw [kpv]; exact RV.intI i
  | .text i, x, h => by rw [NKV] at h; subst h; rw [kpv]; exact RV.strI i
  | .tup ks, x, h => by
    rw [NKV] at h
    obtain ⟨a, ys, rfl, h1, h2⟩ := h
    rw [kpv]
    exact RV.tup_of h1 (kpvs_ok ks ys h2)
theorem kpvs_ok {K : Frag} {H : Hp} : ∀ (ks : List NestedKey) (xs : List V), NKVs K H ks xs → RVs K H (kpvs ks) xs
  | [], xs, h => by rw [NKVs] at h; subst h; rw [kpvs]; exact .nil
  | k :: ks, xs, h => by
    rw [NKVs] at h
    obtain ⟨x, r, rfl, a, b⟩ := h
    rw [kpvs]
    exact .cons (kpv_ok k x a) (kpvs_ok ks r b)
end
mutual
theorem kdat_ok {K : Frag} {H : Hp} : ∀ (k : NestedKey) (x : V), NKV K H k x → Dp K H x k.data
  | .none, x, h => by rw [NKV] at h; subst h; rw [NestedKey.data]; exact .non
  | .num i, x, h => by rw [NKV] at h; subst h; rw [NestedKey.data]; exact .int i
  | .text i, x, h => by rw [NKV] at h; subst h; rw [NestedKey.data]; exact .str i
  | .tup ks, x, h => by
    rw [NKV] at h
    obtain ⟨a, ys, rfl, h1, h2⟩ := h
    rw [NestedKey.data]
    exact .tup h1 (kdats_ok ks ys h2)
theorem kdats_ok {K : Frag} {H : Hp} : ∀ (ks : List NestedKey) (xs : List V), NKVs K H ks xs → DpAll K H xs (NestedKey.datas ks)
  | [], xs, h => by rw [NKVs] at h; subst h; rw [NestedKey.datas]; exact .nil
  | k :: ks, xs, h => by
    rw [NKVs] at h
    obtain ⟨x, r, rfl, a, b⟩ := h
    rw [NestedKey.datas]
    exact .cons (kdat_ok k x a) (kdats_ok ks r b)
end
/-! ### sorted -/
theorem each_get {α β : Type} {R : α → β → Prop} : ∀ {as : List α} {bs : List β}, as.length = bs.length → (∀ (i : Nat) (a : α) (b : β), as[i]? = some a → bs[i]? = some b → R a b) → EachIs R as bs
  | [], [], _, _ => .nil
  | a :: as, b :: bs, hl, h => .cons (h 0 a b rfl rfl) (each_get (by simpa using hl) fun i x y h1 h2 => h (i + 1) x y (by simpa using h1) (by simpa using h2))
  | [], _ :: _, hl, _ => by simp at hl
  | _ :: _, [], hl, _ => by simp at hl
theorem each_vals {K : Frag} {H : Hp} {f : β → PV} : ∀ {us : List Value} {bs : List β}, EachIs (fun u b => ∃ x, RelV x u ∧ RV K H (f b) x) us bs → ∃ xs, Vals xs us ∧ RVs K H (bs.map f) xs
  | _, _, .nil => ⟨[], .nil, .nil⟩
  | _, _, .cons ⟨x, r, v⟩ e => by
    obtain ⟨xs, h1, h2⟩ := each_vals e
    exact ⟨x :: xs, .cons r h1, .cons v h2⟩
/-- what sorted asks of the items and what it makes -/
def srtT (ks : List NestedKey) : List PV := (ks.mergeSort (dataLe false NestedKey.data)).map kpv
def encP (G : PG) (v : PV) : PyData := (dat G datN v).getD .none
def srtP (G : PG) (vs : List PV) : List PV := vs.mergeSort (dataLe false (encP G))
def bSorted : List PV → PG → WK → Prop := fun vs G Q => match vs with
  | [.ref a] => (match G a with
    | some (.dT kvs) => AllAlike ((kvs.map (·.1)).map NestedKey.data) ∧ Sortable ((kvs.map (·.1)).map NestedKey.data) ∧ kvs.length ≤ sizeLine ∧ (∀ k ∈ kvs.map (·.1), k.data.depth ≤ 64) ∧ ∀ p, G p = none → Q (.ref p) (pup G p (.lst (srtT (kvs.map (·.1)))))
    | some (.lst xs) => xs.length ≤ sizeLine ∧ (∀ x ∈ xs, ∃ d, dat G datN x = some d ∧ d.depth ≤ 64) ∧ AllAlike (xs.map (encP G)) ∧ Sortable (xs.map (encP G)) ∧ ∀ p, G p = none → Q (.ref p) (pup G p (.lst (srtP G xs)))
    | _ => False)
  | _ => False
theorem RX.get {K : Frag} {H : Hp} : ∀ {kvs : List (NestedKey × PV)} {xs : List (NestedKey × Addr × Value)} {i : Nat} {p : NestedKey × PV}, RX K H kvs xs → kvs[i]? = some p → ∃ q u, xs[i]? = some (p.1, q, u) ∧ NKV K H p.1 (.ref q)
  | [], xs, i, p, r, h => by simp at h
  | p :: ps, xs, i, p', r, h => by
    rw [RX] at r
    obtain ⟨q, u, x, r', rfl, n, l, a, b⟩ := r
    cases i with
    | zero => simp at h; subst h; exact ⟨q, u, rfl, n⟩
    | succ i => simp at h; obtain ⟨q', u', h1, h2⟩ := RX.get b h; exact ⟨q', u', by simpa using h1, h2⟩
section
variable {X : Cx}
theorem call_sorted' (hc : X.calm = true) (hu : X.A.units + 200 < cLine) : CallR X (.builtin "sorted") (rB X.ky bSorted) := by
  intro pins s σ H xs us Q I r h
  obtain ⟨vs, G, QP, rv, rg, hw, hq⟩ := h
  unfold bSorted at hw
  split at hw
  · rename_i a
    obtain ⟨x, rfl, h1⟩ := rv.inv1
    rw [RV] at h1; subst h1
    obtain ⟨u, rfl, hu'⟩ := vals1 r
    cases (show u = Value.ref a from hu')
    split at hw
    · rename_i kvs ga
      obtain ⟨hal, hso, hsz, hdp, hw⟩ := hw
      obtain ⟨ys, k1, k2, k3⟩ := rg _ _ ga
      obtain ⟨⟨hm, ob, es, ep, o1, o2, o3, o4, o5⟩, _⟩ := I.hok a _ k1
      have raw : s.heap.DictRaw a es ep := ⟨ob, o1, o2, o3⟩
      have hes : es.size = kvs.length := by
        have := congrArg List.length o4
        rw [k3.length]
        simpa using this
      refine Calls.call_function_entry PyProof.Rows.kind_sorted PyProof.Rows.plain_sorted PyProof.Rows.entry_sorted (PyProof.Rows.args_sorted1 _) ?_
      unfold Builtin.«sorted»
      refine wpAny_bind (m := checkCount "sorted" 1 1 _) (wpAny_pure ?_)
      refine wpAny_bind (PySem.W.kdu_collect (A := X.A.in1) (KdlSrc.rawDict (es := es) (ep := ep) hm) (I.ok.hd hc) raw (by rw [hes]; exact hsz) fun h' tk acc hk hacc => ?_)
      have I1 : Inv X pins σ H { s with heap := h', toks := tk } := I.kept hk
      have hlen : acc.toList.length = (kvs.map (·.1)).length := by rw [Array.length_toList, hacc.1, hes, List.length_map]
      have hat : ∀ (i : Nat) (v : Value) (k : NestedKey), acc.toList[i]? = some v → (kvs.map (·.1))[i]? = some k → ∃ q, v = .ref q ∧ NKV X.K H k (.ref q) := by
        intro i v k e1 e2
        obtain ⟨hi, ev⟩ := hacc.2 i v (by rw [← Array.getElem?_toList]; exact e1)
        rw [List.getElem?_map] at e2
        cases e3 : kvs[i]? with
        | none => rw [e3] at e2; cases e2
        | some p =>
          rw [e3] at e2
          obtain rfl : p.1 = k := Option.some.inj e2
          obtain ⟨q, u, e4, n⟩ := k3.get e3
          refine ⟨q, ?_, n⟩
          have e5 : es.toList[i]? = some (entryOfKey (nestedKind X.prog X.w) (p.1, q, u)) := by rw [o4, List.getElem?_map, e4]; rfl
          have e6 : es[i]? = some (entryOfKey (nestedKind X.prog X.w) (p.1, q, u)) := by rw [← Array.getElem?_toList]; exact e5
          rw [Array.getElem?_eq_getElem hi] at e6
          rw [ev, Option.some.inj e6]; rfl
      refine wpAny_bind (wpAny_newList ?_ (by rw [hlen, List.length_map]; exact hsz))
      have hoL : (h'.push (seqObj "list" acc.toList.toArray 0)).get? h'.objs.size = some (seqObj "list" acc.toList.toArray 0) := Heap.get?_push_size _ rfl
      have old : ∀ b o, h'.get? b = some o → (PySem.W.sortingHeap (h'.push (seqObj "list" acc.toList.toArray 0)) h'.objs.size acc.toList).get? b = some o := fun b o e => PySem.W.sortingHeap_old (Nat.ne_of_lt (Heap.lt_size e)) (Heap.get?_push_of_some _ e)
      have er : EachIs (fun v b => ∃ as, Reads (PySem.W.sortingHeap (h'.push (seqObj "list" acc.toList.toArray 0)) h'.objs.size acc.toList) v (NestedKey.data b) as) acc.toList (kvs.map (·.1)) := each_get hlen fun i v k e1 e2 => by
        obtain ⟨q, rfl, n⟩ := hat i v k e1 e2
        obtain ⟨as, rd⟩ := Dp.reads I1 k.data (.ref q) (.ref q) (kdat_ok k _ n) rfl
        exact ⟨as, PyProof.Rows.Reads.keeps old rd⟩
      have eR : EachIs (fun v b => ∃ x, RelV x v ∧ RV X.K H (kpv b) x) acc.toList (kvs.map (·.1)) := each_get hlen fun i v k e1 e2 => by
        obtain ⟨q, rfl, n⟩ := hat i v k e1 e2
        exact ⟨.ref q, rfl, kpv_ok k _ n⟩
      show wpAny _ _ _ _ _ { s with heap := h'.push (seqObj "list" acc.toList.toArray 0), toks := tk }
      refine wpAny_bind (wpAny_holding (wpAny_call_entry PyProof.Rows.slot_list_sort ⟨_, hoL, rfl⟩ PyProof.Rows.entry_list_sort
        (PySem.W.list_sort_vals (κ := PySem.W.dataKind (PySem.W.sortingHeap (h'.push (seqObj "list" acc.toList.toArray 0)) h'.objs.size acc.toList) ((kvs.map (·.1)).map NestedKey.data)) (s := { s with heap := h'.push (seqObj "list" acc.toList.toArray 0), toks := tk }) hoL
          (PySem.W.SortsAt.data (s := { s with heap := PySem.W.sortingHeap (h'.push (seqObj "list" acc.toList.toArray 0)) h'.objs.size acc.toList, toks := tk }) (PySem.W.each_map (R := fun v d => ∃ as, Reads (PySem.W.sortingHeap (h'.push (seqObj "list" acc.toList.toArray 0)) h'.objs.size acc.toList) v d as) NestedKey.data er) hal hso (fun d hd => ?_)) (by rw [hlen, List.length_map]; exact hsz) ⟨_, rfl, ?_⟩) (PyProof.Rows.args_list_sort _)))
      · obtain ⟨k, hk', rfl⟩ := List.mem_map.mp hd
        have := hdp k hk'
        show X.A.units + 1 + 1 + _ < cLine
        omega
      · have so := PySem.W.sortVals_data false eR er hal
        obtain ⟨zs, z1, z2⟩ := each_vals (f := kpv) so
        have hzl : zs.length ≤ sizeLine := by
          rw [← z2.length, List.length_map, List.length_mergeSort, List.length_map]; exact hsz
        obtain ⟨e', he'⟩ := PyProof.Rows.sortedHeap_at (vs := acc.toList) (out := (PySem.W.sortVals (PySem.W.dataKind (PySem.W.sortingHeap (h'.push (seqObj "list" acc.toList.toArray 0)) h'.objs.size acc.toList) ((kvs.map (·.1)).map NestedKey.data)) false acc.toList acc.toList).toArray) hoL
        have hn := I1.hok.fresh (Nat.le_refl h'.objs.size)
        refine wpAny_pure ⟨_, rfl, .ref h'.objs.size, upd H h'.objs.size (.lst zs), I1.laid (t' := tk) (fun b u e => ?_) (Nat.le_refl _)
          (show ObjOk X.prog X.w _ _ _ (.lst zs) from ⟨hzl, _, e', z1, he'⟩), rfl, hq _ _ _ _ (.new hn) (rg.newL hn z2) (RV.refI _) (hw _ (rg.fresh hn))⟩
        have hb : b < h'.objs.size := Heap.lt_size e
        rw [PyProof.Rows.sortedHeap_old (Nat.ne_of_lt hb) (by rw [size_push']; exact Nat.lt_succ_of_lt hb)]
        exact Heap.get?_push_of_some _ e
    · rename_i ws ga
      obtain ⟨hsz, hdd, hal, hso, hw⟩ := hw
      obtain ⟨ys, k1, k2⟩ := rg _ _ ga
      obtain ⟨its, rv', p, _⟩ := I.list (.of k1)
      have hlen : its.length = ws.length := by rw [k2.length, rv'.length]
      have hat : ∀ (i : Nat) (u : Value) (v : PV), its[i]? = some u → ws[i]? = some v → ∃ x, RelV x u ∧ RV X.K H v x := by
        intro i u v e1 e2
        obtain ⟨x, e3, e4⟩ := k2.get e2
        obtain ⟨u', e5, e6⟩ := rv'.get e3
        rw [e1] at e5; cases e5
        exact ⟨x, e6, e4⟩
      have eR : EachIs (fun u v => ∃ x, RelV x u ∧ RV X.K H v x) its ws := each_get hlen hat
      have er : EachIs (fun u v => ∃ as, Reads s.heap u (encP G v) as) its ws := each_get hlen fun i u v e1 e2 => by
        obtain ⟨x, e3, e4⟩ := hat i u v e1 e2
        obtain ⟨d, e5, _⟩ := hdd v (List.mem_of_getElem? e2)
        have e6 : encP G v = d := by unfold encP; rw [e5]; rfl
        rw [e6]
        exact Dp.reads I d x u (dat_ok rg _ _ _ _ e4 e5) e3
      refine PySem.W.sorted_data (enc := encP G) (by simpa using p.isList) eR er hal hso hsz (fun b hb => ?_) fun out ho eo => ?_
      · obtain ⟨d, e5, e6⟩ := hdd b hb
        have e7 : encP G b = d := by unfold encP; rw [e5]; rfl
        rw [e7]; omega
      · obtain ⟨zs, z1, z2⟩ := each_vals (f := fun v => v) eo
        rw [List.map_id'] at z2
        have hzl : zs.length ≤ sizeLine := by
          rw [← z2.length, List.length_mergeSort]; exact hsz
        obtain ⟨e', he'⟩ := PyProof.Rows.sortedAll_at s.heap its out.toArray
        have hn := I.hok.fresh (Nat.le_succ s.heap.objs.size)
        exact ⟨.ref (s.heap.objs.size + 1), upd H (s.heap.objs.size + 1) (.lst zs), I.laid (t' := s.toks) (fun b u e => PyProof.Rows.sortedAll_old e) (Nat.le_succ _)
          (show ObjOk X.prog X.w _ _ _ (.lst zs) from ⟨hzl, _, e', z1, he'⟩), rfl, hq _ _ _ _ (.new hn) (rg.newL hn z2) (RV.refI _) (hw _ (rg.fresh hn))⟩
    · exact hw.elim
  · exact hw.elim
end
end Cl
set_option Elab.async false
set_option linter.all false
set_option maxRecDepth 100000
set_option maxHeartbeats 4000000
/-! The clean layer, part N: a dict's keys walked (locked), dict comprehensions, max with a default. -/
namespace Cl
open PySem PySem.Spec PyProof.Rows L2 SkE
/-! ### [.. for k in d], d with tuple keys -/
def ItkX (Z : Ky) (d : Addr) (o : Obj) (xs : List (NestedKey × Addr × Value)) : It :=
  ⟨fun i H => H d = some (.frz o (dX Z d xs)) ∧ i < xs.length, fun i H x H' => H' = H ∧ ∃ (k : NestedKey) (q : Addr) (u : Value), xs[i]? = some (k, q, u) ∧ x = .ref q, fun i H => H d = some (.frz o (dX Z d xs)) ∧ xs.length ≤ i⟩
theorem frzX {X : Cx} {pins : List (Addr × Obj)} {σ : L2.St} {H : Hp} {s : Shared} {d : Addr} {o : Obj} {xs : List (NestedKey × Addr × Value)} (I : Inv X pins σ H s) (h : H d = some (.frz o (dX X.ky d xs))) :
    (d == sysModules) = false ∧ s.heap.get? d = some o ∧ o.ExactDict ∧ ∃ (es : Array DictEntry) (ep : Nat), o.data = .dict es ep ∧ es.size = xs.length ∧ es.toList = xs.map (entryOfKey (nestedKind X.prog X.w)) := by
  obtain ⟨hd, ⟨hs, o', es, ep, ho, hx, hdt, he, _⟩, _⟩ := I.hok d _ h
  rw [hd] at ho
  cases ho
  exact ⟨hs, hd, hx, es, ep, hdt, size_of_entries he, he⟩
theorem turn_keysX {P : Program} {w : World} {K : Frag} {tg : Expr} {d : Addr} {o : Obj} {es : Array DictEntry} {ep : Nat} {xs : List (NestedKey × Addr × Value)} (it : Addr) (hod : o.data = .dict es ep) :
    Turn P w K tg (ItkX ⟨P, w, K⟩ d o xs) [it] it (fun i h => h.IsKeyIter it d i xs.length ep) where
  mem := by simp
  obj := fun i h st b hb => by
    have e : b = it := by simpa using hb
    subst e
    obtain ⟨oi, e, c, dd⟩ := st
    exact ⟨oi, e, fun v z => by rw [dd] at z; cases z⟩
  keep := fun i h h' st k => st.at fun oi e => k it (by simp) oi e
  item := by
    intro X hP hw hK hc i pins s σ H E I hf st hg
    subst hP hw hK
    obtain ⟨hd, hi⟩ := hg
    obtain ⟨f0, f1, f2, f3, f4, f5⟩ := hf it (by simp)
    obtain ⟨hs, hgd, hx, es', ep', hdt, hsz, ent⟩ := frzX I hd
    obtain ⟨rfl, rfl⟩ := dict_ep hod hdt
    obtain ⟨⟨k, q, u⟩, hkv⟩ : ∃ p, xs[i]? = some p := ⟨xs[i], List.getElem?_eq_getElem hi⟩
    have hen : es'[i]? = some (entryOfKey (nestedKind X.prog X.w) (k, q, u)) := by
      rw [← Array.getElem?_toList, ent, List.getElem?_map, hkv]; rfl
    refine next_key_item st hgd hdt hsz hen fun h' st' sb => ?_
    have I1 : Inv X pins σ H { s with heap := h' } := I.turned (t' := s.toks) (fun b ob hb e => (sb.2 b hb).trans e) f0 f1 f3 f4 f5
    obtain ⟨oi, e, c, dd⟩ := id st'
    exact ⟨_, rfl, go_of (s := { s with heap := h' }) e c dd (by decide) ⟨.ref q, H, I1, rfl, ⟨rfl, k, q, u, hkv, rfl⟩, st', fun b hb => (hf b hb).1⟩⟩
  done := by
    intro X hP hw hK hc i pins s σ H E I hf st hg
    subst hP hw hK
    obtain ⟨hd, hi⟩ := hg
    obtain ⟨f0, f1, f2, f3, f4, f5⟩ := hf it (by simp)
    obtain ⟨hs, hgd, hx, es', ep', hdt, hsz, ent⟩ := frzX I hd
    obtain ⟨rfl, rfl⟩ := dict_ep hod hdt
    exact next_key_end (I.ok.hd hc) st hgd hdt hsz hi fun h' eb => ⟨rfl, I.turned (t' := s.toks) (fun b ob hb e => eb b ob hb e) f0 f1 f3 f4 f5⟩
  self := fun A i s Q E st h => by
    refine wpAny_pyIter_slot st.typeIs F.slot_dict_keyiterator_iter (wpAny_call_entry F.slot_dict_keyiterator_iter st.typeIs F.entry_dict_keyiterator_iter ?_ (F.args_dict_keyiterator_iter_1 _))
    show wpAny _ _ (ret (.ref it)) _ _ s
    exact wpAny_pure ⟨_, rfl, "dict_keyiterator", _, st.typeIs, F.slot_dict_keyiterator_next.lookup, h⟩
theorem relV_inj {x y : V} {u : Value} (h : RelV x u) (h2 : RelV y u) : x = y := by
  cases x <;> cases y <;> simp only [L2.RelV] at h h2 <;> first | (obtain ⟨t, rfl⟩ := h; obtain ⟨t2, h2⟩ := h2; cases h2 <;> rfl) | (subst h; cases h2 <;> rfl) | (subst h; obtain ⟨t2, h2⟩ := h2; cases h2) | (obtain ⟨t, rfl⟩ := h; cases h2)
/-! ### [.. for k, v in d.items()], d with tuple keys -/
def ItiX (Z : Ky) (d : Addr) (o : Obj) (xs : List (NestedKey × Addr × Value)) : It :=
  ⟨fun i H => H d = some (.frz o (dX Z d xs)) ∧ i < xs.length ∧ ∀ k q u, xs[i]? = some (k, q, u) → ∃ z, RelV z u, fun i H x H' => ∃ (k : NestedKey) (q : Addr) (u : Value) (z : V) (p : Addr), xs[i]? = some (k, q, u) ∧ RelV z u ∧ x = .ref p ∧ H p = none ∧ H' = upd H p (.tup [.ref q, z]), fun i H => H d = some (.frz o (dX Z d xs)) ∧ xs.length ≤ i⟩
theorem turn_itemsX {P : Program} {w : World} {K : Frag} {elts : List Expr} {kk : Nat} {tpos : Pos} {d : Addr} {o : Obj} {es : Array DictEntry} {ep : Nat} {xs : List (NestedKey × Addr × Value)} (it : Addr) (hod : o.data = .dict es ep) :
    Turn P w K (.Tuple elts kk tpos) (ItiX ⟨P, w, K⟩ d o xs) [it] it (fun i h => ∃ ok ov, IsItemIter h it d i xs.length ep ok ov) where
  mem := by simp
  obj := fun i h st b hb => by
    have e : b = it := by simpa using hb
    subst e
    obtain ⟨ok, ov, e⟩ := st
    exact ⟨_, e, fun v z => nomatch z⟩
  keep := fun i h h' st k => let ⟨ok, ov, e⟩ := st; ⟨ok, ov, k it (by simp) _ e⟩
  item := by
    intro X hP hw hK hc i pins s σ H E I hf st hg
    subst hP hw hK
    obtain ⟨hd, hi, hz⟩ := hg
    obtain ⟨hs, hgd, hx, es', ep', hdt, hsz, ent⟩ := frzX I hd
    obtain ⟨rfl, rfl⟩ := dict_ep hod hdt
    obtain ⟨⟨k, q, u⟩, hkv⟩ : ∃ p, xs[i]? = some p := ⟨xs[i], List.getElem?_eq_getElem hi⟩
    obtain ⟨z, rz⟩ := hz k q u hkv
    have hi' : i < es'.size := by rw [hsz]; exact hi
    have hen : es'[i]? = some (entryOfKey (nestedKind X.prog X.w) (k, q, u)) := by
      rw [← Array.getElem?_toList, ent, List.getElem?_map, hkv]; rfl
    have hen' : es'[i] = entryOfKey (nestedKind X.prog X.w) (k, q, u) := by
      rw [Array.getElem?_eq_getElem hi'] at hen; exact Option.some.inj hen
    obtain ⟨ok, ov, he⟩ := st
    rw [← hsz] at he
    have hlt : it < s.heap.objs.size := Heap.lt_size he
    have raw : s.heap.DictRaw d es' ep' := ⟨o, hgd, hx, hdt⟩
    refine wpAny_pyNext_items_item_raw he raw hi' fun h' ho hT hz hk => ?_
    rw [hen'] at ho hT
    refine ⟨_, rfl, wpAny_letOwnedTupleGo_items (s := { s with heap := h' }) ho fun h'' he' sb => ?_⟩
    have hT2 : h''.get? s.heap.objs.size = some { cls := .type "tuple", data := .seq #[.ref q, u] } := (sb.2 _ (Nat.ne_of_gt hlt)).trans hT
    have new : ObjOk X.prog X.w (upd H s.heap.objs.size (.tup [.ref q, z])) h'' s.heap.objs.size (.tup [.ref q, z]) :=
      ⟨by show 2 ≤ sizeLine; decide, [.ref q, u], .cons rfl (.cons rz .nil), ⟨_, hT2, rfl, _, rfl⟩⟩
    have I1 : Inv X pins σ (upd H s.heap.objs.size (.tup [.ref q, z])) { s with heap := h'' } :=
      I.turnedNew (t' := s.toks) (ch := [it]) (fun b ob hb e => (sb.2 b (by simpa using hb)).trans (hk b ob (by simpa using hb) e)) hf (Nat.le_refl _) new
    refine ⟨.ref s.heap.objs.size, _, I1, rfl, ⟨k, q, u, z, _, hkv, rz, rfl, I.hok.fresh (Nat.le_refl _), rfl⟩, ⟨.ref q, u, ?_⟩, fun b hb => ?_⟩
    · rw [← hsz]; exact he'
    · have e : b = it := by simpa using hb
      rw [e, upd_ne (Nat.ne_of_lt hlt)]
      exact (hf it (by simp)).1
  done := by
    intro X hP hw hK hc i pins s σ H E I hf st hg
    subst hP hw hK
    obtain ⟨hd, hi⟩ := hg
    obtain ⟨f0, f1, f2, f3, f4, f5⟩ := hf it (by simp)
    obtain ⟨hs, hgd, hx, es', ep', hdt, hsz, ent⟩ := frzX I hd
    obtain ⟨rfl, rfl⟩ := dict_ep hod hdt
    obtain ⟨ok, ov, he⟩ := st
    rw [← hsz] at he
    exact wpAny_pyNext_items_end_raw (I.ok.hd hc) he ⟨o, hgd, hx, hdt⟩ (by rw [hsz]; exact hi) fun h' eb => ⟨rfl, I.turned (t' := s.toks) (fun b ob hb e => eb b ob hb e) f0 f1 f3 f4 f5⟩
  self := fun A i s Q E st h => let ⟨_, _, e⟩ := st; PySem.W.kcp_self e h
/-- how a dict is walked -/
inductive DW where
  | keys | items
  deriving DecidableEq
def DW.of : DW → List (NestedKey × PV) → List PV
  | .keys, kvs => kvs.map fun p => kpv p.1
  | .items, kvs => kvs.map fun p => .tup [kpv p.1, p.2]
def DW.it (Z : Ky) : DW → Addr → Obj → List (NestedKey × Addr × Value) → It
  | .keys => ItkX Z
  | .items => ItiX Z
def iDX (Z : Ky) (w : DW) (td : TE) : TI := fun σ H R => td σ H fun x H1 => ∃ d o xs, x = .ref d ∧ H1 d = some (.frz o (dX Z d xs)) ∧ R (w.it Z d o xs) H1
section
variable {X : Cx} {tg e elt iter : Expr} {td : TE} {pos : Pos} {g : WG} {wa wb wc : WE} {wi : WI}
theorem pi_keysX (he : PE X e td) : PI X tg e (iDX X.ky .keys td) := by
  refine ⟨fun pins s σ H R I h => ?_⟩
  refine thn (he.run pins s σ H _ I h) fun u s1 ⟨x, H1, I1, rx, d, o, xs, ex, hd, q⟩ => ?_
  subst ex
  obtain rfl : u = Value.ref d := rx
  obtain ⟨hs, hgd, hx, es, ep, hdt, hsz, ent⟩ := frzX I1 hd
  refine iter_keys hs hgd hx hdt (pi_one (tk := s1.toks) I1 _ (turn_keysX _ hdt) ⟨_, Heap.get?_push_size _ rfl, rfl, ?_⟩ q)
  rw [hsz] <;> rfl
theorem pi_itemsX {elts : List Expr} {kk : Nat} {tpos apos cpos : Pos} (he : PE X e td) (hbase : attributeBase e "items" X.env (eval e X.env) = eval e X.env) (hline : (apos.endLine == cpos.line) = true) :
    PI X (.Tuple elts kk tpos) (.Call (.Attribute e "items" apos) [] [] cpos) (iDX X.ky .items td) := by
  refine ⟨fun pins s σ H R I h => ?_⟩
  refine wpAny_Call_method (T := "dict") (id := "dict.items") hbase rfl hline PySem.F.plainAttrs_dict PySem.F.slot_dict_items PySem.F.type_dict_items (thn (he.run pins s σ H _ I h) fun u s1 ⟨x, H1, I1, rx, d, o, xs, ex, hd, q⟩ => ?_)
  subst ex
  obtain rfl : u = Value.ref d := rx
  obtain ⟨hs, hgd, hx, es, ep, hdt, hsz, ent⟩ := frzX I1 hd
  have raw : s1.heap.DictRaw d es ep := ⟨o, hgd, hx, hdt⟩
  refine ⟨raw.typeIs, fun b e => by cases e; exact ⟨o, hgd, hx.2.1⟩, ?_⟩
  have I2 : Inv X pins σ H1 { s1 with heap := s1.heap.push { cls := .type "dict_items", data := .fields #[.ref d] } } := I1.kept (t' := s1.toks) fun b ob q => Heap.get?_push_of_some _ q
  have fin : wpAny (model X.prog X.w) X.A (pyIter (.ref s1.heap.objs.size)) (PIE X pins σ (.Tuple elts kk tpos) R) X.xe { s1 with heap := s1.heap.push { cls := .type "dict_items", data := .fields #[.ref d] } } := by
    refine wpAny_pyIter_items_raw (d := d) ⟨_, Heap.get?_push_size _ rfl, rfl, rfl⟩ ⟨o, Heap.get?_push_of_some _ hgd, hx, hdt⟩ (pi_one (tk := s1.toks) I2 _ (turn_itemsX _ hdt) ⟨.none, .none, ?_⟩ q)
    rw [← hsz]
    exact Heap.get?_push_size _ rfl
  show wpAny _ _ (callWith cpos (.builtin "dict.items") [.ref d] [] []) _ X.xe s1
  exact method_meetsIn PySem.F.slot_dict_items PySem.F.entry_dict_items rfl (PySem.evalArgs_none ⟨rfl, raw.typeIs, PySem.F.args_dict_items_1 _, _, meets_dict_items_raw d hs, ⟨es, ep, raw⟩, fin⟩)
theorem RX.val {K : Frag} {H : Hp} : ∀ {kvs : List (NestedKey × PV)} {xs : List (NestedKey × Addr × Value)} {i : Nat} {p : NestedKey × PV}, RX K H kvs xs → kvs[i]? = some p → ∃ q u x, xs[i]? = some (p.1, q, u) ∧ NKV K H p.1 (.ref q) ∧ RelV x u ∧ RV K H p.2 x
  | [], xs, i, p, r, h => by simp at h
  | p :: ps, xs, i, p', r, h => by
    rw [RX] at r
    obtain ⟨q, u, x, r', rfl, n, l, a, b⟩ := r
    cases i with
    | zero => simp at h; subst h; exact ⟨q, u, x, rfl, n, l, a⟩
    | succ i => simp at h; obtain ⟨q', u', x', h1, h2⟩ := RX.val b h; exact ⟨q', u', x', by simpa using h1, h2⟩
theorem ItOk.itemsX {Z : Ky} {d : Addr} {o : Obj} {xs : List (NestedKey × Addr × Value)} {kvs : List (NestedKey × PV)} (hl : kvs.length = xs.length) :
    ItOk Z (ItiX Z d o xs) (fun H => H d = some (.frz o (dX Z d xs)) ∧ RX Z.K H kvs xs) (kvs.map fun p => .tup [kpv p.1, p.2]) where
  go := fun i H hi ⟨h1, h2⟩ => ⟨h1, by rw [List.length_map] at hi; omega, fun k q u e => by
    have hi' : i < kvs.length := by simpa using hi
    obtain ⟨q', u', x, e2, _, l, _⟩ := h2.val (List.getElem?_eq_getElem hi')
    rw [e] at e2
    cases e2
    exact ⟨x, l⟩⟩
  stop := fun H ⟨h1, h2⟩ => ⟨h1, by rw [List.length_map]; omega⟩
  yld := fun i H x H' hi ⟨h1, h2⟩ y => by
    obtain ⟨k, q, u, z, p, e1, rz, rfl, hp, rfl⟩ := y
    have hi' : i < kvs.length := by simpa using hi
    obtain ⟨q', u', x', e2, n, l, a⟩ := h2.val (List.getElem?_eq_getElem hi')
    rw [e1] at e2
    cases e2
    obtain rfl := relV_inj rz l
    have t : TupLe Z.K H (upd H p (.tup [.ref q, z])) := .new hp
    refine ⟨.tup [kpv kvs[i].1, kvs[i].2], by rw [List.getElem?_map, List.getElem?_eq_getElem hi']; rfl, RV.tup_of (.of upd_same) ?_, t, fun G r => r.skip hp⟩
    exact .cons (kpv_ok _ _ (NKV.mono t _ _ n)) (.one (RV.mono t _ _ a))
theorem ItOk.keysX {Z : Ky} {d : Addr} {o : Obj} {xs : List (NestedKey × Addr × Value)} {kvs : List (NestedKey × PV)} (hl : kvs.length = xs.length) :
    ItOk Z (ItkX Z d o xs) (fun H => H d = some (.frz o (dX Z d xs)) ∧ RX Z.K H kvs xs) (kvs.map fun p => kpv p.1) where
  go := fun i H hi ⟨h1, h2⟩ => ⟨h1, by rw [List.length_map] at hi; omega⟩
  stop := fun H ⟨h1, h2⟩ => ⟨h1, by rw [List.length_map]; omega⟩
  yld := fun i H x H' hi ⟨h1, h2⟩ y => by
    obtain ⟨rfl, k, q, u, e1, rfl⟩ := y
    have hi' : i < kvs.length := by simpa using hi
    obtain ⟨q', u', e2, n⟩ := h2.get (List.getElem?_eq_getElem hi')
    rw [e1] at e2
    cases e2
    exact ⟨kpv kvs[i].1, by rw [List.getElem?_map, List.getElem?_eq_getElem hi']; rfl, kpv_ok _ _ n, .refl, fun _ r => r⟩
theorem ItOk.DX {Z : Ky} {w : DW} {d : Addr} {o : Obj} {xs : List (NestedKey × Addr × Value)} {kvs : List (NestedKey × PV)} (hl : kvs.length = xs.length) :
    ItOk Z (w.it Z d o xs) (fun H => H d = some (.frz o (dX Z d xs)) ∧ RX Z.K H kvs xs) (w.of kvs) := by
  cases w with
  | keys => exact ItOk.keysX hl
  | items => exact ItOk.itemsX hl
/-- over the dict at slot i, that the block may read -/
def wLcD (w : DW) (i : Nat) (g : WG) (wt : WT) (we : WE) (own : List Nat) : WE := fun ρ G Q => match ρ[i]? with
  | some (some (.ref d)) => (match G d with
    | some (.dT kvs) => ∀ D, G D = none → lcL [] g wt we (wipeR ρ own) D (fun G2 => Q (.ref D) (pup G2 d (.dT kvs))) (w.of kvs) (pup (pup G d (.fT kvs)) D (.lst []))
    | _ => False)
  | _ => False
/-- .. its items only -/
def wLcDQ (w : DW) (i : Nat) (g : WG) (wt : WT) (we : WE) (own : List Nat) : WL := fun ρ G Q => match ρ[i]? with
  | some (some (.ref d)) => (match G d with
    | some (.dT kvs) => ∀ D, G D = none → lcL [] g wt we (wipeR ρ own) D (fun G2 => match (pup G2 d (.dT kvs)) D with | some (.lst acc) => Q acc (pdel (pup G2 d (.dT kvs)) D) | _ => False) (w.of kvs) (pup (pup G d (.fT kvs)) D (.lst []))
    | _ => False)
  | _ => False
theorem tLcD_ok {w : DW} {i : Nat} {own : List Nat} {wt : WT} {we : WE} {σ : L2.St} {H : Hp} {Q : VK} (h : tW X.ky (wLcD w i g wt we own) σ H Q) : tLockE (tLc (iDX X.ky w (tVar i)) (tWGo own X.ky g) (tWTs X.ky wt) (tW X.ky we) own) σ H Q := by
  obtain ⟨ρ, G, QP, rs, rg, hw, hq⟩ := h
  unfold wLcD at hw
  split at hw
  · rename_i d hv
    obtain ⟨x, hx, rv⟩ := rs.get _ _ hv
    rw [RV] at rv; subst rv
    split at hw
    · rename_i kvs ga
      obtain ⟨xs, h1, h2, h3⟩ := rg _ _ ga
      refine ⟨d, _, h1, trivial, fun od => ?_⟩
      have t1 : TupLe X.K H (upd H d (.frz od (dX X.ky d xs))) := .chg h1 (fun _ z => nomatch z) (fun _ _ z => nomatch z)
      have rg1 : RG X.ky (pup G d (.fT kvs)) (upd H d (.frz od (dX X.ky d xs))) := rg.chg (u := .fT kvs) h1 (fun _ z => nomatch z) (fun _ _ z => nomatch z) ⟨od, xs, upd_same, h2, h3.mono t1⟩
      refine ⟨.ref d, hx, d, od, xs, rfl, upd_same, fun D hD => ?_⟩
      have hDd : D ≠ d := fun z => by subst z; rw [upd_same] at hD; cases hD
      have hD' : G D = none := rg.fresh (by rw [upd_ne hDd] at hD; exact hD)
      refine lc_W (X := X) (J := w.it X.ky d od xs) (Gd := fun H => H d = some (.frz od (dX X.ky d xs)) ∧ RX X.K H kvs xs) (ws := []) (Q := fun v H' => H' d = some (.frz od (dX X.ky d xs)) ∧ Q v (upd H' d (dX X.ky d xs))) (QP := fun v G2 => QP v (pup G2 d (.dT kvs))) (ItOk.DX (Z := X.ky) (kvs := kvs) h3.length) (fun G2 H2 t _ _ => ⟨t.frx _ _ _ upd_same, (h3.mono t1).mono t⟩) (rs.mono t1) rg1 (fun v G' x H' t2 rg2 rv2 q => ?_) hD (hw D hD')
      refine ⟨t2.frx _ _ _ upd_same, ?_⟩
      have hf : H' d = some (.frz od (dX X.ky d xs)) := t2.frx _ _ _ upd_same
      have nd : ∀ {b : Addr} {o : HO}, H' b = some o → (∀ P, o ≠ .frz od (.ext P)) → b ≠ d := fun {b o} e hn z => by
        subst z; rw [hf] at e
        have e := Option.some.inj e
        exact hn _ e.symm
      have t3 : TupLe X.K H (upd H' d (dX X.ky d xs)) := by
        have keep : ∀ (b : Addr) (o : HO), H b = some o → b ≠ d → (H' b = some o) → upd H' d (dX X.ky d xs) b = some o := fun b o _ hb e => by rw [upd_ne hb]; exact e
        have tt := t1.trans t2
        refine ⟨fun b ys e => ?_, fun b o ys e => ?_, fun b o ys e => ?_, fun b o P e => ?_⟩
        · exact keep b _ e (fun z => by subst z; rw [h1] at e; cases e) (tt.tup _ _ e)
        · exact keep b _ e (fun z => by subst z; rw [h1] at e; cases e) (tt.frt _ _ _ e)
        · exact keep b _ e (fun z => by subst z; rw [h1] at e; cases e) (tt.frl _ _ _ e)
        · exact keep b _ e (fun z => by subst z; rw [h1] at e; cases e) (tt.frx _ _ _ e)
      have t4' : ∀ b o, H' b = some o → b ≠ d → upd H' d (dX X.ky d xs) b = some o := fun b o e hb => by rw [upd_ne hb]; exact e
      have mono1 : ∀ (v : PV) (x : V), RV X.K H' v x → RV X.K (upd H' d (dX X.ky d xs)) v x := fun v x => RVm nd t4' v x
      have monos : ∀ (v : List PV) (x : List V), RVs X.K H' v x → RVs X.K (upd H' d (dX X.ky d xs)) v x := fun v x => RVsm nd t4' v x
      have rg3 : RG X.ky (pup G' d (.dT kvs)) (upd H' d (dX X.ky d xs)) := fun b o e => by
        by_cases hb : b = d
        · subst hb
          rw [pup_same] at e; cases e
          exact ⟨xs, upd_same, h2, h3.mono t3⟩
        · rw [pup_ne hb] at e
          have ro := rg2 b o e
          have e2 := upd_ne (H := H') (o := dX X.ky d xs) hb
          cases o with
          | lst vs => obtain ⟨ys, k1, k2⟩ := ro; exact ⟨ys, e2.trans k1, monos _ _ k2⟩
          | dT vs => obtain ⟨ys, k1, k2, k3⟩ := ro; exact ⟨ys, e2.trans k1, k2, RXm nd t4' k3⟩
          | dK vs => obtain ⟨ys, k1, k2⟩ := ro; exact ⟨ys, e2.trans k1, RKm nd t4' k2⟩
          | ins C vs => obtain ⟨dx, ys, k1, k2⟩ := ro; exact ⟨dx, ys, e2.trans k1, RKm nd t4' k2⟩
          | fT vs => obtain ⟨ox, ys, k1, k2, k3⟩ := ro; exact ⟨ox, ys, e2.trans k1, k2, RXm nd t4' k3⟩
      exact hq _ _ _ _ t3 rg3 (mono1 _ _ rv2) q
    · exact hw.elim
  · exact hw.elim
where
  sqm {K : Frag} {H' H'' : Hp} {d : Addr} {od : Obj} (nd : ∀ {b : Addr} {o : HO}, H' b = some o → (∀ P, o ≠ .frz od (.ext P)) → b ≠ d) (t : ∀ b o, H' b = some o → b ≠ d → H'' b = some o) {a : Addr} {xs : List V} (h : SqT K H' a xs) : SqT K H'' a xs := by
    rcases h with (h | ⟨o, h⟩) | h
    · exact .inl (.inl (t _ _ h (nd h fun P z => nomatch z)))
    · exact .inl (.inr ⟨o, t _ _ h (nd h fun P z => by cases z)⟩)
    · exact .inr h
  imm {K : Frag} {H' H'' : Hp} {d : Addr} {od : Obj} (nd : ∀ {b : Addr} {o : HO}, H' b = some o → (∀ P, o ≠ .frz od (.ext P)) → b ≠ d) (t : ∀ b o, H' b = some o → b ≠ d → H'' b = some o) {a : Addr} {xs : List V} (h : ImL K H' a xs) : ImL K H'' a xs := by
    rcases h with ⟨o, h⟩ | h
    · exact .inl ⟨o, t _ _ h (nd h fun P z => by cases z)⟩
    · exact .inr h
  RVm {K : Frag} {H' H'' : Hp} {d : Addr} {od : Obj} (nd : ∀ {b : Addr} {o : HO}, H' b = some o → (∀ P, o ≠ .frz od (.ext P)) → b ≠ d) (t : ∀ b o, H' b = some o → b ≠ d → H'' b = some o) : ∀ (v : PV) (x : V), RV K H' v x → RV K H'' v x
    | .non, _, h => h
    | .bl _, _, h => h
    | .int _, _, h => h
    | .str _, _, h => h
    | .ref _, _, h => h
    | .tup vs, x, h => by
      rw [RV] at h ⊢
      obtain ⟨a, xs, e, s, r⟩ := h
      exact ⟨a, xs, e, sqm nd t s, RVsm nd t vs xs r⟩
    | .rl vs, x, h => by
      rw [RV] at h ⊢
      obtain ⟨a, xs, e, s, r⟩ := h
      exact ⟨a, xs, e, imm nd t s, RVsm nd t vs xs r⟩
  RVsm {K : Frag} {H' H'' : Hp} {d : Addr} {od : Obj} (nd : ∀ {b : Addr} {o : HO}, H' b = some o → (∀ P, o ≠ .frz od (.ext P)) → b ≠ d) (t : ∀ b o, H' b = some o → b ≠ d → H'' b = some o) : ∀ (vs : List PV) (xs : List V), RVs K H' vs xs → RVs K H'' vs xs
    | [], _, h => h
    | v :: vs, xs, h => by
      rw [RVs] at h ⊢
      obtain ⟨x, r, e, a, b⟩ := h
      exact ⟨x, r, e, RVm nd t v x a, RVsm nd t vs r b⟩
  NKVm {K : Frag} {H' H'' : Hp} {d : Addr} {od : Obj} (nd : ∀ {b : Addr} {o : HO}, H' b = some o → (∀ P, o ≠ .frz od (.ext P)) → b ≠ d) (t : ∀ b o, H' b = some o → b ≠ d → H'' b = some o) : ∀ (k : NestedKey) (x : V), NKV K H' k x → NKV K H'' k x
    | .none, _, h => h
    | .num _, _, h => h
    | .text _, _, h => h
    | .tup ks, x, h => by
      rw [NKV] at h ⊢
      obtain ⟨a, xs, e, s, r⟩ := h
      exact ⟨a, xs, e, sqm nd t s, NKVsm nd t ks xs r⟩
  NKVsm {K : Frag} {H' H'' : Hp} {d : Addr} {od : Obj} (nd : ∀ {b : Addr} {o : HO}, H' b = some o → (∀ P, o ≠ .frz od (.ext P)) → b ≠ d) (t : ∀ b o, H' b = some o → b ≠ d → H'' b = some o) : ∀ (ks : List NestedKey) (xs : List V), NKVs K H' ks xs → NKVs K H'' ks xs
    | [], _, h => h
    | k :: ks, xs, h => by
      rw [NKVs] at h ⊢
      obtain ⟨x, r, e, a, b⟩ := h
      exact ⟨x, r, e, NKVm nd t k x a, NKVsm nd t ks r b⟩
  RKm {κ : Type} {K : Frag} {H' H'' : Hp} {d : Addr} {od : Obj} (nd : ∀ {b : Addr} {o : HO}, H' b = some o → (∀ P, o ≠ .frz od (.ext P)) → b ≠ d) (t : ∀ b o, H' b = some o → b ≠ d → H'' b = some o) : ∀ {ps : List (κ × PV)} {xs : List (κ × V)}, RK K H' ps xs → RK K H'' ps xs
    | [], _, h => h
    | p :: ps, xs, h => by
      obtain ⟨x, r, e, a, b⟩ := h
      exact ⟨x, r, e, RVm nd t _ _ a, RKm nd t b⟩
  RXm {K : Frag} {H' H'' : Hp} {d : Addr} {od : Obj} (nd : ∀ {b : Addr} {o : HO}, H' b = some o → (∀ P, o ≠ .frz od (.ext P)) → b ≠ d) (t : ∀ b o, H' b = some o → b ≠ d → H'' b = some o) : ∀ {ps : List (NestedKey × PV)} {xs : List (NestedKey × Addr × Value)}, RX K H' ps xs → RX K H'' ps xs
    | [], _, h => h
    | p :: ps, xs, h => by
      obtain ⟨q, u, x, r, e, n, l, a, b⟩ := h
      exact ⟨q, u, x, r, e, NKVm nd t _ _ n, l, RVm nd t _ _ a, RXm nd t b⟩
theorem se_lcD {w : DW} {i : Nat} {ifs : List Expr} {scope : Scope} {own : List (Str × Nat)} {wt : WT} {we : WE} (hc : X.calm = true) (hN : X.N.Nodup) (hi : PI X tg iter (iDX X.ky w (tVar i))) (ok : BlkOk X.N X.env.scope scope own)
    (hg : ∀ (s : Shared) (H : Hp) (C : Addr) (cl : List (Str × Addr)) (fp : List Addr), SGo (X.blk s H scope (compEnvC scope cl C X.env) fp) (own.map (·.2)) tg g)
    (ht : ∀ (s : Shared) (H : Hp) (C : Addr) (cl : List (Str × Addr)) (fp : List Addr), STs (X.blk s H scope (compEnvC scope cl C X.env) fp) ifs wt)
    (he : ∀ (s : Shared) (H : Hp) (C : Addr) (cl : List (Str × Addr)) (fp : List Addr), SE (X.blk s H scope (compEnvC scope cl C X.env) fp) elt we) (hs : ∀ x, foldedSetIterable iter X.env x = pure x) :
    SE X (.ListComp elt [⟨tg, iter, ifs, 0⟩] scope pos) (wLcD w i g wt we (own.map (·.2))) :=
  PE.weak (pe_lock (pe_lc hc hN hi ok hg ht he hs)) fun _ _ _ h => tLcD_ok h
/-- name = [..] on one line -/
theorem ss_setLcD {w : DW} {i j : Nat} {y : Str} {py : Pos} {ifs : List Expr} {scope : Scope} {own : List (Str × Nat)} {spos : Pos} {wt : WT} {we : WE} (hc : X.calm = true) (hN : X.N.Nodup) (hy : X.N[j]? = some y) (hyl : X.env.scope.names.lookup y = some .local)
    (hsw : swapsWith (.ListComp elt [⟨tg, iter, ifs, 0⟩] scope pos) (some (.Name y py)) spos.line X.env = pure true) (hi : PI X tg iter (iDX X.ky w (tVar i))) (ok : BlkOk X.N X.env.scope scope own)
    (hg : ∀ (s : Shared) (H : Hp) (C : Addr) (cl : List (Str × Addr)) (fp : List Addr), SGo (X.blk s H scope (compEnvC scope cl C X.env) fp) (own.map (·.2)) tg g)
    (ht : ∀ (s : Shared) (H : Hp) (C : Addr) (cl : List (Str × Addr)) (fp : List Addr), STs (X.blk s H scope (compEnvC scope cl C X.env) fp) ifs wt)
    (he : ∀ (s : Shared) (H : Hp) (C : Addr) (cl : List (Str × Addr)) (fp : List Addr), SE (X.blk s H scope (compEnvC scope cl C X.env) fp) elt we) (hs : ∀ x, foldedSetIterable iter X.env x = pure x) :
    SS1 X (.Assign [.Name y py] (.ListComp elt [⟨tg, iter, ifs, 0⟩] scope pos) spos) (sAsg (wLcD w i g wt we (own.map (·.2))) (gN j)) :=
  PS.weak (ps_lock (ps_setLc hc hN hy hyl hsw hi ok hg ht he hs)) fun D σ H q => by
  obtain ⟨ρ, G, P, rs, rg, hw, e⟩ := q
  exact tLcD_ok (Q := fun x H1 => D.nx (σ.set j (some x)) H1) ⟨ρ, G, _, rs, rg, hw, fun v G1 x H1 t1 rg1 rv1 hw1 => e.nx _ _ _ _ t1 rg1 ((rs.mono t1).set j rv1) hw1⟩
theorem sq_lcD {w : DW} {i : Nat} {ifs : List Expr} {scope : Scope} {own : List (Str × Nat)} {wt : WT} {we : WE} (hc : X.calm = true) (hN : X.N.Nodup) (hi : PI X tg iter (iDX X.ky w (tVar i))) (ok : BlkOk X.N X.env.scope scope own)
    (hg : ∀ (s : Shared) (H : Hp) (C : Addr) (cl : List (Str × Addr)) (fp : List Addr), SGo (X.blk s H scope (compEnvC scope cl C X.env) fp) (own.map (·.2)) tg g)
    (ht : ∀ (s : Shared) (H : Hp) (C : Addr) (cl : List (Str × Addr)) (fp : List Addr), STs (X.blk s H scope (compEnvC scope cl C X.env) fp) ifs wt)
    (he : ∀ (s : Shared) (H : Hp) (C : Addr) (cl : List (Str × Addr)) (fp : List Addr), SE (X.blk s H scope (compEnvC scope cl C X.env) fp) elt we) (hs : ∀ x, foldedSetIterable iter X.env x = pure x) :
    SQ X (.ListComp elt [⟨tg, iter, ifs, 0⟩] scope pos) (wLcDQ w i g wt we (own.map (·.2))) :=
  PE.weak (se_lcD hc hN hi ok hg ht he hs) fun σ H Q q => by
  obtain ⟨ρ, G, QP, rs, rg, hw, hq⟩ := q
  refine ⟨ρ, G, fun v G2 => match v with | .ref D => (match G2 D with | some (.lst acc) => QP acc (pdel G2 D) | _ => False) | _ => False, rs, rg, hw, fun v G1 x H1 t1 rg1 rv1 hw1 => ?_⟩
  dsimp only at hw1
  split at hw1
  · rw [RV] at rv1; subst rv1
    split at hw1
    · rename_i acc ga
      obtain ⟨xs, k1, k2⟩ := rg1 _ _ ga
      exact hq _ _ _ _ _ t1 (rg1.del _) (.of k1) k2 hw1
    · exact hw1.elim
  · exact hw1.elim
end
end Cl
set_option Elab.async false
set_option linter.all false
set_option maxRecDepth 100000
set_option maxHeartbeats 4000000
/-! The clean layer, part O: dict comprehensions. -/
namespace Cl
open PySem PySem.Spec PyProof.Rows L2 SkE
/-- d[k] = v of a comprehension -/
def wPut (a : Addr) (k v : PV) (G : PG) (Q : PG → Prop) : Prop :=
  match k with
  | .int i => (match G a with | some (.dK kvs) => kvs.length < sizeLine ∧ Q (pup G a (.dK (dPut kvs (.inl i) v))) | _ => False)
  | .str z => (match G a with | some (.dK kvs) => kvs.length < sizeLine ∧ Q (pup G a (.dK (dPut kvs (.inr z) v))) | _ => False)
  | .tup ks => (match G a, nks ks with | some (.dT kvs), some ks => (NestedKey.tup ks).depth ≤ 8 ∧ kvs.length < sizeLine ∧ Q (pup G a (.dT (dPut kvs (.tup ks) v))) | _, _ => False)
  | _ => False
def rPut (Z : Ky) (D : Addr) (y z : V) (H : Hp) (N : Hp → Prop) : Prop := ∃ pk pv G QP, RV Z.K H pk y ∧ RV Z.K H pv z ∧ RG Z G H ∧ wPut D pk pv G QP ∧ ∀ G' H', TupLe Z.K H H' → RG Z G' H' → QP G' → N H'
def tDcP (Z : Ky) (o0 : Addr → HO) (wi : TI) (g : TG) (tt : TT) (tk tv : TE) (vs : List Nat) : TE := fun σ H Q => wi σ H fun J H1 => ∀ D, H1 D = none → ∃ W : Nat → Nat → Hp → Prop, (∃ m, W 0 m (upd H1 D (o0 D))) ∧ ∀ i m H, W i m H →
  (J.stop i H ∧ Q (.ref D) H) ∨ (J.go i H ∧ ∃ Nx : Hp → Prop, (∀ H', Nx H' → ∃ m', m' < m ∧ W (i + 1) m' H') ∧ ∀ x H', J.yld i H x H' → g x (L2.wipe σ vs) H' fun σ2 H2 => L2.wipe σ2 vs = L2.wipe σ vs ∧ tt σ2 H2 fun b H3 =>
    if b = true then tk σ2 H3 fun y H4 => tv σ2 H4 fun z H5 => rPut Z D y z H5 Nx else Nx H3)
section
variable {X : Cx}
theorem put_ok {pins : List (Addr × Obj)} {s : Shared} {σ : L2.St} {H : Hp} {D : Addr} {y z : V} {u r : Value} {N : Hp → Prop} {E : Value → Shared → Prop} {Q : Unit → Shared → Prop} (hu : X.A.units + 200 < cLine) (I : Inv X pins σ H s) (ry : RelV y u) (rz : RelV z r) (h : rPut X.ky D y z H N)
    (q : ∀ H' s', Inv X pins σ H' s' → N H' → Q () s') : wpAny (model X.prog X.w) X.A (dictSet D u r) Q E s := by
  obtain ⟨pk, pv, G, QP, r1, r2, rg, hw, hq⟩ := h
  have dk : ∀ {kvs : List (Key × PV)} {k : Key}, G D = some (.dK kvs) → y = kV k → kvs.length < sizeLine → QP (pup G D (.dK (dPut kvs k pv))) → wpAny (model X.prog X.w) X.A (dictSet D u r) Q E s := by
    intro kvs k ga rk hl qq
    obtain ⟨xs, h1, h2⟩ := rg _ _ ga
    subst rk
    refine d_dictSet I h1 (by rw [← h2.length]; exact hl) ry rz fun s' I' => q _ s' I' ?_
    have t : TupLe X.K H (upd H D (.dK (putK xs k z))) := .chg h1 (fun _ z => nomatch z) (fun _ _ z => nomatch z)
    exact hq _ _ t (rg.chg (u := .dK (dPut kvs k pv)) h1 (fun _ z => nomatch z) (fun _ _ z => nomatch z) ⟨_, upd_same, (h2.put r2).mono t⟩) qq
  unfold wPut at hw
  split at hw
  · rw [RV] at r1
    split at hw
    · rename_i kvs ga
      exact dk (k := .inl _) ga r1 hw.1 hw.2
    · exact hw.elim
  · rw [RV] at r1
    split at hw
    · rename_i kvs ga
      exact dk (k := .inr _) ga r1 hw.1 hw.2
    · exact hw.elim
  · rename_i ks
    split at hw
    · rename_i kvs ks' ga ek
      obtain ⟨hd, hl, hw⟩ := hw
      obtain ⟨xs, h1, h2, h3⟩ := rg _ _ ga
      obtain ⟨b, ys, rfl, k1, k2⟩ := r1.tup
      cases (show u = Value.ref b from ry)
      have hk : NKV X.K H (.tup ks') (.ref b) := nk_ok (.tup ks) _ _ (RV.tup_of k1 k2) (by rw [nk, ek])
      obtain ⟨hm, d⟩ := dX_of I (.inl h1) h3 h2
      refine wpAny_dictSet_heap (knd := nestedKind X.prog X.w) (hsz := by rw [← h3.length]; omega) (show X.A.units + 8 < cLine by omega) ⟨key_is I _ _ _ hk rfl, hd⟩ d fun h' d' hs => ?_
      have I' : Inv X pins σ (upd H D (dX X.ky D (storedH xs (.tup ks') b r))) { s with heap := h', toks := s.toks + (nestedKind X.prog X.w).draws (.tup ks') } := by
        refine d_write I (by rw [h1]; exact True.intro) hs ?_ (dX_ok hm d')
        obtain ⟨o, _, _, h2, _⟩ := d'
        exact ⟨o, h2⟩
      refine q _ _ I' ?_
      have t : TupLe X.K H (upd H D (dX X.ky D (storedH xs (.tup ks') b r))) := .chg h1 (fun _ z => nomatch z) (fun _ _ z => nomatch z)
      exact hq _ _ t (rg.chg (u := .dT (dPut kvs (.tup ks') pv)) h1 (fun _ z => nomatch z) (fun _ _ z => nomatch z) ⟨_, upd_same, h2.put hd, (h3.put hk rz r2).mono t⟩) hw
    · exact hw.elim
  · exact hw.elim
/-- (the steps follow HandS' own for keys ints or texts) -/
theorem dcp_core {pins : List (Addr × Obj)} {s : Shared} {σ : L2.St} {H : Hp} {Q : VK} {kx vx tg iter : Expr} {ifs : List Expr} {scope : Scope} {own : List (Str × Nat)} {pos pos' : Pos} {wi : TI} {g : TG} {tt : TT} {tk tv : TE} {o0 : Addr → HO} {use : Option (Value → Sem Unit)} {Qf : Value → Shared → Prop}
    (hc : X.calm = true) (hN : X.N.Nodup) (I : Inv X pins σ H s) (hi : PI X tg iter wi) (ok : BlkOk X.N X.env.scope scope own)
    (hg : ∀ (s : Shared) (H : Hp) (C : Addr) (cl : List (Str × Addr)) (fp : List Addr), L2.PG (X.blk s H scope (compEnvC scope cl C X.env) fp) tg g) (ht : ∀ (s : Shared) (H : Hp) (C : Addr) (cl : List (Str × Addr)) (fp : List Addr), PTs (X.blk s H scope (compEnvC scope cl C X.env) fp) ifs tt)
    (hk : ∀ (s : Shared) (H : Hp) (C : Addr) (cl : List (Str × Addr)) (fp : List Addr), PE (X.blk s H scope (compEnvC scope cl C X.env) fp) kx tk)
    (he : ∀ (s : Shared) (H : Hp) (C : Addr) (cl : List (Str × Addr)) (fp : List Addr), PE (X.blk s H scope (compEnvC scope cl C X.env) fp) vx tv) (hs : ∀ x, foldedSetIterable iter X.env x = pure x)
    (h : tDcP X.ky o0 wi g tt tk tv (own.map (·.2)) σ H Q)
    (h0 : ∀ (H : Hp) (h : Heap), sysModules < h.objs.size → ObjOk X.prog X.w H (h.push { cls := .type "dict", data := .dict #[] }) h.objs.size (o0 h.objs.size)) (hu : X.A.units + 200 < cLine)
    (hRR : ∀ D C s' m H', Inv X pins σ H' s' → Q (.ref D) H' → s'.heap.Ns C m → FpOk X pins H' C → compPost (model X.prog X.w) X.A X.xe use Qf (.ref D) C (.ok .next) s') :
    wpAny (model X.prog X.w) X.A (comprehension (.DictComp kx vx [⟨tg, iter, ifs, 0⟩] scope pos) scope X.env pos' newDict false (eval iter X.env) use) Qf X.xe s := by
  have hfree : ∀ y ∈ scope.names, y.2 = .free → ∃ c, X.env.cells.lookup y.1 = some c := fun y hy e => by
    rcases ok.free y hy e with k | k
    · exact I.ok.has _ (.inl k)
    · exact I.ok.has _ (.inr k)
  refine wpAny_comprehension_free (use := use) rfl hs (closure_ok hfree) ok.kind (fun y hy e => by rw [ok.uniq y hy, e])
    (thn (hi.run pins s σ H _ I h) fun xv s1 hx => thn hx fun itv s2 h2 => ?_)
  obtain ⟨it, fp, tn, J, H2, e, I2, T, st2, f2, q⟩ := h2
  subst e
  refine wpAny_newObj_type (newEnv_comp ?_)
  generalize hD : s2.heap.objs.size = D
  have hDn : H2 D = none := I2.hok.fresh (Nat.le_of_eq hD)
  obtain ⟨W, ⟨m0, w0⟩, turn⟩ := q D hDn
  -- the new list
  generalize hs3 : ({ s2 with heap := s2.heap.push { cls := .type "dict", data := .dict #[] } } : Shared) = s3
  have I3 : Inv X pins σ (upd H2 D (o0 D)) s3 := by
    rw [← hs3]
    refine I2.laid (t' := s2.toks) (fun b o e => Heap.get?_push_of_some _ e) (Nat.le_of_eq hD) ?_
    rw [← hD]
    exact h0 _ s2.heap I2.big
  have h3 : s3.heap = s2.heap.push { cls := .type "dict", data := .dict #[] } := by rw [← hs3]
  have sz : ∀ b ∈ fp, b < s2.heap.objs.size := fun b hb => by
    obtain ⟨o, e, _⟩ := T.obj _ _ st2 b hb
    exact Heap.lt_size e
  have f3 : ∀ b ∈ fp, FpOk X pins (upd H2 D (o0 D)) b ∧ b < s3.heap.objs.size := fun b hb => by
    have hlt := sz b hb
    refine ⟨⟨?_, (f2 b hb).2⟩, by rw [h3, Heap.size_push]; exact Nat.lt_succ_of_lt hlt⟩
    rw [upd_ne (by rw [← hD]; exact Nat.ne_of_lt hlt)]
    exact (f2 b hb).1
  have st3 : tn 0 s3.heap := T.keep _ _ _ st2 fun b _ o e => by rw [h3]; exact Heap.get?_push_of_some _ e
  have I4 := block_start I3 ok hN f3
  have pg := hg s3 (upd H2 D (o0 D)) s3.heap.objs.size (cellsFrom (s3.heap.objs.size + 1) scope.names (cloFrom X.env.cells scope.names [])) fp
  have pt := ht s3 (upd H2 D (o0 D)) s3.heap.objs.size (cellsFrom (s3.heap.objs.size + 1) scope.names (cloFrom X.env.cells scope.names [])) fp
  have pk := hk s3 (upd H2 D (o0 D)) s3.heap.objs.size (cellsFrom (s3.heap.objs.size + 1) scope.names (cloFrom X.env.cells scope.names [])) fp
  have pe := he s3 (upd H2 D (o0 D)) s3.heap.objs.size (cellsFrom (s3.heap.objs.size + 1) scope.names (cloFrom X.env.cells scope.names [])) fp
  show codeAny _ _ (.compStart (.DictComp kx vx [⟨tg, iter, ifs, 0⟩] scope pos) 0 (.ref it) (.ref D) (compEnvC scope (cellsFrom (s3.heap.objs.size + 1) scope.names (cloFrom X.env.cells scope.names [])) s3.heap.objs.size X.env)) (compPost (model X.prog X.w) X.A X.xe use Qf (.ref D) s3.heap.objs.size) { s3 with heap := pushCells (s3.heap.push { cls := .type "dict", data := .dict #[] }) scope.names }
  have nfp : ∀ b ∈ fp, (upd H2 D (o0 D)) b = none := fun b hb => (f3 b hb).1.1
  generalize hce : compEnvC scope (cellsFrom (s3.heap.objs.size + 1) scope.names (cloFrom X.env.cells scope.names [])) s3.heap.objs.size X.env = ce at I4 pg pt pk pe ⊢
  have cL : ce.locals = s3.heap.objs.size := by subst hce; rfl
  generalize hH3 : upd H2 D (o0 D) = H3 at I3 I4 pg pt pk pe w0 nfp f3
  generalize hs4 : ({ s3 with heap := pushCells (s3.heap.push { cls := .type "dict", data := .dict #[] }) scope.names } : Shared) = s4 at I4 ⊢
  have st4 : tn 0 s4.heap := T.keep _ _ _ st3 fun b _ o e => by rw [← hs4]; exact pushCells_keeps _ _ _ _ (Heap.get?_push_of_some _ e)
  have stat : ∀ {σ' : L2.St} {H' : Hp} {s' : Shared}, Inv (X.blk s3 H3 scope ce fp) [] σ' H' s' → (∀ b ∈ fp, H' b = none) → ∀ b ∈ fp, FpOk (X.blk s3 H3 scope ce fp) [] H' b := fun {σ' H' s'} I' hn b hb =>
    ⟨hn b hb, (I'.ok.exf b hb).1, I'.ok.exfs b hb, .inl hb, fun x c e => (I'.ok.exf b hb).2 x c e, fun p hp => absurd (show p ∈ ([] : List (Addr × Obj)) ++ [] from hp) (by simp)⟩
  have loop : codeAny (model X.prog X.w) X.A (.compLoop (.DictComp kx vx [⟨tg, iter, ifs, 0⟩] scope pos) 0 (.ref it) (.ref D) ce) (compPost (model X.prog X.w) X.A X.xe use Qf (.ref D) s3.heap.objs.size) s4 := by
    refine compLoop_anyD (fun n s' => ∃ i H', Inv (X.blk s3 H3 scope ce fp) [] (wipe σ (own.map (·.2))) H' s' ∧ tn i s'.heap ∧ (∀ b ∈ fp, H' b = none) ∧ W i n H') ?_ m0 ⟨0, H3, I4, st4, nfp, w0⟩
    rintro n s5 ⟨i, H5, I5, st5, n5, w5⟩
    rcases turn i n H5 w5 with ⟨stop, qq⟩ | ⟨go, Nx, hNx, step⟩
    · have td := T.done (X.blk s3 H3 scope ce fp) rfl rfl rfl hc i [] s5 _ H5 (fun _ _ => False) I5 (stat I5 n5) st5 stop
      refine thnF td fun r s6 ⟨hr, I6⟩ => ?_
      subst hr
      -- back in the def's context
      have I7 : Inv X pins σ H5 s6 := I3.call' (ch := fp) I6.os I6.base I6.hok I6.bare fun b hb => ⟨(f3 b hb).1.2.2.2.1, (f3 b hb).1.2.1, (f3 b hb).1.2.2.2.2.1, (f3 b hb).1.2.2.2.2.2⟩
      have nC : H5 s3.heap.objs.size = none := by
        have z : H5 ce.locals = none := I6.free
        rw [cL] at z
        exact z
      obtain ⟨m, hn, _⟩ := I6.loc
      have hn : s6.heap.Ns ce.locals m := hn
      rw [cL] at hn
      exact hRR D s3.heap.objs.size s6 m H5 I7 qq hn (I3.fpOk (Nat.le_refl _) nC)
    · have ti := T.item (X.blk s3 H3 scope ce fp) rfl rfl rfl hc i [] s5 _ H5 (fun _ _ => False) I5 (stat I5 n5) st5 go
      refine thnF ti fun r s6 ⟨u, hr, h6⟩ => ?_
      subst hr
      refine thnF h6 fun _ s7 ⟨x, H7, I7, r7, y7, st7, n7⟩ => ?_
      have I7' := I7.pinned (stat I7 n7) (T.obj _ _ st7)
      refine thnF (pg.run _ s7 _ H7 x u _ I7' r7 (step x H7 y7)) fun _ s8 ⟨σ8, H8, I8, hw8, q8⟩ => ?_
      refine thnF (pt.run _ s8 σ8 H8 _ I8 q8) fun b s9 ⟨H9, I9, q9⟩ => ?_
      -- the turn's end
      have fin : ∀ {s' : Shared} {H' : Hp}, Inv (X.blk s3 H3 scope ce fp) ([] ++ pinsAt fp s7.heap) σ8 H' s' → Nx H' → ∃ m, m < n ∧ ∃ i H', Inv (X.blk s3 H3 scope ce fp) [] (wipe σ (own.map (·.2))) H' s' ∧ tn i s'.heap ∧ (∀ b ∈ fp, H' b = none) ∧ W i m H' := fun {s' H'} I' nx => by
        obtain ⟨m', hm, w'⟩ := hNx H' nx
        have pin' : ∀ b ∈ fp, ∀ o, s7.heap.get? b = some o → s'.heap.get? b = some o ∧ H' b = none := fun b hb o e =>
          let z := I'.pin (b, o) (List.mem_append_right _ (List.mem_append_right _ (mem_pinsAt hb e)))
          ⟨z.1, z.2.1⟩
        have hl : (wipe σ (own.map (·.2))).length = σ8.length := by rw [← hw8, wipe_length]
        refine ⟨m', hm, i + 1, H', (I'.unpinned (pins := [])).weak hl (fun j v e => ?_), T.keep _ _ _ st7 fun b hb o e => (pin' b hb o e).1, fun b hb => ?_, w'⟩
        · rw [← hw8] at e
          exact (wipe_some e).1
        · obtain ⟨o, e, _⟩ := T.obj _ _ st7 b hb
          exact (pin' b hb o e).2
      cases b with
      | false =>
        simp only [Bool.false_eq_true, if_false] at q9 ⊢
        exact fin I9 q9
      | true =>
        simp only [if_true] at q9 ⊢
        refine thnF (pk.run _ s9 σ8 H9 _ I9 q9) fun z s10 ⟨yk, H10, I10, r10, q10⟩ => ?_
        refine thnF (pe.run _ s10 σ8 H10 _ I10 q10) fun z2 s11 ⟨yv, H11, I11, r11, nx⟩ => ?_
        exact put_ok (X := X.blk s3 H3 scope ce fp) hu I11 r10 r11 nx fun H' s12 I12 nx => fin I12 nx
  exact codeAny_compStart_dict loop (T.self X.A 0 _ _ _ st4 loop)
theorem pe_dcp {kx vx tg iter : Expr} {ifs : List Expr} {scope : Scope} {own : List (Str × Nat)} {pos : Pos} {wi : TI} {g : TG} {tt : TT} {tk tv : TE} {o0 : Addr → HO} (hc : X.calm = true) (hN : X.N.Nodup) (hi : PI X tg iter wi) (ok : BlkOk X.N X.env.scope scope own)
    (hg : ∀ (s : Shared) (H : Hp) (C : Addr) (cl : List (Str × Addr)) (fp : List Addr), L2.PG (X.blk s H scope (compEnvC scope cl C X.env) fp) tg g) (ht : ∀ (s : Shared) (H : Hp) (C : Addr) (cl : List (Str × Addr)) (fp : List Addr), PTs (X.blk s H scope (compEnvC scope cl C X.env) fp) ifs tt)
    (hk : ∀ (s : Shared) (H : Hp) (C : Addr) (cl : List (Str × Addr)) (fp : List Addr), PE (X.blk s H scope (compEnvC scope cl C X.env) fp) kx tk)
    (he : ∀ (s : Shared) (H : Hp) (C : Addr) (cl : List (Str × Addr)) (fp : List Addr), PE (X.blk s H scope (compEnvC scope cl C X.env) fp) vx tv) (hs : ∀ x, foldedSetIterable iter X.env x = pure x)
    (h0 : ∀ (H : Hp) (h : Heap), sysModules < h.objs.size → ObjOk X.prog X.w H (h.push { cls := .type "dict", data := .dict #[] }) h.objs.size (o0 h.objs.size)) (hu : X.A.units + 200 < cLine) :
    PE X (.DictComp kx vx [⟨tg, iter, ifs, 0⟩] scope pos) (tDcP X.ky o0 wi g tt tk tv (own.map (·.2))) := by
  refine ⟨fun pins s σ H Q I h => ?_⟩
  rw [arm_eval_DictComp]
  refine dcp_core hc hN I hi ok hg ht hk he hs h h0 hu fun D C s' m H' I' q hn f => ⟨m, hn, fun h'' sb => ?_⟩
  obtain ⟨f0, f1, f2, f3, f4, f5⟩ := f
  exact ⟨.ref D, H', I'.turned (t' := s'.toks) (fun b o hb e => (sb.2 b hb).trans e) f0 f1 f3 f4 f5, rfl, q⟩
/-! in the clean layer -/
def dcL (ws : Ws) (g : WG) (wt : WT) (wk wv : WE) (ρ0 : Rho) (D : Addr) (Q : PG → Prop) : List PV → PG → Prop
  | [], G => watch ws G ∧ Q G
  | v :: vs, G => watch ws G ∧ g v ρ0 G fun ρ1 G1 => wt ρ1 G1 fun b G2 => match b with
    | true => wk ρ1 G2 fun y G3 => wv ρ1 G3 fun z G4 => wPut D y z G4 fun G5 => dcL ws g wt wk wv ρ0 D Q vs G5
    | false => dcL ws g wt wk wv ρ0 D Q vs G2
theorem dcL_watch {g : WG} {ws : Ws} {wt : WT} {wk wv : WE} {ρ0 : Rho} {D : Addr} {Q : PG → Prop} {vs : List PV} {G : PG} (h : dcL ws g wt wk wv ρ0 D Q vs G) : watch ws G := by
  cases vs with
  | nil => exact h.1
  | cons v vs => exact h.1
/-- t: keys are tuples -/
def wDc (t : Bool) (wi : WI) (g : WG) (wt : WT) (wk wv : WE) (own : List Nat) : WE := fun ρ G Q => wi ρ G fun ws vs G1 => ∀ D, G1 D = none → dcL ws g wt wk wv (wipeR ρ own) D (fun G2 => Q (.ref D) G2) vs (pup G1 D (if t = true then .dT [] else .dK []))
theorem se_dc {kx vx tg iter : Expr} {ifs : List Expr} {scope : Scope} {own : List (Str × Nat)} {pos : Pos} {wi : WI} {g : WG} {wt : WT} {wk wv : WE} {t : Bool} (hc : X.calm = true) (hu : X.A.units + 200 < cLine) (hN : X.N.Nodup) (hi : SI X tg iter wi) (ok : BlkOk X.N X.env.scope scope own)
    (hg : ∀ (s : Shared) (H : Hp) (C : Addr) (cl : List (Str × Addr)) (fp : List Addr), SGo (X.blk s H scope (compEnvC scope cl C X.env) fp) (own.map (·.2)) tg g)
    (ht : ∀ (s : Shared) (H : Hp) (C : Addr) (cl : List (Str × Addr)) (fp : List Addr), STs (X.blk s H scope (compEnvC scope cl C X.env) fp) ifs wt)
    (hk : ∀ (s : Shared) (H : Hp) (C : Addr) (cl : List (Str × Addr)) (fp : List Addr), SE (X.blk s H scope (compEnvC scope cl C X.env) fp) kx wk)
    (he : ∀ (s : Shared) (H : Hp) (C : Addr) (cl : List (Str × Addr)) (fp : List Addr), SE (X.blk s H scope (compEnvC scope cl C X.env) fp) vx wv) (hs : ∀ x, foldedSetIterable iter X.env x = pure x) :
    SE X (.DictComp kx vx [⟨tg, iter, ifs, 0⟩] scope pos) (wDc t wi g wt wk wv (own.map (·.2))) := by
  refine PE.weak (pe_dcp (wi := tWI X.ky wi) (g := tWGo (own.map (·.2)) X.ky g) (tt := tWTs X.ky wt) (tk := tW X.ky wk) (tv := tW X.ky wv) (o0 := fun D => if t = true then dX X.ky D [] else .dK []) hc hN hi ok hg ht hk he hs ?_ hu) fun σ H Q q => ?_
  · intro H h hb
    cases t with
    | true => exact x_empty h hb
    | false => exact dk_empty h hb
  obtain ⟨ρ, G, QP, rs, rg, hw, hq⟩ := q
  refine ⟨ρ, G, _, rs, rg, hw, fun ws vs G1 H1 J Gd t1 rg1 ok hgd hw1 => fun D hD => ?_⟩
  have w0 := hw1 D (rg1.fresh hD)
  have tD : TupLe X.K H1 (upd H1 D (if t = true then dX X.ky D [] else .dK [])) := .new hD
  have rD : RG X.ky (pup G1 D (if t = true then .dT [] else .dK [])) (upd H1 D (if t = true then dX X.ky D [] else .dK [])) := by
    cases t with
    | true => exact rg1.new (u := .dT []) hD ⟨[], upd_same, (fun p hp => nomatch hp), by rw [RX]⟩
    | false => exact rg1.new (u := .dK []) hD ⟨[], upd_same, by rw [RK]⟩
  refine ⟨fun i m H' => m = vs.length - i ∧ i ≤ vs.length ∧ ∃ G', RG X.ky G' H' ∧ TupLe X.K H1 H' ∧ dcL ws g wt wk wv (wipeR ρ (own.map (·.2))) D (fun G2 => QP (.ref D) G2) (vs.drop i) G', ⟨vs.length, by simp, Nat.zero_le _, _, rD, tD, w0⟩, ?_⟩
  rintro i m H' ⟨rfl, hi, G', a2, a3, a4⟩
  have gd := hgd G' H' a3 a2 (dcL_watch a4)
  by_cases hlt : i < vs.length
  · refine .inr ⟨ok.go i H' hlt gd, fun H'' => i + 1 ≤ vs.length ∧ ∃ G', RG X.ky G' H'' ∧ TupLe X.K H1 H'' ∧ dcL ws g wt wk wv (wipeR ρ (own.map (·.2))) D (fun G2 => QP (.ref D) G2) (vs.drop (i + 1)) G', fun H'' p' => ⟨vs.length - (i + 1), by omega, rfl, p'.1, p'.2⟩, fun x H'' y => ?_⟩
    obtain ⟨v, hv, rv, tl, rgk⟩ := ok.yld i H' x H'' hlt gd y
    have hd : vs.drop i = v :: vs.drop (i + 1) := by
      rw [List.drop_eq_getElem_cons hlt]
      congr 1
      rw [List.getElem?_eq_getElem hlt] at hv
      exact Option.some.inj hv
    rw [hd] at a4
    obtain ⟨_, a4⟩ := a4
    have rw0 : RS X.K (wipeR ρ (own.map (·.2))) (L2.wipe σ (own.map (·.2))) H'' := (rs.mono ((t1.trans a3).trans tl)).wipe _
    refine ⟨v, wipeR ρ (own.map (·.2)), G', _, rv, rw0, rgk _ a2, a4, fun ρ2 G2 σ2 H2 t2 r2 s2 we2 q => ⟨we2.trans (wipe_wipe σ _ _ fun _ h => h), ?_⟩⟩
    refine ⟨ρ2, G2, _, s2, r2, q, fun b G3 H3 t3 r3 q3 => ?_⟩
    have t13 := ((a3.trans tl).trans t2).trans t3
    cases b with
    | true =>
      refine ifT ?_
      refine ⟨ρ2, G3, _, s2.mono t3, r3, q3, fun y G4 z H4 t4 r4 v4 q4 => ?_⟩
      refine ⟨ρ2, G4, _, (s2.mono t3).mono t4, r4, q4, fun y' G5 z' H5 t5 r5 v5 q5 => ?_⟩
      exact ⟨y, y', G5, _, RV.mono t5 _ _ v4, v5, r5, q5, fun G6 H6 t6 r6 q6 => ⟨hlt, G6, r6, ((t13.trans t4).trans t5).trans t6, q6⟩⟩
    | false =>
      refine ifF ?_
      exact ⟨hlt, G3, r3, t13, q3⟩
  · have e : i = vs.length := by omega
    subst e
    rw [List.drop_length] at a4
    exact .inl ⟨ok.stop H' gd, hq _ _ _ _ (t1.trans a3) a2 (RV.refI D) a4.2⟩
end
end Cl
set_option Elab.async false
set_option linter.all false
set_option maxRecDepth 100000
set_option maxHeartbeats 4000000
/-! The clean layer, part P: max with a default, calls by keywords alone, sorted. -/
namespace Cl
open PySem PySem.Spec PyProof.Rows L2 SkE
section
variable {X : Cx} {p p3 pos kpos : Pos} {e : Expr} {es : List Expr} {wl wk : WL} {w : WE} {x : Str} {sp : PSp}
def wMaxC (wl : WL) (k : Int) : WE := fun ρ G Q => wl ρ G fun vs G1 => match intsOf vs with
  | some [] => Q (.int k) G1
  | some (n :: ns) => Q (.int (ns.foldl max n)) G1
  | none => False
theorem se_maxC {k : Int} {j : Nat} (hc : X.calm = true) (hu : X.A.units + 200 < cLine) (he : SQ X e wl) (hk : PE X (.Constant (.int k) j p3) (tC (.int k))) (hg : Gl X "max") (hm : X.mg "max" = none)
    (hs : starEach [e] X.env = (false, eval e X.env) :: starEach [] X.env) (hs' : backTo pos (starEach [e] X.env) = (false, eval e X.env) :: backTo pos (starEach [] X.env)) (hpl : (backTo pos (starEach [e] X.env)).any (·.1) = false)
    (hall : (backToKw pos (keywordEach [⟨some "default", .Constant (.int k) j p3, kpos⟩] X.env)).all (·.1.isSome) = true) (hnone : (backToKw pos (keywordEach [⟨some "default", .Constant (.int k) j p3, kpos⟩] X.env)).any (·.1.isNone) = false)
    (hks : (backToKw pos (keywordEach [⟨some "default", .Constant (.int k) j p3, kpos⟩] X.env)).filterMap (·.1) = [Str.ofString "default"]) :
    SE X (.Call (.Name "max" p) [e] [⟨some "default", .Constant (.int k) j p3, kpos⟩] pos) (wMaxC wl k) :=
  PE.weak (pe_callBK (cr_maxD hc hu (d0 := .int k)) hg hm (by decide +kernel) (pa_cons he pa_nil hs) (pk_cons hk pk_nil) (by decide) (by decide) hs' hpl hall hnone hks) fun σ H Q h => by
  obtain ⟨ρ, G, QP, rs, rg, hw, hq⟩ := h
  refine tCons1 (Q := fun vs H1 => tCons (tC (.int k)) tNil σ H1 fun zs H2 => rMaxD X.K (.int k) vs zs H2 Q) ⟨ρ, G, _, rs, rg, hw, fun vs G1 a xs H1 t1 rg1 hl rv1 hw1 => ?_⟩
  show rMaxD X.K (.int k) [.ref a] [.int k] H1 Q
  split at hw1
  · rename_i e
    have := ints_eq e
    subst this
    rw [rv1.ints] at hl
    exact ⟨a, [], rfl, rfl, hl, fun _ => hq _ _ _ _ t1 rg1 (RV.intI _) hw1, fun n r e => nomatch e⟩
  · rename_i n ns e
    have := ints_eq e
    subst this
    rw [rv1.ints] at hl
    refine ⟨a, n :: ns, rfl, rfl, hl, (fun e => nomatch e), fun n' r' e => ?_⟩
    cases e
    exact hq _ _ _ _ t1 rg1 (RV.intI _) hw1
  · exact hw1.elim
/-- f(a=.., b=..) -/
theorem se_callK0 {np : Nat} {ks : List Str} {perm : List Nat} {kws : List Keyword} (F : FnK X x np ks perm sp) (hg : Gl X x) (hkw : SK X kws wk) (hall : (backToKw pos (keywordEach kws X.env)).all (·.1.isSome) = true) (hks : (backToKw pos (keywordEach kws X.env)).filterMap (·.1) = ks)
    (hdb : (x == ("__debug__" : Str)) = false) (hpl : ((backTo pos (starEach [] X.env)).any (·.1) || (backToKw pos (keywordEach kws X.env)).any (·.1.isNone)) = false) :
    SE X (.Call (.Name x p) [] kws pos) (wCallK sp np ks.length perm wNil wk) := by
  obtain ⟨f, F1, hm, hk⟩ := F.ex
  refine ⟨fun pins s σ H Q I h => ?_⟩
  obtain ⟨ρ, G, QP, rs, rg, hw, hq⟩ := h
  refine wpAny_Call_Name_kw (ld_glob I hg hm ?_ hdb)
  refine PySem.W.callWith_KW0 (h₀ := X.base) I.ok.mod.kin hk hall (thn (hkw.run pos pins s σ H (fun ys H2 => hsp X.ky sp (gP np ks.length perm [] ys) H2 Q E0') I ⟨ρ, G, _, rs, rg, hw, fun zs G2 ys H2 t2 rg2 rv2 hw2 => ?_⟩) fun ws s2 ⟨zs, H2, I2, rz, q2⟩ => ⟨I2.kIn, ?_⟩) hpl
  · refine ⟨gP np ks.length perm [] zs, G2, QP, ?_, rg2, hw2, fun v G' x H' t3 rg3 rv3 q => hq _ _ _ _ (t2.trans t3) rg3 rv3 q⟩
    unfold gP
    rw [← rv2.length]
    by_cases hc : ([] : List PV).length = np ∧ zs.length = ks.length
    · rw [if_pos hc, if_pos (show ([] : List V).length = np ∧ zs.length = ks.length from hc)]
      exact RVs.perm rv2 perm
    · rw [if_neg hc, if_neg (show ¬ (([] : List V).length = np ∧ zs.length = ks.length) from hc)]
      exact .nil
  · rw [hks]
    exact F1 pins s2 σ H2 [] zs [] ws Q I2 .nil rz q2
end
end Cl
set_option Elab.async false
set_option linter.all false
set_option maxRecDepth 100000
set_option maxHeartbeats 4000000
/-! The clean layer, part Ps: *e in displays, calls of own classes' methods, tuple(d). -/
namespace Cl
open PySem PySem.Spec PyProof.Rows L2 SkE
open PySem.W (EachIs)
section
variable {X : Cx} {e o a : Expr} {es : List Expr} {pos p apos : Pos} {w wo wa : WE} {wl wk : WL} {x m : Str} {sp : PSp}
/-- *e ahead of the rest -/
def wStar (wl wk : WL) : WL := fun ρ G Q => wl ρ G fun vs G1 => wk ρ G1 fun us G2 => Q (vs ++ us) G2
theorem sl_star (ha : SS X e wl) (hr : SL X es wk) : SL X (.Starred e p :: es) (wStar wl wk) := by
  refine PA.weak (StX.pa_star ha hr rfl) fun σ H Q h => ?_
  obtain ⟨ρ, G, QP, rs, rg, hw, hq⟩ := h
  refine ⟨ρ, G, _, rs, rg, hw, fun vs G1 a xs H1 t1 rg1 hl rv1 hw1 => ?_⟩
  refine ⟨a, xs, rfl, hl.symm, ρ, G1, _, rs.mono t1, rg1, hw1, fun us G2 ys H2 t2 rg2 rv2 hw2 => ?_⟩
  exact hq _ _ _ _ (t1.trans t2) rg2 ((rv1.mono t2).append rv2) hw2
/-! ### o.m(..) -/
structure MtG (X : Cx) (C : Addr) (m : Str) (sp : PSp) : Prop where
  ex : ∃ f : Addr, Cls X.K C ∧ Meth X.K C m f ∧ CallR X (.ref f) (fun vs H Q => hsp X.ky sp vs H Q E0')
def wMeth (C : Addr) (m : Str) (sp : PSp) (wo : WE) (wl : WL) : WE := fun ρ G Q => wo ρ G fun v G1 => match v with
  | .ref a => (match G1 a with
    | some (.ins D fs) => D = C ∧ fs.lookup m = none ∧ wl ρ G1 fun vs G2 => sp (.ref a :: vs) G2 Q
    | _ => False)
  | _ => False
theorem meth_eval {args : List Expr} {env : Env} (hb : attributeBase o m env (eval o env) = eval o env) (hf : methodCallForm (args.length + ([] : List Keyword).length) (backTo pos (starEach args env)) (backToKw pos (keywordEach [] env)) = true) (hl : (apos.endLine == pos.line) = true) :
    eval (.Call (.Attribute o m apos) args [] pos) env = (do
      let ov ← eval o env
      standAt apos.atName
      let (f, first) ← holding [ov] (getMethod ov m (plainOf o env))
      callWith pos f first (backTo pos (starEach args env)) (backToKw pos (keywordEach [] env))) := by
  rw [arm_eval_Call, hb]
  congr 1
  funext ov
  rw [mcall_line hf hl]
theorem RK.lookupN {K : Frag} {H : Hp} {f : Str} : ∀ {fs : List (Str × PV)} {xs : List (Str × V)}, RK K H fs xs → fs.lookup f = none → xs.lookup f = none
  | [], xs, r, h => by rw [RK] at r; subst r; rfl
  | p :: ps, xs, r, h => by
    rw [RK] at r
    obtain ⟨x, r', rfl, a, b⟩ := r
    obtain ⟨g, y⟩ := p
    rw [List.lookup_cons] at h ⊢
    split at h
    · cases h
    · rename_i e; simp only [e]; exact RK.lookupN b h
theorem meth_form {args : List Expr} {env : Env} (hs : (backTo pos (starEach args env)).any (·.1) = false) (hn : args.length < 30) : methodCallForm (args.length + ([] : List Keyword).length) (backTo pos (starEach args env)) (backToKw pos (keywordEach [] env)) = true := by
  unfold methodCallForm
  have e1 : (backTo pos (starEach args env)).all (!·.1) = true := by
    rw [List.all_eq_true]
    intro y hy
    rw [List.any_eq_false] at hs
    have := hs y hy
    simpa using this
  rw [e1]
  show (true && true && decide (args.length + 0 + (if ([] : List (Option Str × Sem Value)).isEmpty = true then 0 else 1) < 30)) = true
  simpa using hn
theorem se_meth {C : Addr} (F : MtG X C m sp) (ho : SE X o wo) (ha : SL X (e :: es) wl) (hb : attributeBase o m X.env (eval o X.env) = eval o X.env) (hl : (apos.endLine == pos.line) = true) (hn : (e :: es).length < 30)
    (he : starEach (e :: es) X.env = (false, eval e X.env) :: starEach es X.env) (hpl : (backTo pos (starEach es X.env)).any (·.1) = false) :
    SE X (.Call (.Attribute o m apos) (e :: es) [] pos) (wMeth C m sp wo wl) := by
  obtain ⟨f, c, hm, F1⟩ := F.ex
  have hf : (backTo pos (starEach (e :: es) X.env)).any (·.1) = false := by
    rw [he]
    show (false || (backTo pos (starEach es X.env)).any (·.1)) = false
    rw [hpl]; rfl
  refine ⟨fun pins s σ H Q I h => ?_⟩
  obtain ⟨ρ, G, QP, rs, rg, hw, hq⟩ := h
  refine PySem.W.methodCall_KW (pl := plainOf o X.env) (thn (ho.run pins s σ H (fun x H1 => ∃ a dx fs, x = .ref a ∧ H1 a = some (.ins C dx fs) ∧ fs.lookup m = none ∧ tWL X.ky wl σ H1 fun vs H2 => hsp X.ky sp (x :: vs) H2 Q E0') I ⟨ρ, G, _, rs, rg, hw, fun v G1 x H1 t1 rg1 rv1 hw1 => ?_⟩) fun u s1 ⟨x, H1, I1, rx, a, dx, fs, ex, ea, l, q⟩ => ?_) (meth_eval hb (meth_form hf hn) hl)
  · split at hw1
    · rename_i v' a
      rw [RV] at rv1; subst rv1
      split at hw1
      · rename_i o' D fs ga
        obtain ⟨rfl, hno, hw1⟩ := hw1
        obtain ⟨dx, xs, h1, h2⟩ := rg1 _ _ ga
        refine ⟨a, dx, xs, rfl, h1, h2.lookupN hno, ρ, G1, _, rs.mono t1, rg1, hw1, fun vs G2 ys H2 t2 rg2 rv2 hw2 => ?_⟩
        exact ⟨.ref a :: vs, G2, QP, .cons (RV.refI a) rv2, rg2, hw2, fun v G' x H' t3 rg3 rv3 q => hq _ _ _ _ ((t1.trans t2).trans t3) rg3 rv3 q⟩
      · exact hw1.elim
    · exact hw1.elim
  · subst ex
    obtain rfl : u = Value.ref a := rx
    refine getmeth_ok I1 ea c hm l ?_
    refine PySem.W.callWith_K (first := [.ref a]) (h₀ := X.base) I.ok.mod.kin hm.kp (thn (ha.run pos pins s1 σ H1 _ I1 q) fun us s2 ⟨vs, H2, I2, r, q2⟩ => ⟨I2.kIn, F1 pins s2 σ H2 (.ref a :: vs) (.ref a :: us) Q I2 (.cons rfl r) q2⟩) he hpl
theorem se_meth0 {C : Addr} (F : MtG X C m sp) (ho : SE X o wo) (hb : attributeBase o m X.env (eval o X.env) = eval o X.env) (hl : (apos.endLine == pos.line) = true) :
    SE X (.Call (.Attribute o m apos) [] [] pos) (wMeth C m sp wo wNil) := by
  obtain ⟨f, c, hm, F1⟩ := F.ex
  refine ⟨fun pins s σ H Q I h => ?_⟩
  obtain ⟨ρ, G, QP, rs, rg, hw, hq⟩ := h
  refine PySem.W.methodCall_KW (pl := plainOf o X.env) (thn (ho.run pins s σ H (fun x H1 => ∃ a dx fs, x = .ref a ∧ H1 a = some (.ins C dx fs) ∧ fs.lookup m = none ∧ hsp X.ky sp [x] H1 Q E0') I ⟨ρ, G, _, rs, rg, hw, fun v G1 x H1 t1 rg1 rv1 hw1 => ?_⟩) fun u s1 ⟨x, H1, I1, rx, a, dx, fs, ex, ea, l, q⟩ => ?_) (meth_eval hb (meth_form rfl (by decide)) hl)
  · split at hw1
    · rename_i v' a
      rw [RV] at rv1; subst rv1
      split at hw1
      · rename_i o' D fs ga
        obtain ⟨rfl, hno, hw1⟩ := hw1
        obtain ⟨dx, xs, h1, h2⟩ := rg1 _ _ ga
        exact ⟨a, dx, xs, rfl, h1, h2.lookupN hno, [.ref a], G1, QP, .one (RV.refI a), rg1, hw1, fun v G' x H' t3 rg3 rv3 q => hq _ _ _ _ (t1.trans t3) rg3 rv3 q⟩
      · exact hw1.elim
    · exact hw1.elim
  · subst ex
    obtain rfl : u = Value.ref a := rx
    refine getmeth_ok I1 ea c hm l ?_
    exact PySem.W.callWith_K0 (first := [.ref a]) I1.kIn hm.kp (F1 pins s1 σ H1 [.ref a] [.ref a] Q I1 (.cons rfl .nil) q)
/-! ### tuple(d), d with tuple keys -/
theorem code_tuple_new_src {prog : Program} {w : World} {A : Around} {E : Value → Shared → Prop} {s : Shared} {T : String} {r d : Addr} {n : Nat} {P : Nat → Value → Prop} {OK : Heap → Prop} {Q₁ : Value → Shared → Prop} (K : PySem.W.KdlSrc prog w T r d n P OK) (hT : s.TypeIs (.ref r) T) (hh : A.handled = none) (hok : OK s.heap) (hn : n ≤ sizeLine) (hTt : T = "dict")
    (h : ∀ (h' : Heap) (tk : Nat) (acc : Array Value), (∀ b o, s.heap.get? b = some o → h'.get? b = some o) → ItemsOf P acc n → Q₁ (.ref h'.objs.size) { s with heap := h'.push { cls := .type "tuple", data := .seq acc }, toks := tk }) :
    codeAny (model prog w) A (.call (.builtin "tuple.__new__") ⟨[.type "tuple", .ref r], []⟩) (wants Q₁ E) s := by
  subst hTt
  refine codeAny_of_tree ?_
  show wpAny _ A.in1 (do checkBuiltinCall "tuple.__new__" ⟨[.type "tuple", .ref r], []⟩; again (.builtin "tuple.__new__" ⟨[.type "tuple", .ref r], []⟩)) _ _ s
  refine wpAny_bind (wpAny_of_eq (F.newCall_tuple_1 _) (wpAny_pure ⟨plainId_quiet PySem.F.plain_tuple_new _, codeAny_builtin F.entry_tuple_new ?_⟩))
  rw [Around.under_plainId PySem.F.plain_tuple_new _]
  have hsub := sub_tuple_self
  have hinit := init_tuple_lookup
  have hmh := madeHere_tuple
  have hh1 : A.in1.handled = none := hh
  wp_walk using wpAny_typeOf hT, PySem.W.kdu_collect (A := A.in1) K hh1 hok hn
  intro h' tk acc hk hacc
  show wpAny _ _ (Builtin.Tuple.tupleExact acc.toList.toArray >>= fun v => ret v) _ _ _
  unfold Builtin.Tuple.tupleExact
  refine wpAny_bind (wpAny_newObj_type ?_ (by show acc.toList.toArray.size ≤ sizeLine; simp only [Array.toArray_toList]; rw [hacc.1]; exact hn))
  refine wpAny_pure ?_
  have e : acc.toList.toArray = acc := by simp
  rw [e]
  exact h h' tk acc hk hacc
theorem call_tuple_src {prog : Program} {w : World} {A : Around} {E : Value → Shared → Prop} {s : Shared} {r d : Addr} {n : Nat} {P : Nat → Value → Prop} {OK : Heap → Prop} {Q : Value → Shared → Prop} (K : PySem.W.KdlSrc prog w "dict" r d n P OK) (hT : s.TypeIs (.ref r) "dict") (hh : A.handled = none) (hok : OK s.heap) (hn : n ≤ sizeLine)
    (hQ : ∀ (h' : Heap) (tk : Nat) (acc : Array Value), (∀ b o, s.heap.get? b = some o → h'.get? b = some o) → ItemsOf P acc n → Q (.ref h'.objs.size) { s with heap := h'.push { cls := .type "tuple", data := .seq acc }, toks := tk }) :
    wpAny (model prog w) A (call (.type "tuple") [.ref r]) Q E s := by
  refine callType_codes (Q₁ := fun obj s₁ => s₁.TypeIs obj "tuple" ∧ Q obj s₁) F.called_tuple (F.typeCall_tuple_1 _) F.entry_object_init
    (code_tuple_new_src (A := A.in1) K hT hh hok hn rfl fun h' tk acc hk hacc => ⟨⟨_, Heap.get?_push_size _ rfl, rfl⟩, hQ h' tk acc hk hacc⟩) fun obj s₁ h₁ => ?_
  exact ⟨h₁.1, F.args_object_init_2 obj _, object_init_meets F.called_tuple.init.lookup F.called_tuple.made (by decide) prog w A.in1 _ s₁ ⟨h₁.1, rfl, h₁.2⟩⟩
def bTupD : List PV → PG → WK → Prop := fun vs G Q => match vs with
  | [.ref a] => (match G a with
    | some (.dT kvs) => kvs.length ≤ sizeLine ∧ Q (.tup (kvs.map fun p => kpv p.1)) G
    | _ => False)
  | _ => False
theorem call_tupD (hc : X.calm = true) : CallR X (.type "tuple") (rB X.ky bTupD) := by
  intro pins s σ H xs us Q I r h
  obtain ⟨vs, G, QP, rv, rg, hw, hq⟩ := h
  unfold bTupD at hw
  split at hw
  · rename_i a
    obtain ⟨x, rfl, h1⟩ := rv.inv1
    rw [RV] at h1; subst h1
    obtain ⟨u, rfl, hu'⟩ := vals1 r
    cases (show u = Value.ref a from hu')
    split at hw
    · rename_i kvs ga
      obtain ⟨hsz, hw⟩ := hw
      obtain ⟨ys, k1, k2, k3⟩ := rg _ _ ga
      obtain ⟨⟨hm, ob, es, ep, o1, o2, o3, o4, o5⟩, _⟩ := I.hok a _ k1
      have raw : s.heap.DictRaw a es ep := ⟨ob, o1, o2, o3⟩
      have hes : es.size = kvs.length := by
        have := congrArg List.length o4
        rw [k3.length]
        simpa using this
      refine call_tuple_src (KdlSrc.rawDict (es := es) (ep := ep) hm) raw.typeIs (I.ok.hd hc) raw (by rw [hes]; exact hsz) fun h' tk acc hk hacc => ?_
      have I1 : Inv X pins σ H { s with heap := h', toks := tk } := I.kept hk
      have hlen : acc.toList.length = kvs.length := by rw [Array.length_toList, hacc.1, hes]
      have eR : EachIs (fun v (p : NestedKey × PV) => ∃ x, RelV x v ∧ RV X.K H (kpv p.1) x) acc.toList kvs := each_get hlen fun i v p e1 e2 => by
        obtain ⟨hi, ev⟩ := hacc.2 i v (by rw [← Array.getElem?_toList]; exact e1)
        obtain ⟨q, u, e4, n⟩ := k3.get e2
        have e5 : es.toList[i]? = some (entryOfKey (nestedKind X.prog X.w) (p.1, q, u)) := by rw [o4, List.getElem?_map, e4]; rfl
        have e6 : es[i]? = some (entryOfKey (nestedKind X.prog X.w) (p.1, q, u)) := by rw [← Array.getElem?_toList]; exact e5
        rw [Array.getElem?_eq_getElem hi] at e6
        rw [ev, Option.some.inj e6]
        exact ⟨.ref q, rfl, kpv_ok p.1 _ n⟩
      obtain ⟨zs, z1, z2⟩ := each_vals (f := fun p : NestedKey × PV => kpv p.1) eR
      have hzl : zs.length ≤ sizeLine := by rw [← z2.length, List.length_map]; exact hsz
      have hn := I1.hok.fresh (Nat.le_refl h'.objs.size)
      refine ⟨.ref h'.objs.size, upd H h'.objs.size (.tup zs), I1.laid (t' := tk) (fun b u e => Heap.get?_push_of_some _ e) (Nat.le_refl _)
        (show ObjOk X.prog X.w _ _ _ (.tup zs) from ⟨hzl, acc.toList, z1, ?_⟩), rfl, hq _ _ _ _ (.new hn) (rg.skip hn) (RV.tup_of (.of upd_same) (z2.mono (.new hn))) hw⟩
      rw [Array.toArray_toList]
      exact ⟨_, Heap.get?_push_size _ rfl, rfl, _, rfl⟩
    · exact hw.elim
  · exact hw.elim
end
end Cl
set_option Elab.async false
set_option linter.all false
set_option maxRecDepth 100000
set_option maxHeartbeats 4000000
/-! The clean layer, part Q: the small syntax CE, its reading, the check against the model's syntax; what a context gives. -/
namespace Cl
open PySem PySem.Spec PyProof.Rows L2 SkE
/-! ### lists of arguments -/
def noStar : Expr → Bool
  | .Starred _ _ => false
  | _ => true
theorem star_ok {e : Expr} {es : List Expr} {env : Env} (h : noStar e = true) : starEach (e :: es) env = (false, eval e env) :: starEach es env := by
  cases e <;> first | rfl | exact Bool.noConfusion h
def noStars : List Expr → Bool
  | [] => true
  | e :: es => noStar e && noStars es
theorem plain_ok {pos : Pos} {env : Env} : ∀ {es : List Expr}, noStars es = true → (backTo pos (starEach es env)).any (·.1) = false
  | [], _ => rfl
  | e :: es, h => by
    simp only [noStars, Bool.and_eq_true] at h
    rw [star_ok h.1]
    show (false || (backTo pos (starEach es env)).any (·.1)) = false
    rw [plain_ok h.2]; rfl
def kwsSome : List Keyword → Bool
  | [] => true
  | ⟨some _, _, _⟩ :: r => kwsSome r
  | _ => false
theorem kw_all {pos : Pos} {env : Env} : ∀ {kws : List Keyword}, kwsSome kws = true → (backToKw pos (keywordEach kws env)).all (·.1.isSome) = true
  | [], _ => rfl
  | ⟨some _, _, _⟩ :: r, h => by
    show (true && (backToKw pos (keywordEach r env)).all (·.1.isSome)) = true
    rw [kw_all (kws := r) (show kwsSome r = true from h)]; rfl
  | ⟨none, _, _⟩ :: r, h => Bool.noConfusion h
theorem kw_none {pos : Pos} {env : Env} : ∀ {kws : List Keyword}, kwsSome kws = true → (backToKw pos (keywordEach kws env)).any (·.1.isNone) = false
  | [], _ => rfl
  | ⟨some _, _, _⟩ :: r, h => by
    show (false || (backToKw pos (keywordEach r env)).any (·.1.isNone)) = false
    rw [kw_none (kws := r) (show kwsSome r = true from h)]; rfl
  | ⟨none, _, _⟩ :: r, h => Bool.noConfusion h
theorem kw_names {pos : Pos} {env : Env} : ∀ {kws : List Keyword}, (backToKw pos (keywordEach kws env)).filterMap (·.1) = kws.filterMap (·.arg)
  | [] => rfl
  | ⟨some n, v, p⟩ :: r => by
    show n :: (backToKw pos (keywordEach r env)).filterMap (·.1) = n :: r.filterMap (·.arg)
    rw [kw_names]
  | ⟨none, v, p⟩ :: r => kw_names (kws := r)
def valTest : Expr → Bool
  | .UnaryOp .Not _ _ => false
  | .BoolOp _ _ _ => false
  | .IfExp _ _ _ _ => false
  | .Compare _ _ _ _ => false
  | _ => true
theorem valTest_ok {e : Expr} {env : Env} (h : valTest e = true) : ∀ whole, isTrue e env whole = (do let v ← whole; standAt e.pos; holding [v] (truthy v)) := by
  intro whole
  cases e with
  | UnaryOp op a p => cases op <;> first | rfl | exact Bool.noConfusion h
  | _ => first | rfl | exact Bool.noConfusion h
def noCall0 : Expr → Bool
  | .Call _ [] [] _ => false
  | _ => true
theorem noCall0_ok {e : Expr} {f : Str} {env : Env} {w : Sem Value} (h : noCall0 e = true) : attributeBase e f env w = w := by
  unfold attributeBase
  cases e with
  | Call fn args kws pos =>
    cases args with
    | nil => cases kws with
      | nil => exact Bool.noConfusion h
      | cons _ _ => cases fn <;> rfl
    | cons _ _ => cases fn <;> rfl
  | _ => rfl
def noSet : Expr → Bool
  | .Set _ _ _ => false
  | _ => true
theorem noSet_ok {e : Expr} {env : Env} (h : noSet e = true) : ∀ x, foldedSetIterable e env x = pure x := by
  intro x
  cases e <;> first | rfl | exact Bool.noConfusion h
theorem noSet_mark {e : Expr} {op : CmpOp} (h : noSet e = true) : behindInMarks op e = false := by
  cases e <;> first | rfl | exact Bool.noConfusion h
def noComp : Expr → Bool
  | .ListComp _ _ _ _ => false
  | .SetComp _ _ _ _ => false
  | .DictComp _ _ _ _ _ => false
  | _ => true
theorem noComp_ok {e : Expr} {t : Option Expr} {l : Nat} {env : Env} (h : noComp e = true) : swapsWith e t l env = pure false := by
  cases e <;> first | rfl | exact Bool.noConfusion h
/-! ### scopes -/
structure Slots where
  N : List Str
  sc : Scope
  raw : List (Str × NameKind)
def visB (sc : Scope) (x : Str) : Bool := match sc.names.lookup x with | some .local => true | some .cell => true | some .free => true | _ => false
theorem visB_ok {sc : Scope} {x : Str} (h : visB sc x = true) : Vis sc x := by
  unfold visB at h
  split at h <;> first | exact .inl (by assumption) | exact .inr (.inl (by assumption)) | exact .inr (.inr (by assumption)) | cases h
def locB (sc : Scope) (x : Str) : Bool := match sc.names.lookup x with | some .local => true | some .cell => true | _ => false
theorem locB_ok {sc : Scope} {x : Str} (h : locB sc x = true) : Loc sc x := by
  unfold locB at h
  split at h <;> first | exact .inl (by assumption) | exact .inr (by assumption) | cases h
def gloB (sc : Scope) (x : Str) : Bool := decide (sc.names.lookup x = some .globalImplicit)
/-- the name at a slot, read -/
def nameB (S : Slots) (i : Nat) (x : Str) : Bool := decide (S.N[i]? = some x) && visB S.sc x && !(x == ("__debug__" : Str)) && !(x == ("__classdict__" : Str))
/-- .. written -/
def storeB (S : Slots) (i : Nat) (x : Str) : Bool := decide (S.N[i]? = some x) && (decide (S.sc.names.lookup x = some .local) || (decide (S.sc.names.lookup x = some .cell) && decide (S.raw.lookup x = some .cell)))
/-! ### what the program gives -/
structure Gam where
  /-- the defs: names, promises -/
  fns : List Str
  phi : Nat → PSp
  /-- calls with keywords: the def, the number of positional arguments, the keywords, the order -/
  kfs : List (Nat × Nat × List Str × List Nat)
  /-- classes made: name, __init__'s number -/
  mks : List (Str × Addr × Nat)
  /-- the module's constants -/
  cst : List (Str × PV)
  /-- attributes: the classes that have such fields and none of that name themselves -/
  flds : List (Str × List Addr)
  /-- classes for isinstance -/
  cls : List (Str × Addr)
  sub : Addr → Addr → Bool
  /-- calls with what is left out at its default: name, def, the defaults -/
  dfs : List (Str × Nat × List PV) := []
  /-- methods: name, class, def -/
  mts : List (Str × Addr × Nat) := []
  /-- built-ins that the module does not hide -/
  blt : List Str
structure Kin (X X' : Cx) : Prop where
  prog : X'.prog = X.prog
  w : X'.w = X.w
  K : X'.K = X.K
  mg : X'.mg = X.mg
  base : X'.base = X.base
  A : X'.A = X.A
  calm : X'.calm = X.calm
theorem Kin.refl {X : Cx} : Kin X X := ⟨rfl, rfl, rfl, rfl, rfl, rfl, rfl⟩
theorem Kin.trans {X Y Z : Cx} (a : Kin X Y) (b : Kin Y Z) : Kin X Z := ⟨b.prog.trans a.prog, b.w.trans a.w, b.K.trans a.K, b.mg.trans a.mg, b.base.trans a.base, b.A.trans a.A, b.calm.trans a.calm⟩
structure Glob (Γ : Gam) (X : Cx) : Prop where
  fn : ∀ (i : Nat) (x : Str), Γ.fns[i]? = some x → FnG X x (Γ.phi i)
  kf : ∀ (i f np : Nat) (ks : List Str) (perm : List Nat) (x : Str), Γ.kfs[i]? = some (f, np, ks, perm) → Γ.fns[f]? = some x → FnK X x np ks perm (Γ.phi f)
  mkc : ∀ (i : Nat) (x : Str) (C : Addr) (f : Nat), Γ.mks[i]? = some (x, C, f) → MkG X x C (Γ.phi f)
  cst : ∀ (i : Nat) (x : Str) (v : PV) (pos : Pos), Γ.cst[i]? = some (x, v) → Gl X x → SE X (.Name x pos) (wC v)
  fld : ∀ (i : Nat) (f : Str) (cs : List Addr), Γ.flds[i]? = some (f, cs) → ∀ C ∈ cs, Cls X.K C ∧ NoAttr X.K C f
  cls : ClsIs X.K (Γ.cls.map (·.2)) Γ.sub
  clsN : ∀ (i : Nat) (x : Str) (C : Addr) (pos : Pos), Γ.cls[i]? = some (x, C) → Gl X x → PE X (.Name x pos) (tC (.ref C))
  blt : ∀ x ∈ Γ.blt, X.mg x = none
  df : ∀ (i : Nat) (x : Str) (f : Nat) (dp : List PV), Γ.dfs[i]? = some (x, f, dp) → FnG X x (fun args G Q => Γ.phi f (args ++ dp) G Q)
  mt : ∀ (i : Nat) (x : Str) (C : Addr) (f : Nat), Γ.mts[i]? = some (x, C, f) → MtG X C x (Γ.phi f)
structure Good (Γ : Gam) (S : Slots) (X : Cx) : Prop where
  N : X.N = S.N
  nd : S.N.Nodup
  sc : X.env.scope = S.sc
  kind : S.sc.kind = .function
  raw : ∀ x, S.raw.lookup x = some .cell → X.fn x = true
  calm : X.calm = true
  units : X.A.units + 200 < cLine
  gd : X.A.guards = some []
  glob : ∀ X', Kin X X' → Glob Γ X'
section
variable {Γ : Gam} {S : Slots} {X : Cx}
theorem Good.g (g : Good Γ S X) : Glob Γ X := g.glob X .refl
theorem Good.gl (g : Good Γ S X) {x : Str} (h : gloB S.sc x = true) : Gl X x := by
  show X.env.scope.names.lookup x = some .globalImplicit
  rw [g.sc]
  exact of_decide_eq_true h
theorem Good.name (g : Good Γ S X) {i : Nat} {x : Str} {pos : Pos} (h : nameB S i x = true) : SE X (.Name x pos) (wVar i) := by
  unfold nameB at h
  simp only [Bool.and_eq_true, Bool.not_eq_true', decide_eq_true_eq] at h
  exact se_var (by rw [g.N]; exact h.1.1.1) (by rw [g.sc]; exact visB_ok h.1.1.2) h.1.2 h.2
theorem Good.store (g : Good Γ S X) {i : Nat} {x : Str} (h : storeB S i x = true) : X.N[i]? = some x ∧ Loc X.env.scope x ∧ (X.fn x = true ∨ X.env.scope.names.lookup x = some .local) := by
  unfold storeB at h
  simp only [Bool.and_eq_true, Bool.or_eq_true, decide_eq_true_eq] at h
  rw [g.N, g.sc]
  refine ⟨h.1, ?_⟩
  rcases h.2 with h | h
  · exact ⟨.inl h, .inr h⟩
  · exact ⟨.inr h.1, .inl (g.raw x h.2)⟩
/-- a comprehension's block -/
def Slots.blk (S : Slots) (scope : Scope) : Slots := ⟨S.N, relS scope S.sc, scope.names⟩
theorem Good.blk (g : Good Γ S X) {scope : Scope} {own : List (Str × Nat)} (ok : BlkOk X.N X.env.scope scope own) (s : Shared) (H : Hp) (C : Addr) (cl : List (Str × Addr)) (fp : List Addr) :
    Good Γ (S.blk scope) (X.blk s H scope (compEnvC scope cl C X.env) fp) := by
  refine ⟨g.N, g.nd, ?_, ok.kind, fun x h => ?_, g.calm, g.units, g.gd, fun X' k => g.glob X' ⟨k.prog, k.w, k.K, k.mg, k.base, k.A, k.calm⟩⟩
  · show relabel scope X.env = relS scope S.sc
    rw [← g.sc]; rfl
  · show (scope.names.lookup x == some .cell) = true
    have h' : scope.names.lookup x = some .cell := h
    rw [h']; rfl
theorem Good.nox (g : Good Γ S X) : Good Γ S X.nox := ⟨g.N, g.nd, g.sc, g.kind, g.raw, g.calm, g.units, g.gd, fun X' k => g.glob X' ⟨k.prog, k.w, k.K, k.mg, k.base, k.A, k.calm⟩⟩
end
/-! ### the syntax -/
inductive Cn where
  | non | bl (b : Bool) | int (i : Int) | str (x : Str)
def Cn.pv : Cn → PV
  | .non => .non
  | .bl b => .bl b
  | .int i => .int i
  | .str x => .str x
inductive Bi where
  | len | abs | int | bool | max2 | min2 | repr | str | sorted
inductive Ag where
  | all | any | max | min | sum
/-- a class that isinstance asks for: a built-in one, an own one by its place -/
inductive CTy where
  | b (n : String) | o (i : Nat)
mutual
inductive CE where
  | var (i : Nat) | con (v : Cn) | glob (i : Nat)
  | bin (op : Operator) (a b : CE) | neg (a : CE) | not (a : CE)
  | cmp (op : CmpOp) (a b : CE) | chain (op op' : CmpOp) (a b c : CE)
  | and (a b : CE) | or (a b : CE) | one (a : CE) | ifx (c : CE) (a b : CE)
  | tup (es : CEs) | lst (es : CEs)
  | idx (a b : CE) | slice (a : CE) (lo hi : CO) | rev (a : CE)
  | fld (i : Nat) (a : CE)
  | call (f : Nat) (es : CEs) | callK (k : Nat) (es ks : CEs) | make (m : Nat) (es : CEs)
  | bi (b : Bi) (es : CEs) | isi (a : CE) (ns : List CTy)
  | tupOf (q : CQ) | lstOf (q : CQ) | agg (k : Ag) (q : CQ) | maxC (q : CQ) (k : Int)
  | lc (own : List Nat) (it : CI) (g : CG) (t : COpt) (e : CE) | lcD (w : DW) (own : List Nat) (i : Nat) (g : CG) (t : COpt) (e : CE)
  | dc (tk : Bool) (own : List Nat) (it : CI) (g : CG) (t : COpt) (k v : CE)
  | tupS (es : CSt) | lstS (es : CSt) | callD (d : Nat) (es : CEs) | meth (m : Nat) (o : CE) (es : CEs) | tupD (e : CE)
  | tv (e : CE) | newT | newK | get2 (o k x : CE) | app (o e : CE)
/-- the tail of a BoolOp is its own -/
inductive CEs where
  | nil | cons (e : CE) (es : CEs)
/-- items, some with a star -/
inductive CSt where
  | nil | cons (e : CE) (es : CSt) | star (q : CQ) (es : CSt)
inductive COpt where
  | none | some (e : CE)
inductive CO where
  | none | some (e : CE)
/-- sequences -/
inductive CQ where
  | val (e : CE) | vals (e : CE) | disp (es : CEs) | tupd (es : CEs) | lc (own : List Nat) (it : CI) (g : CG) (t : COpt) (e : CE) | lcD (w : DW) (own : List Nat) (i : Nat) (g : CG) (t : COpt) (e : CE)
  | slice (a : CE) (lo hi : CO)
/-- what is walked -/
inductive CI where
  | val (e : CE) | r1 (a : CE) | r2 (a b : CE) | r3 (a b c : CE) | enum (e : CE) | zip (a b : CE)
/-- targets -/
inductive CG where
  | name (i : Nat) | tup (gs : CGs) | sub (o i : CE)
inductive CGs where
  | nil | cons (g : CG) (gs : CGs)
end
def wNeg (w : WE) : WE := fun ρ G Q => w ρ G fun v G1 => match v with | .int i => Q (.int (-i)) G1 | _ => False
theorem se_neg {X : Cx} {a : Expr} {pos : Pos} {w : WE} (ha : SE X a w) : SE X (.UnaryOp .USub a pos) (wNeg w) := PE.weak (pe_un un_neg ha) fun σ H Q h => by
  obtain ⟨ρ, G, QP, rs, rg, hw, hq⟩ := h
  refine ⟨ρ, G, _, rs, rg, hw, fun v G1 x H1 t1 rg1 rv1 hw1 => ?_⟩
  split at hw1
  · rw [RV] at rv1; subst rv1
    exact ⟨_, rfl, hq _ _ _ _ t1 rg1 (RV.intI _) hw1⟩
  · exact hw1.elim
def CGs.len : CGs → Nat
  | .nil => 0
  | .cons _ gs => gs.len + 1
def Bi.r : Bi → WB
  | .len => bLen | .abs => bAbs | .int => bInt | .bool => bBool | .max2 => bMax2 | .min2 => bMin2 | .repr => bRepr | .str => bStr | .sorted => bSorted
def Bi.name : Bi → Str
  | .len => "len" | .abs => "abs" | .int => "int" | .bool => "bool" | .max2 => "max" | .min2 => "min" | .repr => "repr" | .str => "str" | .sorted => "sorted"
def Ag.w : Ag → WL → WE
  | .all => wAll | .any => wAny | .max => wMax | .min => wMin | .sum => wSum
def Ag.name : Ag → Str
  | .all => "all" | .any => "any" | .max => "max" | .min => "min" | .sum => "sum"
def CTy.p (Γ : Gam) : CTy → PTy
  | .b n => .b n
  | .o i => .o ((Γ.cls[i]?.map (·.2)).getD 0)
mutual
def wE (Γ : Gam) : CE → WE
  | .var i => wVar i
  | .con v => wC v.pv
  | .glob i => wC ((Γ.cst[i]?.map (·.2)).getD .non)
  | .bin op a b => w2 (wBin op) (wE Γ a) (wE Γ b)
  | .neg a => wNeg (wE Γ a)
  | .not a => wNot (wE Γ a)
  | .cmp op a b => w2 (wCmp op) (wE Γ a) (wE Γ b)
  | .chain op op' a b c => w3 (wCmp op) (wCmp op') (wE Γ a) (wE Γ b) (wE Γ c)
  | .and a b => wAnd (wE Γ a) (wE Γ b)
  | .or a b => wOr (wE Γ a) (wE Γ b)
  | .one a => wE Γ a
  | .tv a => wE Γ a
  | .ifx c a b => wIf (wE Γ c) (wE Γ a) (wE Γ b)
  | .tup es => wTup (wEs Γ es)
  | .lst es => wLst (wEs Γ es)
  | .idx a b => w2 wIdx (wE Γ a) (wE Γ b)
  | .slice a lo hi => wSlice (wE Γ a) (wOp Γ lo) (wOp Γ hi)
  | .rev a => wRev (wE Γ a)
  | .fld i a => wFld ((Γ.flds[i]?.map (·.2)).getD []) ((Γ.flds[i]?.map (·.1)).getD "") (wE Γ a)
  | .call f es => wCall (Γ.phi f) (wEs Γ es)
  | .callK k es ks => (match Γ.kfs[k]? with | some (f, np, kk, perm) => wCallK (Γ.phi f) np kk.length perm (wEs Γ es) (wEs Γ ks) | none => fun _ _ _ => False)
  | .make m es => (match Γ.mks[m]? with | some (_, C, f) => wMake C (Γ.phi f) (wEs Γ es) | none => fun _ _ _ => False)
  | .bi b es => wB b.r (wEs Γ es)
  | .isi a ns => wIsi Γ.sub (Γ.cls.map (·.2)) (ns.map (CTy.p Γ)) (wE Γ a)
  | .tupOf q => wTupOf (wS Γ q)
  | .lstOf q => wLstOf (wS Γ q)
  | .agg k q => k.w (wQ Γ q)
  | .maxC q k => wMaxC (wQ Γ q) k
  | .lc own it g t e => wLc (wI Γ it) (wG Γ g) (wTs Γ t) (wE Γ e) own
  | .lcD w own i g t e => wLcD w i (wG Γ g) (wTs Γ t) (wE Γ e) own
  | .tupS es => wTup (wSi Γ es)
  | .lstS es => wLst (wSi Γ es)
  | .callD d es => (match Γ.dfs[d]? with | some (_, f, dp) => wCall (fun args G Q => Γ.phi f (args ++ dp) G Q) (wEs Γ es) | none => fun _ _ _ => False)
  | .meth m o es => (match Γ.mts[m]? with | some (x, C, f) => wMeth C x (Γ.phi f) (wE Γ o) (wEs Γ es) | none => fun _ _ _ => False)
  | .tupD a => wB bTupD (wCons (wE Γ a) wNil)
  | .dc tk own it g t k v => wDc tk (wI Γ it) (wG Γ g) (wTs Γ t) (wE Γ k) (wE Γ v) own
  | .newT => wNewT
  | .newK => wNewK
  | .get2 o k x => wGet2 (wE Γ o) (wE Γ k) (wE Γ x)
  | .app o e => wApp (wE Γ o) (wE Γ e)
def wEs (Γ : Gam) : CEs → WL
  | .nil => wNil
  | .cons e es => wCons (wE Γ e) (wEs Γ es)
def wSi (Γ : Gam) : CSt → WL
  | .nil => wNil
  | .cons e es => wCons (wE Γ e) (wSi Γ es)
  | .star q es => wStar (wS Γ q) (wSi Γ es)
def wTs (Γ : Gam) : COpt → WT
  | .none => tsYes
  | .some e => tsOne (wE Γ e)
def wOp (Γ : Gam) : CO → WO
  | .none => wNoP
  | .some e => wPart (wE Γ e)
/-- as a list -/
def wQ (Γ : Gam) : CQ → WL
  | .val e => wSeqL (wE Γ e)
  | .vals _ => fun _ _ _ => False
  | .disp es => wDisp (wEs Γ es)
  | .tupd _ => fun _ _ _ => False
  | .lc own it g t e => wLcQ (wI Γ it) (wG Γ g) (wTs Γ t) (wE Γ e) own
  | .lcD w own i g t e => wLcDQ w i (wG Γ g) (wTs Γ t) (wE Γ e) own
  | .slice a lo hi => wSliceQ (wE Γ a) (wOp Γ lo) (wOp Γ hi)
/-- as a list or a tuple -/
def wS (Γ : Gam) : CQ → WL
  | .val e => wSeqL (wE Γ e)
  | .vals e => wSeq (wE Γ e)
  | .disp es => wDisp (wEs Γ es)
  | .tupd es => wDisp (wEs Γ es)
  | .lc own it g t e => wLcQ (wI Γ it) (wG Γ g) (wTs Γ t) (wE Γ e) own
  | .lcD w own i g t e => wLcDQ w i (wG Γ g) (wTs Γ t) (wE Γ e) own
  | .slice a lo hi => wSliceS (wE Γ a) (wOp Γ lo) (wOp Γ hi)
def wI (Γ : Gam) : CI → WI
  | .val e => iVal (wE Γ e)
  | .r1 a => iR1 (wE Γ a)
  | .r2 a b => iR2 (wE Γ a) (wE Γ b)
  | .r3 a b c => iR3 (wE Γ a) (wE Γ b) (wE Γ c)
  | .enum e => iEnm (wE Γ e)
  | .zip a b => iZp (wE Γ a) (wE Γ b)
def wG (Γ : Gam) : CG → WG
  | .name i => gN i
  | .tup gs => gTp gs.len (wGs Γ gs)
  | .sub o i => gS (wE Γ o) (wE Γ i)
def wGs (Γ : Gam) : CGs → WGs
  | .nil => gZ
  | .cons g gs => gC (wG Γ g) (wGs Γ gs)
end
end Cl
set_option Elab.async false
set_option linter.all false
set_option maxRecDepth 100000
set_option maxHeartbeats 4000000
/-! The clean layer, part R: the check of expressions; what passes it has the reading. -/
namespace Cl
open PySem PySem.Spec PyProof.Rows L2 SkE
def cnB : Cn → Const → Bool
  | .non, .none => true
  | .bl b, .bool c => decide (b = c)
  | .int i, .int j => decide (i = j)
  | .str x, .str y => decide (x = y)
  | _, _ => false
def ownP (S : Slots) (own : List Nat) : List (Str × Nat) := own.map fun i => ((S.N[i]?).getD "", i)
theorem ownP_snd (S : Slots) (own : List Nat) : (ownP S own).map (·.2) = own := by
  unfold ownP
  induction own with
  | nil => rfl
  | cons i r ih => simp only [List.map_cons] at ih ⊢; rw [ih]
def noSlice : Expr → Bool
  | .Slice _ _ _ _ => false
  | _ => true
theorem noSlice_ok {y : Expr} {ov iv : Value} (h : noSlice y = true) : subscripted y false ov iv = operate [ov, iv] (getItem ov iv) := by
  cases y <;> first | rfl | exact Bool.noConfusion h
def bltB (Γ : Gam) (S : Slots) (n : Str) (x : Str) : Bool := decide (x = n) && gloB S.sc n && Γ.blt.contains n
def tyB (Γ : Gam) (S : Slots) : CTy → Expr → Bool
  | .b n, .Name x _ => decide (x = Str.ofString n) && gloB S.sc x && Γ.blt.contains x && bTests.contains n
  | .o i, .Name x _ => gloB S.sc x && (match Γ.cls[i]? with | some (y, _) => decide (y = x) && !(x == ("__debug__" : Str)) | none => false)
  | _, _ => false
def tysB (Γ : Gam) (S : Slots) : List CTy → List Expr → Bool
  | [], [] => true
  | t :: ts, e :: es => tyB Γ S t e && tysB Γ S ts es
  | _, _ => false
def kfB (Γ : Gam) (k : Nat) (x : Str) (kws : List Keyword) : Bool := match Γ.kfs[k]? with
  | some (f, _, kk, _) => decide (kws.filterMap (·.arg) = kk) && (match Γ.fns[f]? with | some y => decide (y = x) | none => false)
  | none => false
def fnB (Γ : Gam) (f : Nat) (x : Str) : Bool := match Γ.fns[f]? with | some y => decide (y = x) | none => false
def mkB (Γ : Gam) (m : Nat) (x : Str) : Bool := match Γ.mks[m]? with | some (y, _, _) => decide (y = x) | none => false
def fdB (Γ : Gam) (i : Nat) (f : Str) : Bool := match Γ.flds[i]? with | some (g, _) => decide (g = f) | none => false
def csB (Γ : Gam) (i : Nat) (x : Str) : Bool := match Γ.cst[i]? with | some (y, _) => decide (y = x) | none => false
def isiB (Γ : Gam) (S : Slots) (ns : List CTy) (c : Expr) : Bool := match ns, c with
  | [n], .Name y p => tyB Γ S n (.Name y p)
  | ns, .Tuple cs _ _ => decide (ns.length ≤ 100) && tysB Γ S ns cs
  | _, _ => false
mutual
/-- a target whose names are all at these places -/
def kGo (own : List Nat) : CG → Slots → Expr → Bool
  | .name i, S, e0 => (match e0 with | .Name x _ => storeB S i x && own.contains i | _ => false)
  | .tup gs, S, e0 => (match e0 with | .Tuple xs _ _ => kGos own gs S xs | _ => false)
  | .sub _ _, _, _ => false
def kGos (own : List Nat) : CGs → Slots → List Expr → Bool
  | .nil, S, e0 => (match e0 with | [] => true | _ => false)
  | .cons g gs, S, e0 => (match e0 with | x :: xs => noStar x && kGo own g S x && kGos own gs S xs | _ => false)
end
def dfB (Γ : Gam) (d : Nat) (x : Str) : Bool := match Γ.dfs[d]? with | some (y, _, _) => decide (y = x) | none => false
def mtB (Γ : Gam) (m : Nat) (x : Str) : Bool := match Γ.mts[m]? with | some (y, _, _) => decide (y = x) | none => false
/-- a dict at slot i is walked so -/
def dwB (w : DW) (S : Slots) (i : Nat) (tg iter : Expr) : Bool := match w with
  | .keys => (match iter with | .Name x _ => nameB S i x | _ => false)
  | .items => (match tg, iter with | .Tuple _ _ _, .Call (.Attribute (.Name x _) f ap) [] [] pos => decide (f = "items") && (ap.endLine == pos.line) && nameB S i x | _, _ => false)
mutual
def kE (Γ : Gam) : CE → Slots → Expr → Bool
  | .var i, S, e0 => (match e0 with | .Name x _ => nameB S i x | _ => false)
  | .con v, S, e0 => (match e0 with | .Constant c _ _ => cnB v c | _ => false)
  | .glob i, S, e0 => (match e0 with | .Name x _ => gloB S.sc x && csB Γ i x | _ => false)
  | .bin op a b, S, e0 => (match e0 with | .BinOp x op' y _ => decide (op = op') && kE Γ a S x && kE Γ b S y | _ => false)
  | .neg a, S, e0 => (match e0 with | .UnaryOp .USub x _ => kE Γ a S x | _ => false)
  | .not a, S, e0 => (match e0 with | .UnaryOp .Not x _ => kE Γ a S x | _ => false)
  | .cmp op a b, S, e0 => (match e0 with | .Compare x [op'] [y] _ => decide (op = op') && kE Γ a S x && kE Γ b S y && noSet y | _ => false)
  | .chain op op' a b c, S, e0 => (match e0 with | .Compare x [o1, o2] [y, z] _ => decide (op = o1) && decide (op' = o2) && kE Γ a S x && kE Γ b S y && kE Γ c S z && noSet z | _ => false)
  | .one a, S, e0 => (match e0 with | .BoolOp _ [x] _ => kE Γ a S x | _ => false)
  | .and a b, S, e0 => (match e0 with | .BoolOp .And (x :: y :: rest) pos => kE Γ a S x && kE Γ b S (.BoolOp .And (y :: rest) pos) | _ => false)
  | .or a b, S, e0 => (match e0 with | .BoolOp .Or (x :: y :: rest) pos => kE Γ a S x && kE Γ b S (.BoolOp .Or (y :: rest) pos) | _ => false)
  | .ifx c a b, S, e0 => (match e0 with | .IfExp x y z _ => kT Γ c S x && kE Γ a S y && kE Γ b S z | _ => false)
  | .tup es, S, e0 => (match e0 with | .Tuple xs _ _ => kEs Γ es S xs | _ => false)
  | .lst es, S, e0 => (match e0 with | .List xs _ => kEs Γ es S xs | _ => false)
  | .slice a lo hi, S, e0 => (match e0 with | .Subscript x (.Slice l h none _) _ => kE Γ a S x && kO Γ lo S l && kO Γ hi S h | _ => false)
  | .rev a, S, e0 => (match e0 with | .Subscript x (.Slice none none (some (.UnaryOp .USub (.Constant (.int k) _ _) _)) _) _ => decide (k = 1) && kE Γ a S x | _ => false)
  | .idx a b, S, e0 => (match e0 with | .Subscript x y _ => noSlice y && kE Γ a S x && kE Γ b S y | _ => false)
  | .fld i a, S, e0 => (match e0 with | .Attribute x f _ => kE Γ a S x && noCall0 x && fdB Γ i f | _ => false)
  | .tupS es, S, e0 => (match e0 with | .Tuple xs _ _ => kSi Γ es S xs | _ => false)
  | .lstS es, S, e0 => (match e0 with | .List xs _ => kSi Γ es S xs | _ => false)
  | .callD d es, S, e0 => (match e0 with | .Call (.Name x _) xs [] _ => gloB S.sc x && !(x == ("__debug__" : Str)) && dfB Γ d x && kEs Γ es S xs | _ => false)
  | .meth m o es, S, e0 => (match e0 with | .Call (.Attribute x f ap) xs [] pos => mtB Γ m f && noCall0 x && (ap.endLine == pos.line) && decide (xs.length < 30) && kE Γ o S x && kEs Γ es S xs | _ => false)
  | .tupD a, S, e0 => (match e0 with | .Call (.Name x _) [e] [] _ => bltB Γ S "tuple" x && noStar e && kE Γ a S e | _ => false)
  | .call f es, S, e0 => (match e0 with | .Call (.Name x _) xs [] _ => gloB S.sc x && !(x == ("__debug__" : Str)) && fnB Γ f x && kEs Γ es S xs | _ => false)
  | .callK k es ks, S, e0 => (match e0 with | .Call (.Name x _) xs kws _ => gloB S.sc x && !(x == ("__debug__" : Str)) && kfB Γ k x kws && kwsSome kws && kEs Γ es S xs && kKs Γ ks S kws | _ => false)
  | .make m es, S, e0 => (match e0 with | .Call (.Name x _) (x0 :: xs) [] _ => gloB S.sc x && !(x == ("__debug__" : Str)) && mkB Γ m x && kEs Γ es S (x0 :: xs) | _ => false)
  | .bi b es, S, e0 => (match e0 with | .Call (.Name x _) (x0 :: xs) [] _ => bltB Γ S b.name x && kEs Γ es S (x0 :: xs) | _ => false)
  | .isi a ns, S, e0 => (match e0 with | .Call (.Name x _) [e, c] [] _ => bltB Γ S "isinstance" x && kE Γ a S e && noStar e && isiB Γ S ns c | _ => false)
  | .tupOf q, S, e0 => (match e0 with | .Call (.Name x _) [e] [] _ => bltB Γ S "tuple" x && noStar e && kS Γ q S e | _ => false)
  | .lstOf q, S, e0 => (match e0 with | .Call (.Name x _) [e] [] _ => bltB Γ S "list" x && noStar e && kS Γ q S e | _ => false)
  | .agg k q, S, e0 => (match e0 with | .Call (.Name x _) [e] [] _ => bltB Γ S k.name x && noStar e && kQ Γ q S e | _ => false)
  | .maxC q k, S, e0 => (match e0 with | .Call (.Name x _) [e] [⟨some d, .Constant (.int j) _ _, _⟩] _ => bltB Γ S "max" x && noStar e && decide (d = "default") && decide (j = k) && kQ Γ q S e | _ => false)
  | .lc own it g t e, S, e0 => (match e0 with | .ListComp elt [⟨tg, iter, ifs, 0⟩] scope _ => blkC S.N S.sc scope (ownP S own) && kI Γ it S tg iter && noSet iter && kGo own g (S.blk scope) tg && kTs Γ t (S.blk scope) ifs && kE Γ e (S.blk scope) elt | _ => false)
  | .lcD w own i g t e, S, e0 => (match e0 with | .ListComp elt [⟨tg, iter, ifs, 0⟩] scope _ => blkC S.N S.sc scope (ownP S own) && dwB w S i tg iter && kGo own g (S.blk scope) tg && kTs Γ t (S.blk scope) ifs && kE Γ e (S.blk scope) elt | _ => false)
  | .dc _ own it g t k v, S, e0 => (match e0 with | .DictComp ke ve [⟨tg, iter, ifs, 0⟩] scope _ => blkC S.N S.sc scope (ownP S own) && kI Γ it S tg iter && noSet iter && kGo own g (S.blk scope) tg && kTs Γ t (S.blk scope) ifs && kE Γ k (S.blk scope) ke && kE Γ v (S.blk scope) ve | _ => false)
  | .tv _, _, _ => false
  | .newT, S, e0 => (match e0 with | .Dict [] [] _ => true | _ => false)
  | .newK, S, e0 => (match e0 with | .Dict [] [] _ => true | _ => false)
  | .get2 o k x, S, e0 => (match e0 with | .Call (.Attribute oe m apos) [ke, xe] [] cpos => decide (m = "get") && noCall0 oe && (apos.endLine == cpos.line) && noStar ke && noStar xe && kE Γ o S oe && kE Γ k S ke && kE Γ x S xe | _ => false)
  | .app o e, S, e0 => (match e0 with | .Call (.Attribute oe m apos) [x] [] cpos => decide (m = "append") && noCall0 oe && (apos.endLine == cpos.line) && noStar x && kE Γ o S oe && kE Γ e S x | _ => false)
/-- as a test -/
def kT (Γ : Gam) : CE → Slots → Expr → Bool
  | .not a, S, e0 => (match e0 with | .UnaryOp .Not x _ => kT Γ a S x | _ => false)
  | .one a, S, e0 => (match e0 with | .BoolOp _ [x] _ => kT Γ a S x | _ => false)
  | .and a b, S, e0 => (match e0 with | .BoolOp .And (x :: y :: rest) pos => kT Γ a S x && kT Γ b S (.BoolOp .And (y :: rest) pos) | _ => false)
  | .or a b, S, e0 => (match e0 with | .BoolOp .Or (x :: y :: rest) pos => kT Γ a S x && kT Γ b S (.BoolOp .Or (y :: rest) pos) | _ => false)
  | .cmp op a b, S, e0 => (match e0 with | .Compare x [op'] [y] _ => decide (op = op') && kE Γ a S x && kE Γ b S y && noSet y | _ => false)
  | .chain op op' a b c, S, e0 => (match e0 with | .Compare x [o1, o2] [y, z] _ => decide (op = o1) && decide (op' = o2) && kE Γ a S x && kE Γ b S y && kE Γ c S z && noSet z | _ => false)
  | .tv c, S, e => valTest e && kE Γ c S e
  | _, _, _ => false
def kEs (Γ : Gam) : CEs → Slots → List Expr → Bool
  | .nil, S, e0 => (match e0 with | [] => true | _ => false)
  | .cons e es, S, e0 => (match e0 with | x :: xs => noStar x && kE Γ e S x && kEs Γ es S xs | _ => false)
def kSi (Γ : Gam) : CSt → Slots → List Expr → Bool
  | .nil, S, e0 => (match e0 with | [] => true | _ => false)
  | .cons e es, S, e0 => (match e0 with | x :: xs => noStar x && kE Γ e S x && kSi Γ es S xs | _ => false)
  | .star q es, S, e0 => (match e0 with | .Starred x _ :: xs => kS Γ q S x && kSi Γ es S xs | _ => false)
def kKs (Γ : Gam) : CEs → Slots → List Keyword → Bool
  | .nil, S, e0 => (match e0 with | [] => true | _ => false)
  | .cons e es, S, e0 => (match e0 with | ⟨_, x, _⟩ :: xs => kE Γ e S x && kKs Γ es S xs | _ => false)
def kTs (Γ : Gam) : COpt → Slots → List Expr → Bool
  | .none, S, e0 => (match e0 with | [] => true | _ => false)
  | .some c, S, e0 => (match e0 with | [x] => kT Γ c S x | _ => false)
def kO (Γ : Gam) : CO → Slots → Option Expr → Bool
  | .none, S, e0 => (match e0 with | none => true | _ => false)
  | .some e, S, e0 => (match e0 with | some x => kE Γ e S x | _ => false)
def kQ (Γ : Gam) : CQ → Slots → Expr → Bool
  | .val e, S, x => kE Γ e S x
  | .disp es, S, e0 => (match e0 with | .List xs _ => kEs Γ es S xs | _ => false)
  | .lc own it g t e, S, e0 => (match e0 with | .ListComp elt [⟨tg, iter, ifs, 0⟩] scope _ => blkC S.N S.sc scope (ownP S own) && kI Γ it S tg iter && noSet iter && kGo own g (S.blk scope) tg && kTs Γ t (S.blk scope) ifs && kE Γ e (S.blk scope) elt | _ => false)
  | .lcD w own i g t e, S, e0 => (match e0 with | .ListComp elt [⟨tg, iter, ifs, 0⟩] scope _ => blkC S.N S.sc scope (ownP S own) && dwB w S i tg iter && kGo own g (S.blk scope) tg && kTs Γ t (S.blk scope) ifs && kE Γ e (S.blk scope) elt | _ => false)
  | .slice a lo hi, S, e0 => (match e0 with | .Subscript x (.Slice l h none _) _ => kE Γ a S x && kO Γ lo S l && kO Γ hi S h | _ => false)
  | .vals _, _, _ => false
  | .tupd _, _, _ => false
def kS (Γ : Gam) : CQ → Slots → Expr → Bool
  | .vals e, S, x => kE Γ e S x
  | .tupd es, S, e0 => (match e0 with | .Tuple xs _ _ => kEs Γ es S xs | _ => false)
  | .val e, S, x => kE Γ e S x
  | .disp es, S, e0 => (match e0 with | .List xs _ => kEs Γ es S xs | _ => false)
  | .lc own it g t e, S, e0 => (match e0 with | .ListComp elt [⟨tg, iter, ifs, 0⟩] scope _ => blkC S.N S.sc scope (ownP S own) && kI Γ it S tg iter && noSet iter && kGo own g (S.blk scope) tg && kTs Γ t (S.blk scope) ifs && kE Γ e (S.blk scope) elt | _ => false)
  | .lcD w own i g t e, S, e0 => (match e0 with | .ListComp elt [⟨tg, iter, ifs, 0⟩] scope _ => blkC S.N S.sc scope (ownP S own) && dwB w S i tg iter && kGo own g (S.blk scope) tg && kTs Γ t (S.blk scope) ifs && kE Γ e (S.blk scope) elt | _ => false)
  | .slice a lo hi, S, e0 => (match e0 with | .Subscript x (.Slice l h none _) _ => kE Γ a S x && kO Γ lo S l && kO Γ hi S h | _ => false)
def kI (Γ : Gam) : CI → Slots → Expr → Expr → Bool
  | .val e, S, _, x => kE Γ e S x
  | .r1 a, S, _, e0 => (match e0 with | .Call (.Name n _) [x] [] _ => bltB Γ S "range" n && noStar x && kE Γ a S x | _ => false)
  | .r2 a b, S, _, e0 => (match e0 with | .Call (.Name n _) [x, y] [] _ => bltB Γ S "range" n && noStar x && noStar y && kE Γ a S x && kE Γ b S y | _ => false)
  | .r3 a b c, S, _, e0 => (match e0 with | .Call (.Name n _) [x, y, z] [] _ => bltB Γ S "range" n && noStar x && noStar y && noStar z && kE Γ a S x && kE Γ b S y && kE Γ c S z | _ => false)
  | .enum a, S, t0, e0 => (match t0, e0 with | .Tuple _ _ _, .Call (.Name n _) [x] [] _ => bltB Γ S "enumerate" n && noStar x && kE Γ a S x | _, _ => false)
  | .zip a b, S, t0, e0 => (match t0, e0 with | .Tuple _ _ _, .Call (.Name n _) [x, y] [] _ => bltB Γ S "zip" n && noStar x && noStar y && kE Γ a S x && kE Γ b S y | _, _ => false)
end
mutual
def kG (Γ : Gam) : CG → Slots → Expr → Bool
  | .name i, S, e0 => (match e0 with | .Name x _ => storeB S i x | _ => false)
  | .tup gs, S, e0 => (match e0 with | .Tuple xs _ _ => kGs Γ gs S xs | _ => false)
  | .sub o i, S, e0 => (match e0 with | .Subscript x y _ => noSlice y && kE Γ o S x && kE Γ i S y | _ => false)
def kGs (Γ : Gam) : CGs → Slots → List Expr → Bool
  | .nil, S, e0 => (match e0 with | [] => true | _ => false)
  | .cons g gs, S, e0 => (match e0 with | x :: xs => noStar x && kG Γ g S x && kGs Γ gs S xs | _ => false)
end
end Cl
set_option Elab.async false
set_option linter.all false
set_option maxRecDepth 100000
set_option maxHeartbeats 4000000
/-! The clean layer, part S: what passes the check has its reading (expressions). -/
namespace Cl
open PySem PySem.Spec PyProof.Rows L2 SkE
theorem wIn_bl {neg : Bool} {x : PV} {a : Addr} {G : PG} {Q : WK} (h : wIn neg x a G Q) : wIn neg x a G fun v G' => ∃ b, v = .bl b ∧ Q (.bl b) G' := by
  unfold wIn at h ⊢
  split at h
  · split at h
    · exact ⟨h.1, _, rfl, h.2⟩
    · exact h.elim
  · split at h
    · exact ⟨h.1, _, rfl, h.2⟩
    · exact h.elim
  · exact ⟨_, rfl, h⟩
  · exact ⟨_, rfl, h⟩
  · obtain ⟨d, ds, e1, e2, e3, e4, q⟩ := h
    exact ⟨d, ds, e1, e2, e3, e4, _, rfl, q⟩
  · exact h.elim
theorem wCmp_bl {op : CmpOp} {x y : PV} {G : PG} {Q : WK} (h : wCmp op x y G Q) : wCmp op x y G fun v G' => ∃ b, v = .bl b ∧ Q (.bl b) G' := by
  unfold wCmp at h
  split at h
  · obtain ⟨d, e, h1, h2, h3, h4, q⟩ := h
    exact ⟨d, e, h1, h2, h3, h4, _, rfl, q⟩
  · obtain ⟨d, e, h1, h2, h3, h4, q⟩ := h
    exact ⟨d, e, h1, h2, h3, h4, _, rfl, q⟩
  · exact ⟨_, rfl, h⟩
  · exact ⟨_, rfl, h⟩
  · exact ⟨_, rfl, h⟩
  · exact ⟨_, rfl, h⟩
  · exact ⟨_, rfl, h⟩
  · exact ⟨_, rfl, h⟩
  · exact wIn_bl h
  · exact wIn_bl h
  · obtain ⟨d, ds, e1, e2, e3, e4, q⟩ := h
    exact ⟨d, ds, e1, e2, e3, e4, _, rfl, q⟩
  · obtain ⟨d, ds, e1, e2, e3, e4, q⟩ := h
    exact ⟨d, ds, e1, e2, e3, e4, _, rfl, q⟩
  · obtain ⟨d, e, e1, e2, e3, e4, e5, q⟩ := h
    exact ⟨d, e, e1, e2, e3, e4, e5, _, rfl, q⟩
  · obtain ⟨d, e, e1, e2, e3, e4, e5, q⟩ := h
    exact ⟨d, e, e1, e2, e3, e4, e5, _, rfl, q⟩
  · exact h.elim
section
variable {X : Cx} {a b c : Expr} {pos : Pos} {wa wb wc : WE}
theorem st_cmp {op : CmpOp} (hu : X.A.units + 200 < cLine) (ha : SE X a wa) (hb : SE X b wb) (hm : behindInMarks op b = false) : ST X (.Compare a [op] [b] pos) (w2 (wCmp op) wa wb) :=
  PT.weak (pt_cmpR (op_cmp hu op) ha hb hm) fun σ H Q h => by
  obtain ⟨ρ, G, QP, rs, rg, hw, hq⟩ := h
  refine ⟨ρ, G, _, rs, rg, hw, fun v G1 x H1 t1 rg1 rv1 hw1 => ?_⟩
  refine ⟨ρ, G1, _, rs.mono t1, rg1, hw1, fun u G2 y H2 t2 rg2 rv2 hw2 => ?_⟩
  refine ⟨v, u, G2, _, RV.mono t2 _ _ rv1, rv2, rg2, wCmp_bl hw2, fun z G' zx H' t3 rg3 rv3 q3 => ?_⟩
  obtain ⟨k, rfl, q⟩ := q3
  rw [RV] at rv3; subst rv3
  obtain ⟨k', e, q'⟩ := hq _ _ _ ((t1.trans t2).trans t3) rg3 q
  cases e
  exact ⟨k, rfl, q'⟩
theorem st_chain {op op' : CmpOp} (hu : X.A.units + 200 < cLine) (ha : SE X a wa) (hb : SE X b wb) (hc : SE X c wc) (hm : lastMarks [op, op'] [b, c] = false) : ST X (.Compare a [op, op'] [b, c] pos) (w3 (wCmp op) (wCmp op') wa wb wc) :=
  PT.weak (pt_chain (op_cmp hu op) (op_cmp hu op') ha hb hc hm) fun σ H Q h => by
  obtain ⟨ρ, G, QP, rs, rg, hw, hq⟩ := h
  refine ⟨ρ, G, _, rs, rg, hw, fun v G1 x H1 t1 rg1 rv1 hw1 => ?_⟩
  refine ⟨ρ, G1, _, rs.mono t1, rg1, hw1, fun u G2 y H2 t2 rg2 rv2 hw2 => ?_⟩
  refine ⟨v, u, G2, _, RV.mono t2 _ _ rv1, rv2, rg2, wCmp_bl hw2, fun z G3 zx H3 t3 rg3 rv3 q3 => ?_⟩
  obtain ⟨k, rfl, q⟩ := q3
  rw [RV] at rv3; subst rv3
  refine ⟨k, rfl, ?_⟩
  cases k with
  | true =>
    refine ifT ?_
    refine ⟨ρ, G3, _, rs.mono ((t1.trans t2).trans t3), rg3, q, fun u' G4 y' H4 t4 rg4 rv4 hw4 => ?_⟩
    refine ⟨u, u', G4, _, RV.mono (t3.trans t4) _ _ rv2, rv4, rg4, wCmp_bl hw4, fun z5 G5 zx5 H5 t5 rg5 rv5 q5 => ?_⟩
    obtain ⟨k5, rfl, q6⟩ := q5
    rw [RV] at rv5; subst rv5
    obtain ⟨k', e, q'⟩ := hq _ _ _ ((((t1.trans t2).trans t3).trans t4).trans t5) rg5 q6
    cases e
    exact ⟨k5, rfl, q'⟩
  | false =>
    refine ifF ?_
    obtain ⟨k', e, q'⟩ := hq _ _ _ ((t1.trans t2).trans t3) rg3 q
    cases e
    exact ⟨false, rfl, q'⟩
end
section
variable {Γ : Gam} {S : Slots} {X : Cx}
theorem Good.blt (g : Good Γ S X) {n x : Str} (h : bltB Γ S n x = true) : x = n ∧ Gl X n ∧ X.mg n = none := by
  unfold bltB at h
  simp only [Bool.and_eq_true, decide_eq_true_eq] at h
  refine ⟨h.1.1, g.gl h.1.2, g.g.blt n ?_⟩
  have := h.2
  exact List.contains_iff_mem.mp this
theorem Good.con (g : Good Γ S X) {v : Cn} {c : Const} {j : Nat} {pos : Pos} (h : cnB v c = true) : SE X (.Constant c j pos) (wC v.pv) := by
  unfold cnB at h
  split at h
  · exact se_const pe_non fun H => RV.nonI
  · rw [of_decide_eq_true h]; exact se_const pe_bl fun H => RV.blI _
  · rw [of_decide_eq_true h]; exact se_const pe_int fun H => RV.intI _
  · rw [of_decide_eq_true h]; exact se_const pe_str fun H => RV.strI _
  · cases h
theorem blt_types : ∀ n ∈ bTests, bootBuiltins (Str.ofString n) = some (.type n) ∧ Str.ofString n ≠ "__name__" ∧ (Str.ofString n == ("__debug__" : Str)) = false := by decide +kernel
theorem Good.ty (g : Good Γ S X) {t : CTy} {e : Expr} (h : tyB Γ S t e = true) : ClsName X (Γ.cls.map (·.2)) (t.p Γ) e := by
  unfold tyB at h
  split at h
  · rename_i n x p
    simp only [Bool.and_eq_true, decide_eq_true_eq] at h
    obtain ⟨⟨⟨rfl, h1⟩, h2⟩, h3⟩ := h
    have hn := List.contains_iff_mem.mp h3
    obtain ⟨b1, b2, b3⟩ := blt_types n hn
    exact ⟨pe_bltn (g.gl h1) (g.g.blt _ (List.contains_iff_mem.mp h2)) b1 rfl b2 b3, hn, fun es => rfl⟩
  · rename_i i x p
    simp only [Bool.and_eq_true] at h
    obtain ⟨h1, h2⟩ := h
    split at h2
    · rename_i y C e
      simp only [Bool.and_eq_true, decide_eq_true_eq] at h2
      obtain ⟨rfl, h3⟩ := h2
      have ep : (CTy.o i).p Γ = .o C := by show PTy.o ((Γ.cls[i]?.map (·.2)).getD 0) = _; rw [e]; rfl
      rw [ep]
      refine ⟨g.g.clsN i _ C p e (g.gl h1), ?_, fun es => rfl⟩
      exact List.mem_map.mpr ⟨_, List.mem_of_getElem? e, rfl⟩
    · cases h2
  · cases h
theorem Good.tys (g : Good Γ S X) : ∀ {ts : List CTy} {es : List Expr}, tysB Γ S ts es = true → Paired (ClsName X (Γ.cls.map (·.2))) (ts.map (CTy.p Γ)) es
  | [], [], _ => .nil
  | t :: ts, e :: es, h => by
    simp only [tysB, Bool.and_eq_true] at h
    exact .cons (g.ty h.1) (g.tys h.2)
  | [], _ :: _, h => by cases h
  | _ :: _, [], h => by cases h
theorem Good.fn (g : Good Γ S X) {f : Nat} {x : Str} (h : fnB Γ f x = true) : FnG X x (Γ.phi f) := by
  unfold fnB at h
  split at h
  · rename_i y e
    rw [of_decide_eq_true h] at e
    exact g.g.fn f x e
  · cases h
theorem Good.bi (g : Good Γ S X) {b : Bi} {x : Str} {p pos : Pos} {e : Expr} {es : List Expr} {wl : WL} (hb : bltB Γ S b.name x = true) (ha : SL X (e :: es) wl) (he : starEach (e :: es) X.env = (false, eval e X.env) :: starEach es X.env) (hpl : (backTo pos (starEach es X.env)).any (·.1) = false) :
    SE X (.Call (.Name x p) (e :: es) [] pos) (wB b.r wl) := by
  obtain ⟨rfl, hg, hm⟩ := g.blt hb
  cases b with
  | len => exact se_blt (bid := "len") call_len' hg hm (by decide +kernel) ha (by decide) (by decide) he hpl
  | abs => exact se_blt (bid := "abs") call_abs' hg hm (by decide +kernel) ha (by decide) (by decide) he hpl
  | int => exact se_blty (T := "int") call_int' hg hm (by decide +kernel) ha (by decide) (by decide) he hpl
  | bool => exact se_blty (T := "bool") call_bool' hg hm (by decide +kernel) ha (by decide) (by decide) he hpl
  | max2 => exact se_blt (bid := "max") (call_max2' g.calm) hg hm (by decide +kernel) ha (by decide) (by decide) he hpl
  | min2 => exact se_blt (bid := "min") (call_min2' g.calm) hg hm (by decide +kernel) ha (by decide) (by decide) he hpl
  | repr => exact se_blt (bid := "repr") (call_repr' g.gd g.units) hg hm (by decide +kernel) ha (by decide) (by decide) he hpl
  | str => exact se_blty (T := "str") call_str' hg hm (by decide +kernel) ha (by decide) (by decide) he hpl
  | sorted => exact se_blt (bid := "sorted") (call_sorted' g.calm g.units) hg hm (by decide +kernel) ha (by decide) (by decide) he hpl
theorem Good.agg (g : Good Γ S X) {k : Ag} {x : Str} {p pos : Pos} {e : Expr} {wl : WL} (hb : bltB Γ S k.name x = true) (ha : SQ X e wl) (hs : noStar e = true) :
    SE X (.Call (.Name x p) [e] [] pos) (k.w wl) := by
  obtain ⟨rfl, hg, hm⟩ := g.blt hb
  cases k with
  | all => exact se_all g.calm ha (star_ok hs) rfl hg hm
  | any => exact se_any g.calm ha (star_ok hs) rfl hg hm
  | max => exact se_max g.calm ha (star_ok hs) rfl hg hm
  | min => exact se_min g.calm ha (star_ok hs) rfl hg hm
  | sum => exact se_sum g.calm ha (star_ok hs) rfl hg hm
/-! targets of comprehensions -/
theorem assign_map : ∀ {e : Expr} {es : List Expr} {env : Env}, noStar e = true → (assignEach (e :: es) env).map (·.2) = assign e env :: (assignEach es env).map (·.2)
  | e, es, env, h => by cases e <;> first | rfl | exact Bool.noConfusion h
theorem assign_len : ∀ {es : List Expr} {env : Env}, (assignEach es env).length = es.length
  | [], _ => rfl
  | e :: es, env => by
    have ih := assign_len (es := es) (env := env)
    cases e <;> exact congrArg (· + 1) ih
theorem assign_star : ∀ {es : List Expr} {env : Env}, noStars es = true → (assignEach es env).findIdx? (·.1) = none
  | [], _, _ => rfl
  | e :: es, env, h => by
    simp only [noStars, Bool.and_eq_true] at h
    have ih := assign_star (env := env) h.2
    have e1 : assignEach (e :: es) env = (false, assign e env) :: assignEach es env := by
      have := h.1
      cases e <;> first | rfl | exact Bool.noConfusion this
    rw [e1, List.findIdx?_cons]
    simp [ih]
mutual
theorem snd_Go {own : List Nat} : ∀ (c : CG) (S : Slots) (X : Cx) (e : Expr), Good Γ S X → kGo own c S e = true → SGo X own e (wG Γ c)
  | .name i, S, X, e, g, h => by
    simp only [kGo] at h
    split at h
    · simp only [Bool.and_eq_true] at h
      obtain ⟨h1, h2, h3⟩ := g.store h.1
      rw [wG]
      exact sgo_name (by rw [g.N]; exact g.nd) h1 h2 h3 (List.contains_iff_mem.mp h.2)
    · cases h
  | .tup gs, S, X, e, g, h => by
    simp only [kGo] at h
    split at h
    · obtain ⟨h1, h2, h3⟩ := snd_Gos gs S X _ g h
      rw [wG]
      exact sgo_tup g.calm h1 (by rw [assign_len, h2]) (assign_star h3)
    · cases h
  | .sub _ _, S, X, e, g, h => by simp only [kGo] at h; cases h
theorem snd_Gos {own : List Nat} : ∀ (c : CGs) (S : Slots) (X : Cx) (es : List Expr), Good Γ S X → kGos own c S es = true → SGso X own es (wGs Γ c) ∧ es.length = c.len ∧ noStars es = true
  | .nil, S, X, es, g, h => by
    simp only [kGos] at h
    split at h
    · rw [wGs]; exact ⟨sgso_nil, rfl, rfl⟩
    · cases h
  | .cons c cs, S, X, es, g, h => by
    simp only [kGos] at h
    split at h
    · simp only [Bool.and_eq_true] at h
      obtain ⟨h1, h2, h3⟩ := snd_Gos cs S X _ g h.2
      rw [wGs]
      exact ⟨sgso_cons (snd_Go c S X _ g h.1.2) h1 (assign_map h.1.1), by simp [CGs.len, h2], by simp [noStars, h.1.1, h3]⟩
    · cases h
end
end
end Cl
set_option Elab.async false
set_option linter.all false
set_option maxRecDepth 100000
set_option maxHeartbeats 4000000
/-! The clean layer, part T: what passes the check has its reading (the induction). -/
namespace Cl
open PySem PySem.Spec PyProof.Rows L2 SkE
section
variable {Γ : Gam}
theorem own_ix {S : Slots} {own : List Nat} {w : List Nat → WE} {X : Cx} {e : Expr} (h : SE X e (w ((ownP S own).map (·.2)))) : SE X e (w own) := by rw [ownP_snd] at h; exact h
theorem own_q {S : Slots} {own : List Nat} {w : List Nat → WL} {X : Cx} {e : Expr} (h : SQ X e (w ((ownP S own).map (·.2)))) : SQ X e (w own) := by rw [ownP_snd] at h; exact h
theorem Good.pvar {S : Slots} {X : Cx} (g : Good Γ S X) {i : Nat} {x : Str} {pos : Pos} (h : nameB S i x = true) : PE X (.Name x pos) (tVar i) := by
  unfold nameB at h
  simp only [Bool.and_eq_true, Bool.not_eq_true', decide_eq_true_eq] at h
  exact pe_var (by rw [g.N]; exact h.1.1.1) (by rw [g.sc]; exact visB_ok h.1.1.2) h.1.2 h.2
theorem paired_ok {cs : List Addr} {X : Cx} : ∀ {ns : List PTy} {es : List Expr}, Paired (ClsName X cs) ns es → ∀ n ∈ ns, okTest cs n
  | _, _, .nil, n, hn => nomatch hn
  | _, _, .cons h r, n, hn => by
    rcases List.mem_cons.mp hn with e | hn
    · subst e; exact h.2.1
    · exact paired_ok r n hn
theorem sw_any1 {X : Cx} {a : Expr} {op : BoolOp} {pos : Pos} {wa : WE} (ha : ST X a wa) : SW X (.BoolOp op [a] pos) wa := by
  cases op with
  | And => exact sw_and1 ha
  | Or => exact sw_or1 ha
theorem callK_ok {S : Slots} {X : Cx} {x : Str} {p pos : Pos} {np : Nat} {kk : List Str} {perm : List Nat} {sp : PSp} {es : CEs} {xs : List Expr} {kws : List Keyword} {wk : WL} (g : Good Γ S X) (F : FnK X x np kk perm sp) (hg : Gl X x) (hd : (x == ("__debug__" : Str)) = false) (h4 : kwsSome kws = true) (h5 : kEs Γ es S xs = true) (h7 : kws.filterMap (·.arg) = kk)
    (k1 : SL X xs (wEs Γ es)) (k2 : noStars xs = true) (k3 : SK X kws wk) : SE X (.Call (.Name x p) xs kws pos) (wCallK sp np kk.length perm (wEs Γ es) wk) := by
  cases xs with
  | nil =>
    cases es with
    | nil =>
      rw [wEs]
      exact se_callK0 F hg k3 (kw_all h4) (by rw [kw_names]; exact h7) hd (by rw [kw_none h4]; rfl)
    | cons _ _ => simp only [kEs] at h5; cases h5
  | cons x xs =>
    have k2' := k2
    simp only [noStars, Bool.and_eq_true] at k2'
    exact se_callK F hg k1 k3 (kw_all h4) (by rw [kw_names]; exact h7) hd (star_ok k2'.1) (by rw [kw_none h4, plain_ok k2]; rfl)
def isOp : Expr → Bool
  | .BoolOp _ _ _ => true
  | _ => false
theorem dw_ok {S : Slots} {X : Cx} {w : DW} {i : Nat} {tg iter : Expr} (g : Good Γ S X) (h : dwB w S i tg iter = true) : PI X tg iter (iDX X.ky w (tVar i)) ∧ ∀ x, foldedSetIterable iter X.env x = pure x := by
  unfold dwB at h
  split at h
  · split at h
    · exact ⟨pi_keysX (g.pvar h), noSet_ok rfl⟩
    · cases h
  · split at h
    · simp only [Bool.and_eq_true, decide_eq_true_eq] at h
      obtain ⟨⟨rfl, h1⟩, h2⟩ := h
      exact ⟨pi_itemsX (g.pvar h2) (noCall0_ok rfl) h1, noSet_ok rfl⟩
    · cases h
theorem isOp_no {e : Expr} (h : isOp e = true) (h' : valTest e = true) : False := by
  cases e <;> first | exact Bool.noConfusion h | exact Bool.noConfusion h'
mutual
theorem snd_E : ∀ (c : CE) (S : Slots) (X : Cx) (e : Expr), Good Γ S X → kE Γ c S e = true → SE X e (wE Γ c)
  | .var i, S, X, e, g, h => by
    simp only [kE] at h
    split at h
    · rw [wE]; exact g.name h
    · cases h
  | .con v, S, X, e, g, h => by
    simp only [kE] at h
    split at h
    · rw [wE]; exact g.con h
    · cases h
  | .glob i, S, X, e, g, h => by
    simp only [kE] at h
    split at h
    · simp only [Bool.and_eq_true, csB] at h
      obtain ⟨h1, h2⟩ := h
      split at h2
      · rename_i y v e
        have ey := of_decide_eq_true h2
        subst ey
        rw [wE, e]
        exact g.g.cst i _ v _ e (g.gl h1)
      · cases h2
    · cases h
  | .bin op a b, S, X, e, g, h => by
    simp only [kE] at h
    split at h
    · simp only [Bool.and_eq_true, decide_eq_true_eq] at h
      obtain ⟨⟨rfl, h1⟩, h2⟩ := h
      rw [wE]; exact se_bin (op_bin _) (snd_E a S X _ g h1) (snd_E b S X _ g h2)
    · cases h
  | .neg a, S, X, e, g, h => by
    simp only [kE] at h
    split at h
    · rw [wE]; exact se_neg (snd_E a S X _ g h)
    · cases h
  | .not a, S, X, e, g, h => by
    simp only [kE] at h
    split at h
    · rw [wE]; exact se_not (snd_E a S X _ g h)
    · cases h
  | .cmp op a b, S, X, e, g, h => by
    simp only [kE] at h
    split at h
    · simp only [Bool.and_eq_true, decide_eq_true_eq] at h
      obtain ⟨⟨⟨rfl, h1⟩, h2⟩, h3⟩ := h
      rw [wE]; exact se_cmp (op_cmp g.units _) (snd_E a S X _ g h1) (snd_E b S X _ g h2) (noSet_mark h3)
    · cases h
  | .chain op op' a b c, S, X, e, g, h => by
    simp only [kE] at h
    split at h
    · simp only [Bool.and_eq_true, decide_eq_true_eq] at h
      obtain ⟨⟨⟨⟨⟨rfl, rfl⟩, h1⟩, h2⟩, h3⟩, h4⟩ := h
      rw [wE]; exact se_chain (op_cmp g.units _) (op_cmp g.units _) (snd_E a S X _ g h1) (snd_E b S X _ g h2) (snd_E c S X _ g h3) (noSet_mark h4)
    · cases h
  | .one a, S, X, e, g, h => by
    simp only [kE] at h
    split at h
    · rw [wE]; exact se_one (snd_E a S X _ g h)
    · cases h
  | .and a b, S, X, e, g, h => by
    simp only [kE] at h
    split at h
    · simp only [Bool.and_eq_true] at h
      rw [wE]; exact se_and (snd_E a S X _ g h.1) (snd_E b S X _ g h.2)
    · cases h
  | .or a b, S, X, e, g, h => by
    simp only [kE] at h
    split at h
    · simp only [Bool.and_eq_true] at h
      rw [wE]; exact se_or (snd_E a S X _ g h.1) (snd_E b S X _ g h.2)
    · cases h
  | .ifx c a b, S, X, e, g, h => by
    simp only [kE] at h
    split at h
    · simp only [Bool.and_eq_true] at h
      rw [wE]; exact se_if (snd_T c S X _ g h.1.1) (snd_E a S X _ g h.1.2) (snd_E b S X _ g h.2)
    · cases h
  | .tup es, S, X, e, g, h => by
    simp only [kE] at h
    split at h
    · rw [wE]; exact se_tup (snd_Es es S X _ g h).1
    · cases h
  | .lst es, S, X, e, g, h => by
    simp only [kE] at h
    split at h
    · rw [wE]; exact se_lst (snd_Es es S X _ g h).1
    · cases h
  | .slice a lo hi, S, X, e, g, h => by
    simp only [kE] at h
    split at h
    · simp only [Bool.and_eq_true] at h
      rw [wE]; exact se_slice (snd_E a S X _ g h.1.1) (snd_O lo S X _ g h.1.2) (snd_O hi S X _ g h.2)
    · cases h
  | .rev a, S, X, e, g, h => by
    simp only [kE] at h
    split at h
    · simp only [Bool.and_eq_true, decide_eq_true_eq] at h
      obtain ⟨rfl, h⟩ := h
      rw [wE]; exact se_rev (snd_E a S X _ g h)
    · cases h
  | .idx a b, S, X, e, g, h => by
    simp only [kE] at h
    split at h
    · simp only [Bool.and_eq_true] at h
      obtain ⟨⟨h1, h2⟩, h3⟩ := h
      rw [wE]
      exact PE.weak (pe_ix (ix_all g.units) (snd_E a S X _ g h2) (snd_E b S X _ g h3) fun ov iv => noSlice_ok h1) fun σ H Q q => tW2 q
    · cases h
  | .fld i a, S, X, e, g, h => by
    simp only [kE] at h
    split at h
    · simp only [Bool.and_eq_true, fdB] at h
      obtain ⟨⟨h1, h2⟩, h3⟩ := h
      split at h3
      · rename_i f cs e
        have ey := of_decide_eq_true h3
        subst ey
        rw [wE, e]
        exact se_fld (g.g.fld i _ cs e) (snd_E a S X _ g h1) (noCall0_ok h2)
      · cases h3
    · cases h
  | .call f es, S, X, e, g, h => by
    simp only [kE] at h
    split at h
    · simp only [Bool.and_eq_true, Bool.not_eq_true'] at h
      obtain ⟨⟨⟨h1, h2⟩, h3⟩, h4⟩ := h
      obtain ⟨k1, k2⟩ := snd_Es es S X _ g h4
      rw [wE]
      rename_i xs _
      cases xs with
      | nil =>
        cases es with
        | nil => rw [wEs]; exact se_call0 (g.fn h3) (g.gl h1) h2
        | cons _ _ => simp only [kEs] at h4; cases h4
      | cons x xs =>
        simp only [noStars, Bool.and_eq_true] at k2
        exact se_call (g.fn h3) (g.gl h1) k1 h2 (star_ok k2.1) (plain_ok k2.2)
    · cases h
  | .tupS es, S, X, e, g, h => by
    simp only [kE] at h
    split at h
    · rw [wE]; exact se_tup (snd_Si es S X _ g h)
    · cases h
  | .lstS es, S, X, e, g, h => by
    simp only [kE] at h
    split at h
    · rw [wE]; exact se_lst (snd_Si es S X _ g h)
    · cases h
  | .callD d es, S, X, e, g, h => by
    simp only [kE] at h
    split at h
    · simp only [Bool.and_eq_true, Bool.not_eq_true', dfB] at h
      obtain ⟨⟨⟨h1, h2⟩, h3⟩, h4⟩ := h
      obtain ⟨k1, k2⟩ := snd_Es es S X _ g h4
      rename_i xs _
      split at h3
      · rename_i y f dp ed
        have ey := of_decide_eq_true h3
        subst ey
        have F := g.g.df d _ f dp ed
        rw [wE, ed]
        cases xs with
        | nil =>
          cases es with
          | nil => rw [wEs]; exact se_call0 F (g.gl h1) h2
          | cons _ _ => simp only [kEs] at h4; cases h4
        | cons x xs =>
          simp only [noStars, Bool.and_eq_true] at k2
          exact se_call F (g.gl h1) k1 h2 (star_ok k2.1) (plain_ok k2.2)
      · cases h3
    · cases h
  | .meth m o es, S, X, e, g, h => by
    simp only [kE] at h
    split at h
    · simp only [Bool.and_eq_true, decide_eq_true_eq, mtB] at h
      obtain ⟨⟨⟨⟨⟨h1, h2⟩, h3⟩, h4⟩, h5⟩, h6⟩ := h
      obtain ⟨k1, k2⟩ := snd_Es es S X _ g h6
      rename_i xs _
      split at h1
      · rename_i y C f ed
        have ey := of_decide_eq_true h1
        subst ey
        have F := g.g.mt m _ C f ed
        rw [wE, ed]
        cases xs with
        | nil =>
          cases es with
          | nil => rw [wEs]; exact se_meth0 F (snd_E o S X _ g h5) (noCall0_ok h2) h3
          | cons _ _ => simp only [kEs] at h6; cases h6
        | cons x xs =>
          simp only [noStars, Bool.and_eq_true] at k2
          exact se_meth F (snd_E o S X _ g h5) k1 (noCall0_ok h2) h3 h4 (star_ok k2.1) (plain_ok k2.2)
      · cases h1
    · cases h
  | .tupD a, S, X, e, g, h => by
    simp only [kE] at h
    split at h
    · simp only [Bool.and_eq_true] at h
      obtain ⟨⟨h1, h2⟩, h3⟩ := h
      obtain ⟨rfl, hg, hm⟩ := g.blt h1
      rw [wE]
      exact se_blty (T := "tuple") (call_tupD g.calm) hg hm (by decide +kernel) (sl_cons (snd_E a S X _ g h3) sl_nil (star_ok h2)) (by decide) (by decide) (star_ok h2) rfl
    · cases h
  | .callK k es ks, S, X, e, g, h => by
    simp only [kE] at h
    split at h
    · simp only [Bool.and_eq_true, Bool.not_eq_true', kfB] at h
      obtain ⟨⟨⟨⟨⟨h1, h2⟩, h3⟩, h4⟩, h5⟩, h6⟩ := h
      obtain ⟨k1, k2⟩ := snd_Es es S X _ g h5
      have k3 := snd_Ks ks S X _ g h6
      split at h3
      · rename_i f np kk perm e
        simp only [Bool.and_eq_true, decide_eq_true_eq] at h3
        obtain ⟨h7, h8⟩ := h3
        split at h8
        · rename_i y ey
          have ez := of_decide_eq_true h8
          subst ez
          rw [wE, e]
          have F := g.g.kf k f np kk perm _ e ey
          exact callK_ok g F (g.gl h1) h2 h4 h5 h7 k1 k2 k3
        · cases h8
      · cases h3
    · cases h
  | .make m es, S, X, e, g, h => by
    simp only [kE] at h
    split at h
    · simp only [Bool.and_eq_true, Bool.not_eq_true', mkB] at h
      obtain ⟨⟨⟨h1, h2⟩, h3⟩, h4⟩ := h
      obtain ⟨k1, k2⟩ := snd_Es es S X _ g h4
      split at h3
      · rename_i y C f e
        have ez := of_decide_eq_true h3
        subst ez
        rw [wE, e]
        simp only [noStars, Bool.and_eq_true] at k2
        exact se_make (g.g.mkc m _ C f e) (g.gl h1) k1 h2 (star_ok k2.1) (plain_ok k2.2)
      · cases h3
    · cases h
  | .bi b es, S, X, e, g, h => by
    simp only [kE] at h
    split at h
    · simp only [Bool.and_eq_true] at h
      obtain ⟨k1, k2⟩ := snd_Es es S X _ g h.2
      simp only [noStars, Bool.and_eq_true] at k2
      rw [wE]
      exact g.bi h.1 k1 (star_ok k2.1) (plain_ok k2.2)
    · cases h
  | .isi a ns, S, X, e, g, h => by
    simp only [kE] at h
    split at h
    · simp only [Bool.and_eq_true] at h
      obtain ⟨⟨⟨h1, h2⟩, h3⟩, h4⟩ := h
      obtain ⟨rfl, hg, hm⟩ := g.blt h1
      have ha := snd_E a S X _ g h2
      rw [wE]
      unfold isiB at h4
      split at h4
      · exact se_isi1 g.g.cls ha (g.ty h4) hg hm (star_ok h3) rfl
      · simp only [Bool.and_eq_true, decide_eq_true_eq] at h4
        have pr := g.tys h4.2
        refine se_isiT g.g.cls ha pr (fun n hn => ?_) (by rw [List.length_map]; exact h4.1) hg hm (star_ok h3) rfl rfl
        exact paired_ok pr n hn
      · cases h4
    · cases h
  | .tupOf q, S, X, e, g, h => by
    simp only [kE] at h
    split at h
    · simp only [Bool.and_eq_true] at h
      obtain ⟨rfl, hg, hm⟩ := g.blt h.1.1
      rw [wE]
      exact se_tupOf (snd_S q S X _ g h.2) hg hm (star_ok h.1.2) rfl
    · cases h
  | .lstOf q, S, X, e, g, h => by
    simp only [kE] at h
    split at h
    · simp only [Bool.and_eq_true] at h
      obtain ⟨rfl, hg, hm⟩ := g.blt h.1.1
      rw [wE]
      exact se_lstOf (snd_S q S X _ g h.2) hg hm (star_ok h.1.2) rfl
    · cases h
  | .agg k q, S, X, e, g, h => by
    simp only [kE] at h
    split at h
    · simp only [Bool.and_eq_true] at h
      rw [wE]
      exact g.agg h.1.1 (snd_Q q S X _ g h.2) h.1.2
    · cases h
  | .maxC q k, S, X, e, g, h => by
    simp only [kE] at h
    split at h
    · simp only [Bool.and_eq_true, decide_eq_true_eq] at h
      obtain ⟨⟨⟨⟨h1, h2⟩, rfl⟩, rfl⟩, h3⟩ := h
      obtain ⟨rfl, hg, hm⟩ := g.blt h1
      rw [wE]
      refine se_maxC g.calm g.units (snd_Q q S X _ g h3) pe_int hg hm (star_ok h2) ?_ (plain_ok (by simp [noStars, h2])) rfl rfl rfl
      rw [star_ok h2]; rfl
    · cases h
  | .lc own it tg t c, S, X, e, g, h => by
    simp only [kE] at h
    split at h
    · simp only [Bool.and_eq_true] at h
      obtain ⟨⟨⟨⟨⟨h1, h2⟩, h3⟩, h4⟩, h5⟩, h6⟩ := h
      rw [wE]
      have ok := blkOk_by h1
      rw [← g.N, ← g.sc] at ok
      refine own_ix (S := S) (w := fun l => wLc _ _ _ _ l) (se_lc g.calm (by rw [g.N]; exact g.nd) ⟨snd_I it S X _ _ g h2, ok, fun s H C cl fp => ?_, fun s H C cl fp => snd_Ts t _ _ _ (g.blk ok s H C cl fp) h5, fun s H C cl fp => snd_E c _ _ _ (g.blk ok s H C cl fp) h6, noSet_ok h3⟩)
      rw [ownP_snd]
      exact snd_Go tg _ _ _ (g.blk ok s H C cl fp) h4
    · cases h
  | .lcD w own i tg t c, S, X, e, g, h => by
    simp only [kE] at h
    split at h
    · simp only [Bool.and_eq_true] at h
      obtain ⟨⟨⟨⟨h1, h2⟩, h4⟩, h5⟩, h6⟩ := h
      rw [wE]
      have ok := blkOk_by h1
      rw [← g.N, ← g.sc] at ok
      refine own_ix (S := S) (w := fun l => wLcD _ _ _ _ _ l) (se_lcD g.calm (by rw [g.N]; exact g.nd) (dw_ok g h2).1 ok (fun s H C cl fp => ?_) (fun s H C cl fp => snd_Ts t _ _ _ (g.blk ok s H C cl fp) h5) (fun s H C cl fp => snd_E c _ _ _ (g.blk ok s H C cl fp) h6) (dw_ok g h2).2)
      rw [ownP_snd]
      exact snd_Go tg _ _ _ (g.blk ok s H C cl fp) h4
    · cases h
  | .dc tk own it tg t k v, S, X, e, g, h => by
    simp only [kE] at h
    split at h
    · simp only [Bool.and_eq_true] at h
      obtain ⟨⟨⟨⟨⟨⟨h1, h2⟩, h3⟩, h4⟩, h5⟩, h6⟩, h7⟩ := h
      rw [wE]
      have ok := blkOk_by h1
      rw [← g.N, ← g.sc] at ok
      refine own_ix (S := S) (w := fun l => wDc _ _ _ _ _ _ l) (se_dc g.calm g.units (by rw [g.N]; exact g.nd) (snd_I it S X _ _ g h2) ok (fun s H C cl fp => ?_) (fun s H C cl fp => snd_Ts t _ _ _ (g.blk ok s H C cl fp) h5) (fun s H C cl fp => snd_E k _ _ _ (g.blk ok s H C cl fp) h6) (fun s H C cl fp => snd_E v _ _ _ (g.blk ok s H C cl fp) h7) (noSet_ok h3))
      rw [ownP_snd]
      exact snd_Go tg _ _ _ (g.blk ok s H C cl fp) h4
    · cases h
  | .tv _, S, X, e, g, h => by simp only [kE] at h; cases h
  | .newT, S, X, e, g, h => by
    simp only [kE] at h
    split at h
    · rw [wE]; exact se_dnewT
    · cases h
  | .newK, S, X, e, g, h => by
    simp only [kE] at h
    split at h
    · rw [wE]; exact se_dnewK
    · cases h
  | .get2 o k x, S, X, e, g, h => by
    simp only [kE] at h
    split at h
    · simp only [Bool.and_eq_true, decide_eq_true_eq] at h
      obtain ⟨⟨⟨⟨⟨⟨⟨rfl, h1⟩, h2⟩, h3⟩, h4⟩, h5⟩, h6⟩, h7⟩ := h
      rw [wE]
      refine se_get2 g.units (snd_E o S X _ g h5) (snd_E k S X _ g h6) (snd_E x S X _ g h7) ⟨noCall0_ok h1, ?_, h2, ?_⟩
      · rw [star_ok h3, star_ok h4]; rfl
      · rw [star_ok h3, star_ok h4]; rfl
    · cases h
  | .app o x, S, X, e, g, h => by
    simp only [kE] at h
    split at h
    · simp only [Bool.and_eq_true, decide_eq_true_eq] at h
      obtain ⟨⟨⟨⟨⟨rfl, h1⟩, h2⟩, h3⟩, h4⟩, h5⟩ := h
      rw [wE]
      have ho := snd_E o S X _ g h4
      have hx := snd_E x S X _ g h5
      refine se_append ho hx (star_ok h3) (noCall0_ok h1) h2 (plain_ok (by simp [noStars, h3])) ?_
      exact pe_bm PySem.F.plainAttrs_list PySem.F.slot_list_append PySem.F.type_list_append mt_append ho (pa_cons hx pa_nil (star_ok h3)) (noCall0_ok h1) (by rw [star_ok h3]; rfl) h2 (star_ok h3) rfl
    · cases h
theorem snd_T : ∀ (c : CE) (S : Slots) (X : Cx) (e : Expr), Good Γ S X → kT Γ c S e = true → ST X e (wE Γ c)
  | .not a, S, X, e, g, h => by
    simp only [kT] at h
    split at h
    · rw [wE]; exact st_not (snd_T a S X _ g h)
    · cases h
  | .one a, S, X, e, g, h => by
    simp only [kT] at h
    split at h
    · rw [wE]; exact PW.pt (sw_any1 (snd_T a S X _ g h))
    · cases h
  | .and a b, S, X, e, g, h => by
    simp only [kT] at h
    split at h
    · simp only [Bool.and_eq_true] at h
      rw [wE]; exact PW.pt (sw_and (snd_T a S X _ g h.1) (snd_W b S X _ g h.2 (by rfl)))
    · cases h
  | .or a b, S, X, e, g, h => by
    simp only [kT] at h
    split at h
    · simp only [Bool.and_eq_true] at h
      rw [wE]; exact PW.pt (sw_or (snd_T a S X _ g h.1) (snd_W b S X _ g h.2 (by rfl)))
    · cases h
  | .cmp op a b, S, X, e, g, h => by
    simp only [kT] at h
    split at h
    · simp only [Bool.and_eq_true, decide_eq_true_eq] at h
      obtain ⟨⟨⟨rfl, h1⟩, h2⟩, h3⟩ := h
      rw [wE]; exact st_cmp g.units (snd_E a S X _ g h1) (snd_E b S X _ g h2) (noSet_mark h3)
    · cases h
  | .chain op op' a b c, S, X, e, g, h => by
    simp only [kT] at h
    split at h
    · simp only [Bool.and_eq_true, decide_eq_true_eq] at h
      obtain ⟨⟨⟨⟨⟨rfl, rfl⟩, h1⟩, h2⟩, h3⟩, h4⟩ := h
      rw [wE]; exact st_chain g.units (snd_E a S X _ g h1) (snd_E b S X _ g h2) (snd_E c S X _ g h3) (noSet_mark h4)
    · cases h
  | .tv c, S, X, e, g, h => by
    simp only [kT, Bool.and_eq_true] at h
    rw [wE]; exact st_val (snd_E c S X _ g h.2) (valTest_ok h.1)
  | .var _, S, X, e, g, h => by simp only [kT] at h; cases h
  | .con _, S, X, e, g, h => by simp only [kT] at h; cases h
  | .glob _, S, X, e, g, h => by simp only [kT] at h; cases h
  | .bin _ _ _, S, X, e, g, h => by simp only [kT] at h; cases h
  | .neg _, S, X, e, g, h => by simp only [kT] at h; cases h
  | .ifx _ _ _, S, X, e, g, h => by simp only [kT] at h; cases h
  | .tup _, S, X, e, g, h => by simp only [kT] at h; cases h
  | .lst _, S, X, e, g, h => by simp only [kT] at h; cases h
  | .idx _ _, S, X, e, g, h => by simp only [kT] at h; cases h
  | .slice _ _ _, S, X, e, g, h => by simp only [kT] at h; cases h
  | .rev _, S, X, e, g, h => by simp only [kT] at h; cases h
  | .fld _ _, S, X, e, g, h => by simp only [kT] at h; cases h
  | .call _ _, S, X, e, g, h => by simp only [kT] at h; cases h
  | .callK _ _ _, S, X, e, g, h => by simp only [kT] at h; cases h
  | .make _ _, S, X, e, g, h => by simp only [kT] at h; cases h
  | .bi _ _, S, X, e, g, h => by simp only [kT] at h; cases h
  | .isi _ _, S, X, e, g, h => by simp only [kT] at h; cases h
  | .tupOf _, S, X, e, g, h => by simp only [kT] at h; cases h
  | .lstOf _, S, X, e, g, h => by simp only [kT] at h; cases h
  | .agg _ _, S, X, e, g, h => by simp only [kT] at h; cases h
  | .maxC _ _, S, X, e, g, h => by simp only [kT] at h; cases h
  | .lc _ _ _ _ _, S, X, e, g, h => by simp only [kT] at h; cases h
  | .lcD _ _ _ _ _ _, S, X, e, g, h => by simp only [kT] at h; cases h
  | .tupS _, S, X, e, g, h => by simp only [kT] at h; cases h
  | .lstS _, S, X, e, g, h => by simp only [kT] at h; cases h
  | .callD _ _, S, X, e, g, h => by simp only [kT] at h; cases h
  | .meth _ _ _, S, X, e, g, h => by simp only [kT] at h; cases h
  | .tupD _, S, X, e, g, h => by simp only [kT] at h; cases h
  | .dc _ _ _ _ _ _ _, S, X, e, g, h => by simp only [kT] at h; cases h
  | .newT, S, X, e, g, h => by simp only [kT] at h; cases h
  | .newK, S, X, e, g, h => by simp only [kT] at h; cases h
  | .get2 _ _ _, S, X, e, g, h => by simp only [kT] at h; cases h
  | .app _ _, S, X, e, g, h => by simp only [kT] at h; cases h
/-- the tail of and, or -/
theorem snd_W : ∀ (c : CE) (S : Slots) (X : Cx) (e : Expr), Good Γ S X → kT Γ c S e = true → isOp e = true → SW X e (wE Γ c)
  | .one a, S, X, e, g, h, _ => by
    simp only [kT] at h
    split at h
    · rw [wE]; exact sw_any1 (snd_T a S X _ g h)
    · cases h
  | .and a b, S, X, e, g, h, _ => by
    simp only [kT] at h
    split at h
    · simp only [Bool.and_eq_true] at h
      rw [wE]; exact sw_and (snd_T a S X _ g h.1) (snd_W b S X _ g h.2 (by rfl))
    · cases h
  | .or a b, S, X, e, g, h, _ => by
    simp only [kT] at h
    split at h
    · simp only [Bool.and_eq_true] at h
      rw [wE]; exact sw_or (snd_T a S X _ g h.1) (snd_W b S X _ g h.2 (by rfl))
    · cases h
  | .tv c, S, X, e, g, h, ho => by
    simp only [kT, Bool.and_eq_true] at h
    exact (isOp_no ho h.1).elim
  | .not a, S, X, e, g, h, ho => by
    simp only [kT] at h
    split at h
    · cases ho
    · cases h
  | .cmp op a b, S, X, e, g, h, ho => by
    simp only [kT] at h
    split at h
    · cases ho
    · cases h
  | .chain op op' a b c, S, X, e, g, h, ho => by
    simp only [kT] at h
    split at h
    · cases ho
    · cases h
  | .var _, S, X, e, g, h, _ => by simp only [kT] at h; cases h
  | .con _, S, X, e, g, h, _ => by simp only [kT] at h; cases h
  | .glob _, S, X, e, g, h, _ => by simp only [kT] at h; cases h
  | .bin _ _ _, S, X, e, g, h, _ => by simp only [kT] at h; cases h
  | .neg _, S, X, e, g, h, _ => by simp only [kT] at h; cases h
  | .ifx _ _ _, S, X, e, g, h, _ => by simp only [kT] at h; cases h
  | .tup _, S, X, e, g, h, _ => by simp only [kT] at h; cases h
  | .lst _, S, X, e, g, h, _ => by simp only [kT] at h; cases h
  | .idx _ _, S, X, e, g, h, _ => by simp only [kT] at h; cases h
  | .slice _ _ _, S, X, e, g, h, _ => by simp only [kT] at h; cases h
  | .rev _, S, X, e, g, h, _ => by simp only [kT] at h; cases h
  | .fld _ _, S, X, e, g, h, _ => by simp only [kT] at h; cases h
  | .call _ _, S, X, e, g, h, _ => by simp only [kT] at h; cases h
  | .callK _ _ _, S, X, e, g, h, _ => by simp only [kT] at h; cases h
  | .make _ _, S, X, e, g, h, _ => by simp only [kT] at h; cases h
  | .bi _ _, S, X, e, g, h, _ => by simp only [kT] at h; cases h
  | .isi _ _, S, X, e, g, h, _ => by simp only [kT] at h; cases h
  | .tupOf _, S, X, e, g, h, _ => by simp only [kT] at h; cases h
  | .lstOf _, S, X, e, g, h, _ => by simp only [kT] at h; cases h
  | .agg _ _, S, X, e, g, h, _ => by simp only [kT] at h; cases h
  | .maxC _ _, S, X, e, g, h, _ => by simp only [kT] at h; cases h
  | .lc _ _ _ _ _, S, X, e, g, h, _ => by simp only [kT] at h; cases h
  | .lcD _ _ _ _ _ _, S, X, e, g, h, _ => by simp only [kT] at h; cases h
  | .tupS _, S, X, e, g, h, _ => by simp only [kT] at h; cases h
  | .lstS _, S, X, e, g, h, _ => by simp only [kT] at h; cases h
  | .callD _ _, S, X, e, g, h, _ => by simp only [kT] at h; cases h
  | .meth _ _ _, S, X, e, g, h, _ => by simp only [kT] at h; cases h
  | .tupD _, S, X, e, g, h, _ => by simp only [kT] at h; cases h
  | .dc _ _ _ _ _ _ _, S, X, e, g, h, _ => by simp only [kT] at h; cases h
  | .newT, S, X, e, g, h, _ => by simp only [kT] at h; cases h
  | .newK, S, X, e, g, h, _ => by simp only [kT] at h; cases h
  | .get2 _ _ _, S, X, e, g, h, _ => by simp only [kT] at h; cases h
  | .app _ _, S, X, e, g, h, _ => by simp only [kT] at h; cases h
theorem snd_Es : ∀ (c : CEs) (S : Slots) (X : Cx) (es : List Expr), Good Γ S X → kEs Γ c S es = true → SL X es (wEs Γ c) ∧ noStars es = true
  | .nil, S, X, es, g, h => by
    simp only [kEs] at h
    split at h
    · rw [wEs]; exact ⟨sl_nil, rfl⟩
    · cases h
  | .cons c cs, S, X, es, g, h => by
    simp only [kEs] at h
    split at h
    · simp only [Bool.and_eq_true] at h
      obtain ⟨h1, h2⟩ := snd_Es cs S X _ g h.2
      rw [wEs]
      exact ⟨sl_cons (snd_E c S X _ g h.1.2) h1 (star_ok h.1.1), by simp [noStars, h.1.1, h2]⟩
    · cases h
theorem snd_Si : ∀ (c : CSt) (S : Slots) (X : Cx) (es : List Expr), Good Γ S X → kSi Γ c S es = true → SL X es (wSi Γ c)
  | .nil, S, X, es, g, h => by
    simp only [kSi] at h
    split at h
    · rw [wSi]; exact sl_nil
    · cases h
  | .cons c cs, S, X, es, g, h => by
    simp only [kSi] at h
    split at h
    · simp only [Bool.and_eq_true] at h
      rw [wSi]
      exact sl_cons (snd_E c S X _ g h.1.2) (snd_Si cs S X _ g h.2) (star_ok h.1.1)
    · cases h
  | .star q cs, S, X, es, g, h => by
    simp only [kSi] at h
    split at h
    · simp only [Bool.and_eq_true] at h
      rw [wSi]
      exact sl_star (snd_S q S X _ g h.1) (snd_Si cs S X _ g h.2)
    · cases h
theorem snd_Ks : ∀ (c : CEs) (S : Slots) (X : Cx) (es : List Keyword), Good Γ S X → kKs Γ c S es = true → SK X es (wEs Γ c)
  | .nil, S, X, es, g, h => by
    simp only [kKs] at h
    split at h
    · rw [wEs]; exact sk_nil
    · cases h
  | .cons c cs, S, X, es, g, h => by
    simp only [kKs] at h
    split at h
    · simp only [Bool.and_eq_true] at h
      rw [wEs]
      exact sk_cons (snd_E c S X _ g h.1) (snd_Ks cs S X _ g h.2)
    · cases h
theorem snd_Ts : ∀ (c : COpt) (S : Slots) (X : Cx) (es : List Expr), Good Γ S X → kTs Γ c S es = true → STs X es (wTs Γ c)
  | .none, S, X, es, g, h => by
    simp only [kTs] at h
    split at h
    · rw [wTs]; exact sts_nil
    · cases h
  | .some c, S, X, es, g, h => by
    simp only [kTs] at h
    split at h
    · rw [wTs]; exact sts_one (snd_T c S X _ g h)
    · cases h
theorem snd_O : ∀ (c : CO) (S : Slots) (X : Cx) (e : Option Expr), Good Γ S X → kO Γ c S e = true → SO X e (wOp Γ c)
  | .none, S, X, e, g, h => by
    simp only [kO] at h
    split at h
    · rw [wOp]; exact so_none
    · cases h
  | .some c, S, X, e, g, h => by
    simp only [kO] at h
    split at h
    · rw [wOp]; exact so_some (snd_E c S X _ g h)
    · cases h
theorem snd_Q : ∀ (c : CQ) (S : Slots) (X : Cx) (e : Expr), Good Γ S X → kQ Γ c S e = true → SQ X e (wQ Γ c)
  | .val c, S, X, e, g, h => by
    simp only [kQ] at h
    rw [wQ]; exact sq_val (snd_E c S X _ g h)
  | .disp es, S, X, e, g, h => by
    simp only [kQ] at h
    split at h
    · rw [wQ]; exact sq_disp (snd_Es es S X _ g h).1
    · cases h
  | .lc own it tg t c, S, X, e, g, h => by
    simp only [kQ] at h
    split at h
    · simp only [Bool.and_eq_true] at h
      obtain ⟨⟨⟨⟨⟨h1, h2⟩, h3⟩, h4⟩, h5⟩, h6⟩ := h
      rw [wQ]
      have ok := blkOk_by h1
      rw [← g.N, ← g.sc] at ok
      refine own_q (S := S) (w := fun l => wLcQ _ _ _ _ l) (sq_lc g.calm (by rw [g.N]; exact g.nd) ⟨snd_I it S X _ _ g h2, ok, fun s H C cl fp => ?_, fun s H C cl fp => snd_Ts t _ _ _ (g.blk ok s H C cl fp) h5, fun s H C cl fp => snd_E c _ _ _ (g.blk ok s H C cl fp) h6, noSet_ok h3⟩)
      rw [ownP_snd]
      exact snd_Go tg _ _ _ (g.blk ok s H C cl fp) h4
    · cases h
  | .lcD w own i tg t c, S, X, e, g, h => by
    simp only [kQ] at h
    split at h
    · simp only [Bool.and_eq_true] at h
      obtain ⟨⟨⟨⟨h1, h2⟩, h4⟩, h5⟩, h6⟩ := h
      rw [wQ]
      have ok := blkOk_by h1
      rw [← g.N, ← g.sc] at ok
      refine own_q (S := S) (w := fun l => wLcDQ _ _ _ _ _ l) (sq_lcD g.calm (by rw [g.N]; exact g.nd) (dw_ok g h2).1 ok (fun s H C cl fp => ?_) (fun s H C cl fp => snd_Ts t _ _ _ (g.blk ok s H C cl fp) h5) (fun s H C cl fp => snd_E c _ _ _ (g.blk ok s H C cl fp) h6) (dw_ok g h2).2)
      rw [ownP_snd]
      exact snd_Go tg _ _ _ (g.blk ok s H C cl fp) h4
    · cases h
  | .slice a lo hi, S, X, e, g, h => by
    simp only [kQ] at h
    split at h
    · simp only [Bool.and_eq_true] at h
      rw [wQ]; exact sq_slice (snd_E a S X _ g h.1.1) (snd_O lo S X _ g h.1.2) (snd_O hi S X _ g h.2)
    · cases h
  | .vals _, S, X, e, g, h => by simp only [kQ] at h; cases h
  | .tupd _, S, X, e, g, h => by simp only [kQ] at h; cases h
theorem snd_S : ∀ (c : CQ) (S : Slots) (X : Cx) (e : Expr), Good Γ S X → kS Γ c S e = true → SS X e (wS Γ c)
  | .vals c, S, X, e, g, h => by
    simp only [kS] at h
    rw [wS]; exact ss_val (snd_E c S X _ g h)
  | .tupd es, S, X, e, g, h => by
    simp only [kS] at h
    split at h
    · rw [wS]; exact ss_tup (snd_Es es S X _ g h).1
    · cases h
  | .val c, S, X, e, g, h => by
    simp only [kS] at h
    rw [wS]; exact ss_sq (sq_val (snd_E c S X _ g h))
  | .disp es, S, X, e, g, h => by
    simp only [kS] at h
    split at h
    · rw [wS]; exact ss_sq (sq_disp (snd_Es es S X _ g h).1)
    · cases h
  | .lc own it tg t c, S, X, e, g, h => by
    simp only [kS] at h
    split at h
    · simp only [Bool.and_eq_true] at h
      obtain ⟨⟨⟨⟨⟨h1, h2⟩, h3⟩, h4⟩, h5⟩, h6⟩ := h
      rw [wS]
      have ok := blkOk_by h1
      rw [← g.N, ← g.sc] at ok
      refine ss_sq (own_q (S := S) (w := fun l => wLcQ _ _ _ _ l) (sq_lc g.calm (by rw [g.N]; exact g.nd) ⟨snd_I it S X _ _ g h2, ok, fun s H C cl fp => ?_, fun s H C cl fp => snd_Ts t _ _ _ (g.blk ok s H C cl fp) h5, fun s H C cl fp => snd_E c _ _ _ (g.blk ok s H C cl fp) h6, noSet_ok h3⟩))
      rw [ownP_snd]
      exact snd_Go tg _ _ _ (g.blk ok s H C cl fp) h4
    · cases h
  | .lcD w own i tg t c, S, X, e, g, h => by
    simp only [kS] at h
    split at h
    · simp only [Bool.and_eq_true] at h
      obtain ⟨⟨⟨⟨h1, h2⟩, h4⟩, h5⟩, h6⟩ := h
      rw [wS]
      have ok := blkOk_by h1
      rw [← g.N, ← g.sc] at ok
      refine ss_sq (own_q (S := S) (w := fun l => wLcDQ _ _ _ _ _ l) (sq_lcD g.calm (by rw [g.N]; exact g.nd) (dw_ok g h2).1 ok (fun s H C cl fp => ?_) (fun s H C cl fp => snd_Ts t _ _ _ (g.blk ok s H C cl fp) h5) (fun s H C cl fp => snd_E c _ _ _ (g.blk ok s H C cl fp) h6) (dw_ok g h2).2))
      rw [ownP_snd]
      exact snd_Go tg _ _ _ (g.blk ok s H C cl fp) h4
    · cases h
  | .slice a lo hi, S, X, e, g, h => by
    simp only [kS] at h
    split at h
    · simp only [Bool.and_eq_true] at h
      rw [wS]; exact ss_slice (snd_E a S X _ g h.1.1) (snd_O lo S X _ g h.1.2) (snd_O hi S X _ g h.2)
    · cases h
theorem snd_I : ∀ (c : CI) (S : Slots) (X : Cx) (t e : Expr), Good Γ S X → kI Γ c S t e = true → SI X t e (wI Γ c)
  | .val c, S, X, t, e, g, h => by
    simp only [kI] at h
    rw [wI]; exact si_val (snd_E c S X _ g h)
  | .r1 a, S, X, t, e, g, h => by
    simp only [kI] at h
    split at h
    · simp only [Bool.and_eq_true] at h
      obtain ⟨rfl, hg, hm⟩ := g.blt h.1.1
      rw [wI]; exact si_r1 hg hm (snd_E a S X _ g h.2) (star_ok h.1.2)
    · cases h
  | .r2 a b, S, X, t, e, g, h => by
    simp only [kI] at h
    split at h
    · simp only [Bool.and_eq_true] at h
      obtain ⟨⟨⟨⟨h1, h2⟩, h3⟩, h4⟩, h5⟩ := h
      obtain ⟨rfl, hg, hm⟩ := g.blt h1
      rw [wI]; exact si_r2 hg hm (snd_E a S X _ g h4) (snd_E b S X _ g h5) (star_ok h2) (star_ok h3)
    · cases h
  | .r3 a b c, S, X, t, e, g, h => by
    simp only [kI] at h
    split at h
    · simp only [Bool.and_eq_true] at h
      obtain ⟨⟨⟨⟨⟨⟨h1, h2⟩, h3⟩, h4⟩, h5⟩, h6⟩, h7⟩ := h
      obtain ⟨rfl, hg, hm⟩ := g.blt h1
      rw [wI]; exact si_r3 hg hm (snd_E a S X _ g h5) (snd_E b S X _ g h6) (snd_E c S X _ g h7) (star_ok h2) (star_ok h3) (star_ok h4) (plain_ok (by simp [noStars, h3, h4]))
    · cases h
  | .enum a, S, X, t, e, g, h => by
    simp only [kI] at h
    split at h
    · simp only [Bool.and_eq_true] at h
      obtain ⟨rfl, hg, hm⟩ := g.blt h.1.1
      rw [wI]; exact si_enum hg hm (snd_E a S X _ g h.2) (star_ok h.1.2)
    · cases h
  | .zip a b, S, X, t, e, g, h => by
    simp only [kI] at h
    split at h
    · simp only [Bool.and_eq_true] at h
      obtain ⟨⟨⟨⟨h1, h2⟩, h3⟩, h4⟩, h5⟩ := h
      obtain ⟨rfl, hg, hm⟩ := g.blt h1
      rw [wI]; exact si_zip hg hm (snd_E a S X _ g h4) (snd_E b S X _ g h5) (star_ok h2) (star_ok h3) (plain_ok (by simp [noStars, h3]))
    · cases h
end
end
end Cl
set_option Elab.async false
set_option linter.all false
set_option maxRecDepth 100000
set_option maxHeartbeats 4000000
/-! The clean layer, part U: statements: the small syntax, the check, its soundness. -/
namespace Cl
open PySem PySem.Spec PyProof.Rows L2 SkE
/-! ### stores swapped -/
def swN (sc : Scope) (ts : List Expr) : List Str := ts.filterMap fun
  | .Name id pos => if sc.names.lookup id == some .local && pos.line == (ts.head?.map (·.pos.line)).getD 0 then some id else none
  | _ => none
def noSwap (sc : Scope) (ts vs : List Expr) : Bool := !(ts.length == 2 || ts.length == 3) || vs.length != ts.length || (swN sc ts).length != ts.length || vs.all (foldedForSure 8)
theorem noSwap_ok {env : Env} {ts vs : List Expr} {k k2 : Nat} {p p2 : Pos} (h : noSwap env.scope ts vs = true) : swappedStores [.Tuple ts k p] (.Tuple vs k2 p2) env = pure none := by
  unfold swappedStores
  dsimp only
  split
  · rfl
  · rename_i h1
    split
    · rfl
    · split
      · rfl
      · rename_i h3
        split
        · rfl
        · rename_i h4
          exfalso
          unfold noSwap at h
          simp only [Bool.or_eq_true] at h
          rcases h with ((h | h) | h) | h
          · exact h1 (by simp only [Bool.or_eq_true]; exact .inl (.inl h))
          · exact h1 (by simp only [Bool.or_eq_true]; exact .inl (.inr h))
          · exact h3 (by simp only [Bool.or_eq_true]; exact .inl h)
          · exact h4 h
def noSwapB (sc : Scope) : Expr → Expr → Bool
  | .Tuple ts _ _, .Tuple vs _ _ => noSwap sc ts vs
  | .List _ _, _ => false
  | _, _ => true
theorem noSwapB_ok {env : Env} {tg e : Expr} (h : noSwapB env.scope tg e = true) : swappedStores [tg] e env = pure none := by
  cases tg with
  | Tuple ts k p => cases e with
    | Tuple vs k2 p2 => exact noSwap_ok h
    | _ => rfl
  | List _ _ => cases h
  | _ => rfl
def swSoleB (sc : Scope) (tg e : Expr) : Bool := noComp e || (match tg with | .Name t _ => decide (sc.names.lookup t ≠ some .local) | _ => true)
theorem swSole_ok {env : Env} {tg e : Expr} {l : Nat} (h : swSoleB env.scope tg e = true) : swapsWithSole [tg] e l env = pure false := by
  show swapsWith e (some tg) l env = pure false
  unfold swSoleB at h
  rw [Bool.or_eq_true] at h
  rcases h with h | h
  · exact noComp_ok h
  · cases tg with
    | Name t p =>
      have hk : (env.kindOf t == some NameKind.local) = false := by
        have := of_decide_eq_true h
        show (env.scope.names.lookup t == some NameKind.local) = false
        exact beq_eq_false_iff_ne.mpr this
      unfold swapsWith
      cases e <;> first | rfl | (dsimp only; rw [hk]; simp)
    | _ => unfold swapsWith; cases e <;> rfl
def yes2 (sc : Scope) (x y : Str) (px py : Pos) (a b : Expr) : Bool := decide (sc.names.lookup x = some .local) && decide (sc.names.lookup y = some .local) && (py.line == px.line) && decide (x ≠ y) && noStar a && noStar b && !(foldedForSure 8 a && foldedForSure 8 b) && !(constantsAlone 8 a && constantsAlone 8 b)
theorem yes2_ok {env : Env} {x y : Str} {px py p p2 : Pos} {k k2 : Nat} {a b : Expr} (hf : env.scope.kind = .function) (h : yes2 env.scope x y px py a b = true) : swappedStores [.Tuple [.Name x px, .Name y py] k p] (.Tuple [a, b] k2 p2) env = pure (some [x, y]) := by
  unfold yes2 at h
  simp only [Bool.and_eq_true, decide_eq_true_eq, Bool.not_eq_true'] at h
  obtain ⟨⟨⟨⟨⟨⟨⟨h1, h2⟩, h3⟩, h4⟩, h5⟩, h6⟩, h7⟩, h8⟩ := h
  have e1 : env.kindOf x = some .local := h1
  have e2 : env.kindOf y = some .local := h2
  have hb : env.blockKind = .function := by unfold Env.blockKind; rw [hf]; rfl
  have hyx : (y == x) = false := by simp; exact fun e => h4 e.symm
  unfold swappedStores
  dsimp only
  rw [hb]
  refine (if_neg (by simp)).trans ?_
  refine (if_neg ?_).trans ?_
  · rw [Bool.not_eq_true]
    show (_ || (_ || false)) = false
    rw [Bool.or_eq_false_iff, Bool.or_eq_false_iff]
    exact ⟨by cases a <;> first | rfl | exact Bool.noConfusion h5, by cases b <;> first | rfl | exact Bool.noConfusion h6, rfl⟩
  have e3 : (py.line == px.line) = true := h3
  have e4 : (px.line == px.line) = true := by simp
  simp only [List.filterMap_cons, List.filterMap_nil, List.head?_cons, Option.map_some, Option.getD_some, e1, e2, Expr.pos, e3, e4, Bool.and_self, beq_self_eq_true, if_true, List.all_cons, List.all_nil, Bool.and_true, h7, h8]
  simp [List.eraseDups_cons, hyx]
/-! ### statements -/
mutual
inductive CS where
  | expr (e : CE) | doc | ret (e : CE) | retN | iff (c : CE) (a b : CSs) | asg (g : CG) (e : CE) | par2 (i j : Nat) (es : CEs)
  | setLcD (j : Nat) (w : DW) (own : List Nat) (i : Nat) (g : CG) (t : COpt) (e : CE)
  | setLc (i : Nat) (own : List Nat) (it : CI) (g : CG) (t : COpt) (e : CE) | while_ (c : CE) (b : CSs) | for_ (it : CI) (g : CG) (b : CSs) | setf (i : Nat) (o e : CE) | pass | brk | cont | never
inductive CSs where
  | nil | cons (s : CS) (ss : CSs)
end
mutual
def wSt (Γ : Gam) : CS → WS
  | .expr e => sDrop (wE Γ e)
  | .doc => sNext
  | .ret e => sRet (wE Γ e)
  | .retN => sRetN
  | .iff c a b => sIf (wE Γ c) (wSs Γ a) (wSs Γ b)
  | .asg g e => sAsg (wE Γ e) (wG Γ g)
  | .par2 i j es => sPar2 i j (wEs Γ es)
  | .setLc i own it g t e => sAsg (wLc (wI Γ it) (wG Γ g) (wTs Γ t) (wE Γ e) own) (gN i)
  | .setLcD j w own i g t e => sAsg (wLcD w i (wG Γ g) (wTs Γ t) (wE Γ e) own) (gN j)
  | .while_ c b => sWhile (wE Γ c) (wSs Γ b)
  | .for_ it g b => sFor (wI Γ it) (wG Γ g) (wSs Γ b)
  | .pass => sNext
  | .brk => sBrk
  | .cont => sCont
  | .setf i o e => sFldP ((Γ.flds[i]?.map (·.2)).getD []) ((Γ.flds[i]?.map (·.1)).getD "") (wE Γ e) (wE Γ o)
  | .never => fun _ _ _ => False
def wSs (Γ : Gam) : CSs → WS
  | .nil => sNext
  | .cons s ss => sSeq (wSt Γ s) (wSs Γ ss)
end
def lcSw (sc : Scope) (scope : Scope) (y : Str) (py pos : Pos) : Bool := decide (sc.names.lookup y = some .local) && (py.line == pos.line) && !(scope.names.any fun (n, k) => n == y && (k == .local || k == .cell))
mutual
def kSt (Γ : Gam) : CS → Slots → Stmt → Bool
  | .expr e, S, s => (match s with | .Expr x _ => noComp x && kE Γ e S x | _ => false)
  | .doc, S, s => (match s with | .Expr (.Constant (.str _) _ _) _ => true | _ => false)
  | .ret e, S, s => (match s with | .Return (some x) _ => kE Γ e S x | _ => false)
  | .retN, S, s => (match s with | .Return none _ => true | _ => false)
  | .iff c a b, S, s => (match s with | .If x y z _ => kT Γ c S x && kSs Γ a S y && kSs Γ b S z | _ => false)
  | .asg g e, S, s => (match s with | .Assign [tg] x _ => swSoleB S.sc tg x && noSwapB S.sc tg x && noStar tg && kG Γ g S tg && kE Γ e S x | _ => false)
  | .par2 i j es, S, s => (match s with
    | .Assign [.Tuple [.Name x px, .Name y py] _ _] (.Tuple [a, b] _ _) _ => decide (S.N[i]? = some x) && decide (S.N[j]? = some y) && decide (i ≠ j) && yes2 S.sc x y px py a b && kEs Γ es S [a, b]
    | _ => false)
  | .setLc i own it g t e, S, s => (match s with
    | .Assign [.Name y py] (.ListComp elt [⟨tg, iter, ifs, 0⟩] scope pos) _ => decide (S.N[i]? = some y) && lcSw S.sc scope y py pos && blkC S.N S.sc scope (ownP S own) && kI Γ it S tg iter && noSet iter && kGo own g (S.blk scope) tg && kTs Γ t (S.blk scope) ifs && kE Γ e (S.blk scope) elt
    | _ => false)
  | .setLcD j w own i g t e, S, s => (match s with
    | .Assign [.Name y py] (.ListComp elt [⟨tg, iter, ifs, 0⟩] scope pos) _ => decide (S.N[j]? = some y) && lcSw S.sc scope y py pos && blkC S.N S.sc scope (ownP S own) && dwB w S i tg iter && kGo own g (S.blk scope) tg && kTs Γ t (S.blk scope) ifs && kE Γ e (S.blk scope) elt
    | _ => false)
  | .while_ c b, S, s => (match s with | .While x y [] _ => kT Γ c S x && kSs Γ b S y | _ => false)
  | .for_ it g b, S, s => (match s with | .For tg x y [] _ => noSet x && kI Γ it S tg x && kG Γ g S tg && kSs Γ b S y | _ => false)
  | .pass, S, s => (match s with | .Pass _ => true | _ => false)
  | .brk, S, s => (match s with | .Break _ => true | _ => false)
  | .cont, S, s => (match s with | .Continue _ => true | _ => false)
  | .setf i o e, S, s => (match s with | .Assign [.Attribute x f _] y _ => noComp y && fdB Γ i f && kE Γ o S x && kE Γ e S y | _ => false)
  | .never, S, s => true
def kSs (Γ : Gam) : CSs → Slots → List Stmt → Bool
  | .nil, S, ss => (match ss with | [] => true | _ => false)
  | .cons c cs, S, ss => (match ss with | s :: ss => kSt Γ c S s && kSs Γ cs S ss | _ => false)
end
theorem subAssign_ok {o i : Expr} {env : Env} {pos : Pos} {v : Value} (h : noSlice i = true) : assign (.Subscript o i pos) env v = (do
      let ov ← holding [v] (eval o env)
      let iv ← holding [v, ov] (eval i env)
      standAt pos
      holding [v, ov, iv] (setItem ov iv v)
      release [v, ov, iv] []) := by
  cases i <;> first | rfl | exact Bool.noConfusion h
section
variable {Γ : Gam}
mutual
theorem snd_G : ∀ (c : CG) (S : Slots) (X : Cx) (e : Expr), Good Γ S X → kG Γ c S e = true → SG X e (wG Γ c)
  | .name i, S, X, e, g, h => by
    simp only [kG] at h
    split at h
    · obtain ⟨h1, h2, h3⟩ := g.store h
      rw [wG]
      exact sg_name (by rw [g.N]; exact g.nd) h1 h2 h3
    · cases h
  | .tup gs, S, X, e, g, h => by
    simp only [kG] at h
    split at h
    · obtain ⟨h1, h2, h3⟩ := snd_Gs gs S X _ g h
      rw [wG]
      exact sg_tup g.calm h1 (by rw [assign_len, h2]) (assign_star h3)
    · cases h
  | .sub o i, S, X, e, g, h => by
    simp only [kG] at h
    split at h
    · simp only [Bool.and_eq_true] at h
      obtain ⟨⟨h1, h2⟩, h3⟩ := h
      rw [wG]
      exact sg_sub g.units (snd_E o S X _ g h2) (snd_E i S X _ g h3) (fun v => subAssign_ok h1)
    · cases h
theorem snd_Gs : ∀ (c : CGs) (S : Slots) (X : Cx) (es : List Expr), Good Γ S X → kGs Γ c S es = true → SGs X es (wGs Γ c) ∧ es.length = c.len ∧ noStars es = true
  | .nil, S, X, es, g, h => by
    simp only [kGs] at h
    split at h
    · rw [wGs]; exact ⟨sgs_nil, rfl, rfl⟩
    · cases h
  | .cons c cs, S, X, es, g, h => by
    simp only [kGs] at h
    split at h
    · simp only [Bool.and_eq_true] at h
      obtain ⟨h1, h2, h3⟩ := snd_Gs cs S X _ g h.2
      rw [wGs]
      exact ⟨sgs_cons (snd_G c S X _ g h.1.2) h1 (assign_map h.1.1), by simp [CGs.len, h2], by simp [noStars, h.1.1, h3]⟩
    · cases h
end
theorem own_s {S : Slots} {own : List Nat} {w : List Nat → WS} {X : Cx} {e : Stmt} (h : SS1 X e (w ((ownP S own).map (·.2)))) : SS1 X e (w own) := by rw [ownP_snd] at h; exact h
mutual
theorem snd_St : ∀ (c : CS) (S : Slots) (X : Cx) (s : Stmt), Good Γ S X → PassesOwn (model X.prog X.w) X.A X.env X.xe → kSt Γ c S s = true → SS1 X s (wSt Γ c)
  | .expr e, S, X, s, g, hp, h => by
    simp only [kSt] at h
    split at h
    · simp only [Bool.and_eq_true] at h
      rw [wSt]; exact ss_expr (snd_E e S X _ g h.2) (noComp_ok h.1)
    · cases h
  | .doc, S, X, s, g, hp, h => by
    simp only [kSt] at h
    split at h
    · rw [wSt]; exact ss_doc
    · cases h
  | .ret e, S, X, s, g, hp, h => by
    simp only [kSt] at h
    split at h
    · rw [wSt]; exact ss_ret (snd_E e S X _ g h)
    · cases h
  | .retN, S, X, s, g, hp, h => by
    simp only [kSt] at h
    split at h
    · rw [wSt]; exact ss_retN
    · cases h
  | .iff c a b, S, X, s, g, hp, h => by
    simp only [kSt] at h
    split at h
    · simp only [Bool.and_eq_true] at h
      rw [wSt]; exact ss_if (snd_T c S X _ g h.1.1) (snd_Ss a S X _ g hp h.1.2) (snd_Ss b S X _ g hp h.2)
    · cases h
  | .asg tg e, S, X, s, g, hp, h => by
    simp only [kSt] at h
    split at h
    · simp only [Bool.and_eq_true] at h
      obtain ⟨⟨⟨⟨h1, h2⟩, h3⟩, h4⟩, h5⟩ := h
      rw [← g.sc] at h1 h2
      rw [wSt]; exact ss_asg (snd_E e S X _ g h5) (snd_G tg S X _ g h4) (swSole_ok h1) (noSwapB_ok h2) (by rw [assign_map h3]; rfl)
    · cases h
  | .par2 i j es, S, X, s, g, hp, h => by
    simp only [kSt] at h
    split at h
    · simp only [Bool.and_eq_true, decide_eq_true_eq] at h
      obtain ⟨⟨⟨⟨h1, h2⟩, h3⟩, h4⟩, h5⟩ := h
      obtain ⟨k1, k2⟩ := snd_Es es S X _ g h5
      have h6 := h4
      unfold yes2 at h6
      simp only [Bool.and_eq_true, decide_eq_true_eq] at h6
      rw [wSt]
      refine ss_par2 g.calm (by rw [g.N]; exact g.nd) (by rw [g.N]; exact h1) (by rw [g.N]; exact h2) h3 (by rw [g.sc]; exact h6.1.1.1.1.1.1.1) (by rw [g.sc]; exact h6.1.1.1.1.1.1.2) k1 (yes2_ok (by rw [g.sc]; exact g.kind) (by rw [g.sc]; exact h4)) rfl
    · cases h
  | .setLc i own it tg t e, S, X, s, g, hp, h => by
    simp only [kSt] at h
    split at h
    · simp only [Bool.and_eq_true, decide_eq_true_eq] at h
      obtain ⟨⟨⟨⟨⟨⟨⟨h7, h8⟩, h1⟩, h2⟩, h3⟩, h4⟩, h5⟩, h6⟩ := h
      have ok := blkOk_by h1
      rw [← g.N, ← g.sc] at ok
      unfold lcSw at h8
      simp only [Bool.and_eq_true, decide_eq_true_eq, Bool.not_eq_true'] at h8
      rw [wSt]
      refine own_s (S := S) (w := fun l => sAsg (wLc _ _ _ _ l) _) (ss_setLc g.calm (by rw [g.N]; exact g.nd) (by rw [g.N]; exact h7) (by rw [g.sc]; exact h8.1.1) (sw_true (by rw [g.sc]; exact g.kind) (by rw [g.sc]; exact h8.1.1) h8.1.2 h8.2)
        ⟨snd_I it S X _ _ g h2, ok, fun s H C cl fp => ?_, fun s H C cl fp => snd_Ts t _ _ _ (g.blk ok s H C cl fp) h5, fun s H C cl fp => snd_E e _ _ _ (g.blk ok s H C cl fp) h6, noSet_ok h3⟩)
      rw [ownP_snd]
      exact snd_Go tg _ _ _ (g.blk ok s H C cl fp) h4
    · cases h
  | .setLcD j w own i tg t e, S, X, s, g, hp, h => by
    simp only [kSt] at h
    split at h
    · simp only [Bool.and_eq_true, decide_eq_true_eq] at h
      obtain ⟨⟨⟨⟨⟨⟨h7, h8⟩, h1⟩, h2⟩, h4⟩, h5⟩, h6⟩ := h
      have ok := blkOk_by h1
      rw [← g.N, ← g.sc] at ok
      unfold lcSw at h8
      simp only [Bool.and_eq_true, decide_eq_true_eq, Bool.not_eq_true'] at h8
      rw [wSt]
      refine own_s (S := S) (w := fun l => sAsg (wLcD _ _ _ _ _ l) _) (ss_setLcD g.calm (by rw [g.N]; exact g.nd) (by rw [g.N]; exact h7) (by rw [g.sc]; exact h8.1.1) (sw_true (by rw [g.sc]; exact g.kind) (by rw [g.sc]; exact h8.1.1) h8.1.2 h8.2)
        (dw_ok g h2).1 ok (fun s H C cl fp => ?_) (fun s H C cl fp => snd_Ts t _ _ _ (g.blk ok s H C cl fp) h5) (fun s H C cl fp => snd_E e _ _ _ (g.blk ok s H C cl fp) h6) (dw_ok g h2).2)
      rw [ownP_snd]
      exact snd_Go tg _ _ _ (g.blk ok s H C cl fp) h4
    · cases h
  | .while_ c b, S, X, s, g, hp, h => by
    simp only [kSt] at h
    split at h
    · simp only [Bool.and_eq_true] at h
      rw [wSt]; exact ss_while hp (snd_T c S X _ g h.1) (snd_Ss b S X _ g hp h.2)
    · cases h
  | .for_ it tg b, S, X, s, g, hp, h => by
    simp only [kSt] at h
    split at h
    · simp only [Bool.and_eq_true] at h
      rw [wSt]; exact ss_for hp g.calm (snd_I it S X _ _ g h.1.1.2) (snd_G tg S X _ g h.1.2) (snd_Ss b S X _ g hp h.2) (noSet_ok h.1.1.1)
    · cases h
  | .pass, S, X, s, g, hp, h => by
    simp only [kSt] at h
    split at h
    · rw [wSt]; exact ss_pass
    · cases h
  | .brk, S, X, s, g, hp, h => by
    simp only [kSt] at h
    split at h
    · rw [wSt]; exact ss_brk
    · cases h
  | .cont, S, X, s, g, hp, h => by
    simp only [kSt] at h
    split at h
    · rw [wSt]; exact ss_cont
    · cases h
  | .setf i o e, S, X, s, g, hp, h => by
    simp only [kSt] at h
    split at h
    · simp only [Bool.and_eq_true, fdB] at h
      obtain ⟨⟨⟨h1, h2⟩, h3⟩, h4⟩ := h
      split at h2
      · rename_i f cs ef
        have ey := of_decide_eq_true h2
        subst ey
        rw [wSt, ef]
        exact ss_fld (g.g.fld i _ cs ef) (snd_E o S X _ g h3) (snd_E e S X _ g h4) (noComp_ok h1)
      · cases h2
    · cases h
  | .never, S, X, s, g, hp, h => by rw [wSt]; exact ss_never
theorem snd_Ss : ∀ (c : CSs) (S : Slots) (X : Cx) (ss : List Stmt), Good Γ S X → PassesOwn (model X.prog X.w) X.A X.env X.xe → kSs Γ c S ss = true → SSs X ss (wSs Γ c)
  | .nil, S, X, ss, g, hp, h => by
    simp only [kSs] at h
    split at h
    · rw [wSs]; exact sss_nil
    · cases h
  | .cons c cs, S, X, ss, g, hp, h => by
    simp only [kSs] at h
    split at h
    · simp only [Bool.and_eq_true] at h
      rw [wSs]; exact sss_cons (snd_St c S X _ g hp h.1) (snd_Ss cs S X _ g hp h.2)
    · cases h
end
end
end Cl
set_option Elab.async false
set_option linter.all false
set_option maxRecDepth 100000
set_option maxHeartbeats 4000000
/-! The clean layer, part V: defs, methods, the law's end (as HandS has them, with the guards' stack known to be empty). -/
namespace Cl
open PySem PySem.Spec PyProof.Rows L2 SkE
abbrev CXN : CXT := fun _ _ _ _ _ _ => False
theorem passN {X : Cx} {E : XK} : Passes CXN X E := fun _ _ _ _ _ _ _ h => h.elim
structure FnO (P : Program) (w : World) (K : Frag) (mg : Str → Option Value) (base : Heap) (k : Nat) (f : Addr) (fd : FuncData) (ps : List Str) (sp : PSp) : Prop where
  len : ∀ args G Q, sp args G Q → args.length = ps.length
  run : ∀ (A : Around) (outer : List Env) (s : Shared) (H : Hp) (args : Args) (us : List Value) (vs : List V) (Q : VK), Room k A → A.guards = some [] → Env0 P w K mg base A outer s H → BindsTo s fd args (ps.zip us) → Vals vs us → hsp ⟨P, w, K⟩ sp vs H Q E0' →
    codeAny (model P w) A (.call (.ref f) args) (CR CXN outer P w H s Q E0') s
theorem FnO.mono {P : Program} {w : World} {K : Frag} {mg : Str → Option Value} {base : Heap} {j k : Nat} {f : Addr} {fd : FuncData} {ps : List Str} {sp : PSp} (F : FnO P w K mg base j f fd ps sp) (h : j ≤ k) : FnO P w K mg base k f fd ps sp :=
  ⟨F.len, fun A outer s H args us vs Q r => F.run A outer s H args us vs Q (r.mono h)⟩
def startP (N : List Str) (args : List PV) : Rho := args.map some ++ List.replicate (N.length - args.length) none
theorem startP_ok {K : Frag} {H : Hp} {N : List Str} {args : List PV} {vs : List V} (r : RVs K H args vs) : RS K (startP N args) (L2.start N vs) H := by
  have hl := r.length
  refine ⟨by unfold startP L2.start; simp [hl], fun i v e => ?_⟩
  unfold startP at e
  by_cases hi : i < args.length
  · rw [List.getElem?_append_left (by simpa using hi), List.getElem?_map] at e
    cases ea : args[i]? with
    | none => rw [ea] at e; cases e
    | some a =>
      rw [ea] at e
      have ev : a = v := by
        have := Option.some.inj e
        exact Option.some.inj this
      subst ev
      obtain ⟨x, h1, h2⟩ := r.get ea
      refine ⟨x, ?_, h2⟩
      unfold L2.start
      rw [List.getElem?_append_left (by simpa [hl] using hi), List.getElem?_map, h1]; rfl
  · rw [List.getElem?_append_right (by simpa using hi), List.getElem?_replicate] at e
    split at e <;> cases e
theorem room_u {k : Nat} {A : Around} (r : Room k A) : A.units + 200 < cLine := by have := r.un; omega
theorem fnO_of {P : Program} {w : World} {K : Frag} {mg : Str → Option Value} {base : Heap} {k : Nat} {f : Addr} {fd : FuncData} {name qual : Str} {params : Arguments} {body : List Stmt} {scope : Scope} {dvs : List V} {kws : List (Str × V)} {N ps : List Str} {sp : PSp} {Γ : Gam} {c : CSs}
    (F : FunD K name qual params body scope dvs kws f fd) (S : FnScope N ps scope) (len : ∀ args G Q, sp args G Q → args.length = ps.length) (hk : kSs Γ c ⟨N, scope, scope.names⟩ body = true)
    (hG : ∀ X : Cx, X.prog = P → X.w = w → X.K = K → X.mg = mg → X.base = base → X.calm = true → Room k X.A → X.A.guards = some [] → Glob Γ X)
    (hw : ∀ args G Q, sp args G Q → wSs Γ c { nx := fun _ G' => Q .non G', rt := Q } (startP N args) G) : FnO P w K mg base (k + 1) f fd ps sp := by
  obtain ⟨oc, od, dV, kV, doc, pm, an, cdv, ct, osl, rfl, lk, hcd, _, _⟩ := F.ex
  refine ⟨len, fun A outer s H args us vs Q hr gd e0 hb r hsp => ?_⟩
  obtain ⟨pvs, G, QP, rv, rg, hs, hq⟩ := hsp
  have hl : vs.length = ps.length := by rw [← rv.length]; exact len _ _ _ hs
  have KX : K.In s.heap := e0.mod.kin.keeps fun b o e => (e0.bs b o e).1
  have lim : s.heap.NoLimit := e0.mod.nolimit.keeps fun b o e => (e0.bs b o e).1
  have hkind : ∀ y ∈ ps.zip us, scope.names.lookup y.1 = some .local ∨ (scope.names.lookup y.1 = some .cell ∧ ((cellsFrom (s.heap.objs.size + 1) scope.names []).lookup y.1).isSome = true) := fun ⟨n, v⟩ hy => by
    rcases S.par n (List.of_mem_zip hy).1 with q | q
    · exact .inl q
    · exact .inr ⟨q, PySem.W.cellsFrom_some _ _ _ (.inl q)⟩
  refine codeAny_call_function hr.depth (KX _ _ lk) rfl S.co S.gen rfl (PySem.W.codeRec_of KX hcd) (hb _ _ _ _ ?_)
  refine wpAny_newFunctionEnv_cells S.kind hkind fun env he s1 x => ?_
  subst he
  refine ⟨lim.keeps x.toInCall.keep, codeAny_func ?_⟩
  have I : Inv (cxOf CXN P w K mg base N qual scope f cdv A outer s H E0') [] (L2.start N vs) H s1 := inv_start S hr.hd e0 hl r x
  have hr' := hr.deeper (envOfC qual scope s.heap.objs.size f cdv)
  have good : Good Γ ⟨N, scope, scope.names⟩ (cxOf CXN P w K mg base N qual scope f cdv A outer s H E0').nox :=
    ⟨rfl, S.nd, rfl, S.kind, fun _ _ => rfl, rfl, room_u hr', gd, fun X' kn => hG X' kn.prog kn.w kn.K kn.mg kn.base kn.calm (by rw [kn.A]; exact hr') (by rw [kn.A]; exact gd)⟩
  have body_ok := PSs.nox (snd_Ss c ⟨N, scope, scope.names⟩ _ body good PassesOwn.never hk)
  refine wpAny_mono (body_ok.run [] s1 (L2.start N vs) H { nx := fun _ H' => Q .non H', rt := Q } I ⟨startP N pvs, G, _, startP_ok rv, rg, hw _ _ _ hs, ⟨fun ρ' G' σ' H' t r2 s2 q => hq .non G' .non H' t r2 RV.nonI q, fun v G' x H' t r2 v2 q => hq v G' x H' t r2 v2 q, fun _ _ _ _ _ _ _ q => q.elim, fun _ _ _ _ _ _ _ q => q.elim⟩⟩) (fun fl s' hs => ?_) fun e s' hs => hs
  have fin : ∀ {σ' : L2.St} {H' : Hp} {v : V} {u : Value}, Inv (cxOf CXN P w K mg base N qual scope f cdv A outer s H E0') [] σ' H' s' → RelV v u → Q v H' → L2.CE outer P w H s Q u s' :=
    fun {σ' H' v u} J rv q => ⟨v, H', J.os, J.bare, J.base, J.hok, rv, q⟩
  cases fl with
  | ret u =>
    obtain ⟨v, σ', H', J, rv, q⟩ := hs
    exact fin J rv q
  | next =>
    obtain ⟨σ', H', J, q⟩ := hs
    exact fin (v := V.non) (u := Value.none) J rfl q
  | brk =>
    obtain ⟨_, _, _, q⟩ := hs
    exact False.elim q
  | cont =>
    obtain ⟨_, _, _, q⟩ := hs
    exact False.elim q
end Cl
set_option Elab.async false
set_option linter.all false
set_option maxRecDepth 100000
set_option maxHeartbeats 4000000
/-! The clean layer, part W: calls of defs that keep their promises; the law's end. -/
namespace Cl
open PySem PySem.Spec PyProof.Rows L2 SkE
section
variable {X : Cx} {k : Nat} {f C : Addr} {fd : FuncData} {ps : List Str} {sp : PSp} {x : Str}
theorem after_ok {pins : List (Addr × Obj)} {σ : L2.St} {H : Hp} {s : Shared} {Q : VK} {r : Result} {s' : Shared} (I : Inv X pins σ H s) (hq : CR CXN X.stack X.prog X.w H s Q E0' r s') : ∃ u, r = .ok (.ret u) ∧ EP X pins σ Q u s' := by
  cases r with
  | error e => exact hq.elim
  | ok fl =>
    cases fl with
    | ret u => exact ⟨u, rfl, I.after hq⟩
    | next => exact False.elim hq
    | brk => exact False.elim hq
    | cont => exact False.elim hq
theorem FnO.g (F : FnO X.prog X.w X.K X.mg X.base k f fd ps sp) (hr : Room k X.A) (gd : X.A.guards = some []) (hb : Binds X.K fd ps []) (hm : X.mg x = some (.ref f)) (kp : PySem.W.keepIn X.K (.ref f) = true) : FnG X x sp := by
  refine ⟨f, fun pins s σ H vs us Q I r h => ?_, hm, kp⟩
  have h' := h
  obtain ⟨pvs, G, QP, rv, rg, hs, hq⟩ := h'
  have hl : us.length = ps.length := by rw [← r.length, ← rv.length]; exact F.len _ _ _ hs
  have hb' := hb s us I.kIn (by simpa using hl)
  rw [List.append_nil] at hb'
  refine wpAny_call (codeAny_mono (F.run X.A X.stack s H ⟨us, []⟩ us vs Q hr gd I.env0 hb' r h) fun r s' hq => ?_)
  obtain ⟨u, rfl, e⟩ := after_ok I hq
  exact e
/-- what is left out is at its default -/
theorem FnO.gD {dp : List PV} {dvs : List V} {ds : List Value} (F : FnO X.prog X.w X.K X.mg X.base k f fd ps sp) (hr : Room k X.A) (gd : X.A.guards = some []) (hv : Vals dvs ds) (hrv : ∀ H, RVs X.K H dp dvs) (hb : Binds X.K fd ps ds) (hm : X.mg x = some (.ref f)) (kp : PySem.W.keepIn X.K (.ref f) = true) : FnG X x (fun args G Q => sp (args ++ dp) G Q) := by
  refine ⟨f, fun pins s σ H vs us Q I r h => ?_, hm, kp⟩
  obtain ⟨pvs, G, QP, rv, rg, hs, hq⟩ := h
  have r2 : Vals (vs ++ dvs) (us ++ ds) := r.append hv
  have rv2 : RVs X.K H (pvs ++ dp) (vs ++ dvs) := rv.append (hrv H)
  have hl : (us ++ ds).length = ps.length := by rw [← r2.length, ← rv2.length]; exact F.len _ _ _ hs
  have hb' := hb s us I.kIn hl
  refine wpAny_call (codeAny_mono (F.run X.A X.stack s H ⟨us, []⟩ (us ++ ds) (vs ++ dvs) Q hr gd I.env0 hb' r2 ⟨pvs ++ dp, G, QP, rv2, rg, hs, hq⟩) fun r s' hq => ?_)
  obtain ⟨u, rfl, e⟩ := after_ok I hq
  exact e
theorem FnO.mt {m : Str} (F : FnO X.prog X.w X.K X.mg X.base k f fd ps sp) (hr : Room k X.A) (gd : X.A.guards = some []) (hb : Binds X.K fd ps []) (c : Cls X.K C) (hm : Meth X.K C m f) : MtG X C m sp := by
  refine ⟨f, c, hm, fun pins s σ H vs us Q I r h => ?_⟩
  have h' := h
  obtain ⟨pvs, G, QP, rv, rg, hs, hq⟩ := h'
  have hl : us.length = ps.length := by rw [← r.length, ← rv.length]; exact F.len _ _ _ hs
  have hb' := hb s us I.kIn (by simpa using hl)
  rw [List.append_nil] at hb'
  refine wpAny_call (codeAny_mono (F.run X.A X.stack s H ⟨us, []⟩ us vs Q hr gd I.env0 hb' r h) fun r s' hq => ?_)
  obtain ⟨u, rfl, e⟩ := after_ok I hq
  exact e
theorem FnO.gK {np : Nat} {ks : List Str} {perm : List Nat} (F : FnO X.prog X.w X.K X.mg X.base k f fd ps sp) (hr : Room k X.A) (gd : X.A.guards = some []) (hps : ps ≠ [])
    (hb : ∀ (s : Shared) (us ws : List Value), us.length = np → ws.length = ks.length → BindsTo s fd ⟨us, ks.zip ws⟩ (ps.zip (gP np ks.length perm us ws))) (hm : X.mg x = some (.ref f)) (kp : PySem.W.keepIn X.K (.ref f) = true) : FnK X x np ks perm sp := by
  refine ⟨f, fun pins s σ H vs zs us ws Q I r rz h => ?_, hm, kp⟩
  have h' := h
  obtain ⟨pvs, G, QP, rv, rg, hs, hq⟩ := h'
  have hl : (gP np ks.length perm vs zs).length = ps.length := by rw [← rv.length]; exact F.len _ _ _ hs
  by_cases hc : vs.length = np ∧ zs.length = ks.length
  · have hc' : us.length = np ∧ ws.length = ks.length := by rw [← r.length, ← rz.length]; exact hc
    have rp : Vals (gP np ks.length perm vs zs) (gP np ks.length perm us ws) := by
      unfold gP
      rw [if_pos hc, if_pos hc']
      exact Vals.perm (r.append rz) perm
    refine wpAny_call (codeAny_mono (F.run X.A X.stack s H ⟨us, ks.zip ws⟩ (gP np ks.length perm us ws) _ Q hr gd I.env0 (hb s us ws hc'.1 hc'.2) rp h) fun r s' hq => ?_)
    obtain ⟨u, rfl, e⟩ := after_ok I hq
    exact e
  · unfold gP at hl
    rw [if_neg hc] at hl
    exact absurd (List.eq_nil_of_length_eq_zero hl.symm) hps
theorem FnO.make (M : Mk X.K C f) (F : FnO X.prog X.w X.K X.mg X.base k f fd ps sp) (hr : Room (k + 1) X.A) (gd : X.A.guards = some []) (hb : Binds X.K fd ps []) (hm : X.mg x = some (.ref C)) : MkG X x C sp := by
  refine ⟨fun pins s σ H vs us Q I r h => ?_, hm, M.kp⟩
  have hq := h (s.heap.objs.size + 1) s.heap.objs.size (I.hok.fresh (Nat.le_succ _)) (I.hok.fresh (Nat.le_refl _)) (Nat.ne_of_lt (Nat.lt_succ_self _))
  have I2 := Inv.made (C := C) I
  have r2 : Vals (V.ref (s.heap.objs.size + 1) :: vs) (Value.ref (s.heap.objs.size + 1) :: us) := .cons rfl r
  have hl : (Value.ref (s.heap.objs.size + 1) :: us).length = ps.length := by
    obtain ⟨pvs, G, QP, rv, rg, hs, _⟩ := hq
    rw [← r2.length, ← rv.length]; exact F.len _ _ _ hs
  refine wpAny_call (make_map (f := f) I.kIn M.makes M.init (beq_iff_eq.mp M.fn) (codeAny_mono (F.run _ X.stack _ _ ⟨Value.ref (s.heap.objs.size + 1) :: us, []⟩ (Value.ref (s.heap.objs.size + 1) :: us) _ _ (hr.make C us []) gd
    (I2.env0.make C us []) ?_ r2 hq) fun r s' hq' => ?_))
  · have := hb _ (Value.ref (s.heap.objs.size + 1) :: us) I2.kIn (by simpa using hl)
    rw [List.append_nil] at this
    exact this
  · obtain ⟨u, rfl, v, H', I3, rv, ev, q3⟩ := after_ok I2 hq'
    subst ev
    exact ⟨rv, ⟨V.ref (s.heap.objs.size + 1), H', I3, rfl, q3⟩⟩
end
/-- (the steps follow HandS' own) -/
theorem law_callC {P : Program} {w : World} {K : Frag} {mg mb : Str → Option Value} {k : Nat} {fa a : Addr} {fd : FuncData} {x : Str} {sp : PSp} {s₁ : Shared} {vs : List Value} {ns : List Int}
    (KX : K.In s₁.heap) (hns : s₁.heap.Ns mainGlobals mg) (hb : s₁.heap.Ns builtinsNs mb) (hbb : ∀ x : Str, x ≠ "__name__" → mb x = bootBuiltins x) (hlim : s₁.heap.NoLimit) (hg : s₁.gens = #[])
    (ha : s₁.heap.get? a = some { cls := .type "list", data := .seq vs.toArray }) (hi : IntsAre vs ns) (hl : ns.length ≤ sizeLine) (hr : Room k callerA)
    (F : ∀ base : Heap, K.In base → base.Ns mainGlobals mg → FnO P w K mg base k fa fd [x] sp) (hbind : ∀ (s : Shared) (u : Value), BindsTo s fd ⟨[u], []⟩ [(x, u)])
    (hsp0 : sp [.rl (ns.map .int)] (fun _ => none) fun v _ => v = .bl true) :
    codeAny (model P w) callerA (.call (.ref fa) ⟨[.ref a], []⟩) (fun r s' => r = .ok (.ret (.bool true)) ∧ OldK s₁.heap s'.heap ∧ s'.os = s₁.os ∧ AllBare s'.gens) s₁ := by
  have hspH : ∀ H : Hp, ImL K H a (ns.map V.int) → hsp ⟨P, w, K⟩ sp [.ref a] H (fun v _ => v = .bl true) E0' := fun H hS =>
    ⟨[.rl (ns.map .int)], fun _ => none, _, .one (by rw [RV]; exact ⟨a, ns.map V.int, rfl, hS, RVs.ints_of⟩), (fun _ _ e => nomatch e), hsp0, fun v G' x H' _ _ rv q => by subst q; rw [RV] at rv; exact rv⟩
  have rv := vals_ints hi
  have lenV := hi.length
  -- from an abstract heap in which nothing but the script may be tracked
  have core : ∀ H : Hp, Only H → ImL K H a (ns.map V.int) → HOk P w H s₁.heap → (∀ b, H b ≠ none → b = a) → (H a ≠ none → K.lookup a = none) →
      codeAny (model P w) callerA (.call (.ref fa) ⟨[.ref a], []⟩) (fun r s' => r = .ok (.ret (.bool true)) ∧ OldK s₁.heap s'.heap ∧ s'.os = s₁.os ∧ AllBare s'.gens) s₁ := by
    intro H hO hS hok hA hK
    have base_of : ∀ {b : Addr} {o : Obj}, s₁.heap.get? b = some o → H b = none → (hidT s₁.heap H).get? b = some o := fun e n => hidT_get e n
    have noA : ∀ {b : Addr} {o : Obj} {es : Array DictEntry} {ep : Nat}, s₁.heap.get? b = some o → o.data = .dict es ep → H b = none := fun {b o es ep} e d => by
      cases q : H b with
      | none => rfl
      | some u =>
        have e' : b = a := hA b (by rw [q]; simp)
        subst e'
        rw [ha] at e; cases e
        have d' : Data.seq vs.toArray _ = Data.dict es ep := d
        cases d'
    have nsK : ∀ {b : Addr} {m : Str → Option Value}, s₁.heap.Ns b m → (hidT s₁.heap H).Ns b m := fun {b m} ⟨o, es, ep, e, d, r⟩ => ⟨o, es, ep, base_of e (noA e d), d, r⟩
    have hKb : K.In (hidT s₁.heap H) := fun b o e => base_of (KX b o e) (by
      cases q : H b with
      | none => rfl
      | some u =>
        have e' : b = a := hA b (by rw [q]; simp)
        subst e'
        rw [hK (by rw [q]; simp)] at e; cases e)
    have hM : Mod K mg (hidT s₁.heap H) := ⟨hKb, nsK hns, ⟨mb, nsK hb, hbb⟩, let ⟨mc, h1, h2⟩ := hlim; ⟨mc, nsK h1, h2⟩⟩
    have e0 : Env0 P w K mg (hidT s₁.heap H) callerA [] s₁ H := ⟨rfl, hM, fun b o e => of_hidT e, Nat.le_of_eq (hidT_size _ _), trivial, fun b hb => absurd (show b ∈ ([] : List Addr) from hb) (by simp), hok, .of_eq hg⟩
    refine codeAny_mono ((F _ hKb (nsK hns)).run callerA [] s₁ H ⟨[.ref a], []⟩ [.ref a] [.ref a] (fun v _ => v = .bl true) hr rfl e0 (hbind s₁ (.ref a)) (.cons rfl .nil) (hspH H hS)) fun r s' h => ?_
    cases r with
    | error e => exact h.elim
    | ok fl =>
      cases fl with
      | next => exact False.elim h
      | brk => exact False.elim h
      | cont => exact False.elim h
      | ret u =>
        obtain ⟨v, H', os, bare, un, hok', r', q⟩ := h
        have q' : v = .bl true := q
        subst q'
        obtain rfl : u = Value.bool true := r'
        refine ⟨rfl, OldK.of_keep fun b o e => ?_, os, bare⟩
        cases q : H b with
        | none => exact un.keep b o e q (by intro z; exact absurd (show b ∈ ([] : List Addr) from z) (by simp)) (by simp)
        | some u =>
          rcases hO b with z | ⟨ob, xs, z⟩
          · rw [q] at z; cases z
          · have z2 := un.frzs b ob _ z
            obtain ⟨e1, _⟩ := hok b _ z
            obtain ⟨e2, _⟩ := hok' b _ z2
            rw [e] at e1; cases e1
            exact e2
  cases hk : K.lookup a with
  | some o =>
    -- the script is one of the module's own objects
    have e := KX a o hk
    rw [ha] at e
    cases e
    refine core (fun _ => none) (fun _ => .inl rfl) (.inr ⟨_, vs.toArray, _, hk, rfl, rfl, rfl, by rw [List.size_toArray, lenV]; exact hl, by simpa using rv⟩) (fun b u z => by have z' : (none : Option HO) = some u := z; cases z') (fun b z => absurd rfl z) fun z => absurd rfl z
  | none =>
    refine core (fun b => if b = a then some (.frz { cls := .type "list", data := .seq vs.toArray } (.lst (ns.map V.int))) else none) (fun b => ?_) (.inl ⟨{ cls := .type "list", data := .seq vs.toArray }, if_pos rfl⟩) (fun b u z => ?_) (fun b z => ?_) fun _ => hk
    · by_cases hb : b = a
      · exact .inr ⟨_, _, if_pos hb⟩
      · exact .inl (if_neg hb)
    · by_cases hb : b = a
      · have z' := (if_pos hb).symm.trans z
        cases z'
        subst hb
        exact ⟨ha, by rw [List.length_map]; exact hl, vs, _, rv, ha⟩
      · have z' := (if_neg hb).symm.trans z
        cases z'
    · by_cases hb : b = a
      · exact hb
      · exact absurd (if_neg hb) z
theorem walk_C {l : PySem.W.OpenLaw} {n k : Nat} {q : Program} {loose : List Str} {XP : (Str → Option Value) → Heap → Prop} {YP : World → Heap → Prop} {d : DefRec} {x : Str}
    (hn : l.most = some n) (hn2 : n ≤ sizeLine) (hdf : d.params.defaults = []) (hr : Room k callerA)
    (F : ∀ (w : World) (mg : Str → Option Value) (fa : Addr) (h : Heap), YP w h → h.Ns mainGlobals mg → mg d.name = some (.ref fa) →
      ∃ (K : Frag) (fd : FuncData) (sp : PSp), K.In h ∧ (∀ (s : Shared) (u : Value), BindsTo s fd ⟨[u], []⟩ [(x, u)]) ∧
        (∀ (ns : List Int), ns.length ≤ n → sp [.rl (ns.map .int)] (fun _ => none) fun v _ => v = .bl true) ∧
        ∀ base : Heap, K.In base → base.Ns mainGlobals mg → FnO l.prog w K mg base k fa fd [x] sp) :
    PySem.W.WalkO q loose XP YP l.row.toRowW d [] (fun f vs => PySem.call f vs) := by
  refine Att.attach_call hn hdf fun w s₀ s₁ mg mb fa o pm cd doc a vs ns G Y ho hd hcd hmg hobj hints hlen hg => ?_
  obtain ⟨K, fd, sp, KX, hb, hsp, hF⟩ := F w mg fa _ Y G.T.g hmg
  exact law_callC KX G.T.g G.T.b G.T.builtins G.T.nolimit hg hobj hints (Nat.le_trans hlen hn2) hr hF hb (hsp ns hlen)
end Cl
set_option Elab.async false
set_option linter.all false
set_option maxRecDepth 100000
set_option maxHeartbeats 4000000
/-! The clean layer, part Z: how the printed texts are written; the classes' facts by one Bool. -/
namespace Cl
open PySem PySem.Spec PyProof.Rows L2
def L (es : List CE) : CEs := es.foldr CEs.cons .nil
def B (ss : List CS) : CSs := ss.foldr CSs.cons .nil
def LG (gs : List CG) : CGs := gs.foldr CGs.cons .nil
def clsFn (s : Stmt) (j : Nat) : Stmt := match s with
  | .ClassDef _ _ _ b _ _ _ _ _ _ _ => b.getD j (.Pass ⟨0, 0, 0, 0⟩)
  | s => s
/-- the own classes (at cs, none below another) for isinstance -/
def clsB (K : Frag) (cs : List Addr) : Bool :=
  (cs.all fun C => PySem.W.plainGet K C Str.empty && (PySem.W.hasDictIn K C && (PySem.W.plainOver K C && He.eqO (PySem.W.findIn K (.ref C) "__setattr__") (some (some (.builtin "object.__setattr__"))))) &&
    He.eqO (PySem.W.findIn K (.ref C) "__class__") (some (some (.builtin "object.__class__"))) && He.eqO (PySem.W.specialIn K (.builtin "object.__class__") "__get__") (some (some (.builtin "getset_descriptor.__get__"))) &&
    decide (PySem.W.takesIn K (.builtin "object.__class__") = some true) && decide (PySem.W.mroIn K C (.type "object") = some true) &&
    (cs.all fun D => decide (PySem.W.kitOne K (.ref C) (.ref D) = some (C == D))) && (bTests.all fun n => decide (PySem.W.kitOne K (.ref C) (.type n) = some false)) && (bTypes.all fun t => decide (PySem.W.kitOne K (.type t) (.ref C) = some false)))
theorem clsB_ok {K : Frag} {cs : List Addr} (h : clsB K cs = true) : ClsIs K cs (fun a b => a == b) := by
  unfold clsB at h
  rw [List.all_eq_true] at h
  have q : ∀ C ∈ cs, _ := h
  simp only [Bool.and_eq_true, decide_eq_true_eq, List.all_eq_true] at q
  refine ⟨fun C hC => ?_, fun C hC D hD => (q C hC).1.1.2 D hD, fun C hC n hn => (q C hC).1.2 n hn, fun D hD t ht => (q D hD).2 t ht⟩
  obtain ⟨⟨⟨⟨⟨⟨⟨⟨h1, h2, h3, h4⟩, h5⟩, h6⟩, h7⟩, h8⟩, h9⟩, h10⟩, h11⟩ := q C hC
  exact ⟨⟨h1, h2, h3, He.eqO_ok h4⟩, He.eqO_ok h5, He.eqO_ok h6, h7, h8⟩
/-! ### all defs keep their promises -/
/-- a def of the text: its row, parameters, slots, small syntax -/
structure DT where
  d : He.DefD
  ps : List Str
  N : List Str
  c : CSs
abbrev DT.Is (t : DT) (K : Frag) (fd : FuncData) : Prop := FunD K t.d.name t.d.qual t.d.params t.d.body t.d.scope (t.d.dvs K) (t.d.kws K) (He.fAd K t.d.at_) fd
def scB (t : DT) : Bool := decide (t.d.scope.kind = .function) && decide (t.d.scope.isCoroutine = false) && decide (t.d.scope.isGenerator = false) && decide t.N.Nodup && decide (t.N.take t.ps.length = t.ps) &&
  (t.ps.all fun x => decide (t.d.scope.names.lookup x = some .local ∨ t.d.scope.names.lookup x = some .cell)) && (t.d.scope.names.all fun y => decide (y.2 ≠ .free))
theorem scB_ok {t : DT} (h : scB t = true) : FnScope t.N t.ps t.d.scope := by
  unfold scB at h
  simp only [Bool.and_eq_true, decide_eq_true_eq, List.all_eq_true] at h
  obtain ⟨⟨⟨⟨⟨⟨h1, h2⟩, h3⟩, h4⟩, h5⟩, h6⟩, h7⟩ := h
  exact ⟨h1, h2, h3, h4, h5, h6, h7⟩
theorem all_ok {P : Program} {w : World} {K : Frag} {mg : Str → Option Value} {base : Heap} (Γ : (Nat → PSp) → Gam) (tab : List DT) (S : Nat → Nat → PSp)
    (hsc : ∀ t ∈ tab, scB t = true) (hck : ∀ t ∈ tab, ∀ Φ, kSs (Γ Φ) t.c ⟨t.N, t.d.scope, t.d.scope.names⟩ t.d.body = true)
    (hlen : ∀ k i t args G Q, tab[i]? = some t → S k i args G Q → args.length = t.ps.length) (h0 : ∀ i args G Q, ¬ S 0 i args G Q)
    (hglob : ∀ k (X : Cx), X.prog = P → X.w = w → X.K = K → X.mg = mg → X.base = base → X.calm = true → Room k X.A → X.A.guards = some [] →
      (∀ i t fd, tab[i]? = some t → t.Is K fd → FnO P w K mg base k (He.fAd K t.d.at_) fd t.ps (S k i)) → Glob (Γ (S k)) X)
    (hw : ∀ k i t args G Q, tab[i]? = some t → S (k + 1) i args G Q → wSs (Γ (S k)) t.c { nx := fun _ G' => Q .non G', rt := Q } (startP t.N args) G) :
    ∀ k i t fd, tab[i]? = some t → t.Is K fd → FnO P w K mg base k (He.fAd K t.d.at_) fd t.ps (S k i)
  | 0, i, t, fd, h, F => ⟨fun args G Q q => absurd q (h0 i args G Q), fun A outer s H args us vs Q _ _ _ _ _ q => by
    obtain ⟨pvs, G, QP, _, _, hs, _⟩ := q
    exact absurd hs (h0 i _ _ _)⟩
  | k + 1, i, t, fd, h, F => by
    have ih := all_ok (P := P) (w := w) (K := K) (mg := mg) (base := base) Γ tab S hsc hck hlen h0 hglob hw k
    have hm := List.mem_of_getElem? h
    exact fnO_of F (scB_ok (hsc t hm)) (fun args G Q q => hlen (k + 1) i t args G Q h q) (hck t hm (S k)) (fun X e1 e2 e3 e4 e5 e6 e7 e8 => hglob k X e1 e2 e3 e4 e5 e6 e7 e8 ih) (fun args G Q q => hw k i t args G Q h q)
/-- the table's defs stand where their names say -/
def namesB (fns : List Str) (tab : List DT) (fas : List He.Fa) : Bool := (List.range fns.length).all fun i => match fns[i]?, tab[i]? with
  | some x, some t => decide (t.d.at_ = (x, none)) && (fas.any fun f => match f with | .glo y => decide (y = x) | _ => false)
  | _, _ => false
theorem namesB_ok {fns : List Str} {tab : List DT} {fas : List He.Fa} (h : namesB fns tab fas = true) {i : Nat} {x : Str} (e : fns[i]? = some x) : ∃ t, tab[i]? = some t ∧ t.d.at_ = (x, none) ∧ He.Fa.glo x ∈ fas := by
  unfold namesB at h
  rw [List.all_eq_true] at h
  have hi : i < fns.length := (List.getElem?_eq_some_iff.mp e).1
  have q := h i (List.mem_range.mpr hi)
  rw [e] at q
  split at q
  · rename_i y t e1 e2
    cases e1
    simp only [Bool.and_eq_true, decide_eq_true_eq, List.any_eq_true] at q
    obtain ⟨q1, f, q2, q3⟩ := q
    refine ⟨t, e2, q1, ?_⟩
    split at q3
    · rw [of_decide_eq_true q3] at q2; exact q2
    · cases q3
  · cases q
theorem fn_all {X : Cx} {k : Nat} {fns : List Str} {tab : List DT} {fas : List He.Fa} {S : Nat → PSp} {h : Heap} (hn : namesB fns tab fas = true) (XK : X.K.In h) (G : h.Ns mainGlobals X.mg) (hf : ∀ f ∈ fas, f.ok X.K = true)
    (hD : ∀ (i : Nat) (t : DT), tab[i]? = some t → ∃ fd, t.Is X.K fd) (hB : ∀ t ∈ tab, ∀ fd, t.Is X.K fd → Binds X.K fd t.ps []) (hr : Room k X.A) (gd : X.A.guards = some [])
    (ih : ∀ (i : Nat) (t : DT) (fd : FuncData), tab[i]? = some t → t.Is X.K fd → FnO X.prog X.w X.K X.mg X.base k (He.fAd X.K t.d.at_) fd t.ps (S i)) : ∀ (i : Nat) (x : Str), fns[i]? = some x → FnG X x (S i) := by
  intro i x e
  obtain ⟨t, e1, e2, e3⟩ := namesB_ok hn e
  obtain ⟨fd, F⟩ := hD i t e1
  have ea : He.fAd X.K t.d.at_ = He.ga X.K x := by rw [e2]; rfl
  have F' := ih i t fd e1 F
  have kp := F.kp
  rw [ea] at F' kp
  exact F'.g hr gd (hB t (List.mem_of_getElem? e1) fd F) (He.glo_ok XK G (hf _ e3)) kp
end Cl
set_option Elab.async false
set_option linter.all false
set_option maxRecDepth 100000
set_option maxHeartbeats 4000000
/-! The clean layer, part Y: what the readings come to at known values. -/
namespace Cl
open PySem PySem.Spec PyProof.Rows L2
section
variable {G : PG} {Q : WK} {i j : Int} {b c : Bool} {x y v : PV} {xs ys : List PV} {a : Addr}
theorem tru_bl : tru (.bl b) G = some b := rfl
theorem tru_int : tru (.int i) G = some (i != 0) := rfl
theorem tyOf_bl : tyOf (.bl b) G = some (.b "bool") := rfl
theorem tyOf_int : tyOf (.int i) G = some (.b "int") := rfl
theorem tyOf_non : tyOf .non G = some (.b "NoneType") := rfl
theorem tyOf_tup : tyOf (.tup xs) G = some (.b "tuple") := rfl
theorem tyOf_rl : tyOf (.rl xs) G = some (.b "list") := rfl
theorem tyOf_lst (h : G a = some (.lst xs)) : tyOf (.ref a) G = some (.b "list") := by simp only [tyOf, h]
theorem tyOf_ins {C : Addr} {fs : List (Str × PV)} (h : G a = some (.ins C fs)) : tyOf (.ref a) G = some (.o C) := by simp only [tyOf, h]
theorem cmp_lt : wCmp .Lt (.int i) (.int j) G Q = Q (.bl (decide (i < j))) G := rfl
theorem cmp_le : wCmp .LtE (.int i) (.int j) G Q = Q (.bl (decide (i ≤ j))) G := rfl
theorem cmp_gt : wCmp .Gt (.int i) (.int j) G Q = Q (.bl (decide (j < i))) G := rfl
theorem cmp_ge : wCmp .GtE (.int i) (.int j) G Q = Q (.bl (decide (j ≤ i))) G := rfl
theorem cmp_is : wCmp .Is x .non G Q = Q (.bl (isNon x)) G := by unfold wCmp; cases x <;> rfl
theorem cmp_eqD {d e : PyData} (h1 : dat G datN x = some d) (h2 : dat G datN y = some e) (h3 : SeqAt.shaped d = true) (h4 : SeqAt.shaped e = true) : wCmp .Eq x y G Q = Q (.bl (PyData.eqv d e)) G := by
  apply propext
  constructor
  · rintro ⟨d', e', k1, k2, _, _, q⟩
    rw [h1] at k1; rw [h2] at k2; cases k1; cases k2; exact q
  · intro q; exact ⟨d, e, h1, h2, h3, h4, q⟩
theorem cmp_neD {d e : PyData} (h1 : dat G datN x = some d) (h2 : dat G datN y = some e) (h3 : SeqAt.shaped d = true) (h4 : SeqAt.shaped e = true) : wCmp .NotEq x y G Q = Q (.bl (!PyData.eqv d e)) G := by
  apply propext
  constructor
  · rintro ⟨d', e', k1, k2, _, _, q⟩
    rw [h1] at k1; rw [h2] at k2; cases k1; cases k2; exact q
  · intro q; exact ⟨d, e, h1, h2, h3, h4, q⟩
theorem shaped_int : SeqAt.shaped (.int i) = true := by
  unfold SeqAt.shaped
  simp [PyData.canLay0, PyData.depth]
theorem eqv_int : PyData.eqv (.int i) (.int j) = decide (i = j) := by
  rw [PyData.eqv]
  by_cases h : i = j
  · subst h; simp
  · simp [h]
theorem dat_int : dat G datN (.int i) = some (.int i) := rfl
theorem cmp_eqI : wCmp .Eq (.int i) (.int j) G Q = Q (.bl (decide (i = j))) G := by rw [cmp_eqD dat_int dat_int shaped_int shaped_int, eqv_int]
theorem cmp_neI : wCmp .NotEq (.int i) (.int j) G Q = Q (.bl (!decide (i = j))) G := by rw [cmp_neD dat_int dat_int shaped_int shaped_int, eqv_int]
theorem at_0 {α : Type} {x : α} {xs : List α} : atI (x :: xs) 0 = some x := by simp [atI, ixN]
theorem at_1 {α : Type} {x y : α} {xs : List α} : atI (x :: y :: xs) 1 = some y := by
  have : ixN (x :: y :: xs).length 1 = some 1 := by unfold ixN; rw [if_pos (by decide), if_pos (by simp; omega)]; rfl
  rw [atI, this]; rfl
theorem at_2 {α : Type} {x y z : α} {xs : List α} : atI (x :: y :: z :: xs) 2 = some z := by
  have : ixN (x :: y :: z :: xs).length 2 = some 2 := by unfold ixN; rw [if_pos (by decide), if_pos (by simp; omega)]; rfl
  rw [atI, this]; rfl
theorem at_nat {α : Type} {xs : List α} {n : Nat} {x : α} (h : xs[n]? = some x) : atI xs (n : Int) = some x := by
  have hn : n < xs.length := (List.getElem?_eq_some_iff.mp h).1
  have : ixN xs.length (n : Int) = some n := by unfold ixN; rw [if_pos (by omega), if_pos (by omega)]; rfl
  rw [atI, this]; exact h
theorem ix_nat {m n : Nat} (h : n < m) : ixN m (n : Int) = some n := by unfold ixN; rw [if_pos (by omega), if_pos (by omega)]; rfl
/-- the last -/
theorem at_last {α : Type} {xs : List α} {x : α} : atI (xs ++ [x]) (-1) = some x := by
  have : ixN (xs ++ [x]).length (-1) = some xs.length := by
    unfold ixN
    rw [if_neg (by decide), if_pos (by simp; omega)]
    simp; omega
  rw [atI, this]
  simp
theorem seqOf_tup : seqOf (.tup xs) G = some ([], xs) := rfl
theorem seqOf_rl : seqOf (.rl xs) G = some ([], xs) := rfl
theorem seqOf_lst (h : G a = some (.lst xs)) : seqOf (.ref a) G = some ([(a, xs)], xs) := by simp only [seqOf, h]
theorem bLen_tup : bLen [.tup xs] G Q = Q (.int xs.length) G := rfl
theorem bLen_rl : bLen [.rl xs] G Q = Q (.int xs.length) G := rfl
theorem bLen_lst (h : G a = some (.lst xs)) : bLen [.ref a] G Q = Q (.int xs.length) G := by simp only [bLen, h]
theorem bLen_dT {kvs : List (NestedKey × PV)} (h : G a = some (.dT kvs)) : bLen [.ref a] G Q = (kvs.length ≤ sizeLine ∧ Q (.int kvs.length) G) := by simp only [bLen, h]
theorem pow_ok : wBin .Pow (.int i) (.int j) G Q = (CPow i j ∧ Q (.int (i ^ j.toNat)) G) := rfl
end
/-- extension: all that G knows stands in G' -/
def Ext (G G' : PG) : Prop := ∀ a o, G a = some o → G' a = some o
theorem Ext.refl {G : PG} : Ext G G := fun _ _ h => h
theorem Ext.trans {G G1 G2 : PG} (a : Ext G G1) (b : Ext G1 G2) : Ext G G2 := fun x o h => b x o (a x o h)
theorem Ext.new {G : PG} {p : Addr} {o : PO} (h : G p = none) : Ext G (pup G p o) := fun a u e => by
  rw [pup_ne]
  · exact e
  · intro z; subst z; rw [h] at e; cases e
/-! comprehensions whose elements change nothing -/
theorem pdel_pup {G : PG} {D : Addr} {o : PO} (h : G D = none) : pdel (pup G D o) D = G := by
  funext b
  unfold pdel pup
  split
  · rename_i e; subst e; exact h.symm
  · rfl
theorem pup_pup' {G : PG} {p : Addr} {o o' : PO} : pup (pup G p o) p o' = pup G p o' := by
  funext b; unfold pup; split <;> rfl
theorem lcL_pure {ws : Ws} {g : WG} {we : WE} {ρ0 : Rho} {D : Addr} {Q : PG → Prop} {G0 : PG} (f : PV → PV) (hw : ∀ acc, watch ws (pup G0 D (.lst acc))) : ∀ (vs acc : List PV), acc.length + vs.length ≤ sizeLine →
    (∀ v ∈ vs, ∀ (acc : List PV) (R : WK), R (f v) (pup G0 D (.lst acc)) → g v ρ0 (pup G0 D (.lst acc)) fun ρ1 G1 => we ρ1 G1 R) → Q (pup G0 D (.lst (acc ++ vs.map f))) → lcL ws g tsYes we ρ0 D Q vs (pup G0 D (.lst acc))
  | [], acc, _, _, q => ⟨hw acc, by simpa using q⟩
  | v :: vs, acc, hl, h, q => by
    simp only [List.length_cons] at hl
    refine ⟨hw acc, h v List.mem_cons_self acc _ ?_⟩
    rw [pup_same]
    refine ⟨by omega, ?_⟩
    rw [pup_pup']
    exact lcL_pure f hw vs (acc ++ [f v]) (by rw [List.length_append, List.length_singleton]; omega) (fun u hu => h u (List.mem_cons_of_mem _ hu)) (by simpa using q)
/-- the items alone -/
theorem lcQ_pure {ws : Ws} {g : WG} {we : WE} {ρ0 : Rho} {D : Addr} {Q : List PV → PG → Prop} {G0 : PG} (hD : G0 D = none) (f : PV → PV) (hw : ∀ acc, watch ws (pup G0 D (.lst acc))) (vs : List PV) (hl : vs.length ≤ sizeLine)
    (h : ∀ v ∈ vs, ∀ (acc : List PV) (R : WK), R (f v) (pup G0 D (.lst acc)) → g v ρ0 (pup G0 D (.lst acc)) fun ρ1 G1 => we ρ1 G1 R) (q : Q (vs.map f) G0) :
    lcL ws g tsYes we ρ0 D (fun G2 => match G2 D with | some (.lst acc) => Q acc (pdel G2 D) | _ => False) vs (pup G0 D (.lst [])) := by
  refine lcL_pure f hw vs [] (by simpa using hl) h ?_
  rw [pup_same, pdel_pup hD]
  simpa using q
theorem wSs_cons {Γ : Gam} {s : CS} {ss : List CS} {P : PEnds} {ρ : Rho} {G : PG} : wSs Γ (B (s :: ss)) P ρ G = wSt Γ s { P with nx := fun ρ1 G1 => wSs Γ (B ss) P ρ1 G1 } ρ G := rfl
theorem wSs_nil {Γ : Gam} {P : PEnds} {ρ : Rho} {G : PG} : wSs Γ (B []) P ρ G = P.nx ρ G := rfl
theorem watch_nil {G : PG} : watch [] G := fun _ h => nomatch h
theorem watch_one {G : PG} {a : Addr} {xs : List PV} (h : G a = some (.lst xs)) : watch [(a, xs)] G := fun p hp => by
  rw [List.mem_singleton.mp hp]; exact h
theorem rep_flat {α : Type} (x : α) : ∀ n : Nat, (List.replicate n [x]).flatten = List.replicate n x
  | 0 => rfl
  | n + 1 => by simp only [List.replicate_succ, List.flatten_cons, rep_flat x n, List.singleton_append]
end Cl
set_option Elab.async false
set_option linter.all false
set_option maxRecDepth 100000
set_option maxHeartbeats 4000000
/-! The clean layer, part X: comprehensions and loops, how they are shown. -/
namespace Cl
open PySem PySem.Spec PyProof.Rows L2
theorem sizeBig : 1000000 ≤ sizeLine := by decide
theorem Ext.updNew {G G' : PG} {p : Addr} {o : PO} (h : Ext G G') (hp : G p = none) : Ext G (pup G' p o) := fun a x e => by
  rw [pup_ne]
  · exact h a x e
  · intro z; subst z; rw [hp] at e; cases e
theorem Ext.del {G G' : PG} {p : Addr} (h : Ext G G') (hp : G p = none) : Ext G (pdel G' p) := fun a x e => by
  have : a ≠ p := by intro z; subst z; rw [hp] at e; cases e
  unfold pdel
  rw [if_neg this]
  exact h a x e
/-- what is walked is known -/
def iK (ws : Ws) (vs : List PV) : WI := fun _ G R => R ws vs G
/-- one turn's end: o is what the turn yields -/
def TurnO (o : Option PV) (G : PG) (R : WK) (R0 : PG → Prop) : Prop := match o with
  | some y => ∀ G', Ext G G' → R y G'
  | none => ∀ G', Ext G G' → R0 G'
theorem lcL_ext {ws : Ws} {g : WG} {wt : WT} {we : WE} {ρ0 : Rho} {D : Addr} {Q : PG → Prop} {G0 : PG} (hD : G0 D = none) (hw : ∀ G', Ext G0 G' → watch ws G') : ∀ (vs : List PV) (os : List (Option PV)) (acc : List PV) (G : PG), vs.length = os.length → acc.length + vs.length ≤ sizeLine → Ext G0 G → G D = some (.lst acc) →
    (∀ (k : Nat) v o, vs[k]? = some v → os[k]? = some o → ∀ G', Ext G0 G' → ∀ (R : WK) (R0 : PG → Prop), TurnO o G' R R0 → g v ρ0 G' fun ρ1 G1 => wt ρ1 G1 fun b G2 => match b with | true => we ρ1 G2 R | false => R0 G2) →
    (∀ G', Ext G0 G' → G' D = some (.lst (acc ++ os.filterMap id)) → Q G') → lcL ws g wt we ρ0 D Q vs G
  | [], os, acc, G, hl, _, he, hd, _, q => by
    have : os = [] := List.eq_nil_of_length_eq_zero (by simpa using hl.symm)
    subst this
    exact ⟨hw _ he, q G he (by simpa using hd)⟩
  | v :: vs, [], acc, G, hl, _, _, _, _, _ => by simp at hl
  | v :: vs, o :: os, acc, G, hl, hz, he, hd, h, q => by
    simp only [List.length_cons, Nat.add_right_cancel_iff] at hl
    simp only [List.length_cons] at hz
    refine ⟨hw _ he, h 0 v o rfl rfl G he _ _ ?_⟩
    cases o with
    | none =>
      intro G' e
      exact lcL_ext hD hw vs os acc G' hl (by omega) (he.trans e) (e _ _ hd) (fun k v o h1 h2 => h (k + 1) v o (by simpa using h1) (by simpa using h2)) (by simpa using q)
    | some y =>
      intro G' e
      show (match G' D with | some (.lst acc) => acc.length < sizeLine ∧ _ | _ => False)
      rw [e _ _ hd]
      refine ⟨by omega, ?_⟩
      exact lcL_ext hD hw vs os (acc ++ [y]) _ hl (by rw [List.length_append, List.length_singleton]; omega) ((he.trans e).updNew hD) pup_same (fun k v o h1 h2 => h (k + 1) v o (by simpa using h1) (by simpa using h2)) (by simpa using q)
section
variable {wi : WI} {g : WG} {wt : WT} {we : WE} {own : List Nat} {ρ : Rho} {G : PG} {ws : Ws} {vs : List PV} {os : List (Option PV)} {ys : List PV}
/-- [e for .. in .. if ..] as items -/
theorem lcQ_if {Q : List PV → PG → Prop} (hw : ∀ G', Ext G G' → watch ws G') (hz : vs.length ≤ 1000000) (hl : vs.length = os.length)
    (h : ∀ (k : Nat) v o, vs[k]? = some v → os[k]? = some o → ∀ G', Ext G G' → ∀ (R : WK) (R0 : PG → Prop), TurnO o G' R R0 → g v (wipeR ρ own) G' fun ρ1 G1 => wt ρ1 G1 fun b G2 => match b with | true => we ρ1 G2 R | false => R0 G2)
    (q : ∀ G', Ext G G' → Q (os.filterMap id) G') : wLcQ (iK ws vs) g wt we own ρ G Q := by
  have := sizeBig
  intro D hD
  refine lcL_ext hD hw vs os [] _ hl (by simp; omega) (.new hD) pup_same h fun G' e hd => ?_
  rw [hd]
  rw [List.nil_append] at hd ⊢
  exact q _ (e.del hD)
theorem lc_if {Q : WK} (hw : ∀ G', Ext G G' → watch ws G') (hz : vs.length ≤ 1000000) (hl : vs.length = os.length)
    (h : ∀ (k : Nat) v o, vs[k]? = some v → os[k]? = some o → ∀ G', Ext G G' → ∀ (R : WK) (R0 : PG → Prop), TurnO o G' R R0 → g v (wipeR ρ own) G' fun ρ1 G1 => wt ρ1 G1 fun b G2 => match b with | true => we ρ1 G2 R | false => R0 G2)
    (q : ∀ G' D, Ext G G' → G D = none → G' D = some (.lst (os.filterMap id)) → Q (.ref D) G') : wLc (iK ws vs) g wt we own ρ G Q := by
  have := sizeBig
  intro D hD
  refine lcL_ext hD hw vs os [] _ hl (by simp; omega) (.new hD) pup_same h fun G' e hd => ?_
  rw [List.nil_append] at hd
  exact q _ _ e hD hd
theorem fm_some : ∀ ys : List PV, (ys.map some).filterMap id = ys
  | [] => rfl
  | y :: ys => by rw [List.map_cons, List.filterMap_cons]; simp
/-- without a test -/
theorem lcQ_ext {Q : List PV → PG → Prop} (hw : ∀ G', Ext G G' → watch ws G') (hz : vs.length ≤ 1000000) (hl : vs.length = ys.length)
    (h : ∀ (k : Nat) v y, vs[k]? = some v → ys[k]? = some y → ∀ G', Ext G G' → ∀ (R : WK), (∀ G'', Ext G' G'' → R y G'') → g v (wipeR ρ own) G' fun ρ1 G1 => we ρ1 G1 R)
    (q : ∀ G', Ext G G' → Q ys G') : wLcQ (iK ws vs) g tsYes we own ρ G Q :=
  lcQ_if (os := ys.map some) hw hz (by rw [List.length_map]; exact hl) (fun k v o h1 h2 G' e R R0 t => by
    rw [List.getElem?_map] at h2
    obtain ⟨y, h3, rfl⟩ := Option.map_eq_some_iff.mp h2
    exact h k v y h1 h3 G' e R t) (by rw [fm_some]; exact q)
theorem lc_ext {Q : WK} (hw : ∀ G', Ext G G' → watch ws G') (hz : vs.length ≤ 1000000) (hl : vs.length = ys.length)
    (h : ∀ (k : Nat) v y, vs[k]? = some v → ys[k]? = some y → ∀ G', Ext G G' → ∀ (R : WK), (∀ G'', Ext G' G'' → R y G'') → g v (wipeR ρ own) G' fun ρ1 G1 => we ρ1 G1 R)
    (q : ∀ G' D, Ext G G' → G D = none → G' D = some (.lst ys) → Q (.ref D) G') : wLc (iK ws vs) g tsYes we own ρ G Q :=
  lc_if (os := ys.map some) hw hz (by rw [List.length_map]; exact hl) (fun k v o h1 h2 G' e R R0 t => by
    rw [List.getElem?_map] at h2
    obtain ⟨y, h3, rfl⟩ := Option.map_eq_some_iff.mp h2
    exact h k v y h1 h3 G' e R t) (by rw [fm_some]; exact q)
/-- over a dict -/
theorem lcD_core {w : DW} {d : Addr} {kvs : List (NestedKey × PV)} {Qf : Addr → PG → Prop} {D : Addr} {os : List (Option PV)} (hd : G d = some (.dT kvs)) (hD : G D = none) (hz : kvs.length ≤ 1000000) (hl : (w.of kvs).length = os.length)
    (h : ∀ (k : Nat) v o, (w.of kvs)[k]? = some v → os[k]? = some o → ∀ G', Ext (pup G d (.fT kvs)) G' → ∀ (R : WK) (R0 : PG → Prop), TurnO o G' R R0 → g v (wipeR ρ own) G' fun ρ1 G1 => wt ρ1 G1 fun b G2 => match b with | true => we ρ1 G2 R | false => R0 G2)
    (q : ∀ G', Ext G (pup G' d (.dT kvs)) → pup G' d (.dT kvs) D = some (.lst (os.filterMap id)) → Qf D (pup G' d (.dT kvs))) : lcL [] g wt we (wipeR ρ own) D (fun G2 => Qf D (pup G2 d (.dT kvs))) (w.of kvs) (pup (pup G d (.fT kvs)) D (.lst [])) := by
  have := sizeBig
  have hdD : d ≠ D := fun z => by subst z; rw [hd] at hD; cases hD
  have hD' : pup G d (.fT kvs) D = none := by rw [pup_ne (Ne.symm hdD)]; exact hD
  have hk : (w.of kvs).length = kvs.length := by cases w <;> simp [DW.of]
  refine lcL_ext hD' (fun _ _ => watch_nil) (w.of kvs) os [] _ hl (by simp; omega) (.new hD') pup_same (fun k v o h1 h2 G' e R R0 t => h k v o h1 h2 G' e R R0 t) fun G' e hd2 => ?_
  rw [List.nil_append] at hd2
  refine q G' (fun a x ea => ?_) (by rw [pup_ne (Ne.symm hdD)]; exact hd2)
  by_cases ha : a = d
  · subst ha; rw [pup_same, ← hd]; exact ea
  · rw [pup_ne ha]
    exact e _ _ (by rw [pup_ne ha]; exact ea)
theorem lcDQ_if {w : DW} {i : Nat} {d : Addr} {kvs : List (NestedKey × PV)} {Q : List PV → PG → Prop} {os : List (Option PV)} (hi : ρ[i]? = some (some (.ref d))) (hd : G d = some (.dT kvs)) (hz : kvs.length ≤ 1000000) (hl : (w.of kvs).length = os.length)
    (h : ∀ (k : Nat) v o, (w.of kvs)[k]? = some v → os[k]? = some o → ∀ G', Ext (pup G d (.fT kvs)) G' → ∀ (R : WK) (R0 : PG → Prop), TurnO o G' R R0 → g v (wipeR ρ own) G' fun ρ1 G1 => wt ρ1 G1 fun b G2 => match b with | true => we ρ1 G2 R | false => R0 G2)
    (q : ∀ G', Ext G G' → Q (os.filterMap id) G') : wLcDQ w i g wt we own ρ G Q := by
  unfold wLcDQ
  rw [hi]
  dsimp only
  rw [hd]
  dsimp only
  intro D hD
  refine lcD_core (Qf := fun D G2 => match G2 D with | some (.lst acc) => Q acc (pdel G2 D) | _ => False) hd hD hz hl h fun G' e hd3 => ?_
  rw [hd3]
  exact q _ (Ext.del e hD)
theorem lcD_if {w : DW} {i : Nat} {d : Addr} {kvs : List (NestedKey × PV)} {Q : WK} {os : List (Option PV)} (hi : ρ[i]? = some (some (.ref d))) (hd : G d = some (.dT kvs)) (hz : kvs.length ≤ 1000000) (hl : (w.of kvs).length = os.length)
    (h : ∀ (k : Nat) v o, (w.of kvs)[k]? = some v → os[k]? = some o → ∀ G', Ext (pup G d (.fT kvs)) G' → ∀ (R : WK) (R0 : PG → Prop), TurnO o G' R R0 → g v (wipeR ρ own) G' fun ρ1 G1 => wt ρ1 G1 fun b G2 => match b with | true => we ρ1 G2 R | false => R0 G2)
    (q : ∀ G' D, Ext G G' → G D = none → G' D = some (.lst (os.filterMap id)) → Q (.ref D) G') : wLcD w i g wt we own ρ G Q := by
  unfold wLcD
  rw [hi]
  dsimp only
  rw [hd]
  dsimp only
  intro D hD
  exact lcD_core (Qf := fun D G2 => Q (.ref D) G2) hd hD hz hl h fun G' e hd3 => q _ D e hD hd3
theorem lcDQ_ext {w : DW} {i : Nat} {d : Addr} {kvs : List (NestedKey × PV)} {Q : List PV → PG → Prop} (hi : ρ[i]? = some (some (.ref d))) (hd : G d = some (.dT kvs)) (hz : kvs.length ≤ 1000000) (hl : (w.of kvs).length = ys.length)
    (h : ∀ (k : Nat) v y, (w.of kvs)[k]? = some v → ys[k]? = some y → ∀ G', Ext (pup G d (.fT kvs)) G' → ∀ (R : WK), (∀ G'', Ext G' G'' → R y G'') → g v (wipeR ρ own) G' fun ρ1 G1 => we ρ1 G1 R)
    (q : ∀ G', Ext G G' → Q ys G') : wLcDQ w i g tsYes we own ρ G Q :=
  lcDQ_if (os := ys.map some) hi hd hz (by rw [List.length_map]; exact hl) (fun k v o h1 h2 G' e R R0 t => by
    rw [List.getElem?_map] at h2
    obtain ⟨y, h3, rfl⟩ := Option.map_eq_some_iff.mp h2
    exact h k v y h1 h3 G' e R t) (by rw [fm_some]; exact q)
theorem lcD_ext {w : DW} {i : Nat} {d : Addr} {kvs : List (NestedKey × PV)} {Q : WK} (hi : ρ[i]? = some (some (.ref d))) (hd : G d = some (.dT kvs)) (hz : kvs.length ≤ 1000000) (hl : (w.of kvs).length = ys.length)
    (h : ∀ (k : Nat) v y, (w.of kvs)[k]? = some v → ys[k]? = some y → ∀ G', Ext (pup G d (.fT kvs)) G' → ∀ (R : WK), (∀ G'', Ext G' G'' → R y G'') → g v (wipeR ρ own) G' fun ρ1 G1 => we ρ1 G1 R)
    (q : ∀ G' D, Ext G G' → G D = none → G' D = some (.lst ys) → Q (.ref D) G') : wLcD w i g tsYes we own ρ G Q :=
  lcD_if (os := ys.map some) hi hd hz (by rw [List.length_map]; exact hl) (fun k v o h1 h2 G' e R R0 t => by
    rw [List.getElem?_map] at h2
    obtain ⟨y, h3, rfl⟩ := Option.map_eq_some_iff.mp h2
    exact h k v y h1 h3 G' e R t) (by rw [fm_some]; exact q)
/-- over the keys of a dict -/
theorem lcKeysQ_ext {i : Nat} {d : Addr} {kvs : List (NestedKey × PV)} {Q : List PV → PG → Prop} (hi : ρ[i]? = some (some (.ref d))) (hd : G d = some (.dT kvs)) (hz : kvs.length ≤ 1000000) (hl : kvs.length = ys.length)
    (h : ∀ (k : Nat) (p : NestedKey × PV) y, kvs[k]? = some p → ys[k]? = some y → ∀ G', Ext (pup G d (.fT kvs)) G' → ∀ (R : WK), (∀ G'', Ext G' G'' → R y G'') → g (kpv p.1) (wipeR ρ own) G' fun ρ1 G1 => we ρ1 G1 R)
    (q : ∀ G', Ext G G' → Q ys G') : wLcDQ .keys i g tsYes we own ρ G Q :=
  lcDQ_ext hi hd hz (by simp [DW.of]; exact hl) (fun k v y h1 h2 G' e R t => by
    simp only [DW.of, List.getElem?_map] at h1
    obtain ⟨p, h3, rfl⟩ := Option.map_eq_some_iff.mp h1
    exact h k p y h3 h2 G' e R t) q
end
/-! loops by an invariant -/
theorem forL_invX {ws : Ws} {g : WG} {u : WS} {P : PEnds} (I : Nat → Rho → PG → Prop) : ∀ (vs : List PV) (n : Nat) (ρ : Rho) (G : PG), I n ρ G →
    (∀ k v ρ G (P' : PEnds), vs[k]? = some v → I (n + k) ρ G → P'.rt = P.rt → P'.bk = P.nx → (∀ ρ2 G2, I (n + k + 1) ρ2 G2 → P'.nx ρ2 G2) → (∀ ρ2 G2, I (n + k + 1) ρ2 G2 → P'.ct ρ2 G2) → watch ws G ∧ g v ρ G fun ρ1 G1 => u P' ρ1 G1) →
    (∀ ρ G, I (n + vs.length) ρ G → watch ws G ∧ P.nx ρ G) → forL ws g u P vs ρ G
  | [], n, ρ, G, h, _, hl => hl ρ G h
  | v :: vs, n, ρ, G, h, hs, hl => by
    have ih := fun ρ2 G2 (h2 : I (n + 1) ρ2 G2) => forL_invX I vs (n + 1) ρ2 G2 h2 (fun k v ρ G P' e h3 => by
      have := hs (k + 1) v ρ G P' (by simpa using e)
      rw [show n + (k + 1) = n + 1 + k by omega] at this
      exact this h3) (fun ρ G h3 => by
      have := hl ρ G
      rw [List.length_cons, show n + (vs.length + 1) = n + 1 + vs.length by omega] at this
      exact this h3)
    exact hs 0 v ρ G _ rfl h rfl rfl ih ih
theorem forL_cons {ws : Ws} {g : WG} {u : WS} {P : PEnds} {v : PV} {vs : List PV} {ρ : Rho} {G : PG} : forL ws g u P (v :: vs) ρ G = (watch ws G ∧ g v ρ G fun ρ1 G1 => u { nx := forL ws g u P vs, ct := forL ws g u P vs, bk := P.nx, rt := P.rt } ρ1 G1) := rfl
theorem forL_nil {ws : Ws} {g : WG} {u : WS} {P : PEnds} {ρ : Rho} {G : PG} : forL ws g u P [] ρ G = (watch ws G ∧ P.nx ρ G) := rfl
theorem forL_step {ws : Ws} {g : WG} {u : WS} {P : PEnds} {v : PV} {vs : List PV} {ρ : Rho} {G : PG} (hw : watch ws G) (k : ∀ P' : PEnds, P'.rt = P.rt → (∀ ρ G, forL ws g u P vs ρ G → P'.nx ρ G) → g v ρ G fun ρ1 G1 => u P' ρ1 G1) : forL ws g u P (v :: vs) ρ G :=
  ⟨hw, k _ rfl fun _ _ h => h⟩
/-- from the start, no continue, no break, no return -/
theorem forL_0 {ws : Ws} {g : WG} {u : WS} {P : PEnds} {vs : List PV} {ρ : Rho} {G : PG} (I : Nat → Rho → PG → Prop) (h0 : I 0 ρ G)
    (hs : ∀ k v ρ G (P' : PEnds), vs[k]? = some v → I k ρ G → (∀ ρ2 G2, I (k + 1) ρ2 G2 → P'.nx ρ2 G2) → watch ws G ∧ g v ρ G fun ρ1 G1 => u P' ρ1 G1)
    (hl : ∀ ρ G, I vs.length ρ G → watch ws G ∧ P.nx ρ G) : forL ws g u P vs ρ G := by
  refine forL_invX I vs 0 ρ G h0 (fun k v ρ G P' e h _ _ hn _ => ?_) fun ρ G h => ?_
  · rw [Nat.zero_add] at h hn
    exact hs k v ρ G P' e h hn
  · rw [Nat.zero_add] at h
    exact hl ρ G h
/-- .. with return -/
theorem forL_r {ws : Ws} {g : WG} {u : WS} {P : PEnds} {vs : List PV} {ρ : Rho} {G : PG} (I : Nat → Rho → PG → Prop) (h0 : I 0 ρ G)
    (hs : ∀ k v ρ G (P' : PEnds), vs[k]? = some v → I k ρ G → P'.rt = P.rt → (∀ ρ2 G2, I (k + 1) ρ2 G2 → P'.nx ρ2 G2) → watch ws G ∧ g v ρ G fun ρ1 G1 => u P' ρ1 G1)
    (hl : ∀ ρ G, I vs.length ρ G → watch ws G ∧ P.nx ρ G) : forL ws g u P vs ρ G := by
  refine forL_invX I vs 0 ρ G h0 (fun k v ρ G P' e h hr _ hn _ => ?_) fun ρ G h => ?_
  · rw [Nat.zero_add] at h hn
    exact hs k v ρ G P' e h hr hn
  · rw [Nat.zero_add] at h
    exact hl ρ G h
/-- {k: v for .. in ..} -/
theorem dcL_invX {ws : Ws} {g : WG} {wk wv : WE} {ρ0 : Rho} {D : Addr} {Q : PG → Prop} (I : Nat → PG → Prop) : ∀ (vs : List PV) (n : Nat) (G : PG), I n G →
    (∀ k v G (R : PG → Prop), vs[k]? = some v → I (n + k) G → (∀ G', I (n + k + 1) G' → R G') → watch ws G ∧ g v ρ0 G fun ρ1 G1 => wk ρ1 G1 fun y G3 => wv ρ1 G3 fun z G4 => wPut D y z G4 R) →
    (∀ G, I (n + vs.length) G → watch ws G ∧ Q G) → dcL ws g tsYes wk wv ρ0 D Q vs G
  | [], n, G, h, _, hl => hl G h
  | v :: vs, n, G, h, hs, hl => by
    obtain ⟨w, h1⟩ := hs 0 v G (dcL ws g tsYes wk wv ρ0 D Q vs) rfl h fun G' h' => by
      refine dcL_invX I vs (n + 1) G' h' (fun k v G R e h3 h4 => ?_) fun G h3 => ?_
      · have := hs (k + 1) v G R (by simpa using e)
        rw [show n + (k + 1) = n + 1 + k by omega] at this
        exact this h3 h4
      · have := hl G
        rw [List.length_cons, show n + (vs.length + 1) = n + 1 + vs.length by omega] at this
        exact this h3
    exact ⟨w, h1⟩
theorem dc_inv {tk : Bool} {g : WG} {wk wv : WE} {own : List Nat} {ρ : Rho} {G : PG} {Q : WK} {ws : Ws} {vs : List PV} (I : Addr → Nat → PG → Prop)
    (h0 : ∀ D, G D = none → I D 0 (pup G D (if tk = true then .dT [] else .dK [])))
    (h : ∀ D, G D = none → ∀ (k : Nat) v G' (R : PG → Prop), vs[k]? = some v → I D k G' → (∀ G'', I D (k + 1) G'' → R G'') → watch ws G' ∧ g v (wipeR ρ own) G' fun ρ1 G1 => wk ρ1 G1 fun y G3 => wv ρ1 G3 fun z G4 => wPut D y z G4 R)
    (q : ∀ D G', G D = none → I D vs.length G' → watch ws G' ∧ Q (.ref D) G') : wDc tk (iK ws vs) g tsYes wk wv own ρ G Q := by
  intro D hD
  refine dcL_invX (I D) vs 0 _ (h0 D hD) (fun k v G' R e h1 h2 => ?_) fun G' h1 => ?_
  · rw [Nat.zero_add] at h1 h2
    exact h D hD k v G' R e h1 h2
  · rw [Nat.zero_add] at h1
    exact q D G' hD h1
/-! targets, applied -/
section
variable {i j k l : Nat} {u v w x : PV} {vs : List PV} {ρ : Rho} {G : PG} {R : Rho → PG → Prop} {g : WG} {gs : WGs} {wo wi : WE} {T : Bool → PG → Prop}
theorem gN_ap : gN i v ρ G R = R (ρ.set i (some v)) G := rfl
theorem gC_ap : gC g gs (v :: vs) ρ G R = g v ρ G fun ρ1 G1 => gs vs ρ1 G1 R := rfl
theorem gZ_ap : gZ [] ρ G R = R ρ G := by unfold gZ; exact propext ⟨fun h => h.2, fun h => ⟨rfl, h⟩⟩
theorem gTp_tup {n : Nat} (h : vs.length = n) : gTp n gs (.tup vs) ρ G R = gs vs ρ G R := by
  unfold gTp
  exact propext ⟨fun h => h.2, fun q => ⟨h, q⟩⟩
theorem gTp2 : gTp 2 gs (.tup [u, v]) ρ G R = gs [u, v] ρ G R := gTp_tup rfl
theorem gTp3 : gTp 3 gs (.tup [u, v, w]) ρ G R = gs [u, v, w] ρ G R := gTp_tup rfl
theorem gTp4 : gTp 4 gs (.tup [u, v, w, x]) ρ G R = gs [u, v, w, x] ρ G R := gTp_tup rfl
theorem gTp_lst {n : Nat} {a : Addr} (ha : G a = some (.lst vs)) (h : vs.length = n) : gTp n gs (.ref a) ρ G R = gs vs ρ G R := by
  unfold gTp
  simp only [ha]
  exact propext ⟨fun h => h.2, fun q => ⟨h, q⟩⟩
theorem gTp2L {a : Addr} (ha : G a = some (.lst [u, v])) : gTp 2 gs (.ref a) ρ G R = gs [u, v] ρ G R := gTp_lst ha rfl
theorem gTp3L {a : Addr} (ha : G a = some (.lst [u, v, w])) : gTp 3 gs (.ref a) ρ G R = gs [u, v, w] ρ G R := gTp_lst ha rfl
theorem gTp4L {a : Addr} (ha : G a = some (.lst [u, v, w, x])) : gTp 4 gs (.ref a) ρ G R = gs [u, v, w, x] ρ G R := gTp_lst ha rfl
theorem gS_ap : gS wo wi v ρ G R = wo ρ G fun o G1 => wi ρ G1 fun i G2 => wSet o i v G2 fun G3 => R ρ G3 := rfl
theorem tsYes_ap : tsYes ρ G T = T true G := rfl
theorem set_lst {a : Addr} {n : Int} {S : PG → Prop} (ha : G a = some (.lst vs)) (h : ixN vs.length n = some j) : wSet (.ref a) (.int n) v G S = S (pup G a (.lst (vs.set j v))) := by
  unfold wSet
  simp only [ha, h]
theorem set_nat {a : Addr} {n : Nat} {S : PG → Prop} (ha : G a = some (.lst vs)) (h : n < vs.length) : wSet (.ref a) (.int (n : Int)) v G S = S (pup G a (.lst (vs.set n v))) := set_lst ha (ix_nat h)
end
/-! sources, applied -/
def itV (v : PV) (G : PG) (R : Ws → List PV → PG → Prop) : Prop := match seqOf v G with | some (ws, vs) => R ws vs G | none => False
def itE (v : PV) (G : PG) (R : Ws → List PV → PG → Prop) : Prop := match seqOf v G with | some (ws, vs) => R ws (enumP 0 vs) G | none => False
def itZ (u v : PV) (G : PG) (R : Ws → List PV → PG → Prop) : Prop := match seqOf u G, seqOf v G with | some (ws, us), some (ws', vs) => R (ws ++ ws') (zipP us vs) G | _, _ => False
def itR (v : PV) (G : PG) (R : Ws → List PV → PG → Prop) : Prop := match v with | .int j => j < 2 ^ 62 ∧ -(2 ^ 62) ≤ j ∧ R [] ((List.range j.toNat).map fun (i : Nat) => PV.int i) G | _ => False
def itR2 (u v : PV) (G : PG) (R : Ws → List PV → PG → Prop) : Prop := match u, v with
  | .int i, .int j => (-(2 ^ 62) ≤ i ∧ i < 2 ^ 62 ∧ -(2 ^ 62) ≤ j ∧ j < 2 ^ 62) ∧ R [] ((List.range (j - i).toNat).map fun (k : Nat) => PV.int (i + k)) G
  | _, _ => False
def itR3 (u v z : PV) (G : PG) (R : Ws → List PV → PG → Prop) : Prop := match u, v, z with
  | .int i, .int j, .int c => ∃ n, RgC i j c n ∧ R [] ((List.range n).map fun (k : Nat) => PV.int (i + k * c)) G
  | _, _, _ => False
section
variable {w wa wb wc : WE} {ρ : Rho} {G : PG} {R : Ws → List PV → PG → Prop} {g : WG} {wt : WT} {we wk wv : WE} {own : List Nat} {Q : List PV → PG → Prop} {S : WK} {tk : Bool} {us vs : List PV} {a b : Addr}
theorem iVal_ap : iVal w ρ G R = w ρ G fun v G1 => itV v G1 R := by
  unfold iVal itV
  congr 1
  funext v G1
  cases v with
  | ref a =>
    cases h : G1 a with
    | none => simp only [seqOf, h]
    | some o => cases o <;> simp only [seqOf, h]
  | _ => rfl
theorem iEnm_ap : iEnm w ρ G R = w ρ G fun v G1 => itE v G1 R := rfl
theorem iZp_ap : iZp wa wb ρ G R = wa ρ G fun u G1 => wb ρ G1 fun v G2 => itZ u v G2 R := rfl
theorem iR1_ap : iR1 w ρ G R = w ρ G fun v G1 => itR v G1 R := rfl
theorem iR2_ap : iR2 wa wb ρ G R = wa ρ G fun u G1 => wb ρ G1 fun v G2 => itR2 u v G2 R := rfl
theorem iR3_ap : iR3 wa wb wc ρ G R = wa ρ G fun u G1 => wb ρ G1 fun v G2 => wc ρ G2 fun z G3 => itR3 u v z G3 R := rfl
theorem itV_tup : itV (.tup vs) G R = R [] vs G := rfl
theorem itV_rl : itV (.rl vs) G R = R [] vs G := rfl
theorem itV_lst (h : G a = some (.lst vs)) : itV (.ref a) G R = R [(a, vs)] vs G := by unfold itV; rw [seqOf_lst h]
theorem itE_tup : itE (.tup vs) G R = R [] (enumP 0 vs) G := rfl
theorem itE_lst (h : G a = some (.lst vs)) : itE (.ref a) G R = R [(a, vs)] (enumP 0 vs) G := by unfold itE; rw [seqOf_lst h]
theorem itZ_tup : itZ (.tup us) (.tup vs) G R = R [] (zipP us vs) G := rfl
theorem itZ_lst (h : G a = some (.lst us)) (h' : G b = some (.lst vs)) : itZ (.ref a) (.ref b) G R = R [(a, us), (b, vs)] (zipP us vs) G := by unfold itZ; rw [seqOf_lst h, seqOf_lst h']; rfl
theorem zipP2 {a b c d : PV} : zipP [a, b] [c, d] = [.tup [a, c], .tup [b, d]] := rfl
theorem itR_int {j : Int} : itR (.int j) G R = (j < 2 ^ 62 ∧ -(2 ^ 62) ≤ j ∧ R [] ((List.range j.toNat).map fun (i : Nat) => PV.int i) G) := rfl
theorem itR2_int {i j : Int} : itR2 (.int i) (.int j) G R = ((-(2 ^ 62) ≤ i ∧ i < 2 ^ 62 ∧ -(2 ^ 62) ≤ j ∧ j < 2 ^ 62) ∧ R [] ((List.range (j - i).toNat).map fun (k : Nat) => PV.int (i + k)) G) := rfl
theorem lcQ_iVal : wLcQ (iVal w) g wt we own ρ G Q = w ρ G fun v G1 => itV v G1 fun ws vs G2 => wLcQ (iK ws vs) g wt we own ρ G2 Q := iVal_ap
theorem lcQ_iEnm : wLcQ (iEnm w) g wt we own ρ G Q = w ρ G fun v G1 => itE v G1 fun ws vs G2 => wLcQ (iK ws vs) g wt we own ρ G2 Q := rfl
theorem lcQ_iZp : wLcQ (iZp wa wb) g wt we own ρ G Q = wa ρ G fun u G1 => wb ρ G1 fun v G2 => itZ u v G2 fun ws vs G2 => wLcQ (iK ws vs) g wt we own ρ G2 Q := rfl
theorem lcQ_iR1 : wLcQ (iR1 w) g wt we own ρ G Q = w ρ G fun v G1 => itR v G1 fun ws vs G2 => wLcQ (iK ws vs) g wt we own ρ G2 Q := rfl
theorem lcQ_iR2 : wLcQ (iR2 wa wb) g wt we own ρ G Q = wa ρ G fun u G1 => wb ρ G1 fun v G2 => itR2 u v G2 fun ws vs G2 => wLcQ (iK ws vs) g wt we own ρ G2 Q := rfl
theorem lc_iVal : wLc (iVal w) g wt we own ρ G S = w ρ G fun v G1 => itV v G1 fun ws vs G2 => wLc (iK ws vs) g wt we own ρ G2 S := iVal_ap
theorem lc_iEnm : wLc (iEnm w) g wt we own ρ G S = w ρ G fun v G1 => itE v G1 fun ws vs G2 => wLc (iK ws vs) g wt we own ρ G2 S := rfl
theorem lc_iZp : wLc (iZp wa wb) g wt we own ρ G S = wa ρ G fun u G1 => wb ρ G1 fun v G2 => itZ u v G2 fun ws vs G2 => wLc (iK ws vs) g wt we own ρ G2 S := rfl
theorem lc_iR1 : wLc (iR1 w) g wt we own ρ G S = w ρ G fun v G1 => itR v G1 fun ws vs G2 => wLc (iK ws vs) g wt we own ρ G2 S := rfl
theorem lc_iR2 : wLc (iR2 wa wb) g wt we own ρ G S = wa ρ G fun u G1 => wb ρ G1 fun v G2 => itR2 u v G2 fun ws vs G2 => wLc (iK ws vs) g wt we own ρ G2 S := rfl
theorem dc_iVal : wDc tk (iVal w) g wt wk wv own ρ G S = w ρ G fun v G1 => itV v G1 fun ws vs G2 => wDc tk (iK ws vs) g wt wk wv own ρ G2 S := iVal_ap
end
/-! a def's statement by its place -/
theorem drop_at {l : List CS} {k : Nat} {s : CS} (h : l[k]? = some s) : l.drop k = s :: l.drop (k + 1) := by
  have hk : k < l.length := (List.getElem?_eq_some_iff.mp h).1
  rw [List.drop_eq_getElem_cons hk]
  congr 1
  exact (List.getElem?_eq_some_iff.mp h).2
theorem wSs_at {Γ : Gam} {l : List CS} {k : Nat} {s : CS} {P : PEnds} {ρ : Rho} {G : PG} (h : l[k]? = some s) : wSs Γ (B (l.drop k)) P ρ G = wSt Γ s { P with nx := fun ρ1 G1 => wSs Γ (B (l.drop (k + 1))) P ρ1 G1 } ρ G := by
  rw [drop_at h, wSs_cons]
theorem wSs_end {Γ : Gam} {l : List CS} {k : Nat} {P : PEnds} {ρ : Rho} {G : PG} (h : l[k]? = none) : wSs Γ (B (l.drop k)) P ρ G = P.nx ρ G := by
  rw [List.drop_eq_nil_of_le (List.getElem?_eq_none_iff.mp h)]; rfl
theorem wSs_0 {Γ : Gam} {l : List CS} {P : PEnds} {ρ : Rho} {G : PG} (h : wSs Γ (B (l.drop 0)) P ρ G) : wSs Γ (B l) P ρ G := h
end Cl
set_option Elab.async false
set_option linter.all false
set_option maxRecDepth 100000
set_option maxHeartbeats 4000000
/-! The clean layer, the end: all defs, two levels a call (a class's __init__ wants one more). -/
namespace Cl
open PySem PySem.Spec PyProof.Rows L2 SkE
theorem all_ok2 {P : Program} {w : World} {K : Frag} {mg : Str → Option Value} {base : Heap} (Γ : (Nat → PSp) → Gam) (tab : List DT) (S : Nat → Nat → PSp)
    (hsc : ∀ t ∈ tab, scB t = true) (hck : ∀ t ∈ tab, ∀ Φ, kSs (Γ Φ) t.c ⟨t.N, t.d.scope, t.d.scope.names⟩ t.d.body = true)
    (hlen : ∀ k i t args G Q, tab[i]? = some t → S k i args G Q → args.length = t.ps.length) (h0 : ∀ i args G Q, ¬ S 0 i args G Q)
    (hglob : ∀ k (X : Cx), X.prog = P → X.w = w → X.K = K → X.mg = mg → X.base = base → X.calm = true → Room (2 * k + 1) X.A → X.A.guards = some [] →
      (∀ i t fd, tab[i]? = some t → t.Is K fd → FnO P w K mg base (2 * k) (He.fAd K t.d.at_) fd t.ps (S k i)) → Glob (Γ (S k)) X)
    (hw : ∀ k i t args G Q, tab[i]? = some t → S (k + 1) i args G Q → wSs (Γ (S k)) t.c { nx := fun _ G' => Q .non G', rt := Q } (startP t.N args) G) :
    ∀ k i t fd, tab[i]? = some t → t.Is K fd → FnO P w K mg base (2 * k) (He.fAd K t.d.at_) fd t.ps (S k i)
  | 0, i, t, fd, h, F => ⟨fun args G Q q => absurd q (h0 i args G Q), fun A outer s H args us vs Q _ _ _ _ _ q => by
    obtain ⟨pvs, G, QP, _, _, hs, _⟩ := q
    exact absurd hs (h0 i _ _ _)⟩
  | k + 1, i, t, fd, h, F => by
    have ih := all_ok2 (P := P) (w := w) (K := K) (mg := mg) (base := base) Γ tab S hsc hck hlen h0 hglob hw k
    have hm := List.mem_of_getElem? h
    exact fnO_of (k := 2 * k + 1) F (scB_ok (hsc t hm)) (fun args G Q q => hlen (k + 1) i t args G Q h q) (hck t hm (S k)) (fun X e1 e2 e3 e4 e5 e6 e7 e8 => hglob k X e1 e2 e3 e4 e5 e6 e7 e8 ih) (fun args G Q q => hw k i t args G Q h q)
/-- by keywords -/
theorem bindsK {K : Frag} {x qual : Str} {params : Arguments} {body : List Stmt} {scope : Scope} {kws : List (Str × V)} {f : Addr} {fd : FuncData} {np : Nat} {ks : List Str} {perm : List Nat} {ps : List Str} (F : FunD K x qual params body scope [] kws f fd)
    (h : ∀ (kV doc pm : Value) (an : Option Addr) (cdv ct : Value) (us ws : List Value), us.length = np → ws.length = ks.length → bindArgs (PySem.W.fnOf x qual params body scope .none kV doc pm an cdv ct) ⟨us, ks.zip ws⟩ = pure (ps.zip (gP np ks.length perm us ws))) (s : Shared) (us ws : List Value) (hu : us.length = np) (hw : ws.length = ks.length) : BindsTo s fd ⟨us, ks.zip ws⟩ (ps.zip (gP np ks.length perm us ws)) := by
  obtain ⟨oc, od, dV, kV, doc, pm, an, cdv, ct, osl, rfl, lk, hcd, hD, hK⟩ := F.ex
  rcases hD with ⟨_, rfl⟩ | ⟨e, _⟩
  · exact .of_eq (h kV doc pm an cdv ct us ws hu hw)
  · exact absurd rfl e
/-- a promise that holds from a level on -/
abbrev lv (r k : Nat) (sp : PSp) : PSp := fun args G Q => r ≤ k ∧ sp args G Q
theorem cst_int {X : Cx} {x : Str} {i : Int} {pos : Pos} {t : Tok} (hm : X.mg x = some (.int i t)) (hg : Gl X x) (hd : (x == ("__debug__" : Str)) = false) : SE X (.Name x pos) (wC (.int i)) :=
  se_const (x := V.int i) (pe_glob (v := V.int i) hg hm ⟨t, rfl⟩ hd) fun H => RV.intI i
theorem cst_str {X : Cx} {x z : Str} {pos : Pos} {t : Tok} (hm : X.mg x = some (.str z t)) (hg : Gl X x) (hd : (x == ("__debug__" : Str)) = false) : SE X (.Name x pos) (wC (.str z)) :=
  se_const (x := V.str z) (pe_glob (v := V.str z) hg hm ⟨t, rfl⟩ hd) fun H => RV.strI z
theorem cst_tup {X : Cx} {x : Str} {vs : List PV} {xs : List V} {a : Addr} {pos : Pos} (hm : X.mg x = some (.ref a)) (ht : ∀ H, SqT X.K H a xs) (hr : ∀ H, RVs X.K H vs xs) (hg : Gl X x) (hd : (x == ("__debug__" : Str)) = false) : SE X (.Name x pos) (wC (.tup vs)) :=
  se_const (x := V.ref a) (pe_glob hg hm rfl hd) fun H => RV.tup_of (ht H) (hr H)
/-! a constant of the module, tuples within -/
mutual
def hasV (K : Frag) : PV → Value → Bool
  | .non, u => (match u with | .none => true | _ => false)
  | .bl b, u => (match u with | .bool c => b == c | _ => false)
  | .int i, u => (match u with | .int j _ => decide (i = j) | _ => false)
  | .str x, u => (match u with | .str y _ => decide (x = y) | _ => false)
  | .tup vs, u => (match u with | .ref a => (match K.lookup a with | some ⟨.type c, _, .seq its _, _⟩ => decide (c = "tuple") && (decide (its.size ≤ sizeLine) && hasVs K vs its.toList) | _ => false) | _ => false)
  | .ref _, _ => false
  | .rl _, _ => false
def hasVs (K : Frag) : List PV → List Value → Bool
  | [], us => (match us with | [] => true | _ => false)
  | v :: vs, us => (match us with | u :: us => hasV K v u && hasVs K vs us | _ => false)
end
mutual
theorem hasV_ok {K : Frag} : ∀ (v : PV) (u : Value), hasV K v u = true → ∃ x, L2.RelV x u ∧ ∀ H, RV K H v x
  | .non, u, h => by
    cases u <;> first | exact ⟨.non, rfl, fun H => RV.nonI⟩ | (simp [hasV] at h)
  | .bl b, u, h => by
    cases u <;> first | (simp [hasV] at h; done) | (simp [hasV] at h; subst h; exact ⟨.bl _, rfl, fun H => RV.blI _⟩)
  | .int b, u, h => by
    cases u <;> first | (simp [hasV] at h; done) | (simp [hasV] at h; subst h; exact ⟨.int _, ⟨_, rfl⟩, fun H => RV.intI _⟩)
  | .str b, u, h => by
    cases u <;> first | (simp [hasV] at h; done) | (simp [hasV] at h; subst h; exact ⟨.str _, ⟨_, rfl⟩, fun H => RV.strI _⟩)
  | .tup vs, u, h => by
    cases u with
    | ref a =>
      simp only [hasV] at h
      split at h
      · rename_i c _ its n _ e
        simp only [Bool.and_eq_true, decide_eq_true_eq] at h
        obtain ⟨rfl, h2, h3⟩ := h
        obtain ⟨xs, r, k⟩ := hasVs_ok vs its.toList h3
        exact ⟨.ref a, rfl, fun H => RV.tup_of (.inr ⟨_, its, n, e, rfl, rfl, h2, r⟩) (k H)⟩
      · cases h
    | _ => simp only [hasV] at h; cases h
  | .ref _, u, h => by cases u <;> simp [hasV] at h
  | .rl _, u, h => by cases u <;> simp [hasV] at h
theorem hasVs_ok {K : Frag} : ∀ (vs : List PV) (us : List Value), hasVs K vs us = true → ∃ xs, Vals xs us ∧ ∀ H, RVs K H vs xs
  | [], [], h => ⟨[], .nil, fun H => .nil⟩
  | [], _ :: _, h => by simp [hasVs] at h
  | _ :: _, [], h => by simp [hasVs] at h
  | v :: vs, u :: us, h => by
    simp only [hasVs, Bool.and_eq_true] at h
    obtain ⟨x, r1, k1⟩ := hasV_ok v u h.1
    obtain ⟨xs, r2, k2⟩ := hasVs_ok vs us h.2
    exact ⟨x :: xs, .cons r1 r2, fun H => .cons (k1 H) (k2 H)⟩
end
theorem cst_nst {X : Cx} {x : Str} {v : PV} {a : Addr} {pos : Pos} (hm : X.mg x = some (.ref a)) (h : hasV X.K v (.ref a) = true) (hg : Gl X x) (hd : (x == ("__debug__" : Str)) = false) : SE X (.Name x pos) (wC v) := by
  obtain ⟨y, r, k⟩ := hasV_ok v _ h
  exact se_const (pe_glob hg hm r hd) k
end Cl
set_option Elab.async false
set_option linter.all false
set_option maxRecDepth 100000
set_option maxHeartbeats 4000000
/-! Numbers of the text: whole numbers and pairs in lowest terms, as rationals. -/
namespace Cl
open PySem PySem.Spec PyProof.Rows L2
/-- a rational as the text has it -/
def num (q : Rat) : PV := if q.den = 1 then .int q.num else .tup [.int q.num, .int q.den]
theorem num_int (i : Int) : num (i : Rat) = .int i := by
  unfold num
  rw [if_pos (by rfl)]
  rfl
/-- what lowest makes of above and under -/
theorem low_num {a : Int} {b : Nat} (hb : 0 < b) : num (mkRat a b) = if (b : Int) / (Int.gcd a b : Int) = 1 then .int (a / (Int.gcd a b : Int)) else .tup [.int (a / (Int.gcd a b : Int)), .int ((b : Int) / (Int.gcd a b : Int))] := by
  have hb' : b ≠ 0 := by omega
  have e : mkRat a b = Rat.normalize a b hb' := by rw [mkRat]; simp [hb']
  have e1 : (mkRat a b).num = a / (a.natAbs.gcd b : Int) := by rw [e, Rat.normalize_eq]
  have e2 : (mkRat a b).den = b / (a.natAbs.gcd b) := by rw [e, Rat.normalize_eq]
  have e3 : (Int.gcd a b : Nat) = a.natAbs.gcd b := by simp [Int.gcd]
  unfold num
  rw [e1, e2, e3]
  have e4 : ((b / a.natAbs.gcd b : Nat) : Int) = (b : Int) / (a.natAbs.gcd b : Int) := by simp
  by_cases h : b / a.natAbs.gcd b = 1
  · rw [if_pos h, if_pos]
    rw [← e4, h]; rfl
  · rw [if_neg h, if_neg, e4]
    intro z
    rw [← e4] at z
    exact h (by exact_mod_cast z)
/-- small enough for all that is reckoned with it -/
def Sml (q : Rat) : Prop := q.num.natAbs < 2 ^ 1900 ∧ q.den < 2 ^ 1900
theorem log_lt {n k : Nat} (hk : 0 < k) (h : n < 2 ^ k) : n.log2 < k := by
  by_cases hn : n = 0
  · subst hn; simpa using hk
  · exact (Nat.log2_lt hn).mpr h
theorem mulW {i j : Int} (h1 : i.natAbs < 2 ^ 1900) (h2 : j.natAbs < 2 ^ 1900) : CMulW i j ∨ CMul i j := by
  left
  have a := log_lt (by decide) h1
  have b := log_lt (by decide) h2
  unfold CMulW; omega
theorem Sml.n {q : Rat} (h : Sml q) : q.num.natAbs < 2 ^ 1900 := h.1
theorem Sml.d {q : Rat} (h : Sml q) : (q.den : Int).natAbs < 2 ^ 1900 := by simpa using h.2
theorem gcd_small {a : Int} {b : Nat} (hb : 0 < b) (h : b < 2 ^ 3800) : CDivW a (Int.gcd a b : Int) := by
  have h1 : 0 < Int.gcd a b := Int.gcd_pos_of_ne_zero_right _ (by omega)
  have h2 : Int.gcd a b ≤ b := by
    have := Int.gcd_dvd_right a (b : Int)
    exact Nat.le_of_dvd hb (by exact_mod_cast this)
  refine ⟨by omega, ?_⟩
  have : ((Int.gcd a b : Nat) : Int).natAbs = Int.gcd a b := by simp
  rw [this]
  have := log_lt (k := 3800) (by decide) (Nat.lt_of_le_of_lt h2 h)
  omega
theorem CDivW.any {i i' j : Int} (h : CDivW i j) : CDivW i' j := h
/-! ### sizes: the denominator divides D, the number is not above M -/
structure Bd (D M : Nat) (q : Rat) : Prop where
  d : q.den ∣ D
  m : q.num.natAbs ≤ M * q.den
theorem mkRat_den {a : Int} {b : Nat} (hb : b ≠ 0) : (mkRat a b).den ∣ b ∧ (mkRat a b).num.natAbs * b = a.natAbs * (mkRat a b).den := by
  have e : mkRat a b = Rat.normalize a b hb := by rw [mkRat]; simp [hb]
  have e1 : (mkRat a b).num = a / (a.natAbs.gcd b : Int) := by rw [e, Rat.normalize_eq]
  have e2 : (mkRat a b).den = b / (a.natAbs.gcd b) := by rw [e, Rat.normalize_eq]
  have g1 : a.natAbs.gcd b ∣ b := Nat.gcd_dvd_right _ _
  have g2 : a.natAbs.gcd b ∣ a.natAbs := Nat.gcd_dvd_left _ _
  rw [e1, e2]
  refine ⟨Nat.div_dvd_of_dvd g1, ?_⟩
  have g3 : (a / (a.natAbs.gcd b : Int)).natAbs = a.natAbs / a.natAbs.gcd b := by
    rw [Int.natAbs_ediv_of_dvd]
    · simp
    · exact Int.ofNat_dvd_left.mpr g2
  rw [g3]
  obtain ⟨u, hu⟩ := g1
  obtain ⟨v, hv⟩ := g2
  have gp : 0 < a.natAbs.gcd b := Nat.gcd_pos_of_pos_right _ (by omega)
  generalize hg : a.natAbs.gcd b = g at *
  rw [hv, Nat.mul_div_cancel_left _ gp]
  conv => lhs; rw [hu]
  conv => rhs; rw [hu, Nat.mul_div_cancel_left _ gp]
  rw [Nat.mul_left_comm, Nat.mul_assoc]
theorem Bd.mk_ {a : Int} {b D M : Nat} (hb : b ≠ 0) (hd : b ∣ D) (hm : a.natAbs ≤ M * b) : Bd D M (mkRat a b) := by
  obtain ⟨h1, h2⟩ := mkRat_den (a := a) hb
  refine ⟨Nat.dvd_trans h1 hd, ?_⟩
  have : (mkRat a b).num.natAbs * b ≤ (M * (mkRat a b).den) * b := by
    rw [h2, Nat.mul_right_comm]
    exact Nat.mul_le_mul_right _ hm
  exact Nat.le_of_mul_le_mul_right this (by omega)
theorem Bd.add {D M N : Nat} {p q : Rat} (hD : 0 < D) (a : Bd D M p) (b : Bd D N q) : Bd D (M + N) (p + q) := by
  have dp := p.den_pos
  have dq := q.den_pos
  -- over the common denominator
  refine ⟨?_, ?_⟩
  · obtain ⟨u, hu⟩ := a.d
    obtain ⟨v, hv⟩ := b.d
    have hu0 : u ≠ 0 := by rintro rfl; omega
    have hv0 : v ≠ 0 := by rintro rfl; omega
    have ep : p = mkRat (p.num * u) D := by rw [hu, Rat.mkRat_mul_right hu0, Rat.mkRat_self]
    have eq : q = mkRat (q.num * v) D := by rw [hv, Rat.mkRat_mul_right hv0, Rat.mkRat_self]
    have hD' : D ≠ 0 := by omega
    have e : p + q = mkRat (p.num * u + q.num * v) D := by
      conv => lhs; rw [ep, eq, Rat.mkRat_add_mkRat _ _ hD' hD', ← Int.add_mul, Rat.mkRat_mul_right hD']
    rw [e]
    exact (mkRat_den hD').1
  · have h := mkRat_den (a := p.num * q.den + q.num * p.den) (b := p.den * q.den) (by have := Nat.mul_pos dp dq; omega)
    rw [← Rat.add_def'] at h
    have hm : (p.num * q.den + q.num * p.den).natAbs ≤ (M + N) * (p.den * q.den) := by
      refine Nat.le_trans (Int.natAbs_add_le _ _) ?_
      rw [Int.natAbs_mul, Int.natAbs_mul, Int.natAbs_natCast, Int.natAbs_natCast, Nat.add_mul]
      have h1 := Nat.mul_le_mul_right q.den a.m
      have h2 := Nat.mul_le_mul_right p.den b.m
      have e1 : M * p.den * q.den = M * (p.den * q.den) := Nat.mul_assoc _ _ _
      have e2 : N * q.den * p.den = N * (p.den * q.den) := by rw [Nat.mul_assoc, Nat.mul_comm q.den]
      omega
    have : (p + q).num.natAbs * (p.den * q.den) ≤ ((M + N) * (p + q).den) * (p.den * q.den) := by
      rw [h.2, Nat.mul_right_comm]
      exact Nat.mul_le_mul_right _ hm
    exact Nat.le_of_mul_le_mul_right this (Nat.mul_pos dp dq)
theorem Bd.mul {D E M N : Nat} {p q : Rat} (a : Bd D M p) (b : Bd E N q) : Bd (D * E) (M * N) (p * q) := by
  have dp := p.den_pos
  have dq := q.den_pos
  rw [Rat.mul_def']
  refine .mk_ (by have := Nat.mul_pos dp dq; omega) (Nat.mul_dvd_mul a.d b.d) ?_
  rw [Int.natAbs_mul]
  have := Nat.mul_le_mul a.m b.m
  have e : M * p.den * (N * q.den) = M * N * (p.den * q.den) := by
    rw [Nat.mul_assoc, Nat.mul_assoc, Nat.mul_left_comm p.den]
  omega
theorem Bd.neg {D M : Nat} {p : Rat} (a : Bd D M p) : Bd D M (-p) := ⟨by simpa using a.d, by simpa using a.m⟩
theorem Bd.int (i : Int) : Bd 1 i.natAbs (i : Rat) := ⟨by simp, by simp⟩
theorem Bd.up {D E M N : Nat} {p : Rat} (a : Bd D M p) (h : D ∣ E) (h2 : M ≤ N) : Bd E N p := ⟨Nat.dvd_trans a.d h, Nat.le_trans a.m (Nat.mul_le_mul_right _ h2)⟩
theorem Bd.sml {D M : Nat} {p : Rat} (a : Bd D M p) (hD : 0 < D) (h1 : D < 2 ^ 1900) (h2 : M * D < 2 ^ 1900) : Sml p := by
  have h := Nat.le_of_dvd hD a.d
  exact ⟨Nat.lt_of_le_of_lt (Nat.le_trans a.m (Nat.mul_le_mul_left _ h)) h2, Nat.lt_of_le_of_lt h h1⟩
end Cl
set_option Elab.async false
set_option linter.all false
set_option maxRecDepth 100000
set_option maxHeartbeats 4000000
set_option exponentiation.threshold 10000
/-! Values of whole numbers, texts and tuples alone: ==, != and repr of them. -/
namespace Cl
open PySem PySem.Spec PyProof.Rows L2
def isP : Nat → PV → Prop
  | _, .int _ => True
  | _, .non => True
  | _, .str x => PyData.strOk x = true
  | n + 1, .tup xs => ∀ x ∈ xs, isP n x
  | _, _ => False
def pdat : Nat → PV → PyData
  | _, .int i => .int i
  | _, .str x => .str x
  | n + 1, .tup xs => .tuple (xs.map (pdat n))
  | _, _ => .none
theorem mapM_of {f : PV → Option PyData} {g : PV → PyData} : ∀ {xs : List PV}, (∀ x ∈ xs, f x = some (g x)) → xs.mapM f = some (xs.map g)
  | [], _ => rfl
  | x :: xs, h => by rw [List.mapM_cons, h x List.mem_cons_self, mapM_of fun y hy => h y (List.mem_cons_of_mem _ hy)]; rfl
theorem isP_int {n : Nat} {i : Int} : isP n (.int i) := by cases n <;> exact trivial
theorem isP_non {n : Nat} : isP n .non := by cases n <;> exact trivial
theorem isP_str {n : Nat} {x : Str} : isP n (.str x) ↔ PyData.strOk x = true := by cases n <;> exact Iff.rfl
theorem isP_tup {n : Nat} {xs : List PV} : isP (n + 1) (.tup xs) ↔ ∀ x ∈ xs, isP n x := Iff.rfl
theorem isP_tup0 {n : Nat} {xs : List PV} (h : isP n (.tup xs)) : ∃ m, n = m + 1 ∧ ∀ x ∈ xs, isP m x := by
  cases n with
  | zero => exact h.elim
  | succ m => exact ⟨m, rfl, h⟩
theorem pdat_int {n : Nat} {i : Int} : pdat n (.int i) = .int i := by cases n <;> rfl
theorem pdat_non {n : Nat} : pdat n .non = .none := by cases n <;> rfl
theorem pdat_str {n : Nat} {x : Str} : pdat n (.str x) = .str x := by cases n <;> rfl
theorem pdat_tup {n : Nat} {xs : List PV} : pdat (n + 1) (.tup xs) = .tuple (xs.map (pdat n)) := rfl
theorem isP.cases {n : Nat} {v : PV} (h : isP n v) : (∃ i, v = .int i) ∨ v = .non ∨ (∃ x, v = .str x ∧ PyData.strOk x = true) ∨ ∃ xs m, v = .tup xs ∧ n = m + 1 ∧ ∀ x ∈ xs, isP m x := by
  cases v with
  | int i => exact .inl ⟨i, rfl⟩
  | non => exact .inr (.inl rfl)
  | str x => exact .inr (.inr (.inl ⟨x, rfl, isP_str.mp h⟩))
  | tup xs => obtain ⟨m, e, h⟩ := isP_tup0 h; exact .inr (.inr (.inr ⟨xs, m, rfl, e, h⟩))
  | bl b => cases n <;> exact h.elim
  | ref a => cases n <;> exact h.elim
  | rl a => cases n <;> exact h.elim
theorem isP.up : ∀ {n m : Nat} {v : PV}, isP n v → n ≤ m → isP m v := by
  intro n
  induction n with
  | zero =>
    intro m v h _
    rcases h.cases with ⟨i, rfl⟩ | rfl | ⟨x, rfl, hx⟩ | ⟨xs, k, rfl, e, _⟩
    · exact isP_int
    · exact isP_non
    · exact isP_str.mpr hx
    · omega
  | succ n ih =>
    intro m v h hm
    rcases h.cases with ⟨i, rfl⟩ | rfl | ⟨x, rfl, hx⟩ | ⟨xs, k, rfl, e, hk⟩
    · exact isP_int
    · exact isP_non
    · exact isP_str.mpr hx
    · obtain ⟨l, rfl⟩ : ∃ l, m = l + 1 := ⟨m - 1, by omega⟩
      have : k = n := by omega
      subst this
      exact fun x hx => ih (hk x hx) (by omega)
theorem dat_p {G : PG} : ∀ (n m : Nat) (v : PV), isP n v → n < m → dat G m v = some (pdat n v) := by
  intro n
  induction n with
  | zero =>
    intro m v h hm
    obtain ⟨m, rfl⟩ : ∃ k, m = k + 1 := ⟨m - 1, by omega⟩
    rcases h.cases with ⟨i, rfl⟩ | rfl | ⟨x, rfl, hx⟩ | ⟨xs, k, rfl, e, _⟩
    · rfl
    · rfl
    · rfl
    · omega
  | succ n ih =>
    intro m v h hm
    obtain ⟨m, rfl⟩ : ∃ k, m = k + 1 := ⟨m - 1, by omega⟩
    rcases h.cases with ⟨i, rfl⟩ | rfl | ⟨x, rfl, hx⟩ | ⟨xs, k, rfl, e, hk⟩
    · rfl
    · rfl
    · rfl
    · have : k = n := by omega
      subst this
      show (xs.mapM (dat G m)).map PyData.tuple = _
      rw [mapM_of fun x hx => ih m x (hk x hx) (by omega)]; rfl
theorem layAll_of : ∀ {ds : List PyData}, (∀ d ∈ ds, PyData.canLay0 d = true) → PyData.canLayAll0 ds = true
  | [], _ => by simp [PyData.canLayAll0]
  | d :: ds, h => by simp [PyData.canLayAll0, h d List.mem_cons_self, layAll_of fun e he => h e (List.mem_cons_of_mem _ he)]
theorem lay_p : ∀ (n : Nat) (v : PV), isP n v → PyData.canLay0 (pdat n v) = true := by
  intro n
  induction n with
  | zero =>
    intro v h
    rcases h.cases with ⟨i, rfl⟩ | rfl | ⟨x, rfl, hx⟩ | ⟨xs, k, rfl, e, _⟩
    · simp [pdat, PyData.canLay0]
    · simp [pdat, PyData.canLay0]
    · simpa [pdat, PyData.canLay0] using hx
    · omega
  | succ n ih =>
    intro v h
    rcases h.cases with ⟨i, rfl⟩ | rfl | ⟨x, rfl, hx⟩ | ⟨xs, k, rfl, e, hk⟩
    · simp [pdat, PyData.canLay0]
    · simp [pdat, PyData.canLay0]
    · simpa [pdat, PyData.canLay0] using hx
    · have : k = n := by omega
      subst this
      rw [pdat_tup, PyData.canLay0]
      refine layAll_of fun d hd => ?_
      obtain ⟨x, hx, rfl⟩ := List.mem_map.mp hd
      exact ih x (hk x hx)
theorem depthAll_le {n : Nat} : ∀ {ds : List PyData}, (∀ d ∈ ds, PyData.depth d ≤ n) → PyData.depthAll ds ≤ n
  | [], _ => by simp [PyData.depthAll]
  | d :: ds, h => by
    rw [PyData.depthAll]
    have := h d List.mem_cons_self
    have := depthAll_le fun e he => h e (List.mem_cons_of_mem _ he)
    omega
theorem depth_p : ∀ (n : Nat) (v : PV), isP n v → PyData.depth (pdat n v) ≤ n := by
  intro n
  induction n with
  | zero =>
    intro v h
    rcases h.cases with ⟨i, rfl⟩ | rfl | ⟨x, rfl, hx⟩ | ⟨xs, k, rfl, e, _⟩
    · simp [pdat, PyData.depth]
    · simp [pdat, PyData.depth]
    · simp [pdat, PyData.depth]
    · omega
  | succ n ih =>
    intro v h
    rcases h.cases with ⟨i, rfl⟩ | rfl | ⟨x, rfl, hx⟩ | ⟨xs, k, rfl, e, hk⟩
    · simp [pdat, PyData.depth]
    · simp [pdat, PyData.depth]
    · simp [pdat, PyData.depth]
    · have : k = n := by omega
      subst this
      rw [pdat_tup, PyData.depth]
      have := depthAll_le (n := k) (ds := xs.map (pdat k)) fun d hd => by
        obtain ⟨x, hx, rfl⟩ := List.mem_map.mp hd
        exact ih x (hk x hx)
      omega
theorem shaped_p {n : Nat} {v : PV} (h : isP n v) (hn : n ≤ 64) : SeqAt.shaped (pdat n v) = true := by
  unfold SeqAt.shaped
  rw [lay_p n v h, Bool.true_and]
  exact decide_eq_true (Nat.le_trans (depth_p n v h) hn)
theorem eqvAll_p {f g : PV → PyData} : ∀ (us vs : List PV), (∀ u ∈ us, ∀ v ∈ vs, (PyData.eqv (f u) (g v) = true ↔ u = v)) → (PyData.eqvAll (us.map f) (vs.map g) = true ↔ us = vs)
  | [], [], _ => by simp [PyData.eqvAll]
  | [], v :: vs, _ => by simp [PyData.eqvAll]
  | u :: us, [], _ => by simp [PyData.eqvAll]
  | u :: us, v :: vs, h => by
    rw [List.map_cons, List.map_cons, PyData.eqvAll, Bool.and_eq_true, h u List.mem_cons_self v List.mem_cons_self, eqvAll_p us vs fun a ha b hb => h a (List.mem_cons_of_mem _ ha) b (List.mem_cons_of_mem _ hb)]
    simp
theorem str_ext_iff {x y : Str} : (x == y) = true ↔ x = y := by simp
theorem eqv_p : ∀ (n m : Nat) (u v : PV), isP n u → isP m v → (PyData.eqv (pdat n u) (pdat m v) = true ↔ u = v) := by
  intro n
  induction n with
  | zero =>
    intro m u v h h'
    rcases h.cases with ⟨i, rfl⟩ | rfl | ⟨x, rfl, hx⟩ | ⟨xs, k, rfl, e, _⟩ <;> rcases h'.cases with ⟨j, rfl⟩ | rfl | ⟨y, rfl, hy⟩ | ⟨ys, l, rfl, rfl, hl⟩ <;> first | omega | simp [pdat_int, pdat_non, pdat_str, pdat_tup, PyData.eqv]
  | succ n ih =>
    intro m u v h h'
    rcases h.cases with ⟨i, rfl⟩ | rfl | ⟨x, rfl, hx⟩ | ⟨xs, k, rfl, e, hk⟩ <;> rcases h'.cases with ⟨j, rfl⟩ | rfl | ⟨y, rfl, hy⟩ | ⟨ys, l, rfl, rfl, hl⟩ <;> try simp [pdat_int, pdat_non, pdat_str, pdat_tup, PyData.eqv]
    have : k = n := by omega
    subst this
    rw [eqvAll_p xs ys fun u hu v hv => ih l u v (hk u hu) (hl v hv)]
section
variable {G : PG} {Q : WK} {u v : PV} {n m : Nat} {a b : Addr} {us vs : List PV}
theorem cmp_eqP (hu : isP n u) (hv : isP m v) (hn : n ≤ 11) (hm : m ≤ 11) {k : Bool} (hk : k = true ↔ u = v) : wCmp .Eq u v G Q = Q (.bl k) G := by
  rw [cmp_eqD (dat_p n datN u hu (by unfold datN; omega)) (dat_p m datN v hv (by unfold datN; omega)) (shaped_p hu (by omega)) (shaped_p hv (by omega))]
  congr 2
  rw [Bool.eq_iff_iff, eqv_p n m u v hu hv, hk]
theorem cmp_neP (hu : isP n u) (hv : isP m v) (hn : n ≤ 11) (hm : m ≤ 11) {k : Bool} (hk : k = true ↔ u = v) : wCmp .NotEq u v G Q = Q (.bl (!k)) G := by
  rw [cmp_neD (dat_p n datN u hu (by unfold datN; omega)) (dat_p m datN v hv (by unfold datN; omega)) (shaped_p hu (by omega)) (shaped_p hv (by omega))]
  congr 3
  rw [Bool.eq_iff_iff, eqv_p n m u v hu hv, hk]
/-- a list of such -/
theorem dat_lst (ha : G a = some (.lst us)) (hu : ∀ u ∈ us, isP n u) (hn : n ≤ 10) : dat G datN (.ref a) = some (.list (us.map (pdat n))) := by
  show (match G a with | some (.lst xs) => (xs.mapM (dat G 11)).map PyData.list | _ => none) = _
  rw [ha]
  show Option.map _ (us.mapM (dat G 11)) = _
  rw [mapM_of fun x hx => dat_p n 11 x (hu x hx) (by omega)]; rfl
theorem shaped_lst (hu : ∀ u ∈ us, isP n u) (hn : n ≤ 60) : SeqAt.shaped (.list (us.map (pdat n))) = true := by
  unfold SeqAt.shaped
  rw [PyData.canLay0, layAll_of fun d hd => by
    obtain ⟨x, hx, rfl⟩ := List.mem_map.mp hd
    exact lay_p n x (hu x hx), Bool.true_and]
  refine decide_eq_true ?_
  rw [PyData.depth]
  have := depthAll_le (n := n) (ds := us.map (pdat n)) fun d hd => by
    obtain ⟨x, hx, rfl⟩ := List.mem_map.mp hd
    exact depth_p n x (hu x hx)
  omega
theorem cmp_eqL (ha : G a = some (.lst us)) (hb : G b = some (.lst vs)) (hu : ∀ u ∈ us, isP n u) (hv : ∀ v ∈ vs, isP m v) (hn : n ≤ 10) (hm : m ≤ 10) {k : Bool} (hk : k = true ↔ us = vs) : wCmp .Eq (.ref a) (.ref b) G Q = Q (.bl k) G := by
  rw [cmp_eqD (dat_lst ha hu hn) (dat_lst hb hv hm) (shaped_lst hu (by omega)) (shaped_lst hv (by omega))]
  congr 2
  rw [Bool.eq_iff_iff, PyData.eqv, eqvAll_p us vs fun u hu' v hv' => eqv_p n m u v (hu u hu') (hv v hv'), hk]
theorem cmp_neL (ha : G a = some (.lst us)) (hb : G b = some (.lst vs)) (hu : ∀ u ∈ us, isP n u) (hv : ∀ v ∈ vs, isP m v) (hn : n ≤ 10) (hm : m ≤ 10) {k : Bool} (hk : k = true ↔ us = vs) : wCmp .NotEq (.ref a) (.ref b) G Q = Q (.bl (!k)) G := by
  rw [cmp_neD (dat_lst ha hu hn) (dat_lst hb hv hm) (shaped_lst hu (by omega)) (shaped_lst hv (by omega))]
  congr 3
  rw [Bool.eq_iff_iff, PyData.eqv, eqvAll_p us vs fun u hu' v hv' => eqv_p n m u v (hu u hu') (hv v hv'), hk]
end
/-! ### repr -/
/-- all whole numbers in it have less than 1900 bits -/
def isS : Nat → PV → Prop
  | _, .int i => i.natAbs < 2 ^ 1900
  | n + 1, .tup xs => ∀ x ∈ xs, isS n x
  | _, _ => True
def slen : Nat → PV → Nat
  | _, .int _ => 640
  | _, .non => 4
  | _, .str x => 10 * x.length + 2
  | n + 1, .tup xs => (xs.map (slen n)).sum + 2 * xs.length + 3
  | _, _ => 0
theorem isS_int {n : Nat} {i : Int} : isS n (.int i) ↔ i.natAbs < 2 ^ 1900 := by cases n <;> exact Iff.rfl
theorem slen_int {n : Nat} {i : Int} : slen n (.int i) = 640 := by cases n <;> rfl
theorem slen_non {n : Nat} : slen n .non = 4 := by cases n <;> rfl
theorem slen_str {n : Nat} {x : Str} : slen n (.str x) = 10 * x.length + 2 := by cases n <;> rfl
theorem shown_int_le' {i : Int} (h : i.natAbs < 2 ^ 1900) : (PyData.shown (.int i)).length ≤ 640 := by
  have e := PySem.int_text_length_le10 (k := 600) (a := i) (by decide) (Nat.lt_of_lt_of_le h (by decide +kernel))
  show (Str.ofString (toString i)).length ≤ 640
  rw [PySem.ofString_length]
  exact Nat.le_trans e (by decide)
theorem shown_str {x : Str} (h : PyData.strOk x = true) : (reprText x).length ≤ 10 * x.length + 2 := by
  refine PySem.StrLaws.reprText_len x fun c hcm => ?_
  have := (Array.all_eq_true_iff_forall_mem.mp h) c (Array.mem_toList_iff.mp hcm)
  have h2 : c < 0x110000 := by simpa using this
  have e : (16 : Nat) ^ 8 = 4294967296 := by decide
  omega
theorem shownAll_len {n : Nat} : ∀ (us : List PV), (∀ u ∈ us, (pdat n u).shown.length ≤ slen n u) → ((PyData.shownAll (us.map (pdat n))).map (·.length)).sum ≤ (us.map (slen n)).sum ∧ (PyData.shownAll (us.map (pdat n))).length = us.length
  | [], _ => by simp [PyData.shownAll]
  | u :: us, h => by
    obtain ⟨h1, h2⟩ := shownAll_len us fun v hv => h v (List.mem_cons_of_mem _ hv)
    have := h u List.mem_cons_self
    simp only [List.map_cons, PyData.shownAll, List.sum_cons, List.length_cons]
    omega
theorem shown_p : ∀ (n : Nat) (v : PV), isP n v → isS n v → (pdat n v).shown.length ≤ slen n v := by
  intro n
  induction n with
  | zero =>
    intro v h hs
    rcases h.cases with ⟨i, rfl⟩ | rfl | ⟨x, rfl, hx⟩ | ⟨xs, k, rfl, e, _⟩
    · exact shown_int_le' hs
    · show (Str.ofString "None").length ≤ 4; decide
    · exact shown_str hx
    · omega
  | succ n ih =>
    intro v h hs
    rcases h.cases with ⟨i, rfl⟩ | rfl | ⟨x, rfl, hx⟩ | ⟨xs, k, rfl, e, hk⟩
    · exact shown_int_le' hs
    · show (Str.ofString "None").length ≤ 4; decide
    · exact shown_str hx
    · have : k = n := by omega
      subst this
      rw [pdat_tup, PyData.shown]
      refine Nat.le_trans (tupleText_len_le _) ?_
      obtain ⟨h1, h2⟩ := shownAll_len (n := k) xs fun u hu => ih u (hk u hu) (hs u hu)
      rw [h2]
      show _ ≤ (xs.map (slen k)).sum + 2 * xs.length + 3
      omega
theorem log_small {k : Nat} (h : k < 2 ^ 1900) : k.log2 < 1920 := Nat.lt_trans (log_lt (by decide) h) (by decide)
theorem showAll_of : ∀ {ds : List PyData}, (∀ d ∈ ds, PyData.showable d = true) → PyData.showableAll ds = true
  | [], _ => by simp [PyData.showableAll]
  | d :: ds, h => by simp [PyData.showableAll, h d List.mem_cons_self, showAll_of fun e he => h e (List.mem_cons_of_mem _ he)]
theorem showable_p : ∀ (n : Nat) (v : PV), isP n v → isS n v → PyData.showable (pdat n v) = true := by
  intro n
  induction n with
  | zero =>
    intro v h hs
    rcases h.cases with ⟨i, rfl⟩ | rfl | ⟨x, rfl, hx⟩ | ⟨xs, k, rfl, e, _⟩
    · rw [pdat_int, PyData.showable]; exact decide_eq_true (log_small hs)
    · simp [pdat, PyData.showable]
    · simp [pdat, PyData.showable]
    · omega
  | succ n ih =>
    intro v h hs
    rcases h.cases with ⟨i, rfl⟩ | rfl | ⟨x, rfl, hx⟩ | ⟨xs, k, rfl, e, hk⟩
    · rw [pdat_int, PyData.showable]; exact decide_eq_true (log_small hs)
    · simp [pdat, PyData.showable]
    · simp [pdat, PyData.showable]
    · have : k = n := by omega
      subst this
      rw [pdat_tup, PyData.showable]
      refine showAll_of fun d hd => ?_
      obtain ⟨x, hx, rfl⟩ := List.mem_map.mp hd
      exact ih x (hk x hx) (hs x hx)
theorem noDict_p {n : Nat} {v : PV} (h : isP n v) : PyData.hasDict (pdat n v) = false := PyData.hasDict_of_canLay _ (lay_p n v h)
section
variable {G : PG} {Q : WK} {v : PV} {n : Nat} {a : Addr} {us : List PV}
theorem repr_int {i : Int} (h : i.natAbs < 2 ^ 1900) (q : Q (.str (PyData.shown (.int i))) G) : bRepr [.int i] G Q := ⟨log_small h, q⟩
theorem repr_tup {xs : List PV} (h : isP n (.tup xs)) (hs : isS n (.tup xs)) (hn : n ≤ 11) (hl : slen n (.tup xs) ≤ 1000000) (q : Q (.str (pdat n (.tup xs)).shown) G) : bRepr [.tup xs] G Q := by
  have := sizeBig
  have := depth_p n _ h
  exact ⟨_, dat_p n datN _ h (by unfold datN; omega), showable_p n _ h hs, noDict_p h, Nat.le_trans (shown_p n _ h hs) (by omega), by omega, q⟩
theorem repr_lst (ha : G a = some (.lst us)) (h : ∀ u ∈ us, isP n u) (hs : ∀ u ∈ us, isS n u) (hn : n ≤ 10) (hl : (us.map (slen n)).sum + 2 * us.length + 3 ≤ 1000000) (q : Q (.str (PyData.shown (.list (us.map (pdat n))))) G) : bRepr [.ref a] G Q := by
  have := sizeBig
  refine ⟨_, dat_lst ha h hn, ?_, ?_, ?_, ?_, q⟩
  · rw [PyData.showable]
    refine showAll_of fun d hd => ?_
    obtain ⟨x, hx, rfl⟩ := List.mem_map.mp hd
    exact showable_p n x (h x hx) (hs x hx)
  · refine PyData.hasDict_of_canLay _ ?_
    rw [PyData.canLay0]
    refine layAll_of fun d hd => ?_
    obtain ⟨x, hx, rfl⟩ := List.mem_map.mp hd
    exact lay_p n x (h x hx)
  · rw [PyData.shown]
    refine Nat.le_trans (listText_len_le _) ?_
    obtain ⟨h1, h2⟩ := shownAll_len (n := n) us fun u hu => shown_p n u (h u hu) (hs u hu)
    rw [h2]
    omega
  · rw [PyData.depth]
    have := depthAll_le (n := n) (ds := us.map (pdat n)) fun d hd => by
      obtain ⟨x, hx, rfl⟩ := List.mem_map.mp hd
      exact depth_p n x (h x hx)
    omega
end
/-! numbers -/
theorem isP_num (q : Rat) {n : Nat} (hn : 1 ≤ n) : isP n (num q) := by
  obtain ⟨m, rfl⟩ : ∃ m, n = m + 1 := ⟨n - 1, by omega⟩
  unfold num
  split
  · exact isP_int
  · intro x hx
    simp only [List.mem_cons, List.not_mem_nil, or_false] at hx
    rcases hx with rfl | rfl <;> exact isP_int
theorem isS_num {q : Rat} (h : Sml q) {n : Nat} (hn : 1 ≤ n) : isS n (num q) := by
  obtain ⟨m, rfl⟩ : ∃ m, n = m + 1 := ⟨n - 1, by omega⟩
  unfold num
  split
  · exact h.1
  · intro x hx
    simp only [List.mem_cons, List.not_mem_nil, or_false] at hx
    rcases hx with rfl | rfl
    · exact isS_int.mpr h.1
    · exact isS_int.mpr h.d
theorem slen_num (q : Rat) {n : Nat} (hn : 1 ≤ n) : slen n (num q) ≤ 1287 := by
  obtain ⟨m, rfl⟩ : ∃ m, n = m + 1 := ⟨n - 1, by omega⟩
  unfold num
  split
  · rw [slen_int]; decide
  · show ([PV.int q.num, PV.int q.den].map (slen m)).sum + 2 * 2 + 3 ≤ 1287
    simp [slen_int]
theorem num_inj {p q : Rat} (h : num p = num q) : p = q := by
  unfold num at h
  by_cases hp : p.den = 1 <;> by_cases hq : q.den = 1
  · rw [if_pos hp, if_pos hq] at h
    injection h with h
    exact Rat.ext h (by rw [hp, hq])
  · rw [if_pos hp, if_neg hq] at h; cases h
  · rw [if_neg hp, if_pos hq] at h; cases h
  · rw [if_neg hp, if_neg hq] at h
    injection h with h
    injection h with h1 h2
    injection h2 with h2 _
    injection h1 with h1
    injection h2 with h2
    exact Rat.ext h1 (by omega)
theorem num_iff {p q : Rat} : num p = num q ↔ p = q := ⟨num_inj, fun h => by rw [h]⟩
theorem nums_inj : ∀ {xs ys : List Rat}, xs.map num = ys.map num ↔ xs = ys
  | [], [] => by simp
  | [], y :: ys => by simp
  | x :: xs, [] => by simp
  | x :: xs, y :: ys => by
    rw [List.map_cons, List.map_cons, List.cons.injEq, List.cons.injEq, num_iff, nums_inj]
theorem cmp_eqR {p q : Rat} {G : PG} {Q : WK} : wCmp .Eq (num p) (num q) G Q = Q (.bl (decide (p = q))) G :=
  cmp_eqP (isP_num p (Nat.le_refl 1)) (isP_num q (Nat.le_refl 1)) (by decide) (by decide) (by rw [decide_eq_true_eq, num_iff])
theorem cmp_neR {p q : Rat} {G : PG} {Q : WK} : wCmp .NotEq (num p) (num q) G Q = Q (.bl (!decide (p = q))) G :=
  cmp_neP (isP_num p (Nat.le_refl 1)) (isP_num q (Nat.le_refl 1)) (by decide) (by decide) (by rw [decide_eq_true_eq, num_iff])
/-- the text of a number -/
def shn (q : Rat) : Str := (pdat 1 (num q)).shown
theorem repr_num {q : Rat} {G : PG} {Q : WK} (h : Sml q) (k : Q (.str (shn q)) G) : bRepr [num q] G Q := by
  unfold shn at k
  have h1 := isP_num q (Nat.le_refl 1)
  have h2 := isS_num h (Nat.le_refl 1)
  have h3 := slen_num q (Nat.le_refl 1)
  unfold num at k h1 h2 h3 ⊢
  split at k
  · rename_i hd
    rw [if_pos hd]
    exact repr_int h.1 k
  · rename_i hd
    rw [if_neg hd] at h1 h2 h3 ⊢
    exact repr_tup h1 h2 (by decide) (by omega) k
/-- one text twice -/
theorem cmp_neS {x : Str} {G : PG} {Q : WK} (h : PyData.strOk x = true) : wCmp .NotEq (.str x) (.str x) G Q = Q (.bl false) G :=
  cmp_neP (n := 0) (m := 0) (isP_str.mpr h) (isP_str.mpr h) (by decide) (by decide) (k := true) (by simp)
theorem cmp_eqS {x : Str} {G : PG} {Q : WK} (h : PyData.strOk x = true) : wCmp .Eq (.str x) (.str x) G Q = Q (.bl true) G :=
  cmp_eqP (n := 0) (m := 0) (isP_str.mpr h) (isP_str.mpr h) (by decide) (by decide) (k := true) (by simp)
/-! ### the texts are good -/
theorem ok_iff {x : Str} : PyData.strOk x = true ↔ ∀ c ∈ x.cps.toList, c < 0x110000 := by
  unfold PyData.strOk
  rw [Array.all_eq_true_iff_forall_mem]
  constructor
  · intro h c hc
    have := h c (Array.mem_toList_iff.mp hc)
    simpa using this
  · intro h c hc
    have := h c (Array.mem_toList_iff.mpr hc)
    simpa using this
theorem ok_app {x y : Str} (hx : PyData.strOk x = true) (hy : PyData.strOk y = true) : PyData.strOk (x ++ y) = true := by
  rw [ok_iff] at hx hy ⊢
  intro c hc
  have e : (x ++ y).cps.toList = x.cps.toList ++ y.cps.toList := by
    show (x.cps ++ y.cps).toList = _
    exact Array.toList_append
  rw [e] at hc
  rcases List.mem_append.mp hc with h | h
  · exact hx c h
  · exact hy c h
theorem ok_of (s : String) : PyData.strOk (Str.ofString s) = true := by
  rw [ok_iff, Str.ofString_eq_toList]
  intro c hc
  obtain ⟨ch, _, rfl⟩ := List.mem_map.mp (by simpa using hc : c ∈ s.toList.map Char.toNat)
  have h := ch.valid
  show ch.val.toNat < 0x110000
  rcases h with h | ⟨_, h⟩
  · have h' : ch.val.toNat < 0xd800 := h
    omega
  · exact h
theorem ok_join {z : Str} (hz : PyData.strOk z = true) : ∀ ts : List Str, (∀ t ∈ ts, PyData.strOk t = true) → PyData.strOk (Str.join z ts) = true
  | [], _ => ok_iff.mpr fun c hc => by simp [Str.join, Str.empty] at hc
  | [x], h => h x List.mem_cons_self
  | x :: y :: r, h => by
    show PyData.strOk (x ++ z ++ Str.join z (y :: r)) = true
    exact ok_app (ok_app (h x List.mem_cons_self) hz) (ok_join hz (y :: r) fun t ht => h t (List.mem_cons_of_mem _ ht))
theorem ok_tuple {ts : List Str} (h : ∀ t ∈ ts, PyData.strOk t = true) : PyData.strOk (tupleText ts) = true := by
  unfold tupleText
  refine ok_app (ok_app (ok_of _) (ok_join (ok_of _) ts h)) ?_
  split <;> exact ok_of _
theorem ok_from : ∀ (ts : List Str) (k : Nat) (acc : Str), PyData.strOk acc = true → (∀ t ∈ ts, PyData.strOk t = true) → PyData.strOk (textFrom k acc ts) = true
  | [], k, acc, ha, _ => ha
  | t :: ts, k, acc, ha, h => by
    rw [textFrom]
    refine ok_from ts (k + 1) _ (ok_app (ok_app ha ?_) (h t List.mem_cons_self)) fun u hu => h u (List.mem_cons_of_mem _ hu)
    split <;> exact ok_of _
theorem ok_list {ts : List Str} (h : ∀ t ∈ ts, PyData.strOk t = true) : PyData.strOk (listText ts) = true := ok_app (ok_from ts 0 _ (ok_of _) h) (ok_of _)
/-- no texts in it -/
def isI : Nat → PV → Prop
  | _, .int _ => True
  | _, .non => True
  | n + 1, .tup xs => ∀ x ∈ xs, isI n x
  | _, _ => False
theorem isI_int {n : Nat} {i : Int} : isI n (.int i) := by cases n <;> exact trivial
theorem isI_p : ∀ {n : Nat} {v : PV}, isI n v → isP n v := by
  intro n
  induction n with
  | zero =>
    intro v h
    cases v <;> first | exact h.elim | exact isP_int | exact isP_non
  | succ n ih =>
    intro v h
    cases v with
    | tup xs => exact fun x hx => ih (h x hx)
    | int i => exact isP_int
    | non => exact isP_non
    | _ => exact h.elim
theorem mem_shown {n : Nat} : ∀ {us : List PV} {t : Str}, t ∈ PyData.shownAll (us.map (pdat n)) → ∃ u ∈ us, t = (pdat n u).shown
  | [], t, h => by simp [PyData.shownAll] at h
  | u :: us, t, h => by
    rw [List.map_cons, PyData.shownAll] at h
    rcases List.mem_cons.mp h with h | h
    · exact ⟨u, List.mem_cons_self, h⟩
    · obtain ⟨v, hv, e⟩ := mem_shown h
      exact ⟨v, List.mem_cons_of_mem _ hv, e⟩
theorem ok_shown : ∀ (n : Nat) (v : PV), isI n v → PyData.strOk (pdat n v).shown = true := by
  intro n
  induction n with
  | zero =>
    intro v h
    cases v <;> first | exact h.elim | exact ok_of _
  | succ n ih =>
    intro v h
    cases v with
    | tup xs =>
      rw [pdat_tup, PyData.shown]
      refine ok_tuple fun t ht => ?_
      obtain ⟨u, hu, rfl⟩ := mem_shown ht
      exact ih u (h u hu)
    | int i => exact ok_of _
    | non => exact ok_of _
    | _ => exact h.elim
theorem isI_num (q : Rat) {n : Nat} (hn : 1 ≤ n) : isI n (num q) := by
  obtain ⟨m, rfl⟩ : ∃ m, n = m + 1 := ⟨n - 1, by omega⟩
  unfold num
  split
  · exact isI_int
  · intro x hx
    simp only [List.mem_cons, List.not_mem_nil, or_false] at hx
    rcases hx with rfl | rfl <;> exact isI_int
theorem ok_shn (q : Rat) : PyData.strOk (shn q) = true := ok_shown 1 _ (isI_num q (Nat.le_refl 1))
end Cl
set_option Elab.async false
set_option linter.all false
set_option maxRecDepth 100000
set_option maxHeartbeats 4000000
set_option exponentiation.threshold 10000
/-! The clean layer: operators and subscripts whose operands are known; what every law's text starts with. -/
namespace Cl
open PySem PySem.Spec PyProof.Rows L2
section
variable {i j : Int} {G : Cl.PG} {Q : WK} {xs : List PV}
theorem bi_add : Cl.wBin .Add (.int i) (.int j) G Q = Q (.int (i + j)) G := rfl
theorem bi_sub : Cl.wBin .Sub (.int i) (.int j) G Q = Q (.int (i - j)) G := rfl
theorem bi_mul : Cl.wBin .Mult (.int i) (.int j) G Q = ((CMulW i j ∨ CMul i j) ∧ Q (.int (i * j)) G) := rfl
theorem bi_div : Cl.wBin .FloorDiv (.int i) (.int j) G Q = (CDivW i j ∧ Q (.int (i / j)) G) := rfl
theorem bi_mod : Cl.wBin .Mod (.int i) (.int j) G Q = (0 < j ∧ Q (.int (i % j)) G) := rfl
theorem bi_pow : Cl.wBin .Pow (.int i) (.int j) G Q = (CPow i j ∧ Q (.int (i ^ j.toNat)) G) := rfl
theorem ix_tup {v : PV} (h : atI xs i = some v) : Cl.wIdx (.tup xs) (.int i) G Q = Q v G := by
  show (match atI xs i with | some v => Q v G | none => False) = _
  rw [h]
theorem ix_rl {v : PV} (h : atI xs i = some v) : Cl.wIdx (.rl xs) (.int i) G Q = Q v G := by
  show (match atI xs i with | some v => Q v G | none => False) = _
  rw [h]
theorem ix_lst {a : Addr} {v : PV} (ha : G a = some (.lst xs)) (h : atI xs i = some v) : Cl.wIdx (.ref a) (.int i) G Q = Q v G := by
  show (match G a with | some (.lst xs) => (match atI xs i with | some v => Q v G | none => False) | some (.dK kvs) => (match dLook kvs (.inl i) with | some v => Q v G | none => False) | _ => False) = _
  rw [ha]
  show (match atI xs i with | some v => Q v G | none => False) = _
  rw [h]
theorem ix_t0 {x : PV} : Cl.wIdx (.tup (x :: xs)) (.int 0) G Q = Q x G := ix_tup at_0
theorem ix_t1 {x y : PV} : Cl.wIdx (.tup (x :: y :: xs)) (.int 1) G Q = Q y G := ix_tup at_1
theorem ix_t2 {x y z : PV} : Cl.wIdx (.tup (x :: y :: z :: xs)) (.int 2) G Q = Q z G := ix_tup at_2
theorem ix_l0 {a : Addr} {x : PV} (h : G a = some (.lst (x :: xs))) : Cl.wIdx (.ref a) (.int 0) G Q = Q x G := ix_lst h at_0
theorem ix_l1 {a : Addr} {x y : PV} (h : G a = some (.lst (x :: y :: xs))) : Cl.wIdx (.ref a) (.int 1) G Q = Q y G := ix_lst h at_1
theorem ix_l2 {a : Addr} {x y z : PV} (h : G a = some (.lst (x :: y :: z :: xs))) : Cl.wIdx (.ref a) (.int 2) G Q = Q z G := ix_lst h at_2
end
theorem ni1 : ((1 : Nat) : Int) = 1 := rfl
theorem ni2 : ((2 : Nat) : Int) = 2 := rfl
theorem ni3 : ((3 : Nat) : Int) = 3 := rfl
theorem b_o {n : String} {p : Addr → Prop} : (∀ C, PTy.b n = .o C → p C) = True := eq_true fun C h => nomatch h
theorem num_int' (i : Int) (G : Cl.PG) : tyOf (.int i) G = some (.b "int") := rfl
theorem two_le : 2 ≤ sizeLine := by decide
def nums (xs : List Rat) : List PV := xs.map num
theorem pup_pup {G : Cl.PG} {p : Addr} {o o' : PO} : pup (pup G p o) p o' = pup G p o' := by
  funext b; unfold pup; split <;> rfl
theorem nums_length (xs : List Rat) : (nums xs).length = xs.length := by simp [nums]
theorem nums_get {xs : List Rat} {n : Nat} (h : n < xs.length) : (nums xs)[n]? = some (num (xs.getD n 0)) := by
  unfold nums
  rw [List.getElem?_map, List.getD_eq_getElem?_getD, List.getElem?_eq_getElem h]; rfl
theorem nums_set {xs : List Rat} {n : Nat} {z : Rat} : (nums xs).set n (num z) = nums (xs.set n z) := by
  unfold nums; rw [List.map_set]
theorem size_big : 1000000 ≤ sizeLine := by decide
theorem zero_num : PV.int 0 = num 0 := by unfold num; rfl
theorem nums_zero (n : Nat) : List.replicate n (PV.int 0) = nums (List.replicate n 0) := by
  unfold nums; rw [List.map_replicate, zero_num]
end Cl
set_option Elab.async false
set_option linter.all false
set_option maxRecDepth 100000
set_option maxHeartbeats 1000000
/-! Turns as pairs of rationals, multiplied as complex numbers; books of waves: sums of cosines and sines of beats. Plain. -/
namespace Cl
abbrev Tn := Rat × Rat
def tmul (x y : Tn) : Tn := (x.1 * y.1 - x.2 * y.2, x.2 * y.1 + x.1 * y.2)
def tconj (x : Tn) : Tn := (x.1, -x.2)
def tpow (x : Tn) : Nat → Tn
  | 0 => (1, 0)
  | n + 1 => tmul (tpow x n) x
def Unit1 (x : Tn) : Prop := x.1 * x.1 + x.2 * x.2 = 1
def tz (x : Tn) (m : Int) : Tn := tpow (if 0 ≤ m then x else tconj x) m.natAbs
theorem tmul_comm (x y : Tn) : tmul x y = tmul y x := by unfold tmul; ext <;> grind
theorem tmul_assoc (x y z : Tn) : tmul (tmul x y) z = tmul x (tmul y z) := by unfold tmul; ext <;> grind
theorem tmul_one (x : Tn) : tmul x (1, 0) = x := by unfold tmul; ext <;> grind
theorem one_tmul (x : Tn) : tmul (1, 0) x = x := by unfold tmul; ext <;> grind
theorem tmul_conj {x : Tn} (h : Unit1 x) : tmul x (tconj x) = (1, 0) := by unfold tmul tconj; unfold Unit1 at h; ext <;> grind
theorem conj_tmul {x : Tn} (h : Unit1 x) : tmul (tconj x) x = (1, 0) := by rw [tmul_comm]; exact tmul_conj h
theorem Unit1.mul {x y : Tn} (h : Unit1 x) (h2 : Unit1 y) : Unit1 (tmul x y) := by unfold Unit1 tmul at *; grind
theorem Unit1.conj {x : Tn} (h : Unit1 x) : Unit1 (tconj x) := by unfold Unit1 tconj at *; grind
theorem Unit1.one : Unit1 (1, 0) := by unfold Unit1; grind
theorem tconj_tmul (x y : Tn) : tconj (tmul x y) = tmul (tconj x) (tconj y) := by unfold tmul tconj; ext <;> grind
theorem tconj_tconj (x : Tn) : tconj (tconj x) = x := by unfold tconj; ext <;> grind
theorem tconj_tpow (x : Tn) : ∀ n, tconj (tpow x n) = tpow (tconj x) n
  | 0 => by unfold tpow tconj; ext <;> grind
  | n + 1 => by rw [tpow, tpow, tconj_tmul, tconj_tpow]
theorem Unit1.pow {x : Tn} (h : Unit1 x) : ∀ n, Unit1 (tpow x n)
  | 0 => Unit1.one
  | n + 1 => (Unit1.pow h n).mul h
theorem tz_zero (x : Tn) : tz x 0 = (1, 0) := rfl
theorem tz_one (x : Tn) : tz x 1 = x := one_tmul x
theorem tz_nat (x : Tn) (n : Nat) : tz x n = tpow x n := by unfold tz; rw [if_pos (by omega)]; rfl
theorem tz_neg (x : Tn) (m : Int) : tz x (-m) = tconj (tz x m) := by
  unfold tz
  rw [tconj_tpow, Int.natAbs_neg]
  by_cases h : 0 ≤ m
  · by_cases h2 : 0 ≤ -m
    · have : m = 0 := by omega
      subst this; rfl
    · rw [if_neg h2, if_pos h]
  · rw [if_pos (by omega), if_neg h, tconj_tconj]
theorem tz_succ {x : Tn} (h : Unit1 x) (m : Int) : tz x (m + 1) = tmul (tz x m) x := by
  by_cases hm : 0 ≤ m
  · obtain ⟨n, rfl⟩ : ∃ n : Nat, m = n := ⟨m.toNat, by omega⟩
    have e : ((n : Int) + 1) = ((n + 1 : Nat) : Int) := by omega
    rw [e, tz_nat, tz_nat, tpow]
  · obtain ⟨n, rfl⟩ : ∃ n : Nat, m = -((n : Int) + 1) := ⟨(-m - 1).toNat, by omega⟩
    have e : -((n : Int) + 1) + 1 = -(n : Int) := by omega
    have e2 : ((n : Int) + 1) = ((n + 1 : Nat) : Int) := by omega
    rw [e, e2, tz_neg, tz_neg, tz_nat, tz_nat, tconj_tpow, tconj_tpow, tpow, tmul_assoc, conj_tmul h, tmul_one]
theorem tz_add {x : Tn} (h : Unit1 x) (m : Int) : ∀ n : Nat, tz x (m + n) = tmul (tz x m) (tz x n)
  | 0 => by rw [show m + ((0 : Nat) : Int) = m by omega]; exact (tmul_one _).symm
  | n + 1 => by
    have e : m + ((n + 1 : Nat) : Int) = (m + n) + 1 := by omega
    have e2 : (((n + 1 : Nat)) : Int) = (n : Int) + 1 := by omega
    rw [e, tz_succ h, tz_add h m n, e2, tz_succ h, tmul_assoc]
theorem tz_addI {x : Tn} (h : Unit1 x) (m n : Int) : tz x (m + n) = tmul (tz x m) (tz x n) := by
  by_cases hn : 0 ≤ n
  · obtain ⟨k, rfl⟩ : ∃ k : Nat, n = k := ⟨n.toNat, by omega⟩
    exact tz_add h m k
  · obtain ⟨k, rfl⟩ : ∃ k : Nat, n = -(k : Int) := ⟨(-n).toNat, by omega⟩
    have e : m + -(k : Int) = -(-m + k) := by omega
    rw [e, tz_neg, tz_add h, tconj_tmul, ← tz_neg, Int.neg_neg, ← tz_neg]
theorem Unit1.z {x : Tn} (h : Unit1 x) (m : Int) : Unit1 (tz x m) := by
  unfold tz; split
  · exact h.pow _
  · exact h.conj.pow _
/-- beats to turns -/
structure Ch (φ : Int → Int → Tn) : Prop where
  zero : φ 0 0 = (1, 0)
  add : ∀ p q p' q', φ (p + p') (q + q') = tmul (φ p q) (φ p' q')
  neg : ∀ p q, φ (-p) (-q) = tconj (φ p q)
def chOf (a b : Tn) (p q : Int) : Tn := tmul (tz a p) (tz b q)
theorem ch_of {a b : Tn} (ha : Unit1 a) (hb : Unit1 b) : Ch (chOf a b) where
  zero := by unfold chOf; rw [tz_zero, tz_zero]; exact tmul_one _
  add := fun p q p' q' => by
    unfold chOf
    rw [tz_addI ha, tz_addI hb, tmul_assoc, tmul_assoc]
    congr 1
    rw [← tmul_assoc, ← tmul_assoc, tmul_comm (tz a p')]
  neg := fun p q => by unfold chOf; rw [tz_neg, tz_neg, ← tconj_tmul]
theorem ch_sub {φ : Int → Int → Tn} (h : Ch φ) (p q p' q' : Int) : φ (p - p') (q - q') = tmul (φ p q) (tconj (φ p' q')) := by
  rw [Int.sub_eq_add_neg, Int.sub_eq_add_neg, h.add, h.neg]
theorem chOf_sq {a b : Tn} (ha : Unit1 a) (hb : Unit1 b) (p q : Int) : chOf (tmul a a) (tmul b b) p q = chOf a b (2 * p) (2 * q) := by
  have e : ∀ {x : Tn}, Unit1 x → ∀ m : Int, tz (tmul x x) m = tz x (2 * m) := by
    intro x hx m
    have e1 : ∀ n : Nat, tpow (tmul x x) n = tpow x (2 * n) := by
      intro n
      induction n with
      | zero => rfl
      | succ n ih => rw [show 2 * (n + 1) = (2 * n + 1) + 1 by omega, tpow, tpow, tpow, ih, tmul_assoc]
    by_cases hm : 0 ≤ m
    · obtain ⟨n, rfl⟩ : ∃ n : Nat, m = n := ⟨m.toNat, by omega⟩
      rw [show (2 : Int) * (n : Int) = ((2 * n : Nat) : Int) by omega, tz_nat, tz_nat, e1]
    · obtain ⟨n, rfl⟩ : ∃ n : Nat, m = -(n : Int) := ⟨(-m).toNat, by omega⟩
      rw [show (2 : Int) * -(n : Int) = -((2 * n : Nat) : Int) by omega, tz_neg, tz_neg, tz_nat, tz_nat, e1]
  unfold chOf; rw [e ha, e hb]
/-! ### books -/
structure BE where
  p : Int
  q : Int
  c : Rat
  s : Rat
def BE.is (t : BE) (p q : Int) : Bool := t.p == p && t.q == q
theorem BE.is_iff {t : BE} {p q : Int} : t.is p q = true ↔ t.p = p ∧ t.q = q := by
  unfold BE.is; simp
def vB (φ : Int → Int → Tn) : List BE → Rat
  | [] => 0
  | t :: ts => t.c * (φ t.p t.q).1 + t.s * (φ t.p t.q).2 + vB φ ts
theorem vB_append (φ : Int → Int → Tn) : ∀ ts us : List BE, vB φ (ts ++ us) = vB φ ts + vB φ us
  | [], us => by simp only [vB, List.nil_append]; grind
  | t :: ts, us => by simp only [vB, List.cons_append]; rw [vB_append φ ts us]; grind
theorem vB_perm (φ : Int → Int → Tn) {ts us : List BE} (h : ts.Perm us) : vB φ ts = vB φ us := by
  induction h with
  | nil => rfl
  | cons t _ ih => simp only [vB, ih]
  | swap a b l => simp only [vB]; grind
  | trans _ _ h1 h2 => exact h1.trans h2
def BNd (bk : List BE) : Prop := bk.Pairwise fun a b => b.is a.p a.q = false
def bcoef (bk : List BE) (p q : Int) : Rat × Rat := match bk.find? fun t => t.is p q with | some t => (t.c, t.s) | none => (0, 0)
def bset (bk : List BE) (p q : Int) (c s : Rat) : List BE := if bk.any fun t => t.is p q then bk.map fun t => if t.is p q then ⟨p, q, c, s⟩ else t else bk ++ [⟨p, q, c, s⟩]
theorem is_comm (a b : BE) : a.is b.p b.q = b.is a.p a.q := by
  unfold BE.is; rw [Bool.eq_iff_iff]; simp; exact ⟨fun ⟨h1, h2⟩ => ⟨h1.symm, h2.symm⟩, fun ⟨h1, h2⟩ => ⟨h1.symm, h2.symm⟩⟩
theorem BNd.perm {ms ns : List BE} (h : BNd ms) (p : ms.Perm ns) : BNd ns :=
  (List.Perm.pairwise_iff (fun {a b} hab => by rw [is_comm]; exact hab) p).mp h
theorem BNd.filter {ms : List BE} (h : BNd ms) (p : BE → Bool) : BNd (ms.filter p) := List.Pairwise.filter p h
theorem vB_set {φ : Int → Int → Tn} (p q : Int) (c s : Rat) : ∀ {bk : List BE}, BNd bk → vB φ (bset bk p q c s) = vB φ bk + (c - (bcoef bk p q).1) * (φ p q).1 + (s - (bcoef bk p q).2) * (φ p q).2
  | [], _ => by simp [bset, bcoef, vB]; grind
  | t :: ts, h => by
    have ht := (List.pairwise_cons.mp h).1
    have ih := vB_set (φ := φ) p q c s (List.pairwise_cons.mp h).2
    by_cases e : t.is p q = true
    · obtain ⟨rfl, rfl⟩ := BE.is_iff.mp e
      have hid : ts.map (fun u => if u.is t.p t.q then (⟨t.p, t.q, c, s⟩ : BE) else u) = ts := by
        refine (List.map_congr_left fun u hu => ?_).trans (List.map_id ts)
        rw [if_neg (by rw [ht u hu]; exact Bool.false_ne_true)]; rfl
      simp only [bset, bcoef, List.any_cons, e, Bool.true_or, if_true, List.map_cons, List.find?_cons, vB, hid]
      grind
    · have e' : t.is p q = false := by simpa using e
      unfold bset bcoef at ih ⊢
      simp only [List.any_cons, e', Bool.false_or, List.map_cons, List.find?_cons, Bool.false_eq_true, if_false]
      by_cases ha : (ts.any fun t => t.is p q) = true
      · rw [if_pos ha] at ih ⊢
        simp only [vB, ih]; grind
      · rw [if_neg ha] at ih ⊢
        rw [List.cons_append]
        simp only [vB, ih]; grind
theorem mem_bset {bk : List BE} {p q : Int} {c s : Rat} {t : BE} (h : t ∈ bset bk p q c s) : (t ∈ bk ∧ t.is p q = false) ∨ t = ⟨p, q, c, s⟩ := by
  unfold bset at h
  split at h
  · obtain ⟨u, hu, e⟩ := List.mem_map.mp h
    split at e
    · exact .inr e.symm
    · rename_i hn; subst e; exact .inl ⟨hu, by simpa using hn⟩
  · rename_i hn
    rcases List.mem_append.mp h with h | h
    · refine .inl ⟨h, ?_⟩
      have := hn
      simp only [List.any_eq_true, not_exists, not_and] at this
      simpa using this t h
    · exact .inr (by simpa using h)
theorem is_congr {a b a' b' : BE} (h1 : a.p = a'.p) (h2 : a.q = a'.q) (h3 : b.p = b'.p) (h4 : b.q = b'.q) : b.is a.p a.q = b'.is a'.p a'.q := by
  unfold BE.is; rw [h1, h2, h3, h4]
theorem BNd.set {bk : List BE} (h : BNd bk) (p q : Int) (c s : Rat) : BNd (bset bk p q c s) := by
  unfold bset
  split
  · unfold BNd
    rw [List.pairwise_map]
    refine List.Pairwise.imp (fun {a b} hab => ?_) h
    have key : ∀ u : BE, (if u.is p q = true then (⟨p, q, c, s⟩ : BE) else u).p = u.p ∧ (if u.is p q = true then (⟨p, q, c, s⟩ : BE) else u).q = u.q := by
      intro u
      by_cases e : u.is p q = true
      · rw [if_pos e]; obtain ⟨h1, h2⟩ := BE.is_iff.mp e; exact ⟨h1.symm, h2.symm⟩
      · rw [if_neg e]; exact ⟨rfl, rfl⟩
    exact (is_congr (key a).1 (key a).2 (key b).1 (key b).2).trans hab
  · rename_i hn
    unfold BNd
    rw [List.pairwise_append]
    refine ⟨h, List.pairwise_singleton _ _, fun a ha b hb => ?_⟩
    have : b = ⟨p, q, c, s⟩ := by simpa using hb
    subst this
    simp only [List.any_eq_true, not_exists, not_and] at hn
    rw [is_comm]
    simpa using hn a ha
/-- put: the beat led to one above nothing -/
def nbeat (p q : Int) : Bool := decide (p < 0) || (decide (p = 0) && decide (q < 0))
def bput (bk : List BE) (p q : Int) (c s : Rat) : List BE :=
  if nbeat p q then bset bk (-p) (-q) ((bcoef bk (-p) (-q)).1 + c) ((bcoef bk (-p) (-q)).2 + -s) else bset bk p q ((bcoef bk p q).1 + c) ((bcoef bk p q).2 + s)
theorem vB_put {φ : Int → Int → Tn} (hφ : Ch φ) {bk : List BE} (h : BNd bk) (p q : Int) (c s : Rat) : vB φ (bput bk p q c s) = vB φ bk + c * (φ p q).1 + s * (φ p q).2 := by
  unfold bput
  split
  · rw [vB_set _ _ _ _ h, hφ.neg]; unfold tconj; grind
  · rw [vB_set _ _ _ _ h]; grind
theorem BNd.put {bk : List BE} (h : BNd bk) (p q : Int) (c s : Rat) : BNd (bput bk p q c s) := by
  unfold bput; split
  · exact h.set _ _ _ _
  · exact h.set _ _ _ _
theorem bset_length (bk : List BE) (p q : Int) (c s : Rat) : (bset bk p q c s).length ≤ bk.length + 1 := by
  unfold bset; split <;> simp
theorem bput_length (bk : List BE) (p q : Int) (c s : Rat) : (bput bk p q c s).length ≤ bk.length + 1 := by
  unfold bput; split <;> exact bset_length _ _ _ _ _
/-- both beats of two rows multiplied -/
theorem beat_mul {φ : Int → Int → Tn} (h : Ch φ) (p q p' q' : Int) (c s c' s' : Rat) :
    (1 / 2 * (c * c' - s * s')) * (φ (p + p') (q + q')).1 + (1 / 2 * (s * c' + c * s')) * (φ (p + p') (q + q')).2 + (1 / 2 * (c * c' + s * s')) * (φ (p - p') (q - q')).1 + (1 / 2 * (s * c' - c * s')) * (φ (p - p') (q - q')).2 =
      (c * (φ p q).1 + s * (φ p q).2) * (c' * (φ p' q').1 + s' * (φ p' q').2) := by
  rw [h.add, ch_sub h]
  unfold tmul tconj
  grind
def box : List (Int × Int) := (List.range 13).flatMap fun (i : Nat) => (List.range 13).map fun (j : Nat) => (((i : Int) - 6, (j : Int) - 6) : Int × Int)
theorem BNd.len {bk : List BE} (h : BNd bk) (hb : ∀ t ∈ bk, t.p.natAbs ≤ 6 ∧ t.q.natAbs ≤ 6) : bk.length ≤ 169 := by
  have e : box.length = 169 := by decide
  rw [← e, ← List.length_map (as := bk) (fun t : BE => (t.p, t.q))]
  refine List.Nodup.length_le_of_subset ?_ fun x hx => ?_
  · unfold List.Nodup
    rw [List.pairwise_map]
    refine h.imp fun {a b} hab => ?_
    intro z
    injection z with z1 z2
    have : b.is a.p a.q = true := BE.is_iff.mpr ⟨z1.symm, z2.symm⟩
    rw [hab] at this; cases this
  · obtain ⟨t, ht, rfl⟩ := List.mem_map.mp hx
    obtain ⟨h1, h2⟩ := hb t ht
    unfold box
    rw [List.mem_flatMap]
    have k1 : (t.p + 6).toNat < 13 := by omega
    have k2 : (t.q + 6).toNat < 13 := by omega
    refine ⟨(t.p + 6).toNat, List.mem_range.mpr k1, List.mem_map.mpr ⟨(t.q + 6).toNat, List.mem_range.mpr k2, ?_⟩⟩
    have e1 : (((t.p + 6).toNat : Nat) : Int) - 6 = t.p := by omega
    have e2 : (((t.q + 6).toNat : Nat) : Int) - 6 = t.q := by omega
    rw [e1, e2]
end Cl
set_option Elab.async false
set_option linter.all false
set_option maxRecDepth 100000
set_option maxHeartbeats 4000000
set_option exponentiation.threshold 10000
/-! The clean layer: dicts with tuple keys, known; books of waves in the heap. -/
namespace Cl
open PySem PySem.Spec PyProof.Rows L2
section
variable {a : Addr} {G : Cl.PG} {kvs : List (NestedKey × PV)} {ks : List PV} {ks' : List NestedKey} {v xv : PV} {Q : WK} {S : Cl.PG → Prop}
theorem ix_T (h : G a = some (.dT kvs)) (hk : nks ks = some ks') (hd : (NestedKey.tup ks').depth ≤ 8) (hl : dLook kvs (.tup ks') = some v) (hQ : Q v G) : Cl.wIdx (.ref a) (.tup ks) G Q := by
  unfold Cl.wIdx
  simp only [h, hk, hl]
  exact ⟨hd, hQ⟩
theorem ix_F (h : G a = some (.fT kvs)) (hk : nks ks = some ks') (hd : (NestedKey.tup ks').depth ≤ 8) (hl : dLook kvs (.tup ks') = some v) (hQ : Q v G) : Cl.wIdx (.ref a) (.tup ks) G Q := by
  unfold Cl.wIdx
  simp only [h, hk, hl]
  exact ⟨hd, hQ⟩
theorem put_T (h : G a = some (.dT kvs)) (hk : nks ks = some ks') (hd : (NestedKey.tup ks').depth ≤ 8) (hl : kvs.length < sizeLine) (hQ : S (pup G a (.dT (dPut kvs (.tup ks') v)))) : Cl.wPut a (.tup ks) v G S := by
  unfold Cl.wPut
  simp only [h, hk]
  exact ⟨hd, hl, hQ⟩
theorem set_T (h : G a = some (.dT kvs)) (hk : nks ks = some ks') (hd : (NestedKey.tup ks').depth ≤ 8) (hl : kvs.length < sizeLine) (hQ : S (pup G a (.dT (dPut kvs (.tup ks') v)))) : Cl.wSet (.ref a) (.tup ks) v G S := by
  unfold Cl.wSet
  simp only [h, hk]
  exact ⟨hd, hl, hQ⟩
theorem get_T (h : G a = some (.dT kvs)) (hk : nks ks = some ks') (hd : (NestedKey.tup ks').depth ≤ 8) (hQ : Q ((dLook kvs (.tup ks')).getD xv) G) : Cl.gT a (.tup ks) xv G Q := by
  unfold Cl.gT
  simp only [h, hk]
  exact ⟨hd, hQ⟩
theorem in_T (h : G a = some (.dT kvs)) (hk : nks ks = some ks') (hd : (NestedKey.tup ks').depth ≤ 8) : Cl.wCmp .In (.tup ks) (.ref a) G Q = Q (.bl (dLook kvs (.tup ks')).isSome) G := by
  show Cl.wIn false (.tup ks) a G Q = _
  unfold Cl.wIn
  simp only [h, hk]
  exact propext ⟨fun z => z.2, fun z => ⟨hd, z⟩⟩
theorem tupD_T (h : G a = some (.dT kvs)) : bTupD [.ref a] G Q = (kvs.length ≤ sizeLine ∧ Q (.tup (kvs.map fun p => kpv p.1)) G) := by
  unfold bTupD
  simp only [h]
end
/-! ### books -/
def bkey (p q : Int) : NestedKey := .tup [.num p, .num q]
def bent (t : BE) : NestedKey × PV := (bkey t.p t.q, .tup [num t.c, num t.s])
def beatP (p q : Int) : PV := .tup [.int p, .int q]
theorem bkey_inj {p q p' q' : Int} : bkey p q = bkey p' q' ↔ p = p' ∧ q = q' := by
  unfold bkey
  constructor
  · intro h
    injection h with h
    injection h with h1 h2
    injection h2 with h2 _
    injection h1 with h1
    injection h2 with h2
    exact ⟨h1, h2⟩
  · rintro ⟨rfl, rfl⟩; rfl
theorem nks_beat (p q : Int) : nks [.int p, .int q] = some [.num p, .num q] := by simp [nks, nk]
theorem beat_depth (p q : Int) : (NestedKey.tup [.num p, .num q]).depth ≤ 8 := by simp [NestedKey.depth, NestedKey.depthAll]
theorem kpv_beat (p q : Int) : kpv (bkey p q) = beatP p q := by
  unfold bkey beatP
  rw [kpv, kpvs, kpvs, kpvs, kpv, kpv]
theorem dLook_bent (p q : Int) : ∀ bk : List BE, dLook (bk.map bent) (bkey p q) = (bk.find? fun t => t.is p q).map fun t => .tup [num t.c, num t.s]
  | [] => rfl
  | t :: ms => by
    have ih := dLook_bent p q ms
    unfold dLook at ih ⊢
    rw [List.map_cons, List.find?_cons, List.find?_cons]
    by_cases h : t.is p q = true
    · have h' := BE.is_iff.mp h
      have e : decide ((bent t).1 = bkey p q) = true := decide_eq_true (bkey_inj.mpr h')
      rw [e, h]; rfl
    · have e : decide ((bent t).1 = bkey p q) = false := decide_eq_false fun z => h (BE.is_iff.mpr (bkey_inj.mp z))
      have h' : t.is p q = false := by simpa using h
      rw [e, h']
      exact ih
theorem dLook_bcoef (bk : List BE) (p q : Int) : (dLook (bk.map bent) (bkey p q)).getD (.tup [.int 0, .int 0]) = .tup [num (bcoef bk p q).1, num (bcoef bk p q).2] := by
  rw [dLook_bent, zero_num]
  unfold bcoef
  cases bk.find? (fun t => t.is p q) <;> rfl
theorem bfind {bk : List BE} (h : BNd bk) {t : BE} (ht : t ∈ bk) : bk.find? (fun u => u.is t.p t.q) = some t := by
  induction bk with
  | nil => cases ht
  | cons u us ih =>
    have hu := (List.pairwise_cons.mp h).1
    rcases List.mem_cons.mp ht with rfl | ht
    · rw [List.find?_cons, BE.is_iff.mpr ⟨rfl, rfl⟩]
    · have e : u.is t.p t.q = false := by rw [← is_comm]; exact hu t ht
      rw [List.find?_cons, e]
      exact ih (List.pairwise_cons.mp h).2 ht
theorem dLook_bget {bk : List BE} (h : BNd bk) {t : BE} (ht : t ∈ bk) : dLook (bk.map bent) (bkey t.p t.q) = some (.tup [num t.c, num t.s]) := by
  rw [dLook_bent, bfind h ht]; rfl
theorem bcoef_of {bk : List BE} (h : BNd bk) {t : BE} (ht : t ∈ bk) : bcoef bk t.p t.q = (t.c, t.s) := by
  unfold bcoef; rw [bfind h ht]
theorem dPut_bent (bk : List BE) (p q : Int) (c s : Rat) : dPut (bk.map bent) (bkey p q) (.tup [num c, num s]) = (bset bk p q c s).map bent := by
  unfold dPut bset
  have e : (dLook (bk.map bent) (bkey p q)).isSome = bk.any fun t => t.is p q := by
    rw [dLook_bent, Option.isSome_map, Bool.eq_iff_iff, List.find?_isSome, List.any_eq_true]
  rw [e]
  split
  · rw [List.map_map, List.map_map]
    apply List.map_congr_left
    intro t _
    show (if (bent t).1 = bkey p q then ((bent t).1, PV.tup [num c, num s]) else bent t) = bent (if t.is p q then ⟨p, q, c, s⟩ else t)
    by_cases h : t.is p q = true
    · have h' := BE.is_iff.mp h
      rw [if_pos h, if_pos (show (bent t).1 = bkey p q from bkey_inj.mpr h')]
      unfold bent
      rw [h'.1, h'.2]
    · rw [if_neg h, if_neg (show ¬ (bent t).1 = bkey p q from fun z => h (BE.is_iff.mpr (bkey_inj.mp z)))]
  · rw [List.map_append]; rfl
theorem bset_new {bk : List BE} {t : BE} (h : BNd (bk ++ [t])) : bset bk t.p t.q t.c t.s = bk ++ [t] := by
  unfold bset
  rw [if_neg]
  intro z
  obtain ⟨u, hu, z⟩ := List.any_eq_true.mp z
  have := (List.pairwise_append.mp h).2.2 u hu t (by simp)
  rw [is_comm] at this
  rw [this] at z; cases z
/-! the order of beats -/
def ble (a b : BE) : Bool := decide (a.p < b.p ∨ (a.p = b.p ∧ a.q ≤ b.q))
def blt (a b : BE) : Prop := a.p < b.p ∨ (a.p = b.p ∧ a.q < b.q)
theorem srt_bent {bk : List BE} (h : BNd bk) : ∃ bk' : List BE, bk'.Perm bk ∧ srtT ((bk.map bent).map (·.1)) = bk'.map (fun t => beatP t.p t.q) ∧ bk'.Pairwise blt := by
  refine ⟨bk.mergeSort ble, List.mergeSort_perm _ _, ?_, ?_⟩
  · unfold srtT
    have e : (bk.map bent).map (·.1) = bk.map fun t => bkey t.p t.q := by rw [List.map_map]; rfl
    have e2 := PySem.W.dataLe_ii (fun t : BE => t.p) (fun t => t.q)
    rw [e, ← List.map_mergeSort (r := ble) (s := PySem.W.dataLe false NestedKey.data) (f := fun t : BE => bkey t.p t.q) (l := bk) ?_, List.map_map]
    · apply List.map_congr_left
      intro t _
      exact kpv_beat t.p t.q
    · intro a _ b _
      have e3 : ∀ t : BE, (bkey t.p t.q).data = .tuple [.int t.p, .int t.q] := fun t => by
        unfold bkey; simp only [NestedKey.data, NestedKey.datas]
      have := congrFun (congrFun e2 a) b
      unfold ble
      rw [← this]
      rw [PySem.W.dataLe_eq, PySem.W.dataLe_eq]
      simp only [e3]
  · have hs := List.pairwise_mergeSort (le := ble) (fun a b c h1 h2 => by unfold ble at *; simp at *; omega) (fun a b => by unfold ble; simp; omega) bk
    have hn := h.perm (List.mergeSort_perm bk ble).symm
    refine (hs.and hn).imp fun {a b} hab => ?_
    obtain ⟨h1, h2⟩ := hab
    unfold ble at h1
    unfold BE.is at h2
    unfold blt
    simp at h1 h2
    omega
theorem alike_bent (bk : List BE) : PySem.W.AllAlike (((bk.map bent).map (·.1)).map NestedKey.data) ∧ PySem.W.Sortable (((bk.map bent).map (·.1)).map NestedKey.data) ∧ ∀ k ∈ (bk.map bent).map (·.1), k.data.depth ≤ 64 := by
  have e : ((bk.map bent).map (·.1)).map NestedKey.data = bk.map fun t => .tuple [.int t.p, .int t.q] := by
    rw [List.map_map, List.map_map]
    apply List.map_congr_left
    intro t _
    show (bkey t.p t.q).data = _
    unfold bkey
    simp only [NestedKey.data, NestedKey.datas]
  rw [e]
  refine ⟨PySem.W.AllAlike.of fun _ _ => by simp [PySem.W.alike, PySem.W.alikeAll], PySem.W.Sortable.tuples fun _ => ⟨_, _, rfl⟩, fun k hk => ?_⟩
  rw [List.map_map] at hk
  obtain ⟨t, _, rfl⟩ := List.mem_map.mp hk
  show (bkey t.p t.q).data.depth ≤ 64
  unfold bkey
  simp [NestedKey.data, NestedKey.datas, PyData.depth, PyData.depthAll]
theorem sorted_B {a : Addr} {bk : List BE} {G : Cl.PG} {Q : WK} (h : G a = some (.dT (bk.map bent))) (hb : BNd bk) (hl : bk.length ≤ 1000000) (hQ : ∀ bk' : List BE, bk'.Perm bk → bk'.Pairwise blt → ∀ p, G p = none → Q (.ref p) (pup G p (.lst (bk'.map fun t => beatP t.p t.q)))) : bSorted [.ref a] G Q := by
  have := size_big
  unfold bSorted
  simp only [h]
  obtain ⟨h1, h2, h3⟩ := alike_bent bk
  obtain ⟨bk', p1, p2, p3⟩ := srt_bent hb
  refine ⟨h1, h2, by rw [List.length_map]; omega, h3, fun p hp => ?_⟩
  rw [p2]
  exact hQ bk' p1 p3 p hp
/-! comparisons of beats -/
theorem dat_beat {G : Cl.PG} (p q : Int) : dat G datN (beatP p q) = some (.tuple [.int p, .int q]) := rfl
theorem beat_lt0 {p q : Int} {G : Cl.PG} {Q : WK} (hQ : Q (.bl (nbeat p q)) G) : Cl.wCmp .Lt (.tup [.int p, .int q]) (.tup [.int 0, .int 0]) G Q := by
  refine ⟨.tuple [.int p, .int q], .tuple [.int 0, .int 0], rfl, rfl, by simp [PySem.W.alike, PySem.W.alikeAll], (fun z => nomatch z), by simp [PyData.depth, PyData.depthAll], ?_⟩
  have e : PySem.W.dataLt (.tuple [.int p, .int q]) (.tuple [.int 0, .int 0]) = nbeat p q := by
    rw [PySem.W.dataLt_pair rfl rfl, PySem.W.dataLt_int, PySem.W.dataLt_int, eqv_int, eqv_int]
    unfold nbeat
    by_cases h1 : p = 0
    · subst h1
      by_cases h2 : q = 0
      · subst h2; simp
      · simp [h2]
    · simp [h1]
  rw [e]; exact hQ
theorem beat_gt0 {p q : Int} {G : Cl.PG} {Q : WK} (h : 0 < p ∨ (p = 0 ∧ 0 < q)) (hQ : Q (.bl true) G) : Cl.wCmp .Gt (.tup [.int p, .int q]) (.tup [.int 0, .int 0]) G Q := by
  refine ⟨.tuple [.int p, .int q], .tuple [.int 0, .int 0], rfl, rfl, by simp [PySem.W.alike, PySem.W.alikeAll], (fun z => nomatch z), by simp [PyData.depth, PyData.depthAll], ?_⟩
  have e : PySem.W.dataLt (.tuple [.int 0, .int 0]) (.tuple [.int p, .int q]) = true := by
    rw [PySem.W.dataLt_pair rfl rfl, PySem.W.dataLt_int, PySem.W.dataLt_int, eqv_int, eqv_int]
    rcases h with h | ⟨h, h2⟩
    · simp [h]; omega
    · subst h; simp [h2]; omega
  rw [e]; exact hQ
theorem cmp_eq0 {c : Rat} {G : Cl.PG} {Q : WK} : Cl.wCmp .Eq (num c) (.int 0) G Q = Q (.bl (decide (c = 0))) G := by rw [zero_num, cmp_eqR]
theorem cmp_ne0 {c : Rat} {G : Cl.PG} {Q : WK} : Cl.wCmp .NotEq (num c) (.int 0) G Q = Q (.bl (!decide (c = 0))) G := by rw [zero_num, cmp_neR]
/-! waves -/
def rowP (t : BE) : PV := .tup [.tup [.int t.p, .int t.q], num t.c, num t.s]
theorem bools_true' : ∀ n : Nat, bools (List.replicate n (.bl true)) = some (List.replicate n true)
  | 0 => rfl
  | n + 1 => by rw [List.replicate_succ, List.replicate_succ, bools, bools_true' n]
theorem all_true' : ∀ n : Nat, (List.replicate n true).all (fun b => b) = true
  | 0 => rfl
  | n + 1 => by rw [List.replicate_succ, List.all_cons, all_true' n]; rfl
/-- a tuple or a list of these -/
def SeqIs (v : PV) (vs : List PV) (G : Cl.PG) : Prop := v = .tup vs ∨ ∃ a, v = .ref a ∧ G a = some (.lst vs)
theorem SeqIs.ext {v : PV} {vs : List PV} {G G' : Cl.PG} (h : SeqIs v vs G) (e : Ext G G') : SeqIs v vs G' := by
  rcases h with h | ⟨a, h1, h2⟩
  · exact .inl h
  · exact .inr ⟨a, h1, e _ _ h2⟩
theorem SeqIs.it {v : PV} {vs : List PV} {G : Cl.PG} (h : SeqIs v vs G) : ∃ ws, ∀ G', Ext G G' → watch ws G' ∧ ∀ R : Ws → List PV → Cl.PG → Prop, R ws vs G' → itV v G' R := by
  rcases h with rfl | ⟨a, rfl, h2⟩
  · exact ⟨[], fun G' _ => ⟨watch_nil, fun R q => q⟩⟩
  · exact ⟨[(a, vs)], fun G' e => ⟨watch_one (e _ _ h2), fun R q => by rw [itV_lst (e _ _ h2)]; exact q⟩⟩
theorem SeqIs.len {v : PV} {vs : List PV} {G : Cl.PG} {Q : WK} (h : SeqIs v vs G) : bLen [v] G Q = Q (.int vs.length) G := by
  rcases h with rfl | ⟨a, rfl, h2⟩
  · rfl
  · exact bLen_lst h2
theorem SeqIs.ty {v : PV} {vs : List PV} {G : Cl.PG} (h : SeqIs v vs G) : ∃ n, tyOf v G = some (.b n) ∧ (n = "list" ∨ n = "tuple") := by
  rcases h with rfl | ⟨a, rfl, h2⟩
  · exact ⟨"tuple", rfl, .inr rfl⟩
  · exact ⟨"list", tyOf_lst h2, .inl rfl⟩
end Cl
set_option Elab.async false
set_option linter.all false
set_option maxRecDepth 100000
set_option maxHeartbeats 1000000
/-! Words: triples of whole numbers; of what each is made; the steps. Plain, and as values. -/
namespace Cl
open PySem PySem.Spec PyProof.Rows L2
structure W3 where
  p : Int
  q : Int
  l : Int
deriving DecidableEq
def W3.at (w : W3) : Nat → Int
  | 0 => w.p
  | 1 => w.q
  | _ => w.l
def putAt (k : Nat) (n : Int) : W3 := ⟨if k = 0 then n else 0, if k = 1 then n else 0, if k = 2 then n else 0⟩
def aloneFrom (k : Nat) (n : Int) : W3 × W3 := if n < 0 then (putAt k 0, putAt k (-n)) else if n % 2 = 0 then (putAt k (n / 2), putAt k 0) else (putAt k ((n + 1) / 2), putAt k 1)
def firsts : List W3 := [⟨0, 0, 0⟩, ⟨1, 0, 0⟩, ⟨0, 1, 0⟩, ⟨0, 0, 1⟩]
def nzAt (w : W3) : List Nat := [0, 1, 2].filter fun k => decide (w.at k ≠ 0)
def evAt (w : W3) : List Nat := (nzAt w).filter fun k => decide (w.at k % 2 = 0)
def rest (w : W3) (e : Nat) : W3 := ⟨if 0 = e then 0 else -w.p, if 1 = e then 0 else -w.q, if 2 = e then 0 else -w.l⟩
def madeIn (w : W3) : Option (W3 × W3) :=
  if w ∈ firsts then none else
  if (nzAt w).length = 1 then some (aloneFrom ((nzAt w).headD 0) (w.at ((nzAt w).headD 0)))
  else some (putAt ((evAt w).headD 0) (w.at ((evAt w).headD 0) / 2), rest w ((evAt w).headD 0))
/-- at most one odd number, none too great -/
structure WdOk (w : W3) : Prop where
  b : w.p.natAbs ≤ 24 ∧ w.q.natAbs ≤ 24 ∧ w.l.natAbs ≤ 24
  o : ¬ (w.p % 2 = 1 ∧ w.q % 2 = 1) ∧ ¬ (w.p % 2 = 1 ∧ w.l % 2 = 1) ∧ ¬ (w.q % 2 = 1 ∧ w.l % 2 = 1)
def lg (n : Nat) : Nat := if n ≤ 1 then 0 else if n ≤ 2 then 1 else if n ≤ 4 then 2 else if n ≤ 8 then 3 else if n ≤ 16 then 4 else 5
def al (n : Int) : Nat := if n < 0 then lg n.natAbs + 1 else lg n.natAbs
/-- how deep the making of a word goes -/
def mu (w : W3) : Nat := if w ∈ firsts then 0 else if (nzAt w).length = 1 then 8 + al (w.at ((nzAt w).headD 0)) else 8 * (nzAt w).length
def addW (ws : List W3) (w : W3) : List W3 := if w ∈ ws then ws else ws ++ [w]
def pdn : Nat → W3 → List W3 → List W3
  | 0, _, ws => ws
  | m + 1, w, ws => match madeIn w with
    | none => ws
    | some (a, b) => if w ∈ ws then ws else addW (pdn m b (pdn m a ws)) w
def stepsIn (ws : List W3) : List W3 := ws.foldl (fun f w => pdn 25 w f) []
/-! ### cases -/
theorem nz_cases (w : W3) : nzAt w = (if w.p = 0 then [] else [0]) ++ ((if w.q = 0 then [] else [1]) ++ (if w.l = 0 then [] else [2])) := by
  unfold nzAt
  simp only [List.filter_cons, List.filter_nil, W3.at]
  by_cases h1 : w.p = 0 <;> by_cases h2 : w.q = 0 <;> by_cases h3 : w.l = 0 <;> simp [h1, h2, h3]
theorem putAt_firsts_mu (k : Nat) (n : Int) (hk : k < 3) (h1 : 2 ≤ n) (h2 : n ≤ 24) : mu (putAt k n) = 8 + lg n.natAbs := by
  have hn : n ≠ 0 := by omega
  have hn1 : n ≠ 1 := by omega
  have hneg : ¬ n < 0 := by omega
  have hk : k = 0 ∨ k = 1 ∨ k = 2 := by omega
  rcases hk with rfl | rfl | rfl
  · have e : nzAt (putAt 0 n) = [0] := by rw [nz_cases]; simp [putAt, hn]
    have e2 : putAt 0 n ∉ firsts := by simp [putAt, firsts, hn, hn1]
    unfold mu
    rw [if_neg e2, e]
    simp [W3.at, putAt, al, hneg]
  · have e : nzAt (putAt 1 n) = [1] := by rw [nz_cases]; simp [putAt, hn]
    have e2 : putAt 1 n ∉ firsts := by simp [putAt, firsts, hn, hn1]
    unfold mu
    rw [if_neg e2, e]
    simp [W3.at, putAt, al, hneg]
  · have e : nzAt (putAt 2 n) = [2] := by rw [nz_cases]; simp [putAt, hn]
    have e2 : putAt 2 n ∉ firsts := by simp [putAt, firsts, hn, hn1]
    unfold mu
    rw [if_neg e2, e]
    simp [W3.at, putAt, al, hneg]
theorem putAt_01_mu (k : Nat) (n : Int) (hk : k < 3) (h : n = 0 ∨ n = 1) : mu (putAt k n) = 0 := by
  have hk : k = 0 ∨ k = 1 ∨ k = 2 := by omega
  rcases hk with rfl | rfl | rfl <;> rcases h with rfl | rfl <;> decide
theorem lg_le {n : Nat} : lg n ≤ 5 := by
  unfold lg
  repeat' split
  all_goals omega
theorem al_le {n : Int} : al n ≤ 6 := by unfold al; have := @lg_le n.natAbs; split <;> omega
theorem putAt_mu (k : Nat) (n : Int) (hk : k < 3) (h2 : n.natAbs ≤ 24) : mu (putAt k n) ≤ 8 + al n := by
  by_cases h0 : n = 0 ∨ n = 1
  · rw [putAt_01_mu k n hk h0]; omega
  by_cases h1 : 2 ≤ n
  · rw [putAt_firsts_mu k n hk h1 (by omega)]
    unfold al
    rw [if_neg (by omega)]; omega
  · have hn : n < 0 := by omega
    have hn0 : n ≠ 0 := by omega
    have hn1 : n ≠ 1 := by omega
    have hk : k = 0 ∨ k = 1 ∨ k = 2 := by omega
    unfold mu
    rcases hk with rfl | rfl | rfl
    · have e : nzAt (putAt 0 n) = [0] := by rw [nz_cases]; simp [putAt, hn0]
      split
      · omega
      · rw [e]; simp [W3.at, putAt]
    · have e : nzAt (putAt 1 n) = [1] := by rw [nz_cases]; simp [putAt, hn0]
      split
      · omega
      · rw [e]; simp [W3.at, putAt]
    · have e : nzAt (putAt 2 n) = [2] := by rw [nz_cases]; simp [putAt, hn0]
      split
      · omega
      · rw [e]; simp [W3.at, putAt]
theorem WdOk.putAt {k : Nat} {n : Int} (h : n.natAbs ≤ 24) : WdOk (putAt k n) := by
  unfold Cl.putAt
  refine ⟨⟨?_, ?_, ?_⟩, ?_, ?_, ?_⟩
  · dsimp only; split <;> first | omega | simp
  · dsimp only; split <;> first | omega | simp
  · dsimp only; split <;> first | omega | simp
  · dsimp only; rintro ⟨a, b⟩; split at a <;> split at b <;> first | omega | (simp at a b)
  · dsimp only; rintro ⟨a, b⟩; split at a <;> split at b <;> first | omega | (simp at a b)
  · dsimp only; rintro ⟨a, b⟩; split at a <;> split at b <;> first | omega | (simp at a b)
theorem alone_ok {k : Nat} {n : Int} (hk : k < 3) (h : n.natAbs ≤ 24) (h0 : n ≠ 0) (h1 : n ≠ 1) : WdOk (aloneFrom k n).1 ∧ WdOk (aloneFrom k n).2 ∧ mu (aloneFrom k n).1 < 8 + al n ∧ mu (aloneFrom k n).2 < 8 + al n := by
  have z := putAt_01_mu k 0 hk (.inl rfl)
  have z1 := putAt_01_mu k 1 hk (.inr rfl)
  unfold aloneFrom
  by_cases hn : n < 0
  · rw [if_pos hn]
    refine ⟨.putAt (by decide), .putAt (by omega), by rw [z]; omega, ?_⟩
    refine Nat.lt_of_le_of_lt (putAt_mu k (-n) hk (by omega)) ?_
    unfold al
    rw [if_pos hn, if_neg (by omega)]
    have : (-n).natAbs = n.natAbs := by omega
    rw [this]; omega
  · rw [if_neg hn]
    have key : ∀ m : Int, 0 < m → m ≤ (n + 1) / 2 → mu (putAt k m) < 8 + al n := fun m m0 m1 => by
      by_cases hm : m = 1
      · subst hm; rw [z1]; omega
      · rw [putAt_firsts_mu k m hk (by omega) (by omega)]
        unfold al lg
        rw [if_neg hn]
        repeat' split
        all_goals omega
    by_cases he : n % 2 = 0
    · rw [if_pos he]
      exact ⟨.putAt (by omega), .putAt (by decide), key _ (by omega) (by omega), by rw [z]; omega⟩
    · rw [if_neg he]
      exact ⟨.putAt (by omega), .putAt (by decide), key _ (by omega) (by omega), by rw [z1]; omega⟩
theorem ev_key {w : W3} (h : WdOk w) (hf : w ∉ firsts) (hl : ¬ (nzAt w).length = 1) : ∃ k, k < 3 ∧ (evAt w).head? = some k ∧ w.at k ≠ 0 ∧ w.at k % 2 = 0 ∧ (w.at k).natAbs ≤ 24 ∧ 2 ≤ (nzAt w).length ∧ (nzAt (rest w k)).length + 1 = (nzAt w).length := by
  have b1 := h.b
  have o1 := h.o
  have hz := nz_cases w
  have hev : evAt w = (nzAt w).filter fun k => decide (w.at k % 2 = 0) := rfl
  have hw : w = ⟨w.p, w.q, w.l⟩ := rfl
  have ne : ∀ x : Int, -x = 0 ↔ x = 0 := fun x => by omega
  have hr : nzAt (rest w 0) = (if w.q = 0 then [] else [1]) ++ (if w.l = 0 then [] else [2]) := by rw [nz_cases]; simp [rest, ne]
  have hr1 : nzAt (rest w 1) = (if w.p = 0 then [] else [0]) ++ (if w.l = 0 then [] else [2]) := by rw [nz_cases]; simp [rest, ne]
  have hr2 : nzAt (rest w 2) = (if w.p = 0 then [] else [0]) ++ (if w.q = 0 then [] else [1]) := by rw [nz_cases]; simp [rest, ne]
  rw [hev]
  by_cases h1 : w.p = 0 <;> by_cases h2 : w.q = 0 <;> by_cases h3 : w.l = 0 <;> simp only [h1, h2, h3, if_true, if_false, List.nil_append, List.singleton_append, List.append_nil] at hz hr hr1 hr2 <;> rw [hz] at hl <;> simp at hl
  · exact absurd (show w ∈ firsts by rw [hw, h1, h2, h3]; decide) hf
  · by_cases e2 : w.q % 2 = 0
    · exact ⟨1, by decide, by rw [hz]; simp [W3.at, e2], h2, e2, b1.2.1, by rw [hz]; simp, by rw [hz, hr1]; rfl⟩
    · have e3 : w.l % 2 = 0 := by omega
      exact ⟨2, by decide, by rw [hz]; simp [W3.at, e2, e3], h3, e3, b1.2.2, by rw [hz]; simp, by rw [hz, hr2]; rfl⟩
  · by_cases e1 : w.p % 2 = 0
    · exact ⟨0, by decide, by rw [hz]; simp [W3.at, e1], h1, e1, b1.1, by rw [hz]; simp, by rw [hz, hr]; rfl⟩
    · have e3 : w.l % 2 = 0 := by omega
      exact ⟨2, by decide, by rw [hz]; simp [W3.at, e1, e3], h3, e3, b1.2.2, by rw [hz]; simp, by rw [hz, hr2]; rfl⟩
  · by_cases e1 : w.p % 2 = 0
    · exact ⟨0, by decide, by rw [hz]; simp [W3.at, e1], h1, e1, b1.1, by rw [hz]; simp, by rw [hz, hr]; rfl⟩
    · have e2 : w.q % 2 = 0 := by omega
      exact ⟨1, by decide, by rw [hz]; simp [W3.at, e1, e2], h2, e2, b1.2.1, by rw [hz]; simp, by rw [hz, hr1]; rfl⟩
  · by_cases e1 : w.p % 2 = 0
    · exact ⟨0, by decide, by rw [hz]; simp [W3.at, e1], h1, e1, b1.1, by rw [hz]; simp, by rw [hz, hr]; rfl⟩
    · have e2 : w.q % 2 = 0 := by omega
      exact ⟨1, by decide, by rw [hz]; simp [W3.at, e1, e2], h2, e2, b1.2.1, by rw [hz]; simp, by rw [hz, hr1]; rfl⟩
theorem nz_one {w : W3} (h : WdOk w) (hf : w ∉ firsts) (hl : (nzAt w).length = 1) : ∃ k, k < 3 ∧ nzAt w = [k] ∧ w.at k ≠ 0 ∧ w.at k ≠ 1 ∧ (w.at k).natAbs ≤ 24 := by
  have b1 := h.b
  have hz := nz_cases w
  have hw : w = ⟨w.p, w.q, w.l⟩ := rfl
  by_cases h1 : w.p = 0 <;> by_cases h2 : w.q = 0 <;> by_cases h3 : w.l = 0 <;> simp only [h1, h2, h3, if_true, if_false, List.nil_append, List.singleton_append, List.append_nil] at hz <;> rw [hz] at hl <;> simp at hl
  · exact ⟨2, by decide, hz, h3, fun z => hf (by simp only [W3.at] at z; rw [hw, h1, h2, z]; decide), b1.2.2⟩
  · exact ⟨1, by decide, hz, h2, fun z => hf (by simp only [W3.at] at z; rw [hw, h1, h3, z]; decide), b1.2.1⟩
  · exact ⟨0, by decide, hz, h1, fun z => hf (by simp only [W3.at] at z; rw [hw, h2, h3, z]; decide), b1.1⟩
theorem WdOk.rest {w : W3} (h : WdOk w) (k : Nat) : WdOk (rest w k) := by
  have b1 := h.b
  have o1 := h.o
  unfold Cl.rest
  refine ⟨⟨?_, ?_, ?_⟩, ?_, ?_, ?_⟩ <;> dsimp only
  · split <;> first | omega | (simp; omega) | simp
  · split <;> first | omega | (simp; omega) | simp
  · split <;> first | omega | (simp; omega) | simp
  · rintro ⟨a, b⟩; split at a <;> split at b <;> omega
  · rintro ⟨a, b⟩; split at a <;> split at b <;> omega
  · rintro ⟨a, b⟩; split at a <;> split at b <;> omega
theorem made_ok {w : W3} (h : WdOk w) {a b : W3} (e : madeIn w = some (a, b)) : WdOk a ∧ WdOk b ∧ mu a < mu w ∧ mu b < mu w := by
  unfold madeIn at e
  split at e
  · cases e
  rename_i hf
  have hmu : mu w = if (nzAt w).length = 1 then 8 + al (w.at ((nzAt w).headD 0)) else 8 * (nzAt w).length := by unfold mu; rw [if_neg hf]
  rw [hmu]
  split at e
  · rename_i hl
    rw [if_pos hl]
    obtain ⟨k, k1, k2, k3, k4, k5⟩ := nz_one h hf hl
    rw [k2] at e ⊢
    have e' := Option.some.inj e
    have := alone_ok k1 k5 k3 k4
    rw [show aloneFrom k (w.at k) = (a, b) from e'] at this
    exact this
  · rename_i hl
    rw [if_neg hl]
    obtain ⟨k, k1, k2, k3, k4, k5, k6, k7⟩ := ev_key h hf hl
    have k2' : (evAt w).headD 0 = k := by rw [List.headD_eq_head?_getD, k2]; rfl
    rw [k2'] at e
    have e' := Option.some.inj e
    injection e' with e1 e2
    subst e1; subst e2
    refine ⟨.putAt (by omega), h.rest k, ?_, ?_⟩
    · have := putAt_mu k (w.at k / 2) k1 (by omega)
      have := @al_le (w.at k / 2)
      omega
    · unfold mu
      split
      · omega
      · split
        · have := @al_le ((rest w k).at ((nzAt (rest w k)).headD 0)); omega
        · omega
theorem mu_le (w : W3) : mu w ≤ 24 := by
  unfold mu
  split
  · omega
  · split
    · have := @al_le (w.at ((nzAt w).headD 0)); omega
    · have : (nzAt w).length ≤ 3 := by unfold nzAt; exact List.length_filter_le _ _
      omega
/-! ### values -/
def wordP (w : W3) : PV := .tup [.int w.p, .int w.q, .int w.l]
def wkey (w : W3) : NestedKey := .tup [.num w.p, .num w.q, .num w.l]
def went (w : W3) : NestedKey × PV := (wkey w, .bl true)
theorem wkey_inj {w u : W3} : wkey w = wkey u ↔ w = u := by
  constructor
  · intro h
    unfold wkey at h
    injection h with h
    injection h with h1 h
    injection h with h2 h
    injection h with h3 _
    injection h1 with h1
    injection h2 with h2
    injection h3 with h3
    cases w; cases u; simp_all
  · rintro rfl; rfl
theorem wordP_inj {w u : W3} : wordP w = wordP u ↔ w = u := by
  constructor
  · intro h
    unfold wordP at h
    injection h with h
    injection h with h1 h
    injection h with h2 h
    injection h with h3 _
    injection h1 with h1
    injection h2 with h2
    injection h3 with h3
    cases w; cases u; simp_all
  · rintro rfl; rfl
theorem nks_word (w : W3) : nks [.int w.p, .int w.q, .int w.l] = some [.num w.p, .num w.q, .num w.l] := by simp [nks, nk]
theorem word_depth (w : W3) : (NestedKey.tup [.num w.p, .num w.q, .num w.l]).depth ≤ 8 := by simp [NestedKey.depth, NestedKey.depthAll]
theorem kpv_word (w : W3) : kpv (wkey w) = wordP w := by
  unfold wkey wordP
  rw [kpv, kpvs, kpvs, kpvs, kpvs, kpv, kpv, kpv]
theorem dLook_went (w : W3) : ∀ ws : List W3, (dLook (ws.map went) (wkey w)).isSome = decide (w ∈ ws)
  | [] => by simp [dLook]
  | u :: ws => by
    have ih := dLook_went w ws
    unfold dLook at ih ⊢
    rw [List.map_cons, List.find?_cons]
    by_cases h : u = w
    · have e : decide ((went u).1 = wkey w) = true := decide_eq_true (by rw [h]; rfl)
      rw [e]; simp [h]
    · have e : decide ((went u).1 = wkey w) = false := decide_eq_false fun z => h (wkey_inj.mp z)
      rw [e]
      have : decide (w ∈ u :: ws) = decide (w ∈ ws) := by simp [Ne.symm h]
      rw [this]; exact ih
theorem dPut_went (ws : List W3) (w : W3) : dPut (ws.map went) (wkey w) (.bl true) = (addW ws w).map went := by
  unfold dPut addW
  rw [dLook_went]
  by_cases h : w ∈ ws
  · rw [if_pos (by simpa using h), if_pos h, List.map_map]
    apply List.map_congr_left
    intro u _
    show (if (went u).1 = wkey w then ((went u).1, PV.bl true) else went u) = went u
    split <;> rfl
  · rw [if_neg (by simpa using h), if_neg h, List.map_append]; rfl
theorem addW_length (ws : List W3) (w : W3) : (addW ws w).length ≤ ws.length + 1 := by
  unfold addW; split <;> simp
theorem in_tupP {n m : Nat} {x : PV} {ys : List PV} {G : PG} {Q : WK} (hx : isP n x) (hy : ∀ y ∈ ys, isP m y) (hn : n ≤ 11) (hm : m ≤ 11) {k : Bool} (hk : k = true ↔ x ∈ ys) : wCmp .In x (.tup ys) G Q = Q (.bl k) G := by
  have hd := dat_p (G := G) n datN x hx (by have : datN = 12 := rfl; omega)
  have hds : ys.mapM (dat G datN) = some (ys.map (pdat m)) := mapM_of fun y h => dat_p m datN y (hy y h) (by have : datN = 12 := rfl; omega)
  have ha : (ys.map (pdat m)).any (fun z => PyData.eqv z (pdat n x)) = k := by
    rw [Bool.eq_iff_iff, hk, List.any_eq_true]
    constructor
    · rintro ⟨z, hz, e⟩
      obtain ⟨y, h1, rfl⟩ := List.mem_map.mp hz
      rw [← (eqv_p m n y x (hy y h1) hx).mp e]; exact h1
    · intro h
      exact ⟨_, List.mem_map.mpr ⟨x, h, rfl⟩, (eqv_p m n x x (hy x h) hx).mpr rfl⟩
  have hs : SeqAt.shaped (.tuple (ys.map (pdat m))) = true := shaped_p (n := m + 1) (v := .tup ys) (isP_tup.mpr hy) (by omega)
  rw [← ha]
  apply propext
  constructor
  · rintro ⟨d', e', k1, k2, _, _, q⟩
    rw [hd] at k1; rw [hds] at k2; cases k1; cases k2; exact q
  · intro q; exact ⟨_, _, hd, hds, shaped_p hx (by omega), hs, q⟩
/-! ### how many steps there are -/
theorem isP_word (w : W3) {n : Nat} : isP (n + 1) (wordP w) := isP_tup.mpr fun x hx => by
  simp at hx; rcases hx with rfl | rfl | rfl <;> exact isP_int
structure Wds (ws : List W3) : Prop where
  nd : ws.Nodup
  ok : ∀ w ∈ ws, WdOk w
theorem Wds.nil : Wds [] := ⟨List.nodup_nil, fun _ h => nomatch h⟩
theorem Wds.add {ws : List W3} {w : W3} (h : Wds ws) (hw : WdOk w) : Wds (addW ws w) := by
  unfold addW
  split
  · exact h
  · rename_i hn
    refine ⟨?_, fun u hu => ?_⟩
    · unfold List.Nodup
      rw [List.pairwise_append]
      refine ⟨h.nd, List.pairwise_singleton _ _, fun a ha b hb => ?_⟩
      have : b = w := by simpa using hb
      subst this
      exact fun z => hn (z ▸ ha)
    · rcases List.mem_append.mp hu with hu | hu
      · exact h.ok u hu
      · have : u = w := by simpa using hu
        exact this ▸ hw
theorem Wds.pdn : ∀ (m : Nat) (w : W3) {ws : List W3}, WdOk w → Wds ws → Wds (pdn m w ws)
  | 0, _, _, _, h => h
  | m + 1, w, ws, hw, h => by
    rw [Cl.pdn]
    cases e : madeIn w with
    | none => exact h
    | some ab =>
      obtain ⟨a, b⟩ := ab
      dsimp only
      obtain ⟨k1, k2, _, _⟩ := made_ok hw e
      split
      · exact h
      · exact ((Wds.pdn m b k2 (Wds.pdn m a k1 h))).add hw
def wenc (w : W3) : Nat := ((w.p + 24).toNat * 49 + (w.q + 24).toNat) * 49 + (w.l + 24).toNat
theorem Wds.len {ws : List W3} (h : Wds ws) : ws.length ≤ 117649 := by
  rw [← List.length_map (as := ws) wenc, ← List.length_range (n := 117649)]
  refine List.Nodup.length_le_of_subset ?_ fun x hx => ?_
  · unfold List.Nodup
    rw [List.pairwise_map]
    have h1 := h.nd
    unfold List.Nodup at h1
    refine (List.pairwise_iff_forall_sublist.mpr fun {a b} hs => ?_ : ws.Pairwise _)
    have hne := List.pairwise_iff_forall_sublist.mp h1 hs
    have ha := h.ok a (hs.subset List.mem_cons_self)
    have hb := h.ok b (hs.subset (by simp))
    intro z
    apply hne
    have a1 := ha.b
    have b1 := hb.b
    unfold wenc at z
    have e1 : a.p = b.p := by omega
    have e2 : a.q = b.q := by omega
    have e3 : a.l = b.l := by omega
    cases a; cases b; simp_all
  · obtain ⟨w, hw, rfl⟩ := List.mem_map.mp hx
    have := (h.ok w hw).b
    rw [List.mem_range]
    unfold wenc
    omega
end Cl
set_option Elab.async false
set_option linter.all false
set_option maxRecDepth 100000
set_option maxHeartbeats 1000000
/-! Sorting words; `not in` for plain data. -/
namespace Cl
open PySem PySem.Spec PyProof.Rows L2
theorem nin_tupP {n m : Nat} {x : PV} {ys : List PV} {G : PG} {Q : WK} (hx : isP n x) (hy : ∀ y ∈ ys, isP m y) (hn : n ≤ 11) (hm : m ≤ 11) {k : Bool} (hk : k = true ↔ x ∈ ys) : wCmp .NotIn x (.tup ys) G Q = Q (.bl (!k)) G := by
  have hd := dat_p (G := G) n datN x hx (by have : datN = 12 := rfl; omega)
  have hds : ys.mapM (dat G datN) = some (ys.map (pdat m)) := mapM_of fun y h => dat_p m datN y (hy y h) (by have : datN = 12 := rfl; omega)
  have ha : (ys.map (pdat m)).any (fun z => PyData.eqv z (pdat n x)) = k := by
    rw [Bool.eq_iff_iff, hk, List.any_eq_true]
    constructor
    · rintro ⟨z, hz, e⟩
      obtain ⟨y, h1, rfl⟩ := List.mem_map.mp hz
      rw [← (eqv_p m n y x (hy y h1) hx).mp e]; exact h1
    · intro h
      exact ⟨_, List.mem_map.mpr ⟨x, h, rfl⟩, (eqv_p m n x x (hy x h) hx).mpr rfl⟩
  have hs : SeqAt.shaped (.tuple (ys.map (pdat m))) = true := shaped_p (n := m + 1) (v := .tup ys) (isP_tup.mpr hy) (by omega)
  rw [← ha]
  apply propext
  constructor
  · rintro ⟨d', e', k1, k2, _, _, q⟩
    rw [hd] at k1; rw [hds] at k2; cases k1; cases k2; exact q
  · intro q; exact ⟨_, _, hd, hds, shaped_p hx (by omega), hs, q⟩
def wlt (a b : W3) : Prop := a.p < b.p ∨ (a.p = b.p ∧ (a.q < b.q ∨ (a.q = b.q ∧ a.l < b.l)))
theorem encP_word (G : PG) (w : W3) : encP G (wordP w) = .tuple ([w.p, w.q, w.l].map PyData.int) := rfl
theorem dataLt_words (a b : W3) : PySem.W.dataLt (.tuple ([a.p, a.q, a.l].map PyData.int)) (.tuple ([b.p, b.q, b.l].map PyData.int)) = decide ([a.p, a.q, a.l] < [b.p, b.q, b.l]) := by
  rw [PySem.W.dataLt_tuple]
  exact PySem.W.dataLt_ints _ _
theorem wlt_lex {a b : W3} (h : wlt a b) : ¬ [b.p, b.q, b.l] < [a.p, a.q, a.l] := by
  simp only [List.cons_lt_cons_iff]
  unfold wlt at h
  simp
  omega
theorem sorted_W {a : Addr} {ws : List W3} {G : PG} {Q : WK} (h : G a = some (.lst (ws.map wordP))) (hs : ws.Pairwise wlt) (hl : ws.length ≤ 1000000) (hQ : ∀ p, G p = none → Q (.ref p) (pup G p (.lst (ws.map wordP)))) : bSorted [.ref a] G Q := by
  have := size_big
  unfold bSorted
  simp only [h]
  have e : (ws.map wordP).map (encP G) = ws.map fun w => .tuple ([w.p, w.q, w.l].map PyData.int) := by rw [List.map_map]; rfl
  refine ⟨by rw [List.length_map]; omega, fun x hx => ?_, ?_, ?_, fun p hp => ?_⟩
  · obtain ⟨w, _, rfl⟩ := List.mem_map.mp hx
    exact ⟨_, rfl, by simp [PyData.depth, PyData.depthAll]⟩
  · rw [e]
    exact PySem.W.AllAlike.of fun _ _ => by simp [PySem.W.alike, PySem.W.alikeAll]
  · rw [e]
    exact PySem.W.Sortable.tuples fun _ => ⟨_, _, rfl⟩
  · have e2 : srtP G (ws.map wordP) = ws.map wordP := by
      unfold srtP
      apply List.mergeSort_of_pairwise
      rw [List.pairwise_map]
      refine hs.imp fun {a b} hab => ?_
      rw [PySem.W.dataLe_eq]
      show (!PySem.W.dataLt (encP G (wordP b)) (encP G (wordP a))) = true
      rw [encP_word, encP_word, dataLt_words, decide_eq_false (wlt_lex hab)]
      rfl
    rw [e2]
    exact hQ p hp
end Cl
set_option Elab.async false
set_option linter.all false
set_option maxRecDepth 100000
set_option maxHeartbeats 0
namespace K51
open PySem PySem.Spec PyProof.Rows L2 Cl
def top (i : Nat) : Stmt := PySem.Challenge.pw_typedcurve_k51_terms_make_the_curve.main.body.getD i (.Pass ⟨0, 0, 0, 0⟩)
/-- is_integer -/
abbrev s0 : Stmt := top 7
def N0 : List Str := ["value"]
def l0 : List CS := [.ret (.and (.isi (.var 0) [.b "int"]) (.one (.not (.isi (.var 0) [.b "bool"]))))]
def c0 : CSs := B l0
/-- is_within -/
abbrev s1 : Stmt := top 8
def N1 : List Str := ["value", "least", "most"]
def l1 : List CS := [.iff (.not (.tv (.call 0 (L [(.var 0)])))) (B [.ret (.con (.bl false))]) (B []), .ret (.and (.or (.cmp .Is (.var 1) (.con .non)) (.one (.cmp .LtE (.var 1) (.var 0)))) (.one (.or (.cmp .Is (.var 2) (.con .non)) (.one (.cmp .LtE (.var 0) (.var 2))))))]
def c1 : CSs := B l1
/-- is_list -/
abbrev s2 : Stmt := top 9
def N2 : List Str := ["value"]
def l2 : List CS := [.ret (.isi (.var 0) [.b "list", .b "tuple"])]
def c2 : CSs := B l2
/-- common -/
abbrev s3 : Stmt := top 10
def N3 : List Str := ["one", "other"]
def l3 : List CS := [.par2 0 1 (L [(.bi .abs (L [(.var 0)])), (.bi .abs (L [(.var 1)]))]), .while_ (.cmp .Gt (.var 1) (.con (.int 0))) (B [.par2 0 1 (L [(.var 1), (.bin .Mod (.var 0) (.var 1))])]), .ret (.var 0)]
def c3 : CSs := B l3
/-- is_number -/
abbrev s4 : Stmt := top 11
def N4 : List Str := ["value"]
def l4 : List CS := [.iff (.tv (.call 0 (L [(.var 0)]))) (B [.ret (.con (.bl true))]) (B []), .iff (.or (.not (.tv (.call 2 (L [(.var 0)])))) (.or (.cmp .NotEq (.bi .len (L [(.var 0)])) (.con (.int 2))) (.one (.not (.tv (.call 0 (L [(.idx (.var 0) (.con (.int 0)))]))))))) (B [.ret (.con (.bl false))]) (B []), .ret (.and (.call 1 (L [(.idx (.var 0) (.con (.int 1))), (.con (.int 2)), (.con .non)])) (.one (.cmp .Eq (.call 3 (L [(.idx (.var 0) (.con (.int 0))), (.idx (.var 0) (.con (.int 1)))])) (.con (.int 1)))))]
def c4 : CSs := B l4
/-- kept -/
abbrev s5 : Stmt := top 12
def N5 : List Str := ["number"]
def l5 : List CS := [.ret (.ifx (.tv (.isi (.var 0) [.b "list", .b "tuple"])) (.tupOf (.vals (.var 0))) (.var 0))]
def c5 : CSs := B l5
/-- need_number -/
abbrev s6 : Stmt := top 13
def N6 : List Str := ["value", "part"]
def l6 : List CS := [.iff (.not (.tv (.call 4 (L [(.var 0)])))) (B [.never]) (B []), .ret (.call 5 (L [(.var 0)]))]
def c6 : CSs := B l6
/-- need_above -/
abbrev s7 : Stmt := top 14
def N7 : List Str := ["value", "part"]
def l7 : List CS := [.iff (.or (.not (.tv (.call 4 (L [(.var 0)])))) (.one (.cmp .LtE (.ifx (.tv (.call 2 (L [(.var 0)]))) (.idx (.var 0) (.con (.int 0))) (.var 0)) (.con (.int 0))))) (B [.never]) (B []), .ret (.call 5 (L [(.var 0)]))]
def c7 : CSs := B l7
/-- halves -/
abbrev s8 : Stmt := top 16
def N8 : List Str := ["number"]
def l8 : List CS := [.ret (.ifx (.tv (.isi (.var 0) [.b "int"])) (.tup (L [(.var 0), (.con (.int 1))])) (.tup (L [(.idx (.var 0) (.con (.int 0))), (.idx (.var 0) (.con (.int 1)))])))]
def c8 : CSs := B l8
/-- lowest -/
abbrev s9 : Stmt := top 17
def N9 : List Str := ["above", "under", "part"]
def l9 : List CS := [.asg (.name 2) (.call 3 (L [(.var 0), (.var 1)])), .asg (.name 2) (.ifx (.cmp .Lt (.var 1) (.con (.int 0))) (.neg (.var 2)) (.var 2)), .par2 0 1 (L [(.bin .FloorDiv (.var 0) (.var 2)), (.bin .FloorDiv (.var 1) (.var 2))]), .ret (.ifx (.cmp .Eq (.var 1) (.con (.int 1))) (.var 0) (.tup (L [(.var 0), (.var 1)])))]
def c9 : CSs := B l9
/-- added -/
abbrev s10 : Stmt := top 18
def N10 : List Str := ["one", "other", "above", "under", "its", "below_it"]
def l10 : List CS := [.asg (.tup (LG [(.tup (LG [(.name 2), (.name 3)])), (.tup (LG [(.name 4), (.name 5)]))])) (.tup (L [(.call 8 (L [(.var 0)])), (.call 8 (L [(.var 1)]))])), .ret (.call 9 (L [(.bin .Add (.bin .Mult (.var 2) (.var 5)) (.bin .Mult (.var 4) (.var 3))), (.bin .Mult (.var 3) (.var 5))]))]
def c10 : CSs := B l10
/-- turned -/
abbrev s11 : Stmt := top 19
def N11 : List Str := ["number", "above", "under"]
def l11 : List CS := [.asg (.tup (LG [(.name 1), (.name 2)])) (.call 8 (L [(.var 0)])), .ret (.ifx (.cmp .Eq (.var 2) (.con (.int 1))) (.neg (.var 1)) (.tup (L [(.neg (.var 1)), (.var 2)])))]
def c11 : CSs := B l11
/-- less_by -/
abbrev s12 : Stmt := top 20
def N12 : List Str := ["one", "other"]
def l12 : List CS := [.ret (.call 10 (L [(.var 0), (.call 11 (L [(.var 1)]))]))]
def c12 : CSs := B l12
/-- product -/
abbrev s13 : Stmt := top 21
def N13 : List Str := ["one", "other", "above", "under", "its", "below_it"]
def l13 : List CS := [.asg (.tup (LG [(.tup (LG [(.name 2), (.name 3)])), (.tup (LG [(.name 4), (.name 5)]))])) (.tup (L [(.call 8 (L [(.var 0)])), (.call 8 (L [(.var 1)]))])), .ret (.call 9 (L [(.bin .Mult (.var 2) (.var 4)), (.bin .Mult (.var 3) (.var 5))]))]
def c13 : CSs := B l13
/-- sign_in -/
abbrev s14 : Stmt := top 22
def N14 : List Str := ["number", "above"]
def l14 : List CS := [.asg (.name 1) (.idx (.call 8 (L [(.var 0)])) (.con (.int 0))), .ret (.bin .Sub (.bi .int (L [(.cmp .Gt (.var 1) (.con (.int 0)))])) (.bi .int (L [(.cmp .Lt (.var 1) (.con (.int 0)))])))]
def c14 : CSs := B l14
/-- is_term -/
abbrev s15 : Stmt := top 25
def N15 : List Str := ["value", "power"]
def l15 : List CS := [.iff (.or (.not (.tv (.call 2 (L [(.var 0)])))) (.or (.cmp .NotEq (.bi .len (L [(.var 0)])) (.con (.int 3))) (.or (.not (.tv (.call 4 (L [(.idx (.var 0) (.con (.int 2)))])))) (.one (.cmp .Eq (.idx (.var 0) (.con (.int 2))) (.con (.int 0))))))) (B [.ret (.con (.bl false))]) (B []), .ret (.and (.agg .all (.lc [1] (.val (.slice (.var 0) .none (.some (.con (.int 2))))) (.name 1) .none (.call 1 (L [(.var 1), (.con (.int 0)), (.glob 0)])))) (.one (.cmp .LtE (.bin .Add (.idx (.var 0) (.con (.int 0))) (.idx (.var 0) (.con (.int 1)))) (.glob 0))))]
def c15 : CSs := B l15
/-- need_poly -/
abbrev s16 : Stmt := top 27
def N16 : List Str := ["value", "part"]
def l16 : List CS := [.iff (.not (.tv (.isi (.var 0) [.o 0]))) (B [.never]) (B []), .ret (.var 0)]
def c16 : CSs := B l16
/-- size_of -/
abbrev s17 : Stmt := top 34
def N17 : List Str := ["beat"]
def l17 : List CS := [.ret (.bin .Add (.bi .abs (L [(.idx (.var 0) (.con (.int 0)))])) (.bi .abs (L [(.idx (.var 0) (.con (.int 1)))])))]
def c17 : CSs := B l17
/-- is_beat -/
abbrev s18 : Stmt := top 35
def N18 : List Str := ["value", "each"]
def l18 : List CS := [.iff (.or (.not (.tv (.call 2 (L [(.var 0)])))) (.or (.cmp .NotEq (.bi .len (L [(.var 0)])) (.con (.int 2))) (.one (.not (.tv (.agg .all (.lc [1] (.val (.var 0)) (.name 1) .none (.call 1 (L [(.var 1), (.neg (.glob 1)), (.glob 1)]))))))))) (B [.ret (.con (.bl false))]) (B []), .ret (.and (.cmp .LtE (.call 17 (L [(.var 0)])) (.glob 1)) (.one (.cmp .Gt (.tupOf (.vals (.var 0))) (.glob 5))))]
def c18 : CSs := B l18
/-- is_row -/
abbrev s19 : Stmt := top 36
def N19 : List Str := ["value", "each"]
def l19 : List CS := [.iff (.or (.not (.tv (.call 2 (L [(.var 0)])))) (.or (.cmp .NotEq (.bi .len (L [(.var 0)])) (.con (.int 3))) (.one (.not (.tv (.call 18 (L [(.idx (.var 0) (.con (.int 0)))]))))))) (B [.ret (.con (.bl false))]) (B []), .ret (.and (.agg .all (.lc [1] (.val (.slice (.var 0) (.some (.con (.int 1))) .none)) (.name 1) .none (.call 4 (L [(.var 1)])))) (.one (.not (.and (.cmp .Eq (.idx (.var 0) (.con (.int 1))) (.con (.int 0))) (.one (.cmp .Eq (.idx (.var 0) (.con (.int 2))) (.con (.int 0))))))))]
def c19 : CSs := B l19
/-- need_waves -/
abbrev s20 : Stmt := top 38
def N20 : List Str := ["value", "part"]
def l20 : List CS := [.iff (.not (.tv (.isi (.var 0) [.o 1]))) (B [.never]) (B []), .ret (.var 0)]
def c20 : CSs := B l20
/-- put -/
abbrev s21 : Stmt := top 39
def N21 : List Str := ["book", "pair", "cosine", "sine", "found"]
def l21 : List CS := [.iff (.cmp .Lt (.var 1) (.glob 5)) (B [.par2 1 3 (L [(.tup (L [(.neg (.idx (.var 1) (.con (.int 0)))), (.neg (.idx (.var 1) (.con (.int 1))))])), (.call 11 (L [(.var 3)]))])]) (B []), .asg (.name 4) (.get2 (.var 0) (.var 1) (.tup (L [(.con (.int 0)), (.con (.int 0))]))), .asg (.sub (.var 0) (.var 1)) (.tup (L [(.call 10 (L [(.idx (.var 4) (.con (.int 0))), (.var 2)])), (.call 10 (L [(.idx (.var 4) (.con (.int 1))), (.var 3)]))]))]
def c21 : CSs := B l21
/-- of_book -/
abbrev s22 : Stmt := top 40
def N22 : List Str := ["book", "rows", "beat", "numbers"]
def l22 : List CS := [.setLcD 1 .items [2, 3] 0 (.tup (LG [(.name 2), (.name 3)])) (.some (.and (.cmp .NotEq (.var 2) (.glob 5)) (.one (.cmp .NotEq (.var 3) (.tup (L [(.con (.int 0)), (.con (.int 0))])))))) (.tupS (.cons (.var 2) (.star (.vals (.var 3)) .nil))), .ret (.make 0 (L [(.idx (.get2 (.var 0) (.glob 5) (.tup (L [(.con (.int 0)), (.con (.int 0))]))) (.con (.int 0))), (.var 1)]))]
def c22 : CSs := B l22
/-- rows_of -/
abbrev s23 : Stmt := top 41
def N23 : List Str := ["waves"]
def l23 : List CS := [.ret (.lstS (.cons (.tup (L [(.glob 5), (.fld 1 (.var 0)), (.con (.int 0))])) (.star (.vals (.fld 0 (.var 0))) .nil)))]
def c23 : CSs := B l23
/-- sum_of_waves -/
abbrev s24 : Stmt := top 42
def N24 : List Str := ["one", "other", "book", "beat", "cosine", "sine"]
def l24 : List CS := [.asg (.name 2) .newT, .for_ (.val (.bin .Add (.call 23 (L [(.var 0)])) (.call 23 (L [(.var 1)])))) (.tup (LG [(.name 3), (.name 4), (.name 5)])) (B [.expr (.call 21 (L [(.var 2), (.var 3), (.var 4), (.var 5)]))]), .ret (.call 22 (L [(.var 2)]))]
def c24 : CSs := B l24
/-- product_of_waves -/
abbrev s25 : Stmt := top 43
def N25 : List Str := ["one", "other", "book", "p", "q", "cosine", "sine", "across", "up", "its", "other_sine", "both", "aside", "mine", "back"]
def l25 : List CS := [.asg (.name 2) .newT, .for_ (.val (.call 23 (L [(.var 0)]))) (.tup (LG [(.tup (LG [(.name 3), (.name 4)])), (.name 5), (.name 6)])) (B [.for_ (.val (.call 23 (L [(.var 1)]))) (.tup (LG [(.tup (LG [(.name 7), (.name 8)])), (.name 9), (.name 10)])) (B [.par2 11 12 (L [(.call 13 (L [(.var 5), (.var 9)])), (.call 13 (L [(.var 6), (.var 10)]))]), .par2 13 14 (L [(.call 13 (L [(.var 6), (.var 9)])), (.call 13 (L [(.var 5), (.var 10)]))]), .expr (.call 21 (L [(.var 2), (.tup (L [(.bin .Add (.var 3) (.var 7)), (.bin .Add (.var 4) (.var 8))])), (.call 13 (L [(.glob 2), (.call 12 (L [(.var 11), (.var 12)]))])), (.call 13 (L [(.glob 2), (.call 10 (L [(.var 13), (.var 14)]))]))])), .expr (.call 21 (L [(.var 2), (.tup (L [(.bin .Sub (.var 3) (.var 7)), (.bin .Sub (.var 4) (.var 8))])), (.call 13 (L [(.glob 2), (.call 10 (L [(.var 11), (.var 12)]))])), (.call 13 (L [(.glob 2), (.call 12 (L [(.var 13), (.var 14)]))]))]))])]), .ret (.call 22 (L [(.var 2)]))]
def c25 : CSs := B l25
/-- waves_in -/
abbrev s26 : Stmt := top 44
def N26 : List Str := ["poly", "radius", "across", "up", "found", "i", "j", "number", "both", "part"]
def l26 : List CS := [.asg (.name 2) (.make 0 (L [(.con (.int 0)), (.lst (L [(.tup (L [(.tup (L [(.con (.int 0)), (.con (.int 1))])), (.var 1), (.con (.int 0))])), (.tup (L [(.tup (L [(.con (.int 1)), (.con (.int 0))])), (.var 1), (.con (.int 0))]))]))])), .asg (.name 3) (.make 0 (L [(.con (.int 0)), (.lst (L [(.tup (L [(.tup (L [(.con (.int 0)), (.con (.int 1))])), (.con (.int 0)), (.var 1)])), (.tup (L [(.tup (L [(.con (.int 1)), (.con (.int 0))])), (.con (.int 0)), (.var 1)]))]))])), .asg (.name 4) (.make 0 (L [(.con (.int 0)), (.tup (L []))])), .for_ (.val (.fld 2 (.var 0))) (.tup (LG [(.name 5), (.name 6), (.name 7)])) (B [.asg (.name 8) (.make 0 (L [(.var 7), (.tup (L []))])), .for_ (.val (.bin .Add (.bin .Mult (.lst (L [(.var 2)])) (.var 5)) (.bin .Mult (.lst (L [(.var 3)])) (.var 6)))) (.name 9) (B [.asg (.name 8) (.call 25 (L [(.var 8), (.var 9)]))]), .asg (.name 4) (.call 24 (L [(.var 4), (.var 8)]))]), .ret (.var 4)]
def c26 : CSs := B l26
/-- waves_of -/
abbrev s27 : Stmt := top 45
def N27 : List Str := ["poly", "radius"]
def l27 : List CS := [.expr (.call 16 (L [(.var 0), (.con (.str "poly"))])), .ret (.call 26 (L [(.var 0), (.call 7 (L [(.var 1), (.con (.str "radius"))]))]))]
def c27 : CSs := B l27
/-- cosines -/
abbrev s28 : Stmt := top 46
def N28 : List Str := ["waves", "found", "p", "q", "cosine", "sine", "word", "number"]
def l28 : List CS := [.expr (.callD 0 (L [(.var 0)])), .asg (.name 1) (.lst (L [])), .for_ (.val (.fld 0 (.var 0))) (.tup (LG [(.tup (LG [(.name 2), (.name 3)])), (.name 4), (.name 5)])) (B [.expr (.app (.var 1) (.tup (L [(.tup (L [(.bin .Mult (.con (.int 2)) (.var 2)), (.bin .Mult (.con (.int 2)) (.var 3)), (.con (.int 0))])), (.call 10 (L [(.var 4), (.call 13 (L [(.glob 3), (.var 5)]))]))]))), .expr (.app (.var 1) (.tup (L [(.tup (L [(.bin .Mult (.con (.int 2)) (.var 2)), (.bin .Mult (.con (.int 2)) (.var 3)), (.con (.int 2))])), (.call 13 (L [(.glob 4), (.var 5)]))])))]), .ret (.tupOf (.lc [6, 7] (.val (.var 1)) (.tup (LG [(.name 6), (.name 7)])) (.some (.cmp .NotEq (.var 7) (.con (.int 0)))) (.tup (L [(.var 6), (.var 7)]))))]
def c28 : CSs := B l28
/-- put_at -/
abbrev s29 : Stmt := top 49
def N29 : List Str := ["at", "number", "spot"]
def l29 : List CS := [.ret (.tupOf (.lc [2] (.r1 (.con (.int 3))) (.name 2) .none (.ifx (.cmp .Eq (.var 2) (.var 0)) (.var 1) (.con (.int 0)))))]
def c29 : CSs := B l29
/-- alone_from -/
abbrev s30 : Stmt := top 50
def N30 : List Str := ["at", "number"]
def l30 : List CS := [.iff (.cmp .Lt (.var 1) (.con (.int 0))) (B [.ret (.tup (L [(.call 29 (L [(.var 0), (.con (.int 0))])), (.call 29 (L [(.var 0), (.neg (.var 1))]))]))]) (B []), .iff (.cmp .Eq (.bin .Mod (.var 1) (.con (.int 2))) (.con (.int 0))) (B [.ret (.tup (L [(.call 29 (L [(.var 0), (.bin .FloorDiv (.var 1) (.con (.int 2)))])), (.call 29 (L [(.var 0), (.con (.int 0))]))]))]) (B []), .ret (.tup (L [(.call 29 (L [(.var 0), (.bin .FloorDiv (.bin .Add (.var 1) (.con (.int 1))) (.con (.int 2)))])), (.call 29 (L [(.var 0), (.con (.int 1))]))]))]
def c30 : CSs := B l30
/-- made_in -/
abbrev s31 : Stmt := top 51
def N31 : List Str := ["word", "others", "even", "at", "number"]
def l31 : List CS := [.iff (.cmp .In (.var 0) (.glob 6)) (B [.ret (.con .non)]) (B []), .setLc 1 [3, 4] (.enum (.var 0)) (.tup (LG [(.name 3), (.name 4)])) (.some (.cmp .NotEq (.var 4) (.con (.int 0)))) (.var 3), .iff (.cmp .Eq (.bi .len (L [(.var 1)])) (.con (.int 1))) (B [.ret (.call 30 (L [(.idx (.var 1) (.con (.int 0))), (.idx (.var 0) (.idx (.var 1) (.con (.int 0))))]))]) (B []), .asg (.name 2) (.idx (.lc [3] (.val (.var 1)) (.name 3) (.some (.cmp .Eq (.bin .Mod (.idx (.var 0) (.var 3)) (.con (.int 2))) (.con (.int 0)))) (.var 3)) (.con (.int 0))), .ret (.tup (L [(.call 29 (L [(.var 2), (.bin .FloorDiv (.idx (.var 0) (.var 2)) (.con (.int 2)))])), (.tupOf (.lc [3, 4] (.enum (.var 0)) (.tup (LG [(.name 3), (.name 4)])) .none (.ifx (.cmp .Eq (.var 3) (.var 2)) (.con (.int 0)) (.neg (.var 4)))))]))]
def c31 : CSs := B l31
/-- put_down -/
abbrev s32 : Stmt := top 52
def N32 : List Str := ["word", "found", "made", "each"]
def l32 : List CS := [.asg (.name 2) (.call 31 (L [(.var 0)])), .iff (.or (.cmp .Is (.var 2) (.con .non)) (.one (.cmp .In (.var 0) (.var 1)))) (B [.retN]) (B []), .for_ (.val (.var 2)) (.name 3) (B [.expr (.call 32 (L [(.var 3), (.var 1)]))]), .asg (.sub (.var 1) (.var 0)) (.con (.bl true))]
def c32 : CSs := B l32
/-- steps_in -/
abbrev s33 : Stmt := top 53
def N33 : List Str := ["words", "found", "word"]
def l33 : List CS := [.asg (.name 1) .newT, .for_ (.val (.var 0)) (.name 2) (B [.expr (.call 32 (L [(.var 2), (.var 1)]))]), .ret (.tupD (.var 1))]
def c33 : CSs := B l33
/-- need_plan -/
abbrev s34 : Stmt := top 57
def N34 : List Str := ["poly", "radius"]
def l34 : List CS := [.expr (.call 16 (L [(.var 0), (.con (.str "poly"))])), .ret (.make 1 (L [(.var 0), (.call 7 (L [(.var 1), (.con (.str "radius"))]))]))]
def c34 : CSs := B l34
/-- terms_for -/
abbrev s35 : Stmt := top 58
def N35 : List Str := ["poly", "radius"]
def l35 : List CS := [.ret (.fld 2 (.call 34 (L [(.var 0), (.var 1)])))]
def c35 : CSs := B l35
/-- reach_for -/
abbrev s36 : Stmt := top 59
def N36 : List Str := ["poly", "radius"]
def l36 : List CS := [.ret (.meth 0 (.call 34 (L [(.var 0), (.var 1)])) (L []))]
def c36 : CSs := B l36
/-- _law_churn -/
abbrev s37 : Stmt := top 61
def N37 : List Str := ["_law_script", "_law_cell"]
def l37 : List CS := [.ret (.lst (L [(.lc [1] (.val (.slice (.var 0) .none (.some (.con (.int 60))))) (.name 1) .none (.bi .int (L [(.var 1)]))), (.con (.int 0)), (.con (.int 0))]))]
def c37 : CSs := B l37
/-- _law_stir -/
abbrev s38 : Stmt := top 62
def N38 : List Str := ["_law_churn_here", "_law_many", "_law_rest", "_law_turn_here", "_law_cell", "_law_mixed"]
def l38 : List CS := [.iff (.cmp .Gt (.idx (.var 0) (.con (.int 2))) (.con (.int 0))) (B [.asg (.name 2) (.bi .int (L [(.idx (.var 0) (.con (.int 2)))])), .asg (.sub (.var 0) (.con (.int 2))) (.bin .FloorDiv (.var 2) (.var 1)), .ret (.bin .Mod (.bi .int (L [(.var 2)])) (.var 1))]) (B []), .asg (.name 3) (.idx (.var 0) (.con (.int 1))), .asg (.sub (.var 0) (.con (.int 1))) (.bin .Add (.var 3) (.con (.int 1))), .asg (.name 4) (.bin .Add (.bin .Mult (.con (.int 65505)) (.var 3)) (.con (.int 5249))), .iff (.cmp .NotEq (.idx (.var 0) (.con (.int 0))) (.lst (L []))) (B [.asg (.name 4) (.idx (.idx (.var 0) (.con (.int 0))) (.bin .Mod (.bi .int (L [(.var 3)])) (.bi .len (L [(.idx (.var 0) (.con (.int 0)))]))))]) (B []), .iff (.and (.cmp .Lt (.var 3) (.bi .len (L [(.idx (.var 0) (.con (.int 0)))]))) (.one (.cmp .GtE (.bi .abs (L [(.var 4)])) (.bin .Pow (.con (.int 10)) (.con (.int 18)))))) (B [.asg (.name 2) (.bin .Add (.bin .Mult (.con (.int 2)) (.bin .Sub (.bi .abs (L [(.bi .int (L [(.var 4)]))])) (.bin .Pow (.con (.int 10)) (.con (.int 18))))) (.bi .int (L [(.cmp .Lt (.var 4) (.con (.int 0)))]))), .asg (.sub (.var 0) (.con (.int 2))) (.bin .FloorDiv (.var 2) (.var 1)), .ret (.bin .Mod (.bi .int (L [(.var 2)])) (.var 1))]) (B []), .asg (.name 5) (.bin .Mod (.bi .int (L [(.bin .Pow (.bin .Add (.bin .Add (.bin .Mod (.bi .int (L [(.var 4)])) (.con (.int 2147483629))) (.bin .Mult (.con (.int 76651)) (.var 3))) (.con (.int 4915))) (.con (.int 5)))])) (.con (.int 2147483563))), .asg (.name 5) (.bin .Mod (.bi .int (L [(.bin .Pow (.bin .Add (.bin .Add (.bin .Mult (.var 5) (.bin .Add (.bin .Mult (.con (.int 2)) (.var 3)) (.con (.int 5035)))) (.bin .Mult (.bin .Mult (.con (.int 65505)) (.var 3)) (.var 3))) (.con (.int 76685))) (.con (.int 3)))])) (.con (.int 2147483587))), .ret (.bin .Mod (.bi .int (L [(.bin .FloorDiv (.var 5) (.con (.int 64)))])) (.var 1))]
def c38 : CSs := B l38
/-- _law_pick -/
abbrev s39 : Stmt := top 63
def N39 : List Str := ["_law_churn_here", "_law_some"]
def l39 : List CS := [.ret (.idx (.var 1) (.call 38 (L [(.var 0), (.bi .len (L [(.var 1)]))])))]
def c39 : CSs := B l39
/-- _law_halves -/
abbrev s40 : Stmt := top 64
def N40 : List Str := ["_law_number"]
def l40 : List CS := [.ret (.ifx (.tv (.isi (.var 0) [.b "int"])) (.tup (L [(.var 0), (.con (.int 1))])) (.tup (L [(.idx (.var 0) (.con (.int 0))), (.idx (.var 0) (.con (.int 1)))])))]
def c40 : CSs := B l40
/-- _law_low -/
abbrev s41 : Stmt := top 65
def N41 : List Str := ["_law_above", "_law_below", "_law_part", "_law_other"]
def l41 : List CS := [.par2 2 3 (L [(.bi .abs (L [(.var 0)])), (.bi .abs (L [(.var 1)]))]), .while_ (.cmp .Gt (.var 3) (.con (.int 0))) (B [.par2 2 3 (L [(.var 3), (.bin .Mod (.bi .int (L [(.var 2)])) (.var 3))])]), .asg (.name 2) (.ifx (.cmp .Gt (.var 1) (.con (.int 0))) (.var 2) (.neg (.var 2))), .ret (.ifx (.cmp .Eq (.var 1) (.var 2)) (.bin .FloorDiv (.var 0) (.var 2)) (.tup (L [(.bin .FloorDiv (.var 0) (.var 2)), (.bin .FloorDiv (.var 1) (.var 2))])))]
def c41 : CSs := B l41
/-- _law_plus -/
abbrev s42 : Stmt := top 66
def N42 : List Str := ["_law_one", "_law_other", "_law_a", "_law_b", "_law_c", "_law_d"]
def l42 : List CS := [.asg (.tup (LG [(.tup (LG [(.name 2), (.name 3)])), (.tup (LG [(.name 4), (.name 5)]))])) (.tup (L [(.call 40 (L [(.var 0)])), (.call 40 (L [(.var 1)]))])), .ret (.call 41 (L [(.bin .Add (.bin .Mult (.var 2) (.var 5)) (.bin .Mult (.var 4) (.var 3))), (.bin .Mult (.var 3) (.var 5))]))]
def c42 : CSs := B l42
/-- _law_times -/
abbrev s43 : Stmt := top 67
def N43 : List Str := ["_law_one", "_law_other", "_law_a", "_law_b", "_law_c", "_law_d"]
def l43 : List CS := [.asg (.tup (LG [(.tup (LG [(.name 2), (.name 3)])), (.tup (LG [(.name 4), (.name 5)]))])) (.tup (L [(.call 40 (L [(.var 0)])), (.call 40 (L [(.var 1)]))])), .ret (.call 41 (L [(.bin .Mult (.var 2) (.var 4)), (.bin .Mult (.var 3) (.var 5))]))]
def c43 : CSs := B l43
/-- _law_less -/
abbrev s44 : Stmt := top 68
def N44 : List Str := ["_law_one", "_law_other"]
def l44 : List CS := [.ret (.call 42 (L [(.var 0), (.call 43 (L [(.neg (.con (.int 1))), (.var 1)]))]))]
def c44 : CSs := B l44
/-- _law_added -/
abbrev s45 : Stmt := top 69
def N45 : List Str := ["_law_one", "_law_other", "_law_cosine_here"]
def l45 : List CS := [.asg (.name 2) (.call 44 (L [(.call 43 (L [(.idx (.var 0) (.con (.int 0))), (.idx (.var 1) (.con (.int 0)))])), (.call 43 (L [(.idx (.var 0) (.con (.int 1))), (.idx (.var 1) (.con (.int 1)))]))])), .ret (.tup (L [(.var 2), (.call 42 (L [(.call 43 (L [(.idx (.var 0) (.con (.int 1))), (.idx (.var 1) (.con (.int 0)))])), (.call 43 (L [(.idx (.var 0) (.con (.int 0))), (.idx (.var 1) (.con (.int 1)))]))]))]))]
def c45 : CSs := B l45
/-- _law_multiplied -/
abbrev s46 : Stmt := top 70
def N46 : List Str := ["_law_turn_here", "_law_many", "_law_found", "_law_step", "_law_lap"]
def l46 : List CS := [.par2 2 3 (L [(.tup (L [(.con (.int 1)), (.con (.int 0))])), (.ifx (.cmp .GtE (.var 1) (.con (.int 0))) (.var 0) (.tup (L [(.idx (.var 0) (.con (.int 0))), (.call 43 (L [(.neg (.con (.int 1))), (.idx (.var 0) (.con (.int 1)))]))])))]), .for_ (.r1 (.bi .abs (L [(.var 1)]))) (.name 4) (B [.asg (.name 2) (.call 45 (L [(.var 2), (.var 3)]))]), .ret (.var 2)]
def c46 : CSs := B l46
/-- _law_poly -/
abbrev s47 : Stmt := top 71
def N47 : List Str := ["_law_churn_here", "_law_degree", "_law_many", "_law_found", "_law_turn_here", "_law_i", "_law_j", "_law_number"]
def l47 : List CS := [.asg (.name 3) .newT, .for_ (.r1 (.var 2)) (.name 4) (B [.asg (.name 5) (.call 38 (L [(.var 0), (.bin .Add (.var 1) (.con (.int 1)))])), .asg (.name 6) (.call 38 (L [(.var 0), (.bin .Add (.bin .Sub (.var 1) (.var 5)) (.con (.int 1)))])), .asg (.name 7) (.call 39 (L [(.var 0), (.lst (L [(.con (.int 1)), (.neg (.con (.int 1))), (.con (.int 2)), (.tup (L [(.con (.int 1)), (.con (.int 2))])), (.tup (L [(.neg (.con (.int 3))), (.con (.int 2))])), (.con (.int 5)), (.tup (L [(.con (.int 2)), (.con (.int 3))])), (.neg (.con (.int 4)))]))])), .asg (.sub (.var 3) (.tup (L [(.var 5), (.var 6)]))) (.var 7)]), .ret (.lcD .keys [5, 6] 3 (.tup (LG [(.name 5), (.name 6)])) .none (.tup (L [(.var 5), (.var 6), (.idx (.var 3) (.tup (L [(.var 5), (.var 6)])))])))]
def c47 : CSs := B l47
/-- _law_value -/
abbrev s48 : Stmt := top 72
def N48 : List Str := ["_law_terms", "_law_point", "_law_total", "_law_i", "_law_j", "_law_number", "_law_lap"]
def l48 : List CS := [.asg (.name 2) (.con (.int 0)), .for_ (.val (.var 0)) (.tup (LG [(.name 3), (.name 4), (.name 5)])) (B [.for_ (.r1 (.var 3)) (.name 6) (B [.asg (.name 5) (.call 43 (L [(.var 5), (.idx (.var 1) (.con (.int 0)))]))]), .for_ (.r1 (.var 4)) (.name 6) (B [.asg (.name 5) (.call 43 (L [(.var 5), (.idx (.var 1) (.con (.int 1)))]))]), .asg (.name 2) (.call 42 (L [(.var 2), (.var 5)]))]), .ret (.var 2)]
def c48 : CSs := B l48
/-- _law_turn -/
abbrev s49 : Stmt := top 73
def N49 : List Str := ["_law_churn_here", "_law_p", "_law_q", "_law_whole"]
def l49 : List CS := [.par2 1 2 (L [(.bin .Sub (.call 38 (L [(.var 0), (.con (.int 9))])) (.con (.int 4))), (.call 38 (L [(.var 0), (.con (.int 4))]))]), .iff (.and (.cmp .Eq (.var 1) (.con (.int 0))) (.one (.cmp .Eq (.var 2) (.con (.int 0))))) (B [.ret (.tup (L [(.neg (.con (.int 1))), (.con (.int 0))]))]) (B []), .asg (.name 3) (.bin .Add (.bin .Mult (.var 1) (.var 1)) (.bin .Mult (.var 2) (.var 2))), .ret (.tup (L [(.call 41 (L [(.bin .Sub (.bin .Mult (.var 2) (.var 2)) (.bin .Mult (.var 1) (.var 1))), (.var 3)])), (.call 41 (L [(.bin .Mult (.bin .Mult (.con (.int 2)) (.var 1)) (.var 2)), (.var 3)]))]))]
def c49 : CSs := B l49
/-- _law_pen -/
abbrev s50 : Stmt := top 74
def N50 : List Str := ["_law_radius", "_law_a", "_law_b", "_law_one", "_law_other"]
def l50 : List CS := [.par2 3 4 (L [(.call 45 (L [(.var 1), (.var 1)])), (.call 45 (L [(.var 2), (.var 2)]))]), .ret (.tup (L [(.call 43 (L [(.var 0), (.call 42 (L [(.idx (.var 3) (.con (.int 0))), (.idx (.var 4) (.con (.int 0)))]))])), (.call 43 (L [(.var 0), (.call 42 (L [(.idx (.var 3) (.con (.int 1))), (.idx (.var 4) (.con (.int 1)))]))]))]))]
def c50 : CSs := B l50
/-- _law_cosine -/
abbrev s51 : Stmt := top 75
def N51 : List Str := ["_law_word", "_law_a", "_law_b", "_law_turn_here"]
def l51 : List CS := [.asg (.name 3) (.call 45 (L [(.call 46 (L [(.var 1), (.idx (.var 0) (.con (.int 0)))])), (.call 46 (L [(.var 2), (.idx (.var 0) (.con (.int 1)))]))])), .ret (.idx (.call 45 (L [(.var 3), (.call 46 (L [(.tup (L [(.tup (L [(.con (.int 4)), (.con (.int 5))])), (.tup (L [(.con (.int 3)), (.con (.int 5))]))])), (.idx (.var 0) (.con (.int 2)))]))])) (.con (.int 0)))]
def c51 : CSs := B l51
/-- _law_words_right -/
abbrev s52 : Stmt := top 76
def N52 : List Str := ["_law_told", "_law_degree", "_law_words", "_law_p", "_law_q", "_law_l", "_law_word", "_law_number", "_law_at"]
def l52 : List CS := [.asg (.name 2) (.lc [6, 7] (.val (.var 0)) (.tup (LG [(.name 6), (.name 7)])) .none (.var 6)), .iff (.or (.cmp .NotEq (.var 2) (.bi .sorted (L [(.var 2)]))) (.or (.cmp .NotEq (.lc [8] (.r2 (.con (.int 1)) (.bi .len (L [(.var 2)]))) (.name 8) (.some (.cmp .Eq (.idx (.var 2) (.var 8)) (.idx (.var 2) (.bin .Sub (.var 8) (.con (.int 1)))))) (.con (.int 1))) (.lst (L []))) (.one (.cmp .NotEq (.lc [6, 7] (.val (.var 0)) (.tup (LG [(.name 6), (.name 7)])) (.some (.cmp .Eq (.var 7) (.con (.int 0)))) (.con (.int 1))) (.lst (L [])))))) (B [.ret (.con (.bl false))]) (B []), .for_ (.val (.var 2)) (.tup (LG [(.name 3), (.name 4), (.name 5)])) (B [.iff (.or (.cmp .NotEq (.bin .Mod (.bi .int (L [(.var 3)])) (.con (.int 2))) (.con (.int 0))) (.or (.cmp .NotEq (.bin .Mod (.bi .int (L [(.var 4)])) (.con (.int 2))) (.con (.int 0))) (.or (.cmp .NotIn (.var 5) (.tup (L [(.con (.int 0)), (.con (.int 2))]))) (.or (.cmp .Eq (.tup (L [(.var 3), (.var 4)])) (.tup (L [(.con (.int 0)), (.con (.int 0))]))) (.or (.cmp .Lt (.var 3) (.con (.int 0))) (.one (.and (.cmp .Eq (.var 3) (.con (.int 0))) (.one (.cmp .Lt (.var 4) (.con (.int 0))))))))))) (B [.ret (.con (.bl false))]) (B []), .iff (.cmp .Gt (.bin .Add (.bi .abs (L [(.var 3)])) (.bi .abs (L [(.var 4)]))) (.bin .Mult (.con (.int 2)) (.var 1))) (B [.ret (.con (.bl false))]) (B [])]), .ret (.con (.bl true))]
def c52 : CSs := B l52
/-- law -/
abbrev s53 : Stmt := top 77
def N53 : List Str := ["_law_script", "_law_churn_here", "_law_turn_here", "_law_degree", "_law_terms", "_law_radius", "_law_poly_here", "_law_told", "_law_reach", "_law_word", "_law_number", "_law_constant", "_law_lap", "_law_a", "_law_b", "_law_rest"]
def l53 : List CS := [.asg (.name 1) (.call 37 (L [(.var 0)])), .for_ (.r1 (.con (.int 2))) (.name 2) (B [.asg (.name 3) (.call 39 (L [(.var 1), (.lst (L [(.con (.int 1)), (.con (.int 2)), (.con (.int 2)), (.con (.int 1)), (.con (.int 3)), (.con (.int 0)), (.ifx (.cmp .Eq (.call 38 (L [(.var 1), (.con (.int 4))])) (.con (.int 0))) (.con (.int 4)) (.con (.int 2)))]))])), .asg (.name 4) (.call 47 (L [(.var 1), (.var 3), (.bin .Add (.con (.int 1)) (.call 38 (L [(.var 1), (.con (.int 5))])))])), .asg (.name 5) (.call 39 (L [(.var 1), (.lst (L [(.con (.int 1)), (.tup (L [(.con (.int 5)), (.con (.int 6))])), (.con (.int 2)), (.tup (L [(.con (.int 1)), (.con (.int 2))])), (.tup (L [(.con (.int 7)), (.con (.int 3))]))]))])), .asg (.name 6) (.make 2 (L [(.var 4)])), .asg (.name 7) (.call 35 (L [(.var 6), (.var 5)])), .iff (.or (.not (.tv (.isi (.var 7) [.b "tuple"]))) (.or (.not (.tv (.call 52 (L [(.var 7), (.var 3)])))) (.one (.cmp .NotEq (.callK 0 (L []) (L [(.var 5), (.var 6)])) (.var 7))))) (B [.ret (.con (.bl false))]) (B []), .asg (.name 8) (.con (.int 0)), .for_ (.val (.var 7)) (.tup (LG [(.name 9), (.name 10)])) (B [.asg (.name 8) (.call 42 (L [(.var 8), (.ifx (.cmp .Gt (.idx (.call 40 (L [(.var 10)])) (.con (.int 0))) (.con (.int 0))) (.var 10) (.call 43 (L [(.neg (.con (.int 1))), (.var 10)])))]))]), .iff (.cmp .NotEq (.call 36 (L [(.var 6), (.var 5)])) (.var 8)) (B [.ret (.con (.bl false))]) (B []), .asg (.name 11) (.fld 1 (.call 27 (L [(.var 6), (.var 5)]))), .for_ (.r1 (.con (.int 3))) (.name 12) (B [.par2 13 14 (L [(.call 49 (L [(.var 1)])), (.call 49 (L [(.var 1)]))]), .asg (.name 15) (.call 48 (L [(.var 4), (.call 50 (L [(.var 5), (.var 13), (.var 14)]))])), .for_ (.val (.var 7)) (.tup (LG [(.name 9), (.name 10)])) (B [.asg (.name 15) (.call 44 (L [(.var 15), (.call 43 (L [(.var 10), (.call 51 (L [(.var 9), (.var 13), (.var 14)]))]))]))]), .iff (.cmp .NotEq (.var 15) (.var 11)) (B [.ret (.con (.bl false))]) (B [])])]), .ret (.and (.cmp .Eq (.call 35 (L [(.make 2 (L [(.lst (L []))])), (.con (.int 3))])) (.tup (L []))) (.one (.cmp .Eq (.call 36 (L [(.make 2 (L [(.lst (L [(.tup (L [(.con (.int 0)), (.con (.int 0)), (.con (.int 7))]))]))])), (.con (.int 3))])) (.con (.int 0)))))]
def c53 : CSs := B l53
/-- Poly.__init__ -/
abbrev s54 : Stmt := clsFn (top 26) 0
def N54 : List Str := ["self", "terms", "found", "i", "j", "number", "term"]
def l54 : List CS := [.iff (.or (.not (.tv (.call 2 (L [(.var 1)])))) (.one (.not (.tv (.agg .all (.lc [6] (.val (.var 1)) (.name 6) .none (.call 15 (L [(.var 6)])))))))) (B [.never]) (B []), .asg (.name 2) (.dc true [3, 4, 5] (.val (.var 1)) (.tup (LG [(.name 3), (.name 4), (.name 5)])) .none (.tup (L [(.var 3), (.var 4)])) (.call 5 (L [(.var 5)]))), .iff (.cmp .NotEq (.bi .len (L [(.var 2)])) (.bi .len (L [(.var 1)]))) (B [.never]) (B []), .setf 2 (.var 0) (.tupOf (.lc [3, 4] (.val (.bi .sorted (L [(.var 2)]))) (.tup (LG [(.name 3), (.name 4)])) .none (.tup (L [(.var 3), (.var 4), (.idx (.var 2) (.tup (L [(.var 3), (.var 4)])))])))), .setf 3 (.var 0) (.maxC (.lcD .keys [3, 4] 2 (.tup (LG [(.name 3), (.name 4)])) .none (.bin .Add (.var 3) (.var 4))) 0)]
def c54 : CSs := B l54
/-- Waves.__init__ -/
abbrev s55 : Stmt := clsFn (top 37) 0
def N55 : List Str := ["self", "constant", "rows", "found", "beat", "cosine", "sine", "row"]
def l55 : List CS := [.setf 1 (.var 0) (.call 6 (L [(.var 1), (.con (.str "constant"))])), .iff (.or (.not (.tv (.call 2 (L [(.var 2)])))) (.one (.not (.tv (.agg .all (.lc [7] (.val (.var 2)) (.name 7) .none (.call 19 (L [(.var 7)])))))))) (B [.never]) (B []), .asg (.name 3) (.dc true [4, 5, 6] (.val (.var 2)) (.tup (LG [(.name 4), (.name 5), (.name 6)])) .none (.tupOf (.vals (.var 4))) (.tup (L [(.call 5 (L [(.var 5)])), (.call 5 (L [(.var 6)]))]))), .iff (.cmp .NotEq (.bi .len (L [(.var 3)])) (.bi .len (L [(.var 2)]))) (B [.never]) (B []), .setf 0 (.var 0) (.tupOf (.lc [4] (.val (.bi .sorted (L [(.var 3)]))) (.name 4) .none (.tupS (.cons (.var 4) (.star (.vals (.idx (.var 3) (.var 4))) .nil))))), .setf 4 (.var 0) (.maxC (.lcD .keys [4] 3 (.name 4) .none (.call 17 (L [(.var 4)]))) 0)]
def c55 : CSs := B l55
/-- Plan.__init__ -/
abbrev s56 : Stmt := clsFn (top 56) 0
def N56 : List Str := ["self", "poly", "radius", "waves", "word", "_"]
def l56 : List CS := [.asg (.name 3) (.call 27 (L [(.var 1), (.var 2)])), .setf 1 (.var 0) (.fld 1 (.var 3)), .setf 2 (.var 0) (.call 28 (L [(.var 3)])), .setf 5 (.var 0) (.call 33 (L [(.lstS (.star (.vals (.glob 7)) (.star (.lc [4, 5] (.val (.fld 2 (.var 0))) (.tup (LG [(.name 4), (.name 5)])) .none (.var 4)) .nil)))]))]
def c56 : CSs := B l56
/-- Plan.reach -/
abbrev s57 : Stmt := clsFn (top 56) 1
def N57 : List Str := ["self", "found", "_", "number"]
def l57 : List CS := [.asg (.name 1) (.con (.int 0)), .for_ (.val (.fld 2 (.var 0))) (.tup (LG [(.name 2), (.name 3)])) (B [.asg (.name 1) (.call 10 (L [(.var 1), (.ifx (.cmp .Gt (.call 14 (L [(.var 3)])) (.con (.int 0))) (.var 3) (.call 11 (L [(.var 3)])))]))]), .ret (.var 1)]
def c57 : CSs := B l57
def fnNames : List Str := (["is_integer", "is_within", "is_list", "common", "is_number", "kept", "need_number", "need_above", "halves", "lowest", "added", "turned", "less_by", "product", "sign_in", "is_term", "need_poly", "size_of", "is_beat", "is_row", "need_waves", "put", "of_book", "rows_of", "sum_of_waves", "product_of_waves", "waves_in", "waves_of", "cosines", "put_at"] : List Str) ++ (["alone_from", "made_in", "put_down", "steps_in", "need_plan", "terms_for", "reach_for", "_law_churn", "_law_stir", "_law_pick", "_law_halves", "_law_low", "_law_plus", "_law_times", "_law_less", "_law_added", "_law_multiplied", "_law_poly", "_law_value", "_law_turn", "_law_pen", "_law_cosine", "_law_words_right", "law"] : List Str)
def Γ (C : Nat → Addr) (Φ : Nat → PSp) : Gam where
  fns := fnNames
  phi := Φ
  kfs := [(35, 0, ["radius", "poly"], [1, 0])]
  mks := [("Waves", C 0, 55), ("Plan", C 1, 56), ("Poly", C 2, 54)]
  cst := [("MOST_DEGREE", .int 6), ("MOST_SIZE", .int 6), ("HALF", .tup [.int 1, .int 2]), ("COSINE", .tup [.int 7, .int 24]), ("LATER", .tup [.int (-25), .int 24]), ("NO_BEAT", .tup [.int 0, .int 0]), ("FIRST_WORDS", .tup [.tup [.int 0, .int 0, .int 0], .tup [.int 1, .int 0, .int 0], .tup [.int 0, .int 1, .int 0], .tup [.int 0, .int 0, .int 1]]), ("ARM_WORDS", .tup [.tup [.int 2, .int 0, .int 0], .tup [.int 0, .int 2, .int 0]])]
  flds := [("rows", [C 0, C 1, C 2]), ("constant", [C 0, C 1, C 2]), ("terms", [C 0, C 1, C 2]), ("degree", [C 0, C 1, C 2]), ("size", [C 0, C 1, C 2]), ("words", [C 0, C 1, C 2])]
  cls := [("Poly", C 2), ("Waves", C 0)]
  sub := fun a b => a == b
  dfs := [("need_waves", 20, [.str "waves"])]
  mts := [("reach", C 1, 57)]
  blt := ["abs", "all", "bool", "enumerate", "int", "isinstance", "len", "list", "max", "range", "sorted", "tuple"]
theorem Γ_phi (C Φ) : (Γ C Φ).phi = Φ := rfl
theorem Γ_sub (C Φ) : (Γ C Φ).sub = fun a b => a == b := rfl
theorem Γ_cst (C Φ) : (Γ C Φ).cst = [(Str.ofString "MOST_DEGREE", .int 6), (Str.ofString "MOST_SIZE", .int 6), (Str.ofString "HALF", .tup [.int 1, .int 2]), (Str.ofString "COSINE", .tup [.int 7, .int 24]), (Str.ofString "LATER", .tup [.int (-25), .int 24]), (Str.ofString "NO_BEAT", .tup [.int 0, .int 0]), (Str.ofString "FIRST_WORDS", .tup [.tup [.int 0, .int 0, .int 0], .tup [.int 1, .int 0, .int 0], .tup [.int 0, .int 1, .int 0], .tup [.int 0, .int 0, .int 1]]), (Str.ofString "ARM_WORDS", .tup [.tup [.int 2, .int 0, .int 0], .tup [.int 0, .int 2, .int 0]])] := rfl
theorem Γ_flds (C Φ) : (Γ C Φ).flds = [(Str.ofString "rows", [C 0, C 1, C 2]), (Str.ofString "constant", [C 0, C 1, C 2]), (Str.ofString "terms", [C 0, C 1, C 2]), (Str.ofString "degree", [C 0, C 1, C 2]), (Str.ofString "size", [C 0, C 1, C 2]), (Str.ofString "words", [C 0, C 1, C 2])] := rfl
theorem Γ_cls (C Φ) : (Γ C Φ).cls = [(Str.ofString "Poly", C 2), (Str.ofString "Waves", C 0)] := rfl
theorem Γ_mks (C Φ) : (Γ C Φ).mks = [(Str.ofString "Waves", C 0, 55), (Str.ofString "Plan", C 1, 56), (Str.ofString "Poly", C 2, 54)] := rfl
theorem Γ_dfs (C Φ) : (Γ C Φ).dfs = [(Str.ofString "need_waves", 20, [.str "waves"])] := rfl
theorem Γ_mts (C Φ) : (Γ C Φ).mts = [(Str.ofString "reach", C 1, 57)] := rfl
theorem Γ_kfs (C Φ) : (Γ C Φ).kfs = [(35, 0, [Str.ofString "radius", Str.ofString "poly"], [1, 0])] := rfl
theorem ck0 (C : Nat → Addr) (Φ : Nat → PSp) : kSs (Γ C Φ) c0 ⟨N0, defScope s0, (defScope s0).names⟩ (defBody s0) = true := by kernel_rfl
theorem ck1 (C : Nat → Addr) (Φ : Nat → PSp) : kSs (Γ C Φ) c1 ⟨N1, defScope s1, (defScope s1).names⟩ (defBody s1) = true := by kernel_rfl
theorem ck2 (C : Nat → Addr) (Φ : Nat → PSp) : kSs (Γ C Φ) c2 ⟨N2, defScope s2, (defScope s2).names⟩ (defBody s2) = true := by kernel_rfl
theorem ck3 (C : Nat → Addr) (Φ : Nat → PSp) : kSs (Γ C Φ) c3 ⟨N3, defScope s3, (defScope s3).names⟩ (defBody s3) = true := by kernel_rfl
theorem ck4 (C : Nat → Addr) (Φ : Nat → PSp) : kSs (Γ C Φ) c4 ⟨N4, defScope s4, (defScope s4).names⟩ (defBody s4) = true := by kernel_rfl
theorem ck5 (C : Nat → Addr) (Φ : Nat → PSp) : kSs (Γ C Φ) c5 ⟨N5, defScope s5, (defScope s5).names⟩ (defBody s5) = true := by kernel_rfl
theorem ck6 (C : Nat → Addr) (Φ : Nat → PSp) : kSs (Γ C Φ) c6 ⟨N6, defScope s6, (defScope s6).names⟩ (defBody s6) = true := by kernel_rfl
theorem ck7 (C : Nat → Addr) (Φ : Nat → PSp) : kSs (Γ C Φ) c7 ⟨N7, defScope s7, (defScope s7).names⟩ (defBody s7) = true := by kernel_rfl
theorem ck8 (C : Nat → Addr) (Φ : Nat → PSp) : kSs (Γ C Φ) c8 ⟨N8, defScope s8, (defScope s8).names⟩ (defBody s8) = true := by kernel_rfl
theorem ck9 (C : Nat → Addr) (Φ : Nat → PSp) : kSs (Γ C Φ) c9 ⟨N9, defScope s9, (defScope s9).names⟩ (defBody s9) = true := by kernel_rfl
theorem ck10 (C : Nat → Addr) (Φ : Nat → PSp) : kSs (Γ C Φ) c10 ⟨N10, defScope s10, (defScope s10).names⟩ (defBody s10) = true := by kernel_rfl
theorem ck11 (C : Nat → Addr) (Φ : Nat → PSp) : kSs (Γ C Φ) c11 ⟨N11, defScope s11, (defScope s11).names⟩ (defBody s11) = true := by kernel_rfl
theorem ck12 (C : Nat → Addr) (Φ : Nat → PSp) : kSs (Γ C Φ) c12 ⟨N12, defScope s12, (defScope s12).names⟩ (defBody s12) = true := by kernel_rfl
theorem ck13 (C : Nat → Addr) (Φ : Nat → PSp) : kSs (Γ C Φ) c13 ⟨N13, defScope s13, (defScope s13).names⟩ (defBody s13) = true := by kernel_rfl
theorem ck14 (C : Nat → Addr) (Φ : Nat → PSp) : kSs (Γ C Φ) c14 ⟨N14, defScope s14, (defScope s14).names⟩ (defBody s14) = true := by kernel_rfl
theorem ck15 (C : Nat → Addr) (Φ : Nat → PSp) : kSs (Γ C Φ) c15 ⟨N15, defScope s15, (defScope s15).names⟩ (defBody s15) = true := by kernel_rfl
theorem ck16 (C : Nat → Addr) (Φ : Nat → PSp) : kSs (Γ C Φ) c16 ⟨N16, defScope s16, (defScope s16).names⟩ (defBody s16) = true := by kernel_rfl
theorem ck17 (C : Nat → Addr) (Φ : Nat → PSp) : kSs (Γ C Φ) c17 ⟨N17, defScope s17, (defScope s17).names⟩ (defBody s17) = true := by kernel_rfl
theorem ck18 (C : Nat → Addr) (Φ : Nat → PSp) : kSs (Γ C Φ) c18 ⟨N18, defScope s18, (defScope s18).names⟩ (defBody s18) = true := by kernel_rfl
theorem ck19 (C : Nat → Addr) (Φ : Nat → PSp) : kSs (Γ C Φ) c19 ⟨N19, defScope s19, (defScope s19).names⟩ (defBody s19) = true := by kernel_rfl
theorem ck20 (C : Nat → Addr) (Φ : Nat → PSp) : kSs (Γ C Φ) c20 ⟨N20, defScope s20, (defScope s20).names⟩ (defBody s20) = true := by kernel_rfl
theorem ck21 (C : Nat → Addr) (Φ : Nat → PSp) : kSs (Γ C Φ) c21 ⟨N21, defScope s21, (defScope s21).names⟩ (defBody s21) = true := by kernel_rfl
theorem ck22 (C : Nat → Addr) (Φ : Nat → PSp) : kSs (Γ C Φ) c22 ⟨N22, defScope s22, (defScope s22).names⟩ (defBody s22) = true := by kernel_rfl
theorem ck23 (C : Nat → Addr) (Φ : Nat → PSp) : kSs (Γ C Φ) c23 ⟨N23, defScope s23, (defScope s23).names⟩ (defBody s23) = true := by kernel_rfl
theorem ck24 (C : Nat → Addr) (Φ : Nat → PSp) : kSs (Γ C Φ) c24 ⟨N24, defScope s24, (defScope s24).names⟩ (defBody s24) = true := by kernel_rfl
theorem ck25 (C : Nat → Addr) (Φ : Nat → PSp) : kSs (Γ C Φ) c25 ⟨N25, defScope s25, (defScope s25).names⟩ (defBody s25) = true := by kernel_rfl
theorem ck26 (C : Nat → Addr) (Φ : Nat → PSp) : kSs (Γ C Φ) c26 ⟨N26, defScope s26, (defScope s26).names⟩ (defBody s26) = true := by kernel_rfl
theorem ck27 (C : Nat → Addr) (Φ : Nat → PSp) : kSs (Γ C Φ) c27 ⟨N27, defScope s27, (defScope s27).names⟩ (defBody s27) = true := by kernel_rfl
theorem ck28 (C : Nat → Addr) (Φ : Nat → PSp) : kSs (Γ C Φ) c28 ⟨N28, defScope s28, (defScope s28).names⟩ (defBody s28) = true := by kernel_rfl
theorem ck29 (C : Nat → Addr) (Φ : Nat → PSp) : kSs (Γ C Φ) c29 ⟨N29, defScope s29, (defScope s29).names⟩ (defBody s29) = true := by kernel_rfl
theorem ck30 (C : Nat → Addr) (Φ : Nat → PSp) : kSs (Γ C Φ) c30 ⟨N30, defScope s30, (defScope s30).names⟩ (defBody s30) = true := by kernel_rfl
theorem ck31 (C : Nat → Addr) (Φ : Nat → PSp) : kSs (Γ C Φ) c31 ⟨N31, defScope s31, (defScope s31).names⟩ (defBody s31) = true := by kernel_rfl
theorem ck32 (C : Nat → Addr) (Φ : Nat → PSp) : kSs (Γ C Φ) c32 ⟨N32, defScope s32, (defScope s32).names⟩ (defBody s32) = true := by kernel_rfl
theorem ck33 (C : Nat → Addr) (Φ : Nat → PSp) : kSs (Γ C Φ) c33 ⟨N33, defScope s33, (defScope s33).names⟩ (defBody s33) = true := by kernel_rfl
theorem ck34 (C : Nat → Addr) (Φ : Nat → PSp) : kSs (Γ C Φ) c34 ⟨N34, defScope s34, (defScope s34).names⟩ (defBody s34) = true := by kernel_rfl
theorem ck35 (C : Nat → Addr) (Φ : Nat → PSp) : kSs (Γ C Φ) c35 ⟨N35, defScope s35, (defScope s35).names⟩ (defBody s35) = true := by kernel_rfl
theorem ck36 (C : Nat → Addr) (Φ : Nat → PSp) : kSs (Γ C Φ) c36 ⟨N36, defScope s36, (defScope s36).names⟩ (defBody s36) = true := by kernel_rfl
theorem ck37 (C : Nat → Addr) (Φ : Nat → PSp) : kSs (Γ C Φ) c37 ⟨N37, defScope s37, (defScope s37).names⟩ (defBody s37) = true := by kernel_rfl
theorem ck38 (C : Nat → Addr) (Φ : Nat → PSp) : kSs (Γ C Φ) c38 ⟨N38, defScope s38, (defScope s38).names⟩ (defBody s38) = true := by kernel_rfl
theorem ck39 (C : Nat → Addr) (Φ : Nat → PSp) : kSs (Γ C Φ) c39 ⟨N39, defScope s39, (defScope s39).names⟩ (defBody s39) = true := by kernel_rfl
theorem ck40 (C : Nat → Addr) (Φ : Nat → PSp) : kSs (Γ C Φ) c40 ⟨N40, defScope s40, (defScope s40).names⟩ (defBody s40) = true := by kernel_rfl
theorem ck41 (C : Nat → Addr) (Φ : Nat → PSp) : kSs (Γ C Φ) c41 ⟨N41, defScope s41, (defScope s41).names⟩ (defBody s41) = true := by kernel_rfl
theorem ck42 (C : Nat → Addr) (Φ : Nat → PSp) : kSs (Γ C Φ) c42 ⟨N42, defScope s42, (defScope s42).names⟩ (defBody s42) = true := by kernel_rfl
theorem ck43 (C : Nat → Addr) (Φ : Nat → PSp) : kSs (Γ C Φ) c43 ⟨N43, defScope s43, (defScope s43).names⟩ (defBody s43) = true := by kernel_rfl
theorem ck44 (C : Nat → Addr) (Φ : Nat → PSp) : kSs (Γ C Φ) c44 ⟨N44, defScope s44, (defScope s44).names⟩ (defBody s44) = true := by kernel_rfl
theorem ck45 (C : Nat → Addr) (Φ : Nat → PSp) : kSs (Γ C Φ) c45 ⟨N45, defScope s45, (defScope s45).names⟩ (defBody s45) = true := by kernel_rfl
theorem ck46 (C : Nat → Addr) (Φ : Nat → PSp) : kSs (Γ C Φ) c46 ⟨N46, defScope s46, (defScope s46).names⟩ (defBody s46) = true := by kernel_rfl
theorem ck47 (C : Nat → Addr) (Φ : Nat → PSp) : kSs (Γ C Φ) c47 ⟨N47, defScope s47, (defScope s47).names⟩ (defBody s47) = true := by kernel_rfl
theorem ck48 (C : Nat → Addr) (Φ : Nat → PSp) : kSs (Γ C Φ) c48 ⟨N48, defScope s48, (defScope s48).names⟩ (defBody s48) = true := by kernel_rfl
theorem ck49 (C : Nat → Addr) (Φ : Nat → PSp) : kSs (Γ C Φ) c49 ⟨N49, defScope s49, (defScope s49).names⟩ (defBody s49) = true := by kernel_rfl
theorem ck50 (C : Nat → Addr) (Φ : Nat → PSp) : kSs (Γ C Φ) c50 ⟨N50, defScope s50, (defScope s50).names⟩ (defBody s50) = true := by kernel_rfl
theorem ck51 (C : Nat → Addr) (Φ : Nat → PSp) : kSs (Γ C Φ) c51 ⟨N51, defScope s51, (defScope s51).names⟩ (defBody s51) = true := by kernel_rfl
theorem ck52 (C : Nat → Addr) (Φ : Nat → PSp) : kSs (Γ C Φ) c52 ⟨N52, defScope s52, (defScope s52).names⟩ (defBody s52) = true := by kernel_rfl
theorem ck53 (C : Nat → Addr) (Φ : Nat → PSp) : kSs (Γ C Φ) c53 ⟨N53, defScope s53, (defScope s53).names⟩ (defBody s53) = true := by kernel_rfl
theorem ck54 (C : Nat → Addr) (Φ : Nat → PSp) : kSs (Γ C Φ) c54 ⟨N54, defScope s54, (defScope s54).names⟩ (defBody s54) = true := by kernel_rfl
theorem ck55 (C : Nat → Addr) (Φ : Nat → PSp) : kSs (Γ C Φ) c55 ⟨N55, defScope s55, (defScope s55).names⟩ (defBody s55) = true := by kernel_rfl
theorem ck56 (C : Nat → Addr) (Φ : Nat → PSp) : kSs (Γ C Φ) c56 ⟨N56, defScope s56, (defScope s56).names⟩ (defBody s56) = true := by kernel_rfl
theorem ck57 (C : Nat → Addr) (Φ : Nat → PSp) : kSs (Γ C Φ) c57 ⟨N57, defScope s57, (defScope s57).names⟩ (defBody s57) = true := by kernel_rfl
def t0 : DT := ⟨⟨("is_integer", none), "is_integer", "is_integer", defArgs s0, defBody s0, defScope s0, [], []⟩, ["value"], N0, c0⟩
def t1 : DT := ⟨⟨("is_within", none), "is_within", "is_within", defArgs s1, defBody s1, defScope s1, [], []⟩, ["value", "least", "most"], N1, c1⟩
def t2 : DT := ⟨⟨("is_list", none), "is_list", "is_list", defArgs s2, defBody s2, defScope s2, [], []⟩, ["value"], N2, c2⟩
def t3 : DT := ⟨⟨("common", none), "common", "common", defArgs s3, defBody s3, defScope s3, [], []⟩, ["one", "other"], N3, c3⟩
def t4 : DT := ⟨⟨("is_number", none), "is_number", "is_number", defArgs s4, defBody s4, defScope s4, [], []⟩, ["value"], N4, c4⟩
def t5 : DT := ⟨⟨("kept", none), "kept", "kept", defArgs s5, defBody s5, defScope s5, [], []⟩, ["number"], N5, c5⟩
def t6 : DT := ⟨⟨("need_number", none), "need_number", "need_number", defArgs s6, defBody s6, defScope s6, [], []⟩, ["value", "part"], N6, c6⟩
def t7 : DT := ⟨⟨("need_above", none), "need_above", "need_above", defArgs s7, defBody s7, defScope s7, [], []⟩, ["value", "part"], N7, c7⟩
def t8 : DT := ⟨⟨("halves", none), "halves", "halves", defArgs s8, defBody s8, defScope s8, [], []⟩, ["number"], N8, c8⟩
def t9 : DT := ⟨⟨("lowest", none), "lowest", "lowest", defArgs s9, defBody s9, defScope s9, [], []⟩, ["above", "under"], N9, c9⟩
def t10 : DT := ⟨⟨("added", none), "added", "added", defArgs s10, defBody s10, defScope s10, [], []⟩, ["one", "other"], N10, c10⟩
def t11 : DT := ⟨⟨("turned", none), "turned", "turned", defArgs s11, defBody s11, defScope s11, [], []⟩, ["number"], N11, c11⟩
def t12 : DT := ⟨⟨("less_by", none), "less_by", "less_by", defArgs s12, defBody s12, defScope s12, [], []⟩, ["one", "other"], N12, c12⟩
def t13 : DT := ⟨⟨("product", none), "product", "product", defArgs s13, defBody s13, defScope s13, [], []⟩, ["one", "other"], N13, c13⟩
def t14 : DT := ⟨⟨("sign_in", none), "sign_in", "sign_in", defArgs s14, defBody s14, defScope s14, [], []⟩, ["number"], N14, c14⟩
def t15 : DT := ⟨⟨("is_term", none), "is_term", "is_term", defArgs s15, defBody s15, defScope s15, [], []⟩, ["value"], N15, c15⟩
def t16 : DT := ⟨⟨("need_poly", none), "need_poly", "need_poly", defArgs s16, defBody s16, defScope s16, [], []⟩, ["value", "part"], N16, c16⟩
def t17 : DT := ⟨⟨("size_of", none), "size_of", "size_of", defArgs s17, defBody s17, defScope s17, [], []⟩, ["beat"], N17, c17⟩
def t18 : DT := ⟨⟨("is_beat", none), "is_beat", "is_beat", defArgs s18, defBody s18, defScope s18, [], []⟩, ["value"], N18, c18⟩
def t19 : DT := ⟨⟨("is_row", none), "is_row", "is_row", defArgs s19, defBody s19, defScope s19, [], []⟩, ["value"], N19, c19⟩
def t20 : DT := ⟨⟨("need_waves", none), "need_waves", "need_waves", defArgs s20, defBody s20, defScope s20, [.str "waves"], []⟩, ["value", "part"], N20, c20⟩
def t21 : DT := ⟨⟨("put", none), "put", "put", defArgs s21, defBody s21, defScope s21, [], []⟩, ["book", "pair", "cosine", "sine"], N21, c21⟩
def t22 : DT := ⟨⟨("of_book", none), "of_book", "of_book", defArgs s22, defBody s22, defScope s22, [], []⟩, ["book"], N22, c22⟩
def t23 : DT := ⟨⟨("rows_of", none), "rows_of", "rows_of", defArgs s23, defBody s23, defScope s23, [], []⟩, ["waves"], N23, c23⟩
def t24 : DT := ⟨⟨("sum_of_waves", none), "sum_of_waves", "sum_of_waves", defArgs s24, defBody s24, defScope s24, [], []⟩, ["one", "other"], N24, c24⟩
def t25 : DT := ⟨⟨("product_of_waves", none), "product_of_waves", "product_of_waves", defArgs s25, defBody s25, defScope s25, [], []⟩, ["one", "other"], N25, c25⟩
def t26 : DT := ⟨⟨("waves_in", none), "waves_in", "waves_in", defArgs s26, defBody s26, defScope s26, [], []⟩, ["poly", "radius"], N26, c26⟩
def t27 : DT := ⟨⟨("waves_of", none), "waves_of", "waves_of", defArgs s27, defBody s27, defScope s27, [], []⟩, ["poly", "radius"], N27, c27⟩
def t28 : DT := ⟨⟨("cosines", none), "cosines", "cosines", defArgs s28, defBody s28, defScope s28, [], []⟩, ["waves"], N28, c28⟩
def t29 : DT := ⟨⟨("put_at", none), "put_at", "put_at", defArgs s29, defBody s29, defScope s29, [], []⟩, ["at", "number"], N29, c29⟩
def t30 : DT := ⟨⟨("alone_from", none), "alone_from", "alone_from", defArgs s30, defBody s30, defScope s30, [], []⟩, ["at", "number"], N30, c30⟩
def t31 : DT := ⟨⟨("made_in", none), "made_in", "made_in", defArgs s31, defBody s31, defScope s31, [], []⟩, ["word"], N31, c31⟩
def t32 : DT := ⟨⟨("put_down", none), "put_down", "put_down", defArgs s32, defBody s32, defScope s32, [], []⟩, ["word", "found"], N32, c32⟩
def t33 : DT := ⟨⟨("steps_in", none), "steps_in", "steps_in", defArgs s33, defBody s33, defScope s33, [], []⟩, ["words"], N33, c33⟩
def t34 : DT := ⟨⟨("need_plan", none), "need_plan", "need_plan", defArgs s34, defBody s34, defScope s34, [], []⟩, ["poly", "radius"], N34, c34⟩
def t35 : DT := ⟨⟨("terms_for", none), "terms_for", "terms_for", defArgs s35, defBody s35, defScope s35, [], []⟩, ["poly", "radius"], N35, c35⟩
def t36 : DT := ⟨⟨("reach_for", none), "reach_for", "reach_for", defArgs s36, defBody s36, defScope s36, [], []⟩, ["poly", "radius"], N36, c36⟩
def t37 : DT := ⟨⟨("_law_churn", none), "_law_churn", "_law_churn", defArgs s37, defBody s37, defScope s37, [], []⟩, ["_law_script"], N37, c37⟩
def t38 : DT := ⟨⟨("_law_stir", none), "_law_stir", "_law_stir", defArgs s38, defBody s38, defScope s38, [], []⟩, ["_law_churn_here", "_law_many"], N38, c38⟩
def t39 : DT := ⟨⟨("_law_pick", none), "_law_pick", "_law_pick", defArgs s39, defBody s39, defScope s39, [], []⟩, ["_law_churn_here", "_law_some"], N39, c39⟩
def t40 : DT := ⟨⟨("_law_halves", none), "_law_halves", "_law_halves", defArgs s40, defBody s40, defScope s40, [], []⟩, ["_law_number"], N40, c40⟩
def t41 : DT := ⟨⟨("_law_low", none), "_law_low", "_law_low", defArgs s41, defBody s41, defScope s41, [], []⟩, ["_law_above", "_law_below"], N41, c41⟩
def t42 : DT := ⟨⟨("_law_plus", none), "_law_plus", "_law_plus", defArgs s42, defBody s42, defScope s42, [], []⟩, ["_law_one", "_law_other"], N42, c42⟩
def t43 : DT := ⟨⟨("_law_times", none), "_law_times", "_law_times", defArgs s43, defBody s43, defScope s43, [], []⟩, ["_law_one", "_law_other"], N43, c43⟩
def t44 : DT := ⟨⟨("_law_less", none), "_law_less", "_law_less", defArgs s44, defBody s44, defScope s44, [], []⟩, ["_law_one", "_law_other"], N44, c44⟩
def t45 : DT := ⟨⟨("_law_added", none), "_law_added", "_law_added", defArgs s45, defBody s45, defScope s45, [], []⟩, ["_law_one", "_law_other"], N45, c45⟩
def t46 : DT := ⟨⟨("_law_multiplied", none), "_law_multiplied", "_law_multiplied", defArgs s46, defBody s46, defScope s46, [], []⟩, ["_law_turn_here", "_law_many"], N46, c46⟩
def t47 : DT := ⟨⟨("_law_poly", none), "_law_poly", "_law_poly", defArgs s47, defBody s47, defScope s47, [], []⟩, ["_law_churn_here", "_law_degree", "_law_many"], N47, c47⟩
def t48 : DT := ⟨⟨("_law_value", none), "_law_value", "_law_value", defArgs s48, defBody s48, defScope s48, [], []⟩, ["_law_terms", "_law_point"], N48, c48⟩
def t49 : DT := ⟨⟨("_law_turn", none), "_law_turn", "_law_turn", defArgs s49, defBody s49, defScope s49, [], []⟩, ["_law_churn_here"], N49, c49⟩
def t50 : DT := ⟨⟨("_law_pen", none), "_law_pen", "_law_pen", defArgs s50, defBody s50, defScope s50, [], []⟩, ["_law_radius", "_law_a", "_law_b"], N50, c50⟩
def t51 : DT := ⟨⟨("_law_cosine", none), "_law_cosine", "_law_cosine", defArgs s51, defBody s51, defScope s51, [], []⟩, ["_law_word", "_law_a", "_law_b"], N51, c51⟩
def t52 : DT := ⟨⟨("_law_words_right", none), "_law_words_right", "_law_words_right", defArgs s52, defBody s52, defScope s52, [], []⟩, ["_law_told", "_law_degree"], N52, c52⟩
def t53 : DT := ⟨⟨("law", none), "law", "law", defArgs s53, defBody s53, defScope s53, [], []⟩, ["_law_script"], N53, c53⟩
def t54 : DT := ⟨⟨("Poly", some "__init__"), "__init__", "Poly.__init__", defArgs s54, defBody s54, defScope s54, [], []⟩, ["self", "terms"], N54, c54⟩
def t55 : DT := ⟨⟨("Waves", some "__init__"), "__init__", "Waves.__init__", defArgs s55, defBody s55, defScope s55, [], []⟩, ["self", "constant", "rows"], N55, c55⟩
def t56 : DT := ⟨⟨("Plan", some "__init__"), "__init__", "Plan.__init__", defArgs s56, defBody s56, defScope s56, [], []⟩, ["self", "poly", "radius"], N56, c56⟩
def t57 : DT := ⟨⟨("Plan", some "reach"), "reach", "Plan.reach", defArgs s57, defBody s57, defScope s57, [], []⟩, ["self"], N57, c57⟩
def tab : List DT := [t0, t1, t2, t3, t4, t5, t6, t7, t8, t9, t10, t11, t12, t13, t14, t15, t16, t17, t18, t19, t20, t21, t22, t23, t24, t25, t26, t27, t28, t29, t30, t31, t32, t33, t34, t35, t36, t37, t38, t39, t40, t41, t42, t43, t44, t45, t46, t47, t48, t49, t50, t51, t52, t53, t54, t55, t56, t57]
def rank : List Nat := [1, 2, 1, 1, 3, 1, 4, 4, 1, 2, 3, 2, 4, 3, 2, 4, 1, 1, 3, 4, 1, 4, 6, 1, 7, 7, 8, 9, 4, 1, 2, 3, 4, 5, 11, 12, 12, 1, 1, 2, 1, 1, 2, 2, 3, 4, 5, 3, 3, 2, 5, 6, 1, 13, 5, 5, 10, 4]
theorem tab_sc : ∀ t ∈ tab, scB t = true := by decide +kernel
theorem tab_ck (C : Nat → Addr) : ∀ t ∈ tab, ∀ Φ, kSs (Γ C Φ) t.c ⟨t.N, t.d.scope, t.d.scope.names⟩ t.d.body = true := by
  intro t ht Φ
  simp only [tab, List.mem_cons, List.not_mem_nil, or_false] at ht
  rcases ht with rfl | rfl | rfl | rfl | rfl | rfl | rfl | rfl | rfl | rfl | rfl | rfl | rfl | rfl | rfl | rfl | rfl | rfl | rfl | rfl | rfl | rfl | rfl | rfl | rfl | rfl | rfl | rfl | rfl | rfl | rfl | rfl | rfl | rfl | rfl | rfl | rfl | rfl | rfl | rfl | rfl | rfl | rfl | rfl | rfl | rfl | rfl | rfl | rfl | rfl | rfl | rfl | rfl | rfl | rfl | rfl | rfl | rfl
  · exact ck0 C Φ
  · exact ck1 C Φ
  · exact ck2 C Φ
  · exact ck3 C Φ
  · exact ck4 C Φ
  · exact ck5 C Φ
  · exact ck6 C Φ
  · exact ck7 C Φ
  · exact ck8 C Φ
  · exact ck9 C Φ
  · exact ck10 C Φ
  · exact ck11 C Φ
  · exact ck12 C Φ
  · exact ck13 C Φ
  · exact ck14 C Φ
  · exact ck15 C Φ
  · exact ck16 C Φ
  · exact ck17 C Φ
  · exact ck18 C Φ
  · exact ck19 C Φ
  · exact ck20 C Φ
  · exact ck21 C Φ
  · exact ck22 C Φ
  · exact ck23 C Φ
  · exact ck24 C Φ
  · exact ck25 C Φ
  · exact ck26 C Φ
  · exact ck27 C Φ
  · exact ck28 C Φ
  · exact ck29 C Φ
  · exact ck30 C Φ
  · exact ck31 C Φ
  · exact ck32 C Φ
  · exact ck33 C Φ
  · exact ck34 C Φ
  · exact ck35 C Φ
  · exact ck36 C Φ
  · exact ck37 C Φ
  · exact ck38 C Φ
  · exact ck39 C Φ
  · exact ck40 C Φ
  · exact ck41 C Φ
  · exact ck42 C Φ
  · exact ck43 C Φ
  · exact ck44 C Φ
  · exact ck45 C Φ
  · exact ck46 C Φ
  · exact ck47 C Φ
  · exact ck48 C Φ
  · exact ck49 C Φ
  · exact ck50 C Φ
  · exact ck51 C Φ
  · exact ck52 C Φ
  · exact ck53 C Φ
  · exact ck54 C Φ
  · exact ck55 C Φ
  · exact ck56 C Φ
  · exact ck57 C Φ
theorem tab_bd {K : Frag} : ∀ t ∈ tab, ∀ fd, t.Is K fd → Binds K fd t.ps [] := by
  intro t ht fd F
  simp only [tab, List.mem_cons, List.not_mem_nil, or_false] at ht
  rcases ht with rfl | rfl | rfl | rfl | rfl | rfl | rfl | rfl | rfl | rfl | rfl | rfl | rfl | rfl | rfl | rfl | rfl | rfl | rfl | rfl | rfl | rfl | rfl | rfl | rfl | rfl | rfl | rfl | rfl | rfl | rfl | rfl | rfl | rfl | rfl | rfl | rfl | rfl | rfl | rfl | rfl | rfl | rfl | rfl | rfl | rfl | rfl | rfl | rfl | rfl | rfl | rfl | rfl | rfl | rfl | rfl | rfl | rfl
  · exact F.bindsN fun _ _ _ _ _ _ us hl => match us, hl with | [_], _ => rfl
  · exact F.bindsN fun _ _ _ _ _ _ us hl => match us, hl with | [_, _, _], _ => rfl
  · exact F.bindsN fun _ _ _ _ _ _ us hl => match us, hl with | [_], _ => rfl
  · exact F.bindsN fun _ _ _ _ _ _ us hl => match us, hl with | [_, _], _ => rfl
  · exact F.bindsN fun _ _ _ _ _ _ us hl => match us, hl with | [_], _ => rfl
  · exact F.bindsN fun _ _ _ _ _ _ us hl => match us, hl with | [_], _ => rfl
  · exact F.bindsN fun _ _ _ _ _ _ us hl => match us, hl with | [_, _], _ => rfl
  · exact F.bindsN fun _ _ _ _ _ _ us hl => match us, hl with | [_, _], _ => rfl
  · exact F.bindsN fun _ _ _ _ _ _ us hl => match us, hl with | [_], _ => rfl
  · exact F.bindsN fun _ _ _ _ _ _ us hl => match us, hl with | [_, _], _ => rfl
  · exact F.bindsN fun _ _ _ _ _ _ us hl => match us, hl with | [_, _], _ => rfl
  · exact F.bindsN fun _ _ _ _ _ _ us hl => match us, hl with | [_], _ => rfl
  · exact F.bindsN fun _ _ _ _ _ _ us hl => match us, hl with | [_, _], _ => rfl
  · exact F.bindsN fun _ _ _ _ _ _ us hl => match us, hl with | [_, _], _ => rfl
  · exact F.bindsN fun _ _ _ _ _ _ us hl => match us, hl with | [_], _ => rfl
  · exact F.bindsN fun _ _ _ _ _ _ us hl => match us, hl with | [_], _ => rfl
  · exact F.bindsN fun _ _ _ _ _ _ us hl => match us, hl with | [_, _], _ => rfl
  · exact F.bindsN fun _ _ _ _ _ _ us hl => match us, hl with | [_], _ => rfl
  · exact F.bindsN fun _ _ _ _ _ _ us hl => match us, hl with | [_], _ => rfl
  · exact F.bindsN fun _ _ _ _ _ _ us hl => match us, hl with | [_], _ => rfl
  · obtain ⟨ds, r, b⟩ := FunD.binds1 (ps := t20.ps) F 2 1 (by simp [He.DefD.dvs, t20]) (by simp [He.DefD.dvs, t20]) fun _ _ _ _ _ _ _ us its h1 h2 => match us, its, h1, h2 with | [_, _], [_], _, _ => ⟨_, rfl, rfl⟩
    cases r; exact b
  · exact F.bindsN fun _ _ _ _ _ _ us hl => match us, hl with | [_, _, _, _], _ => rfl
  · exact F.bindsN fun _ _ _ _ _ _ us hl => match us, hl with | [_], _ => rfl
  · exact F.bindsN fun _ _ _ _ _ _ us hl => match us, hl with | [_], _ => rfl
  · exact F.bindsN fun _ _ _ _ _ _ us hl => match us, hl with | [_, _], _ => rfl
  · exact F.bindsN fun _ _ _ _ _ _ us hl => match us, hl with | [_, _], _ => rfl
  · exact F.bindsN fun _ _ _ _ _ _ us hl => match us, hl with | [_, _], _ => rfl
  · exact F.bindsN fun _ _ _ _ _ _ us hl => match us, hl with | [_, _], _ => rfl
  · exact F.bindsN fun _ _ _ _ _ _ us hl => match us, hl with | [_], _ => rfl
  · exact F.bindsN fun _ _ _ _ _ _ us hl => match us, hl with | [_, _], _ => rfl
  · exact F.bindsN fun _ _ _ _ _ _ us hl => match us, hl with | [_, _], _ => rfl
  · exact F.bindsN fun _ _ _ _ _ _ us hl => match us, hl with | [_], _ => rfl
  · exact F.bindsN fun _ _ _ _ _ _ us hl => match us, hl with | [_, _], _ => rfl
  · exact F.bindsN fun _ _ _ _ _ _ us hl => match us, hl with | [_], _ => rfl
  · exact F.bindsN fun _ _ _ _ _ _ us hl => match us, hl with | [_, _], _ => rfl
  · exact F.bindsN fun _ _ _ _ _ _ us hl => match us, hl with | [_, _], _ => rfl
  · exact F.bindsN fun _ _ _ _ _ _ us hl => match us, hl with | [_, _], _ => rfl
  · exact F.bindsN fun _ _ _ _ _ _ us hl => match us, hl with | [_], _ => rfl
  · exact F.bindsN fun _ _ _ _ _ _ us hl => match us, hl with | [_, _], _ => rfl
  · exact F.bindsN fun _ _ _ _ _ _ us hl => match us, hl with | [_, _], _ => rfl
  · exact F.bindsN fun _ _ _ _ _ _ us hl => match us, hl with | [_], _ => rfl
  · exact F.bindsN fun _ _ _ _ _ _ us hl => match us, hl with | [_, _], _ => rfl
  · exact F.bindsN fun _ _ _ _ _ _ us hl => match us, hl with | [_, _], _ => rfl
  · exact F.bindsN fun _ _ _ _ _ _ us hl => match us, hl with | [_, _], _ => rfl
  · exact F.bindsN fun _ _ _ _ _ _ us hl => match us, hl with | [_, _], _ => rfl
  · exact F.bindsN fun _ _ _ _ _ _ us hl => match us, hl with | [_, _], _ => rfl
  · exact F.bindsN fun _ _ _ _ _ _ us hl => match us, hl with | [_, _], _ => rfl
  · exact F.bindsN fun _ _ _ _ _ _ us hl => match us, hl with | [_, _, _], _ => rfl
  · exact F.bindsN fun _ _ _ _ _ _ us hl => match us, hl with | [_, _], _ => rfl
  · exact F.bindsN fun _ _ _ _ _ _ us hl => match us, hl with | [_], _ => rfl
  · exact F.bindsN fun _ _ _ _ _ _ us hl => match us, hl with | [_, _, _], _ => rfl
  · exact F.bindsN fun _ _ _ _ _ _ us hl => match us, hl with | [_, _, _], _ => rfl
  · exact F.bindsN fun _ _ _ _ _ _ us hl => match us, hl with | [_, _], _ => rfl
  · exact F.bindsN fun _ _ _ _ _ _ us hl => match us, hl with | [_], _ => rfl
  · exact F.bindsN fun _ _ _ _ _ _ us hl => match us, hl with | [_, _], _ => rfl
  · exact F.bindsN fun _ _ _ _ _ _ us hl => match us, hl with | [_, _, _], _ => rfl
  · exact F.bindsN fun _ _ _ _ _ _ us hl => match us, hl with | [_, _, _], _ => rfl
  · exact F.bindsN fun _ _ _ _ _ _ us hl => match us, hl with | [_], _ => rfl
end K51
set_option Elab.async false
set_option linter.all false
set_option maxRecDepth 100000
set_option maxHeartbeats 4000000
set_option exponentiation.threshold 10000
namespace K51
open PySem PySem.Spec PyProof.Rows L2 Cl
-- M0
local macro_rules | `(tactic| k_call_by "EV" [$as,*]) => `(tactic| simp only [Cl.B, Cl.L, Cl.LG, List.foldr_cons, List.foldr_nil, Cl.wSs, Cl.wSt, Cl.wE, Cl.wEs, Cl.wTs, Cl.wOp, Cl.wQ, Cl.wS, Cl.wI, Cl.wG, Cl.wGs, Cl.CGs.len, Cl.sSeq, Cl.sRet, Cl.sRetN, Cl.sNext, Cl.sIf, Cl.sAsg, Cl.wLc, Cl.wLcQ, Cl.wipeR, Cl.sDrop, Cl.sPar2, Cl.sBrk, Cl.sCont, Cl.gN, Cl.gTp, Cl.gC, Cl.gZ, Cl.gS, Cl.wAnd, Cl.wOr, Cl.wIf, Cl.wNot, Cl.wNeg, Cl.wVar, Cl.wC, Cl.Cn.pv, Cl.w2, Cl.w3, Cl.wBin, Cl.wIdx, Cl.wSet, Cl.wTup, Cl.wLst, Cl.wNil, Cl.wCons, Cl.wCall, Cl.wMake, Cl.wB, Cl.Bi.r, Cl.bAbs, Cl.bInt, Cl.bLen_tup, Cl.bLen_rl, Cl.wIsi, Cl.CTy.p, Cl.startP, List.map_cons, List.map_nil, List.getElem?_cons_zero, List.getElem?_cons_succ, List.set_cons_zero, List.set_cons_succ, List.cons_append, List.nil_append, List.length_cons, List.length_nil, Nat.reduceAdd, Nat.reduceSub, Nat.zero_add, List.replicate, List.any_cons, List.any_nil, Cl.isOne, Cl.tru_bl, Cl.tru_int, Cl.tyOf_bl, Cl.tyOf_int, Cl.tyOf_tup, Cl.tyOf_rl, Cl.tyOf_non, Cl.cmp_lt, Cl.cmp_le, Cl.cmp_gt, Cl.cmp_ge, Cl.cmp_is, Cl.cmp_eqI, Cl.cmp_neI, Cl.at_0, Cl.at_1, Cl.at_2, true_and, and_true, Option.map_some, Option.getD_some, Cl.wTupOf, Cl.wLstOf, Cl.sFor, Cl.iVal, Cl.iEnm, Cl.iR1, Cl.iR2, Cl.iZp, Cl.seqOf_tup, Cl.seqOf_rl, Cl.tsYes, Cl.tsOne, Cl.wSeq, Cl.wSeqL, Cl.wFld, Cl.sFldP, Cl.wSlice, Cl.wPart, Cl.wNoP, Cl.wRev, Cl.Ag.w, Cl.wAll, Cl.wAny, Cl.wMax, Cl.wMin, Cl.wSum, Cl.wMaxC, Cl.wCallK, Cl.gP, $[$as:term],*])
-- M1
abbrev Kp (C : Nat → Addr) (Φ : Nat → PSp) (c : CSs) (N : List Str) (sp : PSp) : Prop := ∀ args G Q, sp args G Q → wSs (Γ C Φ) c { nx := fun _ G' => Q .non G', rt := Q } (startP N args) G
abbrev Has (Φ : Nat → PSp) (i : Nat) (sp : PSp) : Prop := ∀ args G Q, sp args G Q → Φ i args G Q
def spCommon : PSp := fun args G Q => ∃ a b : Int, args = [.int a, .int b] ∧ Q (.int (Int.gcd a b)) G
def spLowest : PSp := fun args G Q => ∃ (a : Int) (b : Nat), args = [.int a, .int b] ∧ 0 < b ∧ b < 2 ^ 3800 ∧ Q (num (mkRat a b)) G
def spHalves : PSp := fun args G Q => ∃ q : Rat, args = [num q] ∧ Q (.tup [.int q.num, .int q.den]) G
def spAdd : PSp := fun args G Q => ∃ p q : Rat, args = [num p, num q] ∧ Sml p ∧ Sml q ∧ Q (num (p + q)) G
def spMul : PSp := fun args G Q => ∃ p q : Rat, args = [num p, num q] ∧ Sml p ∧ Sml q ∧ Q (num (p * q)) G
def spNeg : PSp := fun args G Q => ∃ p : Rat, args = [num p] ∧ Q (num (-p)) G
def spSub : PSp := fun args G Q => ∃ p q : Rat, args = [num p, num q] ∧ Sml p ∧ Sml q ∧ Q (num (p - q)) G
def spDiv : PSp := fun args G Q => ∃ p q : Rat, args = [num p, num q] ∧ Sml p ∧ Sml q ∧ 0 < q ∧ Q (num (p / q)) G
section
variable {C : Nat → Addr} {Φ : Nat → PSp}
theorem gcd_loop {a b : Int} {G : Cl.PG} {wc : WE} {u : WS} {P : PEnds} (q : P.nx [some (.int (Int.gcd a b : Nat)), some (.int 0)] G)
    (step : ∀ (x y : Nat), ∀ P', (y = 0 → P.nx [some (.int x), some (.int 0)] G) → (y ≠ 0 → P'.nx [some (.int y), some (.int (x % y : Nat))] G) → wc [some (.int x), some (.int y)] G fun v G1 => match tru v G1 with
      | some true => u P' [some (.int x), some (.int y)] G1
      | some false => P.nx [some (.int x), some (.int y)] G1
      | none => False) :
    sWhile wc u P [some (.int a.natAbs), some (.int b.natAbs)] G := by
  refine ⟨fun m ρ G' => ∃ x y : Nat, ρ = [some (.int x), some (.int y)] ∧ G' = G ∧ Nat.gcd x y = Int.gcd a b ∧ m = y, ⟨b.natAbs, a.natAbs, b.natAbs, rfl, rfl, rfl, rfl⟩, ?_⟩
  rintro m ρ G' ⟨x, y, rfl, rfl, hg, rfl⟩
  refine step x m _ (fun h => ?_) (fun h => ?_)
  · subst h
    rw [Nat.gcd_zero_right] at hg
    rw [hg]; exact q
  · exact ⟨x % m, Nat.mod_lt _ (by omega), m, x % m, rfl, rfl, by rw [Nat.gcd_comm, ← Nat.gcd_rec m x, Nat.gcd_comm] <;> exact hg, rfl⟩
theorem w3 : Kp C Φ c3 N3 spCommon := by
  rintro args G Q ⟨a, b, rfl, q⟩
  k_call_by "EV" [c3, l3, N3]
  refine gcd_loop q fun x y P' hx_is_integer hx_is_within => ?_
  k_call_by "EV" []
  by_cases hy : y = 0
  · subst hy
    simpa using hx_is_integer rfl
  · have : (0 : Int) < y := by omega
    simp only [decide_eq_true this]
    exact ⟨this, hx_is_within hy⟩
theorem low_end {a : Int} {b : Nat} {G : Cl.PG} {Q : WK} (hb : 0 < b) (q : Q (num (mkRat a b)) G) :
    match some (decide ((b : Int) / (Int.gcd a b : Int) = 1)) with
    | some true => Q (.int (a / (Int.gcd a b : Int))) G
    | some false => 2 ≤ sizeLine ∧ Q (.tup [.int (a / (Int.gcd a b : Int)), .int ((b : Int) / (Int.gcd a b : Int))]) G
    | none => False := by
  rw [low_num hb] at q
  by_cases h : (b : Int) / (Int.gcd a b : Int) = 1
  · rw [if_pos h] at q
    simp only [decide_eq_true h]; exact q
  · rw [if_neg h] at q
    simp only [decide_eq_false h]; exact ⟨two_le, q⟩
theorem w9 (hx_common : Has Φ 3 spCommon) : Kp C Φ c9 N9 spLowest := by
  rintro args G Q ⟨a, b, rfl, hb, hs, q⟩
  k_call_by "EV" [c9, l9, N9, Γ_phi]
  refine hx_common _ _ _ ⟨a, b, rfl, ?_⟩
  have hx_is_within : ¬ ((b : Int) < 0) := by omega
  k_call_by "EV" [decide_eq_false hx_is_within]
  exact ⟨gcd_small hb hs, CDivW.any (i := a) (gcd_small hb hs), low_end hb q⟩
theorem num_cases (q : Rat) : (q.den = 1 ∧ num q = .int q.num) ∨ (q.den ≠ 1 ∧ num q = .tup [.int q.num, .int q.den]) := by
  unfold num
  by_cases h : q.den = 1
  · exact .inl ⟨h, if_pos h⟩
  · exact .inr ⟨h, if_neg h⟩
theorem w8 : Kp C Φ c8 N8 spHalves := by
  rintro args G Q ⟨q, rfl, hq⟩
  rcases num_cases q with ⟨h, e⟩ | ⟨h, e⟩
  · rw [e]; rw [h] at hq
    k_call_by "EV" [c8, l8, N8]
    simp
    exact ⟨two_le, hq⟩
  · rw [e]
    k_call_by "EV" [c8, l8, N8]
    simp
    exact ⟨two_le, hq⟩
theorem w40 : Kp C Φ c40 N40 spHalves := by
  rintro args G Q ⟨q, rfl, hq⟩
  rcases num_cases q with ⟨h, e⟩ | ⟨h, e⟩
  · rw [e]; rw [h] at hq
    k_call_by "EV" [c40, l40, N40]
    simp
    exact ⟨two_le, hq⟩
  · rw [e]
    k_call_by "EV" [c40, l40, N40]
    simp
    exact ⟨two_le, hq⟩
theorem dd_small {p q : Rat} (hp : Sml p) (hq : Sml q) : 0 < p.den * q.den ∧ p.den * q.den < 2 ^ 3800 := by
  refine ⟨Nat.mul_pos p.den_pos q.den_pos, ?_⟩
  have := Nat.mul_lt_mul'' hp.2 hq.2
  rw [← Nat.pow_add] at this
  exact this
theorem num_pos' {q : Rat} (h : 0 < q) : 0 < q.num := by
  have hx_is_within : 0 ≤ q.num := Rat.num_nonneg.mpr (Rat.le_of_lt h)
  rcases Int.lt_or_eq_of_le hx_is_within with hx_is_list | hx_is_list
  · exact hx_is_list
  · exfalso
    have : q = 0 := by rw [← Rat.mkRat_self q, ← hx_is_list, Rat.zero_mkRat]
    rw [this] at h; exact absurd h (by decide)
theorem den_ne (p : Rat) : (p.den : Rat) ≠ 0 := by
  have := p.den_pos
  intro z
  have : (p.den : Int) = 0 := by exact_mod_cast z
  omega
theorem mul_den (p : Rat) : p * p.den = p.num := by
  have h := den_ne p
  conv => lhs; lhs; rw [← Rat.mkRat_self p, Rat.mkRat_eq_div]
  exact Rat.div_mul_cancel h
theorem rat_div {p q : Rat} {n : Nat} (h : 0 < q) (hn : q.num = n) : p / q = mkRat (p.num * q.den) (p.den * n) := by
  have hn0 : (n : Rat) ≠ 0 := by
    have : 0 < q.num := num_pos' h
    intro z
    have : (n : Int) = 0 := by exact_mod_cast z
    omega
  have hp0 := den_ne p
  have hq0 := den_ne q
  have e1 : p * p.den = p.num := mul_den p
  have e2 : q * q.den = (n : Rat) := by
    rw [mul_den q, hn]; rfl
  rw [Rat.mkRat_eq_div]
  have hq : q ≠ 0 := by intro z; rw [z] at h; exact absurd h (by decide)
  have e3 : ((p.num * (q.den : Int) : Int) : Rat) = p * p.den * q.den := by rw [Rat.intCast_mul, ← e1]; rfl
  have e4 : ((p.den * n : Nat) : Rat) = p.den * (q * q.den) := by rw [e2, Rat.natCast_mul]
  rw [e3, e4]
  grind
theorem w10 (hx_halves : Has Φ 8 spHalves) (hx_lowest : Has Φ 9 spLowest) : Kp C Φ c10 N10 spAdd := by
  rintro args G Q ⟨p, q, rfl, hp, hq, hQ⟩
  k_call_by "EV" [c10, l10, N10, Γ_phi]
  refine hx_halves _ _ _ ⟨p, rfl, hx_halves _ _ _ ⟨q, rfl, two_le, ?_⟩⟩
  k_call_by "EV" []
  refine ⟨mulW hp.n hq.d, mulW hq.n hp.d, mulW hp.d hq.d, hx_lowest _ _ _ ⟨p.num * q.den + q.num * p.den, p.den * q.den, by rw [Int.natCast_mul], (dd_small hp hq).1, (dd_small hp hq).2, ?_⟩⟩
  rw [← Rat.add_def']; exact hQ
theorem w13 (hx_halves : Has Φ 8 spHalves) (hx_lowest : Has Φ 9 spLowest) : Kp C Φ c13 N13 spMul := by
  rintro args G Q ⟨p, q, rfl, hp, hq, hQ⟩
  k_call_by "EV" [c13, l13, N13, Γ_phi]
  refine hx_halves _ _ _ ⟨p, rfl, hx_halves _ _ _ ⟨q, rfl, two_le, ?_⟩⟩
  k_call_by "EV" []
  refine ⟨mulW hp.n hq.n, mulW hp.d hq.d, hx_lowest _ _ _ ⟨p.num * q.num, p.den * q.den, by rw [Int.natCast_mul], (dd_small hp hq).1, (dd_small hp hq).2, ?_⟩⟩
  rw [← Rat.mul_def']; exact hQ
theorem w42 (hx_halves : Has Φ 40 spHalves) (hx_lowest : Has Φ 41 spLowest) : Kp C Φ c42 N42 spAdd := by
  rintro args G Q ⟨p, q, rfl, hp, hq, hQ⟩
  k_call_by "EV" [c42, l42, N42, Γ_phi]
  refine hx_halves _ _ _ ⟨p, rfl, hx_halves _ _ _ ⟨q, rfl, two_le, ?_⟩⟩
  k_call_by "EV" []
  refine ⟨mulW hp.n hq.d, mulW hq.n hp.d, mulW hp.d hq.d, hx_lowest _ _ _ ⟨p.num * q.den + q.num * p.den, p.den * q.den, by rw [Int.natCast_mul], (dd_small hp hq).1, (dd_small hp hq).2, ?_⟩⟩
  rw [← Rat.add_def']; exact hQ
theorem w43 (hx_halves : Has Φ 40 spHalves) (hx_lowest : Has Φ 41 spLowest) : Kp C Φ c43 N43 spMul := by
  rintro args G Q ⟨p, q, rfl, hp, hq, hQ⟩
  k_call_by "EV" [c43, l43, N43, Γ_phi]
  refine hx_halves _ _ _ ⟨p, rfl, hx_halves _ _ _ ⟨q, rfl, two_le, ?_⟩⟩
  k_call_by "EV" []
  refine ⟨mulW hp.n hq.n, mulW hp.d hq.d, hx_lowest _ _ _ ⟨p.num * q.num, p.den * q.den, by rw [Int.natCast_mul], (dd_small hp hq).1, (dd_small hp hq).2, ?_⟩⟩
  rw [← Rat.mul_def']; exact hQ
theorem w11 (hx_halves : Has Φ 8 spHalves) : Kp C Φ c11 N11 spNeg := by
  rintro args G Q ⟨p, rfl, hQ⟩
  k_call_by "EV" [c11, l11, N11, Γ_phi]
  refine hx_halves _ _ _ ⟨p, rfl, ?_⟩
  k_call_by "EV" []
  unfold num at hQ
  rw [Rat.neg_den, Rat.neg_num] at hQ
  by_cases h : p.den = 1
  · rw [if_pos h] at hQ
    have h' : (p.den : Int) = 1 := by omega
    simp only [h', decide_true]; exact hQ
  · rw [if_neg h] at hQ
    have h' : ¬ (p.den : Int) = 1 := by omega
    simp only [h', decide_false]; exact ⟨two_le, hQ⟩
theorem w12 (hx_added : Has Φ 10 spAdd) (hx_turned : Has Φ 11 spNeg) : Kp C Φ c12 N12 spSub := by
  rintro args G Q ⟨p, q, rfl, hp, hq, hQ⟩
  k_call_by "EV" [c12, l12, N12, Γ_phi]
  refine hx_turned _ _ _ ⟨q, rfl, hx_added _ _ _ ⟨p, -q, rfl, hp, ⟨by simpa using hq.1, by simpa using hq.2⟩, ?_⟩⟩
  rw [← Rat.sub_eq_add_neg]; exact hQ
end
end K51
set_option Elab.async false
set_option linter.all false
set_option maxRecDepth 100000
set_option maxHeartbeats 4000000
set_option exponentiation.threshold 10000
namespace K51
open PySem PySem.Spec PyProof.Rows L2 Cl
-- M0
local macro_rules | `(tactic| k_call_by "EW" [$as,*]) => `(tactic| simp only [Cl.L, Cl.LG, List.foldr_cons, List.foldr_nil, Cl.wSt, Cl.wE, Cl.wEs, Cl.wTs, Cl.wOp, Cl.wQ, Cl.wS, Cl.wI, Cl.wG, Cl.wGs, Cl.CGs.len, Cl.sRet, Cl.sRetN, Cl.sNext, Cl.sIf, Cl.sAsg, Cl.wLc, Cl.wLcQ, Cl.wipeR, Cl.sDrop, Cl.sPar2, Cl.sBrk, Cl.sCont, Cl.gN, Cl.gTp, Cl.gC, Cl.gZ, Cl.gS, Cl.wAnd, Cl.wOr, Cl.wIf, Cl.wNot, Cl.wNeg, Cl.wVar, Cl.wC, Cl.Cn.pv, Cl.w2, Cl.w3, Cl.wBin, Cl.wIdx, Cl.wSet, Cl.wTup, Cl.wLst, Cl.wNil, Cl.wCons, Cl.wCall, Cl.wMake, Cl.wB, Cl.Bi.r, Cl.bAbs, Cl.bInt, Cl.bLen_tup, Cl.bLen_rl, Cl.wIsi, Cl.CTy.p, Cl.startP, List.map_cons, List.map_nil, List.getElem?_cons_zero, List.getElem?_cons_succ, List.set_cons_zero, List.set_cons_succ, List.cons_append, List.nil_append, List.length_cons, List.length_nil, Nat.reduceAdd, Nat.reduceSub, Nat.zero_add, List.replicate, List.any_cons, List.any_nil, Cl.isOne, Cl.tru_bl, Cl.tru_int, Cl.tyOf_bl, Cl.tyOf_int, Cl.tyOf_tup, Cl.tyOf_rl, Cl.tyOf_non, Cl.cmp_lt, Cl.cmp_le, Cl.cmp_gt, Cl.cmp_ge, Cl.cmp_is, Cl.cmp_eqI, Cl.cmp_neI, Cl.at_0, Cl.at_1, Cl.at_2, true_and, and_true, Option.map_some, Option.getD_some, Cl.wTupOf, Cl.wLstOf, Cl.sFor, Cl.iVal, Cl.iEnm, Cl.iR1, Cl.iR2, Cl.iZp, Cl.seqOf_tup, Cl.seqOf_rl, Cl.tsYes, Cl.tsOne, Cl.wSeq, Cl.wSeqL, Cl.wFld, Cl.sFldP, Cl.wSlice, Cl.wPart, Cl.wNoP, Cl.wRev, Cl.Ag.w, Cl.wAll, Cl.wAny, Cl.wMax, Cl.wMin, Cl.wSum, Cl.wMaxC, Cl.wCallK, Cl.gP, $[$as:term],*])
-- M1
/-! ### the latch -/
structure Pump (P : Addr) (n : Nat) (G : Cl.PG) : Prop where
  ex : ∃ (cl : Addr) (cs : List Int) (at_ : Nat) (left : Int), G P = some (.lst [.ref cl, .int at_, .int left]) ∧ G cl = some (.lst (cs.map .int)) ∧ cl ≠ P ∧ at_ ≤ n ∧ cs.length ≤ 60
/-- all but what stands at P is as it was -/
def ExtB (P : Addr) (G G' : Cl.PG) : Prop := ∀ a o, a ≠ P → G a = some o → G' a = some o
theorem ExtB.refl {P : Addr} {G : Cl.PG} : ExtB P G G := fun _ _ _ h => h
theorem ExtB.trans {P : Addr} {G G1 G2 : Cl.PG} (a : ExtB P G G1) (b : ExtB P G1 G2) : ExtB P G G2 := fun x o h e => b x o h (a x o h e)
theorem ExtB.of {P : Addr} {G G' : Cl.PG} (a : Ext G G') : ExtB P G G' := fun x o _ e => a x o e
theorem ExtB.upd {P : Addr} {G : Cl.PG} {o : PO} : ExtB P G (pup G P o) := fun x u h e => by rw [pup_ne h]; exact e
theorem Pump.ext {P : Addr} {n : Nat} {G G' : Cl.PG} (h : Pump P n G) (e : Ext G G') : Pump P n G' := by
  obtain ⟨cl, cs, a, l, hx_is_within, hx_is_list, hx_common⟩ := h.ex
  exact ⟨cl, cs, a, l, e _ _ hx_is_within, e _ _ hx_is_list, hx_common⟩
theorem Pump.up {P : Addr} {n m : Nat} {G : Cl.PG} (h : Pump P n G) (hm : n ≤ m) : Pump P m G := by
  obtain ⟨cl, cs, a, l, hx_is_within, hx_is_list, hx_common, hx_is_number, hx_is_point⟩ := h.ex
  exact ⟨cl, cs, a, l, hx_is_within, hx_is_list, hx_common, by omega, hx_is_point⟩
def spStroke : PSp := fun args G Q => ∃ P n many, args = [.ref P, .int many] ∧ Pump P n G ∧ n ≤ 100000 ∧ 0 < many ∧ many < 1000000 ∧ ∀ r G', 0 ≤ r → r < many → Pump P (n + 1) G' → ExtB P G G' → Q (.int r) G'
theorem divSmall {i many : Int} (h : 0 < many) (hx_is_list : many < 1000000) : CDivW i many := by
  refine ⟨h, ?_⟩
  have : many.natAbs < 2 ^ 20 := by omega
  have := log_lt (by decide) this
  omega
theorem mapM_ints {f : PV → Option PyData} (hf : ∀ i, f (.int i) = some (.int i)) : ∀ cs : List Int, (cs.map PV.int).mapM f = some (cs.map PyData.int)
  | [] => rfl
  | c :: cs => by rw [List.map_cons, List.mapM_cons, hf, mapM_ints hf cs]; rfl
theorem dat_ints {G : Cl.PG} {a : Addr} {cs : List Int} (h : G a = some (.lst (cs.map .int))) : dat G datN (.ref a) = some (.list (cs.map .int)) := by
  show (match G a with | some (.lst xs) => (xs.mapM (dat G 11)).map PyData.list | _ => none) = _
  rw [h]
  show Option.map _ ((cs.map PV.int).mapM (dat G 11)) = _
  rw [mapM_ints (fun i => rfl)]; rfl
theorem lay_ints : ∀ cs : List Int, PyData.canLayAll0 (cs.map .int) = true
  | [] => by simp [PyData.canLayAll0]
  | c :: cs => by simp [PyData.canLayAll0, PyData.canLay0, lay_ints cs]
theorem shaped_ints (cs : List Int) : SeqAt.shaped (.list (cs.map .int)) = true := by
  unfold SeqAt.shaped
  simp [PyData.canLay0, lay_ints, PyData.depth, PySem.W.depth_ints]
theorem eqv_nil (cs : List Int) : PyData.eqv (.list (cs.map .int)) (.list []) = cs.isEmpty := by
  cases cs <;> simp [PyData.eqv, PyData.eqvAll]
section
variable {C : Nat → Addr} {Φ : Nat → PSp}
theorem w38 : Kp C Φ c38 N38 spStroke := by
  rintro args G Q ⟨P, n, many, rfl, hP, hn, hx_is_integer, hx_is_within, hQ⟩
  obtain ⟨cl, cs, k, left, e1, e2, hne, hk, hcs⟩ := hP.ex
  have hdiv : ∀ i, CDivW i many := fun i => divSmall hx_is_integer hx_is_within
  have key : ∀ (cell : Int) (G' : Cl.PG) (x2 : Option PV), G' P = some (.lst [.ref cl, .int (k + 1 : Nat), .int left]) → G' cl = some (.lst (cs.map .int)) → ExtB P G G' →
      wSs (Γ C Φ) (B (l38.drop 5)) { nx := fun _ G' => Q .non G', rt := Q } [some (.ref P), some (.int many), x2, some (.int (k : Nat)), some (.int cell), none] G' := by
    intro cell G' x2 k1 k2 k3
    have hP' : ∀ l, Pump P (n + 1) (pup G' P (.lst [.ref cl, .int (k + 1 : Nat), .int l])) := fun l => ⟨cl, cs, k + 1, l, pup_same, by rw [pup_ne hne]; exact k2, hne, by omega, hcs⟩
    have hP0 : Pump P (n + 1) G' := ⟨cl, cs, k + 1, left, k1, k2, hne, by omega, hcs⟩
    have hpow : ∀ a b j : Int, 0 ≤ a → a < b → b < 2 ^ 63 → 0 ≤ j → j ≤ 5 → CPow a j := fun a b j hx_is_within hx_is_list hx_common hx_is_number hx_is_point => ⟨hx_is_number, by omega, by omega⟩
    have last : ∀ x2, wSs (Γ C Φ) (B (l38.drop 6)) { nx := fun _ G' => Q .non G', rt := Q } [some (.ref P), some (.int many), x2, some (.int (k : Nat)), some (.int cell), none] G' := by
      intro x2
      simp only [l38, List.drop_succ_cons, List.drop_zero]
      rw [wSs_cons]
      k_call_by "EW" []
      have m1 := Int.emod_nonneg cell (show (2147483629 : Int) ≠ 0 by decide)
      have m2 := Int.emod_lt_of_pos cell (show (0 : Int) < 2147483629 by decide)
      refine ⟨by decide, .inr (.inl ⟨by decide, by decide⟩), ⟨by decide, by decide, by omega⟩, by decide, ?_⟩
      generalize hz : (cell % 2147483629 + 76651 * (k : Int) + 4915) ^ Int.toNat 5 % 2147483563 = z
      have m3 := Int.emod_nonneg ((cell % 2147483629 + 76651 * (k : Int) + 4915) ^ Int.toNat 5) (show (2147483563 : Int) ≠ 0 by decide)
      have m4 := Int.emod_lt_of_pos ((cell % 2147483629 + 76651 * (k : Int) + 4915) ^ Int.toNat 5) (show (0 : Int) < 2147483563 by decide)
      rw [hz] at m3 m4
      clear hz
      have b1 : 0 ≤ z * (2 * (k : Int) + 5035) := Int.mul_nonneg m3 (by omega)
      have b2 : z * (2 * (k : Int) + 5035) ≤ 2147483563 * 205035 := Int.mul_le_mul (by omega) (by omega) (by omega) (by decide)
      have b3 : 0 ≤ 65505 * (k : Int) * (k : Int) := Int.mul_nonneg (by omega) (by omega)
      have b4 : 65505 * (k : Int) * (k : Int) ≤ 6550500000 * 100000 := Int.mul_le_mul (by omega) (by omega) (by omega) (by decide)
      rw [wSs_cons]
      k_call_by "EW" []
      refine ⟨.inr (.inl ⟨by decide, by decide⟩), .inr (.inr ⟨by omega, by omega⟩), .inr (.inl ⟨by decide, by decide⟩), .inr (.inr ⟨by omega, by omega⟩), ⟨by decide, by decide, by omega⟩, by decide, ?_⟩
      rw [wSs_cons]
      k_call_by "EW" []
      exact ⟨divSmall (by decide) (by decide), hx_is_integer, hQ _ _ (Int.emod_nonneg _ (by omega)) (Int.emod_lt_of_pos _ hx_is_integer) hP0 k3⟩
    simp only [l38, List.drop_succ_cons, List.drop_zero] at last
    simp only [l38, List.drop_succ_cons, List.drop_zero]
    rw [wSs_cons]
    k_call_by "EW" [k1]
    rw [bLen_lst k2, cmp_lt, tru_bl]
    have hlen : ((List.map PV.int cs).length : Int) = (cs.length : Int) := by rw [List.length_map]
    by_cases c1 : (k : Int) < ((List.map PV.int cs).length : Int)
    · simp only [decide_eq_true c1]
      refine ⟨⟨by decide, by decide, by decide⟩, ?_⟩
      by_cases c2 : (10 : Int) ^ Int.toNat 18 ≤ (cell.natAbs : Int)
      · simp only [decide_eq_true c2]
        rw [wSs_cons]
        k_call_by "EW" []
        refine ⟨⟨by decide, by decide, by decide⟩, .inr (.inl ⟨by decide, by decide⟩), ?_⟩
        rw [wSs_cons]
        k_call_by "EW" [k1]
        have e3 : ixN 3 (2 : Int) = some 2 := rfl
        simp only [e3, List.set]
        refine ⟨hdiv _, ?_⟩
        rw [wSs_cons]
        k_call_by "EW" []
        exact ⟨hx_is_integer, hQ _ _ (Int.emod_nonneg _ (by omega)) (Int.emod_lt_of_pos _ hx_is_integer) (hP' _) (k3.trans .upd)⟩
      · simp only [decide_eq_false c2]
        rw [wSs_nil]; dsimp only
        exact last x2
    · simp only [decide_eq_false c1]
      rw [wSs_nil]; dsimp only
      exact last x2
  have cellW : ∀ (G' : Cl.PG) (x2 : Option PV) (x4 : Int), G' P = some (.lst [.ref cl, .int (k + 1 : Nat), .int left]) → G' cl = some (.lst (cs.map .int)) → ExtB P G G' →
      wSs (Γ C Φ) (B (l38.drop 4)) { nx := fun _ G' => Q .non G', rt := Q } [some (.ref P), some (.int many), x2, some (.int (k : Nat)), some (.int x4), none] G' := by
    intro G' x2 x4 k1 k2 k3
    have kk := fun cell => key cell
    simp only [l38, List.drop_succ_cons, List.drop_zero] at kk
    simp only [l38, List.drop_succ_cons, List.drop_zero]
    rw [wSs_cons]
    k_call_by "EW" [k1]
    refine ⟨by decide, fun q hq => ?_⟩
    have hqP : P ≠ q := fun z => by subst z; rw [k1] at hq; cases hq
    have hqc : cl ≠ q := fun z => by subst z; rw [k2] at hq; cases hq
    have g1 : pup G' q (.lst []) P = some (.lst [.ref cl, .int (k + 1 : Nat), .int left]) := by rw [pup_ne hqP]; exact k1
    have g2 : pup G' q (.lst []) cl = some (.lst (cs.map .int)) := by rw [pup_ne hqc]; exact k2
    have g3 : ExtB P G (pup G' q (.lst [])) := k3.trans (.of (.new hq))
    rw [cmp_neD (dat_ints g2) (dat_ints (cs := []) pup_same) (shaped_ints cs) (shaped_ints []), List.map_nil, eqv_nil]
    rw [tru_bl]
    cases hc : cs.isEmpty with
    | true =>
      simp only [Bool.not_true]
      rw [wSs_nil]; dsimp only
      exact kk _ _ _ g1 g2 g3
    | false =>
      simp only [Bool.not_false]
      rw [wSs_cons]
      k_call_by "EW" [g1]
      rw [bLen_lst g2]
      have hl : 0 < cs.length := by
        cases cs with
        | nil => cases hc
        | cons _ _ => simp
      have hlt : k % cs.length < cs.length := Nat.mod_lt _ hl
      have e5 : (k : Int) % ((List.map PV.int cs).length : Int) = ((k % cs.length : Nat) : Int) := by rw [List.length_map]; omega
      have e6 : atI (List.map PV.int cs) ((k % cs.length : Nat) : Int) = some (.int (cs[k % cs.length])) := at_nat (by rw [List.getElem?_map, List.getElem?_eq_getElem hlt]; rfl)
      simp only [g2, e5, e6]
      refine ⟨by rw [List.length_map]; omega, ?_⟩
      rw [wSs_nil]; dsimp only
      exact kk _ _ _ g1 g2 g3
  unfold c38 l38
  rw [wSs_cons]
  k_call_by "EW" [N38, Γ_phi, e1]
  by_cases hl : 0 < left
  · simp only [decide_eq_true hl]
    rw [wSs_cons]
    k_call_by "EW" [e1]
    rw [wSs_cons]
    k_call_by "EW" [e1]
    have e3 : ixN 3 (2 : Int) = some 2 := rfl
    simp only [e3, List.set]
    refine ⟨hdiv _, ?_⟩
    rw [wSs_cons]
    k_call_by "EW" []
    exact ⟨hx_is_integer, hQ _ _ (Int.emod_nonneg _ (by omega)) (Int.emod_lt_of_pos _ hx_is_integer) ⟨cl, cs, k, left / many, pup_same, by rw [pup_ne hne]; exact e2, hne, by omega, hcs⟩ .upd⟩
  · simp only [decide_eq_false hl]
    rw [wSs_nil]; dsimp only
    rw [wSs_cons]
    k_call_by "EW" [e1]
    rw [wSs_cons]
    k_call_by "EW" [e1]
    have e4 : ixN 3 (1 : Int) = some 1 := rfl
    simp only [e4, List.set]
    rw [wSs_cons]
    k_call_by "EW" []
    refine ⟨.inr (.inl ⟨by decide, by decide⟩), ?_⟩
    rw [wSs_cons]
    have := cellW (pup G P (.lst [.ref cl, .int (k + 1 : Nat), .int left])) none (65505 * (k : Int) + 5249) pup_same (by rw [pup_ne hne]; exact e2) .upd
    simp only [l38, List.drop_succ_cons, List.drop_zero] at this
    exact this
end
end K51
set_option Elab.async false
set_option linter.all false
set_option maxRecDepth 100000
set_option maxHeartbeats 4000000
set_option exponentiation.threshold 10000
namespace K51
open PySem PySem.Spec PyProof.Rows L2 Cl
-- M0
local macro_rules | `(tactic| k_call_by "EV" [$as,*]) => `(tactic| simp only [Cl.B, Cl.L, Cl.LG, List.foldr_cons, List.foldr_nil, Cl.wSs, Cl.wSt, Cl.wE, Cl.wEs, Cl.wTs, Cl.wOp, Cl.wQ, Cl.wS, Cl.wI, Cl.wG, Cl.wGs, Cl.CGs.len, Cl.sSeq, Cl.sRet, Cl.sRetN, Cl.sNext, Cl.sIf, Cl.sAsg, Cl.wLc, Cl.wLcQ, Cl.wipeR, Cl.sDrop, Cl.sPar2, Cl.sBrk, Cl.sCont, Cl.gN, Cl.gTp, Cl.gC, Cl.gZ, Cl.gS, Cl.wAnd, Cl.wOr, Cl.wIf, Cl.wNot, Cl.wNeg, Cl.wVar, Cl.wC, Cl.Cn.pv, Cl.w2, Cl.w3, Cl.wBin, Cl.wIdx, Cl.wSet, Cl.wTup, Cl.wLst, Cl.wNil, Cl.wCons, Cl.wCall, Cl.wMake, Cl.wB, Cl.Bi.r, Cl.bAbs, Cl.bInt, Cl.bLen_tup, Cl.bLen_rl, Cl.wIsi, Cl.CTy.p, Cl.startP, List.map_cons, List.map_nil, List.getElem?_cons_zero, List.getElem?_cons_succ, List.set_cons_zero, List.set_cons_succ, List.cons_append, List.nil_append, List.length_cons, List.length_nil, Nat.reduceAdd, Nat.reduceSub, Nat.zero_add, List.replicate, List.any_cons, List.any_nil, Cl.isOne, Cl.tru_bl, Cl.tru_int, Cl.tyOf_bl, Cl.tyOf_int, Cl.tyOf_tup, Cl.tyOf_rl, Cl.tyOf_non, Cl.cmp_lt, Cl.cmp_le, Cl.cmp_gt, Cl.cmp_ge, Cl.cmp_is, Cl.cmp_eqI, Cl.cmp_neI, Cl.at_0, Cl.at_1, Cl.at_2, true_and, and_true, Option.map_some, Option.getD_some, Cl.wTupOf, Cl.wLstOf, Cl.sFor, Cl.iVal, Cl.iEnm, Cl.iR1, Cl.iR2, Cl.iZp, Cl.seqOf_tup, Cl.seqOf_rl, Cl.tsYes, Cl.tsOne, Cl.wSeq, Cl.wSeqL, Cl.wFld, Cl.sFldP, Cl.wSlice, Cl.wPart, Cl.wNoP, Cl.wRev, Cl.Ag.w, Cl.wAll, Cl.wAny, Cl.wMax, Cl.wMin, Cl.wSum, Cl.wMaxC, Cl.wCallK, Cl.gP, $[$as:term],*])
local macro_rules | `(tactic| k_call_by "ET" [$as,*]) => `(tactic| simp only [Cl.B, Cl.L, Cl.LG, List.foldr_cons, List.foldr_nil, Cl.wSs, Cl.wSt, Cl.wE, Cl.wEs, Cl.wTs, Cl.wOp, Cl.wQ, Cl.wS, Cl.wI, Cl.wG, Cl.wGs, Cl.CGs.len, Cl.sSeq, Cl.sRet, Cl.sRetN, Cl.sNext, Cl.sIf, Cl.sAsg, Cl.wLc, Cl.wLcQ, Cl.wipeR, Cl.sDrop, Cl.sPar2, Cl.sBrk, Cl.sCont, Cl.gN, Cl.gTp, Cl.gC, Cl.gZ, Cl.gS, Cl.wAnd, Cl.wOr, Cl.wIf, Cl.wNot, Cl.wNeg, Cl.wVar, Cl.wC, Cl.Cn.pv, Cl.w2, Cl.w3, Cl.wSet, Cl.wTup, Cl.wLst, Cl.wNil, Cl.wCons, Cl.wCall, Cl.wMake, Cl.wB, Cl.Bi.r, Cl.bAbs, Cl.bInt, Cl.bLen_tup, Cl.bLen_rl, Cl.wIsi, Cl.CTy.p, Cl.startP, List.map_cons, List.map_nil, List.getElem?_cons_zero, List.getElem?_cons_succ, List.set_cons_zero, List.set_cons_succ, List.cons_append, List.nil_append, List.length_cons, List.length_nil, Nat.reduceAdd, Nat.reduceSub, Nat.zero_add, List.replicate, List.any_cons, List.any_nil, Cl.isOne, Cl.tru_bl, Cl.tru_int, Cl.tyOf_bl, Cl.tyOf_int, Cl.tyOf_tup, Cl.tyOf_rl, Cl.tyOf_non, Cl.cmp_lt, Cl.cmp_le, Cl.cmp_gt, Cl.cmp_ge, Cl.cmp_is, Cl.cmp_eqI, Cl.cmp_neI, Cl.at_0, Cl.at_1, Cl.at_2, true_and, and_true, Option.map_some, Option.getD_some, Cl.wTupOf, Cl.wLstOf, Cl.sFor, Cl.iVal, Cl.iEnm, Cl.iR1, Cl.iR2, Cl.iZp, Cl.seqOf_tup, Cl.seqOf_rl, Cl.tsYes, Cl.tsOne, Cl.wSeq, Cl.wSeqL, Cl.wFld, Cl.sFldP, Cl.wSlice, Cl.wPart, Cl.wNoP, Cl.wRev, Cl.Ag.w, Cl.wAll, Cl.wAny, Cl.wMax, Cl.wMin, Cl.wSum, Cl.wMaxC, Cl.wCallK, Cl.gP, Cl.bi_add, Cl.bi_sub, Cl.bi_mul, Cl.bi_div, Cl.bi_mod, Cl.bi_pow, Cl.ix_t0, Cl.ix_t1, Cl.ix_t2, Cl.ni1, Cl.ni2, Cl.ni3, decide_true, eq_self, Cl.b_o, String.reduceBEq, Bool.or_false, Bool.false_or, Bool.true_or, Bool.or_true, Bool.false_and, Bool.true_and, Bool.and_false, Bool.not_true, Bool.not_false, $[$as:term],*])
-- M1
/-- a number as given: as the text has it, or its pair as a list -/
def IsNum (u : PV) (q : Rat) (G : Cl.PG) : Prop := u = num q ∨ (q.den ≠ 1 ∧ ∃ a, u = .ref a ∧ G a = some (.lst [.int q.num, .int q.den]))
theorem IsNum.ext {u : PV} {q : Rat} {G G' : Cl.PG} (h : IsNum u q G) (e : Ext G G') : IsNum u q G' := by
  rcases h with h | ⟨h, a, hx_is_within, hx_is_list⟩
  · exact .inl h
  · exact .inr ⟨h, a, hx_is_within, e _ _ hx_is_list⟩
/-- the three shapes -/
theorem IsNum.cases {u : PV} {q : Rat} {G : Cl.PG} (h : IsNum u q G) : (q.den = 1 ∧ u = .int q.num) ∨ (q.den ≠ 1 ∧ u = .tup [.int q.num, .int q.den]) ∨ (q.den ≠ 1 ∧ ∃ a, u = .ref a ∧ G a = some (.lst [.int q.num, .int q.den])) := by
  rcases h with h | h
  · rcases num_cases q with ⟨hx_is_within, e⟩ | ⟨hx_is_within, e⟩
    · exact .inl ⟨hx_is_within, by rw [h, e]⟩
    · exact .inr (.inl ⟨hx_is_within, by rw [h, e]⟩)
  · exact .inr (.inr h)
def Three (n : String) : Prop := n = "int" ∨ n = "list" ∨ n = "tuple"
def spTy (f : String → Bool) : PSp := fun args G Q => ∃ v n, args = [v] ∧ tyOf v G = some (.b n) ∧ Three n ∧ Q (.bl (f n)) G
def isIntB (n : String) : Bool := n == "int"
def isListB (n : String) : Bool := n == "list" || n == "tuple"
def spWithin : PSp := fun args G Q => ∃ v lo : Int, (args = [.int v, .int lo, .non] ∧ Q (.bl (decide (lo ≤ v))) G) ∨ ∃ hi, args = [.int v, .int lo, .int hi] ∧ Q (.bl (decide (lo ≤ v) && decide (v ≤ hi))) G
def spIsNum : PSp := fun args G Q => ∃ u q, args = [u] ∧ IsNum u q G ∧ Q (.bl true) G
def spKept : PSp := fun args G Q => ∃ u q, args = [u] ∧ IsNum u q G ∧ Q (num q) G
def IsTurn (u : PV) (c s : Rat) (G : Cl.PG) : Prop := ∃ x y, IsNum x c G ∧ IsNum y s G ∧ (u = .tup [x, y] ∨ ∃ a, u = .ref a ∧ G a = some (.lst [x, y]))
section
variable {C : Nat → Addr} {Φ : Nat → PSp}
theorem w0 : Kp C Φ c0 N0 (spTy isIntB) := by
  rintro args G Q ⟨v, n, rfl, ht, hx_common, hQ⟩
  k_call_by "EV" [c0, l0, N0, ht]
  rcases hx_common with rfl | rfl | rfl
  · simp; exact hQ
  · simp; exact hQ
  · simp; exact hQ
theorem w2 : Kp C Φ c2 N2 (spTy isListB) := by
  rintro args G Q ⟨v, n, rfl, ht, hx_common, hQ⟩
  k_call_by "EV" [c2, l2, N2, ht]
  rcases hx_common with rfl | rfl | rfl
  · simp; exact hQ
  · simp; exact hQ
  · simp; exact hQ
theorem w1 (hx_is_integer : Has Φ 0 (spTy isIntB)) : Kp C Φ c1 N1 spWithin := by
  rintro args G Q ⟨v, lo, h⟩
  rcases h with ⟨rfl, hQ⟩ | ⟨hi, rfl, hQ⟩
  · k_call_by "EV" [c1, l1, N1, Γ_phi]
    refine hx_is_integer _ _ _ ⟨_, "int", rfl, rfl, .inl rfl, ?_⟩
    k_call_by "EV" [Cl.isNon]
    by_cases h : lo ≤ v
    · simp only [decide_eq_true h] at hQ ⊢; exact hQ
    · simp only [decide_eq_false h] at hQ ⊢; exact hQ
  · k_call_by "EV" [c1, l1, N1, Γ_phi]
    refine hx_is_integer _ _ _ ⟨_, "int", rfl, rfl, .inl rfl, ?_⟩
    k_call_by "EV" [Cl.isNon]
    by_cases h : lo ≤ v
    · simp only [decide_eq_true h, Bool.true_and] at hQ ⊢; exact hQ
    · simp only [decide_eq_false h, Bool.false_and] at hQ ⊢; exact hQ
theorem gcd_one (q : Rat) : Int.gcd q.num q.den = 1 := by
  have := q.reduced
  simpa [Int.gcd] using this
theorem den_two {q : Rat} (h : q.den ≠ 1) : (2 : Int) ≤ (q.den : Int) := by
  have := q.den_pos; omega
theorem w4 (hx_is_integer : Has Φ 0 (spTy isIntB)) (hx_is_list : Has Φ 2 (spTy isListB)) (hx_is_within : Has Φ 1 spWithin) (hx_common : Has Φ 3 spCommon) : Kp C Φ c4 N4 spIsNum := by
  rintro args G Q ⟨u, q, rfl, hu, hQ⟩
  rcases hu.cases with ⟨hd, rfl⟩ | ⟨hd, rfl⟩ | ⟨hd, a, rfl, ha⟩
  · k_call_by "ET" [c4, l4, N4, Γ_phi]
    refine hx_is_integer _ _ _ ⟨_, "int", rfl, tyOf_int, .inl rfl, ?_⟩
    k_call_by "ET" [isIntB]
    exact hQ
  · k_call_by "ET" [c4, l4, N4, Γ_phi]
    refine hx_is_integer _ _ _ ⟨_, "tuple", rfl, rfl, .inr (.inr rfl), ?_⟩
    k_call_by "ET" [isIntB]
    refine hx_is_list _ _ _ ⟨_, "tuple", rfl, rfl, .inr (.inr rfl), ?_⟩
    k_call_by "ET" [isListB]
    refine hx_is_integer _ _ _ ⟨_, "int", rfl, tyOf_int, .inl rfl, ?_⟩
    k_call_by "ET" [isIntB]
    refine hx_is_within _ _ _ ⟨_, _, .inl ⟨rfl, ?_⟩⟩
    k_call_by "ET" [decide_eq_true (den_two hd)]
    refine hx_common _ _ _ ⟨_, _, rfl, ?_⟩
    k_call_by "ET" [gcd_one]
    exact hQ
  · k_call_by "ET" [c4, l4, N4, Γ_phi]
    refine hx_is_integer _ _ _ ⟨_, "list", rfl, tyOf_lst ha, .inr (.inl rfl), ?_⟩
    k_call_by "ET" [isIntB]
    refine hx_is_list _ _ _ ⟨_, "list", rfl, tyOf_lst ha, .inr (.inl rfl), ?_⟩
    k_call_by "ET" [isListB, ix_l0 ha, ix_l1 ha, ha]
    rw [bLen_lst ha]
    k_call_by "ET" [ix_l0 ha, ix_l1 ha, ha]
    refine hx_is_integer _ _ _ ⟨_, "int", rfl, tyOf_int, .inl rfl, ?_⟩
    k_call_by "ET" [isIntB, ix_l0 ha, ix_l1 ha, ha]
    refine hx_is_within _ _ _ ⟨_, _, .inl ⟨rfl, ?_⟩⟩
    k_call_by "ET" [decide_eq_true (den_two hd), ix_l0 ha, ix_l1 ha, ha]
    refine hx_common _ _ _ ⟨_, _, rfl, ?_⟩
    k_call_by "ET" [gcd_one]
    exact hQ
theorem w5 : Kp C Φ c5 N5 spKept := by
  rintro args G Q ⟨u, q, rfl, hu, hQ⟩
  rcases hu.cases with ⟨hd, rfl⟩ | ⟨hd, rfl⟩ | ⟨hd, a, rfl, ha⟩
  · k_call_by "ET" [c5, l5, N5, Γ_phi]
    have e : num q = .int q.num := by unfold num; rw [if_pos hd]
    rw [e] at hQ
    exact hQ
  · k_call_by "ET" [c5, l5, N5, Γ_phi]
    have e : num q = .tup [.int q.num, .int q.den] := by unfold num; rw [if_neg hd]
    rw [e] at hQ
    exact hQ
  · k_call_by "ET" [c5, l5, N5, Γ_phi, tyOf_lst ha, ix_l0 ha, ix_l1 ha, ha]
    have e : num q = .tup [.int q.num, .int q.den] := by unfold num; rw [if_neg hd]
    rw [e] at hQ
    exact hQ
end
end K51
set_option Elab.async false
set_option linter.all false
set_option maxRecDepth 100000
set_option maxHeartbeats 4000000
set_option exponentiation.threshold 10000
namespace K51
open PySem PySem.Spec PyProof.Rows L2 Cl
-- M0
local macro_rules | `(tactic| k_call_by "EV" [$as,*]) => `(tactic| simp only [Cl.B, Cl.L, Cl.LG, List.foldr_cons, List.foldr_nil, Cl.wSs, Cl.wSt, Cl.wE, Cl.wEs, Cl.wTs, Cl.wOp, Cl.wQ, Cl.wS, Cl.wI, Cl.wG, Cl.wGs, Cl.CGs.len, Cl.sSeq, Cl.sRet, Cl.sRetN, Cl.sNext, Cl.sIf, Cl.sAsg, Cl.wLc, Cl.wLcQ, Cl.wipeR, Cl.sDrop, Cl.sPar2, Cl.sBrk, Cl.sCont, Cl.gN, Cl.gTp, Cl.gC, Cl.gZ, Cl.gS, Cl.wAnd, Cl.wOr, Cl.wIf, Cl.wNot, Cl.wNeg, Cl.wVar, Cl.wC, Cl.Cn.pv, Cl.w2, Cl.w3, Cl.wBin, Cl.wIdx, Cl.wSet, Cl.wTup, Cl.wLst, Cl.wNil, Cl.wCons, Cl.wCall, Cl.wMake, Cl.wB, Cl.Bi.r, Cl.bAbs, Cl.bInt, Cl.bLen_tup, Cl.bLen_rl, Cl.wIsi, Cl.CTy.p, Cl.startP, List.map_cons, List.map_nil, List.getElem?_cons_zero, List.getElem?_cons_succ, List.set_cons_zero, List.set_cons_succ, List.cons_append, List.nil_append, List.length_cons, List.length_nil, Nat.reduceAdd, Nat.reduceSub, Nat.zero_add, List.replicate, List.any_cons, List.any_nil, Cl.isOne, Cl.tru_bl, Cl.tru_int, Cl.tyOf_bl, Cl.tyOf_int, Cl.tyOf_tup, Cl.tyOf_rl, Cl.tyOf_non, Cl.cmp_lt, Cl.cmp_le, Cl.cmp_gt, Cl.cmp_ge, Cl.cmp_is, Cl.cmp_eqI, Cl.cmp_neI, Cl.at_0, Cl.at_1, Cl.at_2, true_and, and_true, Option.map_some, Option.getD_some, Cl.wTupOf, Cl.wLstOf, Cl.sFor, Cl.iVal, Cl.iEnm, Cl.iR1, Cl.iR2, Cl.iZp, Cl.seqOf_tup, Cl.seqOf_rl, Cl.tsYes, Cl.tsOne, Cl.wSeq, Cl.wSeqL, Cl.wFld, Cl.sFldP, Cl.wSlice, Cl.wPart, Cl.wNoP, Cl.wRev, Cl.Ag.w, Cl.wAll, Cl.wAny, Cl.wMax, Cl.wMin, Cl.wSum, Cl.wMaxC, Cl.wCallK, Cl.gP, $[$as:term],*])
local macro_rules | `(tactic| k_call_by "ET" [$as,*]) => `(tactic| simp only [Cl.B, Cl.L, Cl.LG, List.foldr_cons, List.foldr_nil, Cl.wSs, Cl.wSt, Cl.wE, Cl.wEs, Cl.wTs, Cl.wOp, Cl.wQ, Cl.wS, Cl.wI, Cl.wG, Cl.wGs, Cl.CGs.len, Cl.sSeq, Cl.sRet, Cl.sRetN, Cl.sNext, Cl.sIf, Cl.sAsg, Cl.wLc, Cl.wLcQ, Cl.wipeR, Cl.sDrop, Cl.sPar2, Cl.sBrk, Cl.sCont, Cl.gN, Cl.gTp, Cl.gC, Cl.gZ, Cl.gS, Cl.wAnd, Cl.wOr, Cl.wIf, Cl.wNot, Cl.wNeg, Cl.wVar, Cl.wC, Cl.Cn.pv, Cl.w2, Cl.w3, Cl.wSet, Cl.wTup, Cl.wLst, Cl.wNil, Cl.wCons, Cl.wCall, Cl.wMake, Cl.wB, Cl.Bi.r, Cl.bAbs, Cl.bInt, Cl.bLen_tup, Cl.bLen_rl, Cl.wIsi, Cl.CTy.p, Cl.startP, List.map_cons, List.map_nil, List.getElem?_cons_zero, List.getElem?_cons_succ, List.set_cons_zero, List.set_cons_succ, List.cons_append, List.nil_append, List.length_cons, List.length_nil, Nat.reduceAdd, Nat.reduceSub, Nat.zero_add, List.replicate, List.any_cons, List.any_nil, Cl.isOne, Cl.tru_bl, Cl.tru_int, Cl.tyOf_bl, Cl.tyOf_int, Cl.tyOf_tup, Cl.tyOf_rl, Cl.tyOf_non, Cl.cmp_lt, Cl.cmp_le, Cl.cmp_gt, Cl.cmp_ge, Cl.cmp_is, Cl.cmp_eqI, Cl.cmp_neI, Cl.at_0, Cl.at_1, Cl.at_2, true_and, and_true, Option.map_some, Option.getD_some, Cl.wTupOf, Cl.wLstOf, Cl.sFor, Cl.iVal, Cl.iEnm, Cl.iR1, Cl.iR2, Cl.iZp, Cl.seqOf_tup, Cl.seqOf_rl, Cl.tsYes, Cl.tsOne, Cl.wSeq, Cl.wSeqL, Cl.wFld, Cl.sFldP, Cl.wSlice, Cl.wPart, Cl.wNoP, Cl.wRev, Cl.Ag.w, Cl.wAll, Cl.wAny, Cl.wMax, Cl.wMin, Cl.wSum, Cl.wMaxC, Cl.wCallK, Cl.gP, Cl.bi_add, Cl.bi_sub, Cl.bi_mul, Cl.bi_div, Cl.bi_mod, Cl.bi_pow, Cl.ix_t0, Cl.ix_t1, Cl.ix_t2, Cl.ni1, Cl.ni2, Cl.ni3, decide_true, eq_self, Cl.b_o, String.reduceBEq, Bool.or_false, Bool.false_or, Bool.true_or, Bool.or_true, Bool.false_and, Bool.true_and, Bool.and_false, Bool.not_true, Bool.not_false, $[$as:term],*])
-- M1
/-- items by pairs: what is looked at, what it gives -/
theorem lcL_pairs {ws : Ws} {g : WG} {we : WE} {ρ0 : Rho} {D : Addr} {Q : Cl.PG → Prop} {G0 : Cl.PG} (hw : ∀ acc, watch ws (pup G0 D (.lst acc))) : ∀ (ps : List (PV × PV)) (acc : List PV), acc.length + ps.length ≤ sizeLine →
    (∀ p ∈ ps, ∀ (acc : List PV) (R : WK), R p.2 (pup G0 D (.lst acc)) → g p.1 ρ0 (pup G0 D (.lst acc)) fun ρ1 G1 => we ρ1 G1 R) → Q (pup G0 D (.lst (acc ++ ps.map (·.2)))) → lcL ws g tsYes we ρ0 D Q (ps.map (·.1)) (pup G0 D (.lst acc))
  | [], acc, _, _, q => ⟨hw acc, by simpa using q⟩
  | p :: ps, acc, hl, h, q => by
    simp only [List.length_cons] at hl
    refine ⟨hw acc, h p List.mem_cons_self acc _ ?_⟩
    rw [pup_same]
    refine ⟨by omega, ?_⟩
    rw [pup_pup']
    exact lcL_pairs hw ps (acc ++ [p.2]) (by rw [List.length_append, List.length_singleton]; omega) (fun u hu => h u (List.mem_cons_of_mem _ hu)) (by simpa using q)
theorem lcQ_pairs {ws : Ws} {g : WG} {we : WE} {ρ0 : Rho} {D : Addr} {Q : List PV → Cl.PG → Prop} {G0 : Cl.PG} (hD : G0 D = none) (hw : ∀ acc, watch ws (pup G0 D (.lst acc))) (ps : List (PV × PV)) (hl : ps.length ≤ sizeLine)
    (h : ∀ p ∈ ps, ∀ (acc : List PV) (R : WK), R p.2 (pup G0 D (.lst acc)) → g p.1 ρ0 (pup G0 D (.lst acc)) fun ρ1 G1 => we ρ1 G1 R) (q : Q (ps.map (·.2)) G0) :
    lcL ws g tsYes we ρ0 D (fun G2 => match G2 D with | some (.lst acc) => Q acc (pdel G2 D) | _ => False) (ps.map (·.1)) (pup G0 D (.lst [])) := by
  refine lcL_pairs hw ps [] (by simpa using hl) h ?_
  rw [pup_same, pdel_pup hD]
  simpa using q
def spAbove : PSp := fun args G Q => ∃ u q z, args = [u, .str z] ∧ IsNum u q G ∧ 0 < q ∧ Q (num q) G
def spPoint : PSp := fun args G Q => ∃ u c s, args = [u] ∧ IsTurn u c s G ∧ Q (.bl true) G
theorem IsTurn.ext {u : PV} {c s : Rat} {G G' : Cl.PG} (h : IsTurn u c s G) (e : Ext G G') : IsTurn u c s G' := by
  obtain ⟨x, y, hx_is_within, hx_is_list, hx_common⟩ := h
  refine ⟨x, y, hx_is_within.ext e, hx_is_list.ext e, ?_⟩
  rcases hx_common with hx_common | ⟨a, hx_common, hx_is_number⟩
  · exact .inl hx_common
  · exact .inr ⟨a, hx_common, e _ _ hx_is_number⟩
section
variable {C : Nat → Addr} {Φ : Nat → PSp}
theorem w7 (hx_is_number : Has Φ 4 spIsNum) (hx_is_list : Has Φ 2 (spTy isListB)) (hx_kept : Has Φ 5 spKept) : Kp C Φ c7 N7 spAbove := by
  rintro args G Q ⟨u, q, z, rfl, hu, hx_is_integer, hQ⟩
  have hn : ¬ q.num ≤ 0 := by have := num_pos' hx_is_integer; omega
  k_call_by "EV" [c7, l7, N7, Γ_phi]
  refine hx_is_number _ _ _ ⟨_, q, rfl, hu, ?_⟩
  k_call_by "ET" []
  rcases hu.cases with ⟨hd, rfl⟩ | ⟨hd, rfl⟩ | ⟨hd, a, rfl, ha⟩
  · refine hx_is_list _ _ _ ⟨_, "int", rfl, tyOf_int, .inl rfl, ?_⟩
    k_call_by "ET" [isListB, decide_eq_false hn]
    exact hx_kept _ _ _ ⟨_, q, rfl, hu, hQ⟩
  · refine hx_is_list _ _ _ ⟨_, "tuple", rfl, rfl, .inr (.inr rfl), ?_⟩
    k_call_by "ET" [isListB, decide_eq_false hn]
    exact hx_kept _ _ _ ⟨_, q, rfl, hu, hQ⟩
  · refine hx_is_list _ _ _ ⟨_, "list", rfl, tyOf_lst ha, .inr (.inl rfl), ?_⟩
    k_call_by "ET" [isListB, ix_l0 ha, ha, decide_eq_false hn]
    exact hx_kept _ _ _ ⟨_, q, rfl, hu, hQ⟩
def pairOf (q : Rat) (u : PV) : PV := if q.den = 1 then .tup [.int q.num, .int 1] else u
theorem pairOf_unpack {u : PV} {q : Rat} {G : Cl.PG} (h : IsNum u q G) {i j : Nat} {ρ : Rho} {R : Rho → Cl.PG → Prop} (hR : R ((ρ.set i (some (.int q.num))).set j (some (.int q.den))) G) : gTp 2 (gC (gN i) (gC (gN j) gZ)) (pairOf q u) ρ G R := by
  unfold pairOf
  rcases h.cases with ⟨hd, rfl⟩ | ⟨hd, rfl⟩ | ⟨hd, a, rfl, ha⟩
  · rw [if_pos hd]; rw [hd] at hR
    k_call_by "ET" [Cl.gTp, Cl.gC, Cl.gN, Cl.gZ]
    exact hR
  · rw [if_neg hd]
    k_call_by "ET" [Cl.gTp, Cl.gC, Cl.gN, Cl.gZ]
    exact hR
  · rw [if_neg hd]
    k_call_by "ET" [Cl.gTp, Cl.gC, Cl.gN, Cl.gZ, ha]
    exact hR
def Tiny (q : Rat) : Prop := q.num.natAbs < 2 ^ 60 ∧ q.den < 2 ^ 60
def spTurn : PSp := fun args G Q => ∃ u c s, args = [u] ∧ IsTurn u c s G ∧ Tiny c ∧ Tiny s ∧ c * c + s * s = 1 ∧ ∀ G', Ext G G' → Q (.bl true) G'
theorem gTp_ref2 {g1 g2 : WG} {D : Addr} {G : Cl.PG} {a b : PV} {ρ : Rho} {R : Rho → Cl.PG → Prop} (h : G D = some (.lst [a, b])) (q : g1 a ρ G fun ρ1 G1 => g2 b ρ1 G1 R) : gTp 2 (gC g1 (gC g2 gZ)) (.ref D) ρ G R := by
  simp only [Cl.gTp, h, Cl.gC, Cl.gZ]
  exact ⟨rfl, by simpa using q⟩
theorem mulT {i j : Int} (h : i.natAbs < 2 ^ 1900) (hx_is_list : j.natAbs < 2 ^ 60) : CMulW i j ∨ CMul i j := .inr (.inr ⟨by omega, by omega⟩)
theorem turn_eq {c s : Rat} (h : c * c + s * s = 1) : c.num * c.num * s.den * s.den + s.num * s.num * c.den * c.den = (c.den : Int) * c.den * s.den * s.den := by
  have hx_is_within := mul_den c
  have hx_is_list := mul_den s
  have : ((c.num * c.num * s.den * s.den + s.num * s.num * c.den * c.den : Int) : Rat) = ((c.den : Int) * c.den * s.den * s.den : Int) := by
    simp only [Rat.intCast_add, Rat.intCast_mul, ← hx_is_within, ← hx_is_list]
    have e1 : ((c.den : Int) : Rat) = (c.den : Rat) := rfl
    have e2 : ((s.den : Int) : Rat) = (s.den : Rat) := rfl
    rw [e1, e2]
    generalize (c.den : Rat) = x at *
    generalize (s.den : Rat) = y at *
    grind
  exact_mod_cast this
def spKeptRow : PSp := fun args G Q => ∃ u c s, args = [u] ∧ IsTurn u c s G ∧ Q (.tup [num c, num s]) G
def spNeedTurn : PSp := fun args G Q => ∃ u c s z, args = [u, .str z] ∧ IsTurn u c s G ∧ Tiny c ∧ Tiny s ∧ c * c + s * s = 1 ∧ ∀ G', Ext G G' → Q (.tup [num c, num s]) G'
def spNeedPoly (A : Addr) : PSp := fun args G Q => ∃ p fs z, args = [.ref p, .str z] ∧ G p = some (.ins A fs) ∧ Q (.ref p) G
theorem w16 : Kp C Φ c16 N16 (spNeedPoly (C 2)) := by
  rintro args G Q ⟨p, fs, z, rfl, hp, hQ⟩
  k_call_by "EV" [c16, l16, N16, Γ_phi, tyOf_ins hp, Γ_cls, Γ_sub]
  refine ⟨fun D e => ?_, ?_⟩
  · cases e; simp
  · simp only [beq_self_eq_true, Bool.true_or, Bool.not_true]
    exact hQ
end
end K51
set_option Elab.async false
set_option linter.all false
set_option maxRecDepth 100000
set_option maxHeartbeats 1000000
set_option exponentiation.threshold 10000
namespace K51
open PySem PySem.Spec PyProof.Rows L2 Cl
-- M0
local macro_rules | `(tactic| k_call_by "EX" [$as,*]) => `(tactic| simp only [Cl.L, Cl.LG, List.foldr_cons, List.foldr_nil, Cl.wSt, Cl.wE, Cl.wEs, Cl.wTs, Cl.wOp, Cl.wQ, Cl.wS, Cl.wI, Cl.wG, Cl.wGs, Cl.CGs.len, Cl.sRet, Cl.sRetN, Cl.sNext, Cl.sIf, Cl.sAsg, Cl.wLc, Cl.wLcQ, Cl.wipeR, Cl.sDrop, Cl.sPar2, Cl.sBrk, Cl.sCont, Cl.gN, Cl.gTp, Cl.gC, Cl.gZ, Cl.gS, Cl.wAnd, Cl.wOr, Cl.wIf, Cl.wNot, Cl.wNeg, Cl.wVar, Cl.wC, Cl.Cn.pv, Cl.w2, Cl.w3, Cl.wSet, Cl.wTup, Cl.wLst, Cl.wNil, Cl.wCons, Cl.wCall, Cl.wMake, Cl.wB, Cl.Bi.r, Cl.bAbs, Cl.bInt, Cl.bLen_tup, Cl.bLen_rl, Cl.wIsi, Cl.CTy.p, Cl.startP, List.map_cons, List.map_nil, List.getElem?_cons_zero, List.getElem?_cons_succ, List.set_cons_zero, List.set_cons_succ, List.cons_append, List.nil_append, List.length_cons, List.length_nil, Nat.reduceAdd, Nat.reduceSub, Nat.zero_add, List.replicate, List.any_cons, List.any_nil, Cl.isOne, Cl.tru_bl, Cl.tru_int, Cl.tyOf_bl, Cl.tyOf_int, Cl.tyOf_tup, Cl.tyOf_rl, Cl.tyOf_non, Cl.cmp_lt, Cl.cmp_le, Cl.cmp_gt, Cl.cmp_ge, Cl.cmp_is, Cl.cmp_eqI, Cl.cmp_neI, Cl.at_0, Cl.at_1, Cl.at_2, true_and, and_true, Option.map_some, Option.getD_some, Cl.wTupOf, Cl.wLstOf, Cl.sFor, Cl.iVal, Cl.iEnm, Cl.iR1, Cl.iR2, Cl.iZp, Cl.seqOf_tup, Cl.seqOf_rl, Cl.tsYes, Cl.tsOne, Cl.wSeq, Cl.wSeqL, Cl.wFld, Cl.sFldP, Cl.wSlice, Cl.wPart, Cl.wNoP, Cl.wRev, Cl.Ag.w, Cl.wAll, Cl.wAny, Cl.wMax, Cl.wMin, Cl.wSum, Cl.wMaxC, Cl.wCallK, Cl.gP, Cl.bi_add, Cl.bi_sub, Cl.bi_mul, Cl.bi_div, Cl.bi_mod, Cl.bi_pow, Cl.ix_t0, Cl.ix_t1, Cl.ix_t2, Cl.ni1, Cl.ni2, Cl.ni3, decide_true, eq_self, Cl.b_o, String.reduceBEq, Bool.or_false, Bool.false_or, Bool.true_or, Bool.or_true, Bool.false_and, Bool.true_and, Bool.and_false, Bool.not_true, Bool.not_false, $[$as:term],*])
-- M1
/-! ### terms -/
structure Tm where
  i : Nat
  j : Nat
  q : Rat
def IsTm (u : PV) (t : Tm) (G : Cl.PG) : Prop := ∃ w, IsNum w t.q G ∧ (u = .tup [.int t.i, .int t.j, w] ∨ ∃ a, u = .ref a ∧ G a = some (.lst [.int t.i, .int t.j, w]))
theorem IsTm.ext {u : PV} {t : Tm} {G G' : Cl.PG} (h : IsTm u t G) (e : Ext G G') : IsTm u t G' := by
  obtain ⟨w, hx_is_within, hx_is_list⟩ := h
  refine ⟨w, hx_is_within.ext e, ?_⟩
  rcases hx_is_list with hx_is_list | ⟨a, hx_is_list, hx_common⟩
  · exact .inl hx_is_list
  · exact .inr ⟨a, hx_is_list, e _ _ hx_common⟩
def Tm.ok (t : Tm) : Prop := t.i + t.j ≤ 6 ∧ t.q ≠ 0
def spTerm : PSp := fun args G Q => ∃ u t, args = [u] ∧ IsTm u t G ∧ t.ok ∧ ∀ G', Ext G G' → Q (.bl true) G'
section
variable {C : Nat → Addr} {Φ : Nat → PSp}
theorem num_ne0 {q : Rat} (h : q ≠ 0) : q.num ≠ 0 := by
  intro z
  exact h (Rat.num_eq_zero.mp z)
theorem cmp_num0 {u : PV} {q : Rat} {G : Cl.PG} {Q : WK} (hu : IsNum u q G) (hx_is_integer : q ≠ 0) (hQ : Q (.bl false) G) : Cl.wCmp .Eq u (.int 0) G Q := by
  rcases hu.cases with ⟨hd, rfl⟩ | ⟨hd, rfl⟩ | ⟨hd, a, rfl, ha⟩
  · rw [cmp_eqI, decide_eq_false (num_ne0 hx_is_integer)]; exact hQ
  · rw [cmp_eqD (d := .tuple [.int q.num, .int q.den]) rfl dat_int (by unfold SeqAt.shaped; simp [PyData.canLay0, PyData.depth, PyData.depthAll, PyData.canLayAll0]) shaped_int]
    simpa [PyData.eqv] using hQ
  · rw [cmp_eqD (d := .list [.int q.num, .int q.den]) (dat_ints (cs := [q.num, q.den]) ha) dat_int (shaped_ints [q.num, q.den]) shaped_int]
    simpa [PyData.eqv] using hQ
theorem w15 (hx_is_list : Has Φ 2 (spTy isListB)) (hx_is_number : Has Φ 4 spIsNum) (hx_is_within : Has Φ 1 spWithin) : Kp C Φ c15 N15 spTerm := by
  rintro args G Q ⟨u, t, rfl, hu, ⟨hd, hx_is_integer⟩, hQ⟩
  obtain ⟨w, hw, hu⟩ := hu
  have hz := size_big
  have one : ∀ {v : PV} {m : Nat} {G0 : Cl.PG}, m ≤ 6 → ∀ {D : Addr} (acc : List PV) (R : WK), R (.bl true) (pup G0 D (.lst acc)) → gN 1 (.int (m : Nat)) [some v, none] (pup G0 D (.lst acc)) fun ρ1 G1 =>
      (wCall (Φ 1) (wCons (wVar 1) (wCons (wC (PV.int 0)) (wCons (wC (PV.int 6)) wNil)))) ρ1 G1 R := by
    intro v m G0 hm D acc R hR
    k_call_by "EX" []
    refine hx_is_within _ _ _ ⟨m, 0, .inr ⟨6, rfl, ?_⟩⟩
    rw [decide_eq_true (show (0 : Int) ≤ (m : Nat) by omega), decide_eq_true (show ((m : Nat) : Int) ≤ 6 by omega)]
    exact hR
  have pt : ∀ (v : PV) (ws : Ws) (G0 : Cl.PG) (K : List PV → Cl.PG → Prop), (∀ {acc} D, G0 D = none → watch ws (pup G0 D (.lst acc))) → K [.bl true, .bl true] G0 → ∀ D, G0 D = none → lcL ws (gN 1) tsYes (wCall (Φ 1) (wCons (wVar 1) (wCons (wC (PV.int 0)) (wCons (wC (PV.int 6)) wNil)))) [some v, none] D (fun G2 => match G2 D with | some (PO.lst acc) => K acc (pdel G2 D) | _ => False) [.int t.i, .int t.j] (pup G0 D (PO.lst [])) := by
    intro v ws G0 K hw hK D hD
    refine lcQ_pairs (Q := K) hD (fun acc => hw D hD) [(.int t.i, .bl true), (.int t.j, .bl true)] (by simp; omega) (fun p hp acc R hR => ?_) hK
    simp only [List.mem_cons, List.not_mem_nil, or_false] at hp
    rcases hp with rfl | rfl
    · exact one (by omega) acc R hR
    · exact one (by omega) acc R hR
  have hd' : (t.i : Int) + (t.j : Int) ≤ 6 := by omega
  have cut2 : ∀ {a b c : PV}, cutP [a, b, c] none (some 2) = [a, b] := fun {a b c} => rfl
  unfold c15 l15
  rcases hu with rfl | ⟨a, rfl, ha⟩
  · rw [wSs_cons]
    k_call_by "EX" [N15, Γ_phi]
    refine hx_is_list _ _ _ ⟨_, "tuple", rfl, rfl, .inr (.inr rfl), ?_⟩
    k_call_by "EX" [isListB]
    refine hx_is_number _ _ _ ⟨_, t.q, rfl, hw, ?_⟩
    k_call_by "EX" []
    refine cmp_num0 hw hx_is_integer ?_
    k_call_by "EX" []
    rw [wSs_nil]; dsimp only
    rw [wSs_cons]
    k_call_by "EX" [Γ_phi, Γ_cst, decide_eq_true hd', cut2]
    refine ⟨by decide, ?_⟩
    refine pt _ _ G (fun acc G2 => match bools acc with | some bs => (match some (bs.all fun b => b) with | some true => Q (PV.bl true) G2 | some false => Q (PV.bl (bs.all fun b => b)) G2 | none => False) | none => False) ?_ ?_
    · exact fun _ _ => watch_nil
    · exact hQ _ .refl
  · rw [wSs_cons]
    k_call_by "EX" [N15, Γ_phi]
    refine hx_is_list _ _ _ ⟨_, "list", rfl, tyOf_lst ha, .inr (.inl rfl), ?_⟩
    k_call_by "EX" [isListB]
    rw [bLen_lst ha]
    k_call_by "EX" [ix_l0 ha, ix_l1 ha, ix_l2 ha]
    refine hx_is_number _ _ _ ⟨_, t.q, rfl, hw, ?_⟩
    k_call_by "EX" [ix_l0 ha, ix_l1 ha, ix_l2 ha]
    refine cmp_num0 hw hx_is_integer ?_
    k_call_by "EX" []
    rw [wSs_nil]; dsimp only
    rw [wSs_cons]
    k_call_by "EX" [Γ_phi, ha, Γ_cst, cut2]
    intro p hp
    rw [pup_same]
    have hap : a ≠ p := fun z => by subst z; rw [ha] at hp; cases hp
    have ha' : pup G p (PO.lst [PV.int ↑t.i, PV.int ↑t.j]) a = some (PO.lst [PV.int ↑t.i, PV.int ↑t.j, w]) := by rw [pup_ne hap]; exact ha
    dsimp only
    refine pt _ _ _ (fun acc G2 => match bools acc with | some bs => (match some (bs.all fun b => b) with | some true => (Cl.wIdx (.ref a) (.int 0) G2 fun x G3 => Cl.wIdx (.ref a) (.int 1) G3 fun y G4 => Cl.wBin .Add x y G4 fun z G5 => Cl.wCmp .LtE z (.int 6) G5 Q) | some false => Q (PV.bl (bs.all fun b => b)) G2 | none => False) | none => False) ?_ ?_
    · exact fun D hD => watch_one (Ext.new hD _ _ pup_same)
    · show Cl.wIdx (.ref a) (.int 0) _ _
      k_call_by "EX" [ix_l0 ha', ix_l1 ha', decide_eq_true hd']
      exact hQ _ (.new hp)
end
end K51
set_option Elab.async false
set_option linter.all false
set_option maxRecDepth 100000
set_option maxHeartbeats 1000000
set_option exponentiation.threshold 10000
namespace K51
open PySem PySem.Spec PyProof.Rows L2 Cl
-- M0
local macro_rules | `(tactic| k_call_by "EY" [$as,*]) => `(tactic| simp only [Cl.L, Cl.LG, List.foldr_cons, List.foldr_nil, Cl.wSt, Cl.wE, Cl.wEs, Cl.wTs, Cl.wOp, Cl.wQ, Cl.wS, Cl.wI, Cl.wG, Cl.wGs, Cl.CGs.len, Cl.sRet, Cl.sRetN, Cl.sNext, Cl.sIf, Cl.sAsg, Cl.wipeR, Cl.sDrop, Cl.sPar2, Cl.sBrk, Cl.sCont, Cl.wAnd, Cl.wOr, Cl.wIf, Cl.wNot, Cl.wNeg, Cl.wVar, Cl.wC, Cl.Cn.pv, Cl.w2, Cl.w3, Cl.wTup, Cl.wLst, Cl.wNil, Cl.wCons, Cl.wCall, Cl.wMake, Cl.wB, Cl.Bi.r, Cl.bAbs, Cl.bInt, Cl.bLen_tup, Cl.bLen_rl, Cl.wIsi, Cl.CTy.p, Cl.startP, List.map_cons, List.map_nil, List.getElem?_cons_zero, List.getElem?_cons_succ, List.set_cons_zero, List.set_cons_succ, List.cons_append, List.nil_append, List.length_cons, List.length_nil, Nat.reduceAdd, Nat.reduceSub, Nat.zero_add, List.replicate, List.any_cons, List.any_nil, Cl.isOne, Cl.tru_bl, Cl.tru_int, Cl.tyOf_bl, Cl.tyOf_int, Cl.tyOf_tup, Cl.tyOf_rl, Cl.tyOf_non, Cl.cmp_lt, Cl.cmp_le, Cl.cmp_gt, Cl.cmp_ge, Cl.cmp_is, Cl.cmp_eqI, Cl.cmp_neI, Cl.at_0, Cl.at_1, Cl.at_2, true_and, and_true, Option.map_some, Option.getD_some, Cl.wTupOf, Cl.wLstOf, Cl.sFor, Cl.seqOf_tup, Cl.seqOf_rl, Cl.tsOne, Cl.wSeq, Cl.wSeqL, Cl.wFld, Cl.sFldP, Cl.wSlice, Cl.wPart, Cl.wNoP, Cl.wRev, Cl.Ag.w, Cl.wAll, Cl.wAny, Cl.wMax, Cl.wMin, Cl.wSum, Cl.wMaxC, Cl.wCallK, Cl.gP, Cl.bi_add, Cl.bi_sub, Cl.bi_mul, Cl.bi_div, Cl.bi_mod, Cl.bi_pow, Cl.ix_t0, Cl.ix_t1, Cl.ix_t2, Cl.ni1, Cl.ni2, Cl.ni3, decide_true, eq_self, Cl.b_o, String.reduceBEq, Bool.or_false, Bool.false_or, Bool.true_or, Bool.or_true, Bool.false_and, Bool.true_and, Bool.and_false, Bool.not_true, Bool.not_false, Cl.wSi, Cl.wStar, Cl.wMeth, Cl.iVal_ap, Cl.iEnm_ap, Cl.iZp_ap, Cl.iR1_ap, Cl.iR2_ap, Cl.iR3_ap, Cl.itV_tup, Cl.itV_rl, Cl.itE_tup, Cl.itZ_tup, Cl.itR_int, Cl.itR2_int, Cl.lcQ_iVal, Cl.lcQ_iEnm, Cl.lcQ_iZp, Cl.lcQ_iR1, Cl.lcQ_iR2, Cl.lc_iVal, Cl.lc_iEnm, Cl.lc_iZp, Cl.lc_iR1, Cl.lc_iR2, Cl.dc_iVal, Cl.gN_ap, Cl.gC_ap, Cl.gZ_ap, Cl.gTp2, Cl.gTp3, Cl.gTp4, Cl.gS_ap, Cl.tsYes_ap, $[$as:term],*])
-- M1
theorem bcoef_all {P : Rat → Prop} {bk : List BE} (h : ∀ t ∈ bk, P t.c ∧ P t.s) (h0 : P 0) (p q : Int) : P (bcoef bk p q).1 ∧ P (bcoef bk p q).2 := by
  unfold bcoef
  split
  · rename_i t e; exact h t (List.mem_of_find?_eq_some e)
  · exact ⟨h0, h0⟩
theorem sml_0 : Sml 0 := ⟨by decide, by decide⟩
theorem sml_neg {q : Rat} (h : Sml q) : Sml (-q) := ⟨by simpa using h.1, by simpa using h.2⟩
def spPut : PSp := fun args G Q => ∃ a bk p q c s, args = [.ref a, .tup [.int p, .int q], num c, num s] ∧ G a = some (.dT (bk.map bent)) ∧ bk.length < 1000000 ∧ (∀ t ∈ bk, Sml t.c ∧ Sml t.s) ∧ Sml c ∧ Sml s ∧ Q .non (pup G a (.dT ((bput bk p q c s).map bent)))
section
variable {C : Nat → Addr} {Φ : Nat → PSp}
theorem w21 (hadd : Has Φ 10 spAdd) (hneg : Has Φ 11 spNeg) : Kp C Φ c21 N21 spPut := by
  rintro args G Q ⟨a, bk, p, q, c, s, rfl, hd, hl, hb, hc, hs, hQ⟩
  have hz := size_big
  have key : ∀ (p q : Int) (s : Rat), Sml s → Q .non (pup G a (.dT ((bset bk p q ((bcoef bk p q).1 + c) ((bcoef bk p q).2 + s)).map bent))) → wSs (Γ C Φ) (B (l21.drop 1)) { nx := fun _ G' => Q .non G', rt := Q } [some (.ref a), some (.tup [.int p, .int q]), some (num c), some (num s), none] G := by
    intro p q s hs hQ
    obtain ⟨k1, k2⟩ := bcoef_all (P := Sml) hb sml_0 p q
    (rw [Cl.wSs_at (l := l21) (k := 1) rfl]; k_call_by "EY" [Γ_phi, Cl.wGet2, hd])
    refine ⟨two_le, get_T hd (nks_beat p q) (beat_depth p q) ?_⟩
    rw [show NestedKey.tup [.num p, .num q] = bkey p q from rfl, dLook_bcoef]
    (rw [Cl.wSs_at (l := l21) (k := 2) rfl]; k_call_by "EY" [Γ_phi])
    refine hadd _ _ _ ⟨_, _, rfl, k1, hc, hadd _ _ _ ⟨_, _, rfl, k2, hs, two_le, set_T hd (nks_beat p q) (beat_depth p q) (by rw [List.length_map]; omega) ?_⟩⟩
    rw [show NestedKey.tup [.num p, .num q] = bkey p q from rfl, dPut_bent]
    rw [wSs_end (l := l21) (k := 3) rfl]
    exact hQ
  unfold bput at hQ
  refine wSs_0 (l := l21) ?_
  (rw [Cl.wSs_at (l := l21) (k := 0) rfl]; k_call_by "EY" [N21, Γ_phi, Γ_cst])
  refine beat_lt0 ?_
  rw [tru_bl]
  cases hn : nbeat p q with
  | true =>
    rw [if_pos hn] at hQ
    dsimp only
    (rw [Cl.wSs_cons]; k_call_by "EY" [Γ_phi])
    refine ⟨two_le, hneg _ _ _ ⟨s, rfl, ?_⟩⟩
    k_call_by "EY" []
    rw [wSs_nil]
    exact key (-p) (-q) (-s) (sml_neg hs) hQ
  | false =>
    rw [if_neg (by rw [hn]; exact Bool.false_ne_true)] at hQ
    dsimp only
    rw [wSs_nil]
    exact key p q s hs hQ
end
end K51
set_option Elab.async false
set_option linter.all false
set_option maxRecDepth 100000
set_option maxHeartbeats 1000000
set_option exponentiation.threshold 10000
namespace K51
open PySem PySem.Spec PyProof.Rows L2 Cl
-- M0
local macro_rules | `(tactic| k_call_by "EV" [$as,*]) => `(tactic| simp only [Cl.B, Cl.L, Cl.LG, List.foldr_cons, List.foldr_nil, Cl.wSs, Cl.wSt, Cl.wE, Cl.wEs, Cl.wTs, Cl.wOp, Cl.wQ, Cl.wS, Cl.wI, Cl.wG, Cl.wGs, Cl.CGs.len, Cl.sSeq, Cl.sRet, Cl.sRetN, Cl.sNext, Cl.sIf, Cl.sAsg, Cl.wLc, Cl.wLcQ, Cl.wipeR, Cl.sDrop, Cl.sPar2, Cl.sBrk, Cl.sCont, Cl.gN, Cl.gTp, Cl.gC, Cl.gZ, Cl.gS, Cl.wAnd, Cl.wOr, Cl.wIf, Cl.wNot, Cl.wNeg, Cl.wVar, Cl.wC, Cl.Cn.pv, Cl.w2, Cl.w3, Cl.wBin, Cl.wIdx, Cl.wSet, Cl.wTup, Cl.wLst, Cl.wNil, Cl.wCons, Cl.wCall, Cl.wMake, Cl.wB, Cl.Bi.r, Cl.bAbs, Cl.bInt, Cl.bLen_tup, Cl.bLen_rl, Cl.wIsi, Cl.CTy.p, Cl.startP, List.map_cons, List.map_nil, List.getElem?_cons_zero, List.getElem?_cons_succ, List.set_cons_zero, List.set_cons_succ, List.cons_append, List.nil_append, List.length_cons, List.length_nil, Nat.reduceAdd, Nat.reduceSub, Nat.zero_add, List.replicate, List.any_cons, List.any_nil, Cl.isOne, Cl.tru_bl, Cl.tru_int, Cl.tyOf_bl, Cl.tyOf_int, Cl.tyOf_tup, Cl.tyOf_rl, Cl.tyOf_non, Cl.cmp_lt, Cl.cmp_le, Cl.cmp_gt, Cl.cmp_ge, Cl.cmp_is, Cl.cmp_eqI, Cl.cmp_neI, Cl.at_0, Cl.at_1, Cl.at_2, true_and, and_true, Option.map_some, Option.getD_some, Cl.wTupOf, Cl.wLstOf, Cl.sFor, Cl.iVal, Cl.iEnm, Cl.iR1, Cl.iR2, Cl.iZp, Cl.seqOf_tup, Cl.seqOf_rl, Cl.tsYes, Cl.tsOne, Cl.wSeq, Cl.wSeqL, Cl.wFld, Cl.sFldP, Cl.wSlice, Cl.wPart, Cl.wNoP, Cl.wRev, Cl.Ag.w, Cl.wAll, Cl.wAny, Cl.wMax, Cl.wMin, Cl.wSum, Cl.wMaxC, Cl.wCallK, Cl.gP, $[$as:term],*])
local macro_rules | `(tactic| k_call_by "ET" [$as,*]) => `(tactic| simp only [Cl.B, Cl.L, Cl.LG, List.foldr_cons, List.foldr_nil, Cl.wSs, Cl.wSt, Cl.wE, Cl.wEs, Cl.wTs, Cl.wOp, Cl.wQ, Cl.wS, Cl.wI, Cl.wG, Cl.wGs, Cl.CGs.len, Cl.sSeq, Cl.sRet, Cl.sRetN, Cl.sNext, Cl.sIf, Cl.sAsg, Cl.wLc, Cl.wLcQ, Cl.wipeR, Cl.sDrop, Cl.sPar2, Cl.sBrk, Cl.sCont, Cl.gN, Cl.gTp, Cl.gC, Cl.gZ, Cl.gS, Cl.wAnd, Cl.wOr, Cl.wIf, Cl.wNot, Cl.wNeg, Cl.wVar, Cl.wC, Cl.Cn.pv, Cl.w2, Cl.w3, Cl.wSet, Cl.wTup, Cl.wLst, Cl.wNil, Cl.wCons, Cl.wCall, Cl.wMake, Cl.wB, Cl.Bi.r, Cl.bAbs, Cl.bInt, Cl.bLen_tup, Cl.bLen_rl, Cl.wIsi, Cl.CTy.p, Cl.startP, List.map_cons, List.map_nil, List.getElem?_cons_zero, List.getElem?_cons_succ, List.set_cons_zero, List.set_cons_succ, List.cons_append, List.nil_append, List.length_cons, List.length_nil, Nat.reduceAdd, Nat.reduceSub, Nat.zero_add, List.replicate, List.any_cons, List.any_nil, Cl.isOne, Cl.tru_bl, Cl.tru_int, Cl.tyOf_bl, Cl.tyOf_int, Cl.tyOf_tup, Cl.tyOf_rl, Cl.tyOf_non, Cl.cmp_lt, Cl.cmp_le, Cl.cmp_gt, Cl.cmp_ge, Cl.cmp_is, Cl.cmp_eqI, Cl.cmp_neI, Cl.at_0, Cl.at_1, Cl.at_2, true_and, and_true, Option.map_some, Option.getD_some, Cl.wTupOf, Cl.wLstOf, Cl.sFor, Cl.iVal, Cl.iEnm, Cl.iR1, Cl.iR2, Cl.iZp, Cl.seqOf_tup, Cl.seqOf_rl, Cl.tsYes, Cl.tsOne, Cl.wSeq, Cl.wSeqL, Cl.wFld, Cl.sFldP, Cl.wSlice, Cl.wPart, Cl.wNoP, Cl.wRev, Cl.Ag.w, Cl.wAll, Cl.wAny, Cl.wMax, Cl.wMin, Cl.wSum, Cl.wMaxC, Cl.wCallK, Cl.gP, Cl.bi_add, Cl.bi_sub, Cl.bi_mul, Cl.bi_div, Cl.bi_mod, Cl.bi_pow, Cl.ix_t0, Cl.ix_t1, Cl.ix_t2, Cl.ni1, Cl.ni2, Cl.ni3, decide_true, eq_self, Cl.b_o, String.reduceBEq, Bool.or_false, Bool.false_or, Bool.true_or, Bool.or_true, Bool.false_and, Bool.true_and, Bool.and_false, Bool.not_true, Bool.not_false, $[$as:term],*])
local macro_rules | `(tactic| k_call_by "EY" [$as,*]) => `(tactic| simp only [Cl.L, Cl.LG, List.foldr_cons, List.foldr_nil, Cl.wSt, Cl.wE, Cl.wEs, Cl.wTs, Cl.wOp, Cl.wQ, Cl.wS, Cl.wI, Cl.wG, Cl.wGs, Cl.CGs.len, Cl.sRet, Cl.sRetN, Cl.sNext, Cl.sIf, Cl.sAsg, Cl.wipeR, Cl.sDrop, Cl.sPar2, Cl.sBrk, Cl.sCont, Cl.wAnd, Cl.wOr, Cl.wIf, Cl.wNot, Cl.wNeg, Cl.wVar, Cl.wC, Cl.Cn.pv, Cl.w2, Cl.w3, Cl.wTup, Cl.wLst, Cl.wNil, Cl.wCons, Cl.wCall, Cl.wMake, Cl.wB, Cl.Bi.r, Cl.bAbs, Cl.bInt, Cl.bLen_tup, Cl.bLen_rl, Cl.wIsi, Cl.CTy.p, Cl.startP, List.map_cons, List.map_nil, List.getElem?_cons_zero, List.getElem?_cons_succ, List.set_cons_zero, List.set_cons_succ, List.cons_append, List.nil_append, List.length_cons, List.length_nil, Nat.reduceAdd, Nat.reduceSub, Nat.zero_add, List.replicate, List.any_cons, List.any_nil, Cl.isOne, Cl.tru_bl, Cl.tru_int, Cl.tyOf_bl, Cl.tyOf_int, Cl.tyOf_tup, Cl.tyOf_rl, Cl.tyOf_non, Cl.cmp_lt, Cl.cmp_le, Cl.cmp_gt, Cl.cmp_ge, Cl.cmp_is, Cl.cmp_eqI, Cl.cmp_neI, Cl.at_0, Cl.at_1, Cl.at_2, true_and, and_true, Option.map_some, Option.getD_some, Cl.wTupOf, Cl.wLstOf, Cl.sFor, Cl.seqOf_tup, Cl.seqOf_rl, Cl.tsOne, Cl.wSeq, Cl.wSeqL, Cl.wFld, Cl.sFldP, Cl.wSlice, Cl.wPart, Cl.wNoP, Cl.wRev, Cl.Ag.w, Cl.wAll, Cl.wAny, Cl.wMax, Cl.wMin, Cl.wSum, Cl.wMaxC, Cl.wCallK, Cl.gP, Cl.bi_add, Cl.bi_sub, Cl.bi_mul, Cl.bi_div, Cl.bi_mod, Cl.bi_pow, Cl.ix_t0, Cl.ix_t1, Cl.ix_t2, Cl.ni1, Cl.ni2, Cl.ni3, decide_true, eq_self, Cl.b_o, String.reduceBEq, Bool.or_false, Bool.false_or, Bool.true_or, Bool.or_true, Bool.false_and, Bool.true_and, Bool.and_false, Bool.not_true, Bool.not_false, Cl.wSi, Cl.wStar, Cl.wMeth, Cl.iVal_ap, Cl.iEnm_ap, Cl.iZp_ap, Cl.iR1_ap, Cl.iR2_ap, Cl.iR3_ap, Cl.itV_tup, Cl.itV_rl, Cl.itE_tup, Cl.itZ_tup, Cl.itR_int, Cl.itR2_int, Cl.lcQ_iVal, Cl.lcQ_iEnm, Cl.lcQ_iZp, Cl.lcQ_iR1, Cl.lcQ_iR2, Cl.lc_iVal, Cl.lc_iEnm, Cl.lc_iZp, Cl.lc_iR1, Cl.lc_iR2, Cl.dc_iVal, Cl.gN_ap, Cl.gC_ap, Cl.gZ_ap, Cl.gTp2, Cl.gTp3, Cl.gTp4, Cl.gS_ap, Cl.tsYes_ap, $[$as:term],*])
-- M1
def spSizeOf : PSp := fun args G Q => ∃ p q : Int, args = [.tup [.int p, .int q]] ∧ Q (.int ((p.natAbs : Int) + q.natAbs)) G
/-- a beat as it is kept -/
structure BtOk (d : Nat) (t : BE) : Prop where
  up : 0 < t.p ∨ (t.p = 0 ∧ 0 < t.q)
  sz : t.p.natAbs + t.q.natAbs ≤ d
def spBeat : PSp := fun args G Q => ∃ p q : Int, args = [.tup [.int p, .int q]] ∧ (0 < p ∨ (p = 0 ∧ 0 < q)) ∧ p.natAbs + q.natAbs ≤ 6 ∧ ∀ G', Ext G G' → Q (.bl true) G'
def spRow : PSp := fun args G Q => ∃ t : BE, args = [rowP t] ∧ BtOk 6 t ∧ ¬ (t.c = 0 ∧ t.s = 0) ∧ ∀ G', Ext G G' → Q (.bl true) G'
def spNeedNum : PSp := fun args G Q => ∃ q z, args = [num q, .str z] ∧ Q (num q) G
section
variable {C : Nat → Addr} {Φ : Nat → PSp}
theorem w17 : Kp C Φ c17 N17 spSizeOf := by
  rintro args G Q ⟨p, q, rfl, hQ⟩
  k_call_by "ET" [c17, l17, N17]
  exact hQ
theorem w6 (hnum : Has Φ 4 spIsNum) (hkept : Has Φ 5 spKept) : Kp C Φ c6 N6 spNeedNum := by
  rintro args G Q ⟨q, z, rfl, hQ⟩
  k_call_by "EV" [c6, l6, N6, Γ_phi]
  refine hnum _ _ _ ⟨_, q, rfl, .inl rfl, ?_⟩
  k_call_by "ET" []
  exact hkept _ _ _ ⟨_, q, rfl, .inl rfl, hQ⟩
theorem w18 (hl : Has Φ 2 (spTy isListB)) (hw : Has Φ 1 spWithin) (hs : Has Φ 17 spSizeOf) : Kp C Φ c18 N18 spBeat := by
  rintro args G Q ⟨p, q, rfl, hup, hsz, hQ⟩
  unfold c18 l18
  (rw [Cl.wSs_cons]; k_call_by "EY" [N18, Γ_phi])
  refine hl _ _ _ ⟨_, "tuple", rfl, rfl, .inr (.inr rfl), ?_⟩
  k_call_by "EY" [isListB, itV_tup, Γ_cst]
  refine lcQ_ext (ys := [.bl true, .bl true]) (fun _ _ => watch_nil) (by simp) rfl (fun k v y h1 h2 G' e R hR => ?_) fun G1 e1 => ?_
  · have hv : ∃ i : Int, v = .int i ∧ i.natAbs ≤ 6 ∧ y = .bl true := by
      match k, h1, h2 with
      | 0, h1, h2 => cases h1; cases h2; exact ⟨p, rfl, by omega, rfl⟩
      | 1, h1, h2 => cases h1; cases h2; exact ⟨q, rfl, by omega, rfl⟩
      | k + 2, h1, h2 => simp at h1
    obtain ⟨i, rfl, hi, rfl⟩ := hv
    k_call_by "EY" []
    refine hw _ _ _ ⟨i, -6, .inr ⟨6, rfl, ?_⟩⟩
    rw [decide_eq_true (show (-6 : Int) ≤ i by omega), decide_eq_true (show i ≤ (6 : Int) by omega)]
    exact hR _ .refl
  k_call_by "EY" [bools, List.all_cons, List.all_nil]
  rw [wSs_nil]; dsimp only
  (rw [Cl.wSs_cons]; k_call_by "EY" [Γ_phi, Γ_cst])
  refine hs _ _ _ ⟨p, q, rfl, ?_⟩
  k_call_by "EY" [decide_eq_true (show ((p.natAbs : Int) + (q.natAbs : Int)) ≤ 6 by omega)]
  exact beat_gt0 hup (hQ _ e1)
theorem w19 (hl : Has Φ 2 (spTy isListB)) (hb : Has Φ 18 spBeat) (hn : Has Φ 4 spIsNum) : Kp C Φ c19 N19 spRow := by
  rintro args G Q ⟨t, rfl, hok, hne, hQ⟩
  unfold c19 l19
  (rw [Cl.wSs_cons]; k_call_by "EY" [N19, Γ_phi, rowP])
  refine hl _ _ _ ⟨_, "tuple", rfl, rfl, .inr (.inr rfl), ?_⟩
  k_call_by "EY" [isListB]
  refine hb _ _ _ ⟨t.p, t.q, rfl, hok.up, hok.sz, fun G1 e1 => ?_⟩
  k_call_by "EY" []
  rw [wSs_nil]; dsimp only
  (rw [Cl.wSs_cons]; k_call_by "EY" [Γ_phi])
  have hc : cutP [PV.tup [.int t.p, .int t.q], num t.c, num t.s] (some 1) none = [num t.c, num t.s] := rfl
  k_call_by "EY" [hc, itV_tup]
  refine ⟨by decide, ?_⟩
  refine lcQ_ext (ys := [.bl true, .bl true]) (fun _ _ => watch_nil) (by simp) rfl (fun k v y h1 h2 G' e R hR => ?_) fun G2 e2 => ?_
  · have hv : ∃ i : Rat, v = num i ∧ y = .bl true := by
      match k, h1, h2 with
      | 0, h1, h2 => cases h1; cases h2; exact ⟨_, rfl, rfl⟩
      | 1, h1, h2 => cases h1; cases h2; exact ⟨_, rfl, rfl⟩
      | k + 2, h1, h2 => simp at h1
    obtain ⟨i, rfl, rfl⟩ := hv
    k_call_by "EY" []
    exact hn _ _ _ ⟨_, i, rfl, .inl rfl, hR _ .refl⟩
  k_call_by "EY" [bools, List.all_cons, List.all_nil]
  rw [cmp_eq0, tru_bl]
  by_cases h : t.c = 0
  · simp only [decide_eq_true h]
    rw [cmp_eq0]
    have h2 : ¬ t.s = 0 := fun z => hne ⟨h, z⟩
    simp only [decide_eq_false h2]
    exact hQ _ (e1.trans e2)
  · simp only [decide_eq_false h]
    exact hQ _ (e1.trans e2)
end
end K51
set_option Elab.async false
set_option linter.all false
set_option maxRecDepth 100000
set_option maxHeartbeats 1000000
set_option exponentiation.threshold 10000
namespace K51
open PySem PySem.Spec PyProof.Rows L2 Cl
-- M0
local macro_rules | `(tactic| k_call_by "EY" [$as,*]) => `(tactic| simp only [Cl.L, Cl.LG, List.foldr_cons, List.foldr_nil, Cl.wSt, Cl.wE, Cl.wEs, Cl.wTs, Cl.wOp, Cl.wQ, Cl.wS, Cl.wI, Cl.wG, Cl.wGs, Cl.CGs.len, Cl.sRet, Cl.sRetN, Cl.sNext, Cl.sIf, Cl.sAsg, Cl.wipeR, Cl.sDrop, Cl.sPar2, Cl.sBrk, Cl.sCont, Cl.wAnd, Cl.wOr, Cl.wIf, Cl.wNot, Cl.wNeg, Cl.wVar, Cl.wC, Cl.Cn.pv, Cl.w2, Cl.w3, Cl.wTup, Cl.wLst, Cl.wNil, Cl.wCons, Cl.wCall, Cl.wMake, Cl.wB, Cl.Bi.r, Cl.bAbs, Cl.bInt, Cl.bLen_tup, Cl.bLen_rl, Cl.wIsi, Cl.CTy.p, Cl.startP, List.map_cons, List.map_nil, List.getElem?_cons_zero, List.getElem?_cons_succ, List.set_cons_zero, List.set_cons_succ, List.cons_append, List.nil_append, List.length_cons, List.length_nil, Nat.reduceAdd, Nat.reduceSub, Nat.zero_add, List.replicate, List.any_cons, List.any_nil, Cl.isOne, Cl.tru_bl, Cl.tru_int, Cl.tyOf_bl, Cl.tyOf_int, Cl.tyOf_tup, Cl.tyOf_rl, Cl.tyOf_non, Cl.cmp_lt, Cl.cmp_le, Cl.cmp_gt, Cl.cmp_ge, Cl.cmp_is, Cl.cmp_eqI, Cl.cmp_neI, Cl.at_0, Cl.at_1, Cl.at_2, true_and, and_true, Option.map_some, Option.getD_some, Cl.wTupOf, Cl.wLstOf, Cl.sFor, Cl.seqOf_tup, Cl.seqOf_rl, Cl.tsOne, Cl.wSeq, Cl.wSeqL, Cl.wFld, Cl.sFldP, Cl.wSlice, Cl.wPart, Cl.wNoP, Cl.wRev, Cl.Ag.w, Cl.wAll, Cl.wAny, Cl.wMax, Cl.wMin, Cl.wSum, Cl.wMaxC, Cl.wCallK, Cl.gP, Cl.bi_add, Cl.bi_sub, Cl.bi_mul, Cl.bi_div, Cl.bi_mod, Cl.bi_pow, Cl.ix_t0, Cl.ix_t1, Cl.ix_t2, Cl.ni1, Cl.ni2, Cl.ni3, decide_true, eq_self, Cl.b_o, String.reduceBEq, Bool.or_false, Bool.false_or, Bool.true_or, Bool.or_true, Bool.false_and, Bool.true_and, Bool.and_false, Bool.not_true, Bool.not_false, Cl.wSi, Cl.wStar, Cl.wMeth, Cl.iVal_ap, Cl.iEnm_ap, Cl.iZp_ap, Cl.iR1_ap, Cl.iR2_ap, Cl.iR3_ap, Cl.itV_tup, Cl.itV_rl, Cl.itE_tup, Cl.itZ_tup, Cl.itR_int, Cl.itR2_int, Cl.lcQ_iVal, Cl.lcQ_iEnm, Cl.lcQ_iZp, Cl.lcQ_iR1, Cl.lcQ_iR2, Cl.lc_iVal, Cl.lc_iEnm, Cl.lc_iZp, Cl.lc_iR1, Cl.lc_iR2, Cl.dc_iVal, Cl.gN_ap, Cl.gC_ap, Cl.gZ_ap, Cl.gTp2, Cl.gTp3, Cl.gTp4, Cl.gS_ap, Cl.tsYes_ap, $[$as:term],*])
-- M1
structure RsOk (d : Nat) (bk : List BE) : Prop where
  ok : ∀ t ∈ bk, BtOk d t ∧ ¬ (t.c = 0 ∧ t.s = 0)
  nd : BNd bk
  ln : bk.length < 1000000
def wavF (k : Rat) (bk : List BE) (sz : Int) : List (Str × PV) := [(Str.ofString "constant", num k), (Str.ofString "rows", .tup (bk.map rowP)), (Str.ofString "size", .int sz)]
def IsWav (A : Addr) (v : PV) (k : Rat) (bk : List BE) (G : Cl.PG) : Prop := ∃ p sz, v = .ref p ∧ G p = some (.ins A (wavF k bk sz))
theorem IsWav.ext {A : Addr} {v : PV} {k : Rat} {bk : List BE} {G G' : Cl.PG} (h : IsWav A v k bk G) (e : Ext G G') : IsWav A v k bk G' := by
  obtain ⟨p, sz, h1, h2⟩ := h
  exact ⟨p, sz, h1, e _ _ h2⟩
def spWavI (A : Addr) : PSp := fun args G Q => ∃ p k v bk, args = [.ref p, num k, v] ∧ G p = some (.ins A []) ∧ SeqIs v (bk.map rowP) G ∧ RsOk 6 bk ∧
  ∀ G' bk' sz, bk'.Perm bk → bk'.Pairwise blt → ExtB p G G' → G' p = some (.ins A (wavF k bk' sz)) → Q .non G'
theorem seq_two {v : PV} {vs : List PV} {G : Cl.PG} (h : SeqIs v vs G) : ∃ n, tyOf v G = some (.b n) ∧ Three n ∧ isListB n = true := by
  obtain ⟨n, h1, h2⟩ := h.ty
  rcases h2 with rfl | rfl
  · exact ⟨_, h1, .inr (.inl rfl), rfl⟩
  · exact ⟨_, h1, .inr (.inr rfl), rfl⟩
theorem ints_map : ∀ is : List Int, intsOf (is.map .int) = some is
  | [] => rfl
  | i :: is => by rw [List.map_cons, intsOf, ints_map is]
section
variable {C : Nat → Addr} {Φ : Nat → PSp}
theorem w55 (hnum : Has Φ 6 spNeedNum) (hl : Has Φ 2 (spTy isListB)) (hrow : Has Φ 19 spRow) (hkept : Has Φ 5 spKept) (hsz : Has Φ 17 spSizeOf) : Kp C Φ c55 N55 (spWavI (C 0)) := by
  rintro args G Q ⟨p, k, v, bk, rfl, hp, hv, hok, hQ⟩
  have hz := size_big
  have hlen := hok.ln
  refine wSs_0 (l := l55) ?_
  (rw [Cl.wSs_at (l := l55) (k := 0) rfl]; k_call_by "EY" [N55, Γ_phi, Γ_flds])
  refine hnum _ _ _ ⟨k, _, rfl, ?_⟩
  k_call_by "EY" [hp]
  refine ⟨by simp, by simp, ?_⟩
  generalize hG1 : pup G p (PO.ins (C 0) (putP (Str.ofString "constant") (num k) [])) = G1
  have hp1 : G1 p = some (.ins (C 0) [(Str.ofString "constant", num k)]) := by rw [← hG1, pup_same]; rfl
  have eb1 : ExtB p G G1 := by rw [← hG1]; exact .upd
  have hv1 : SeqIs v (bk.map rowP) G1 := by
    rcases hv with hv | ⟨a, h1, h2⟩
    · exact .inl hv
    · exact .inr ⟨a, h1, eb1 _ _ (fun z => by subst z; rw [hp] at h2; cases h2) h2⟩
  (rw [Cl.wSs_at (l := l55) (k := 1) rfl]; k_call_by "EY" [Γ_phi])
  obtain ⟨n, t1, t2, t3⟩ := seq_two hv1
  refine hl _ _ _ ⟨_, n, rfl, t1, t2, ?_⟩
  rw [t3]
  obtain ⟨ws, hit⟩ := hv1.it
  k_call_by "EY" []
  refine (hit G1 .refl).2 _ ?_
  refine lcQ_ext (ys := List.replicate bk.length (.bl true)) (fun G' e => (hit G' e).1) (by rw [List.length_map]; omega) (by simp) (fun i w y h1 h2 G' e R hR => ?_) fun G2 e2 => ?_
  · rw [List.getElem?_map] at h1
    obtain ⟨t, ht, rfl⟩ := Option.map_eq_some_iff.mp h1
    rw [List.getElem?_replicate] at h2
    split at h2
    · cases h2
      k_call_by "EY" []
      obtain ⟨k1, k2⟩ := hok.ok t (List.mem_of_getElem? ht)
      exact hrow _ _ _ ⟨t, rfl, k1, k2, hR⟩
    · cases h2
  k_call_by "EY" [bools_true', all_true']
  rw [wSs_nil]; dsimp only
  (rw [Cl.wSs_at (l := l55) (k := 2) rfl]; k_call_by "EY" [Γ_phi])
  refine (hit G2 e2).2 _ ?_
  refine dc_inv (fun D n G' => Ext G2 G' ∧ G' D = some (.dT ((bk.take n).map bent))) (fun D hD => ⟨.new hD, pup_same⟩) (fun D hD i w G' R hk hI hR => ?_) fun D G3 hD hI => ?_
  · obtain ⟨hG, hd⟩ := hI
    rw [List.getElem?_map] at hk
    obtain ⟨t, ht, rfl⟩ := Option.map_eq_some_iff.mp hk
    refine ⟨(hit G' (e2.trans hG)).1, ?_⟩
    k_call_by "EY" [rowP]
    refine hkept _ _ _ ⟨_, t.c, rfl, .inl rfl, hkept _ _ _ ⟨_, t.s, rfl, .inl rfl, two_le, ?_⟩⟩
    refine put_T hd (nks_beat _ _) (beat_depth _ _) (by rw [List.length_map, List.length_take]; omega) (hR _ ⟨hG.updNew hD, ?_⟩)
    rw [pup_same, show NestedKey.tup [.num t.p, .num t.q] = bkey t.p t.q from rfl, dPut_bent]
    have e : bk.take (i + 1) = bk.take i ++ [t] := by rw [List.take_succ, ht]; rfl
    have hnd' : BNd (bk.take (i + 1)) := List.Pairwise.sublist (List.take_sublist _ _) hok.nd
    rw [e]
    rw [e] at hnd'
    rw [bset_new hnd']
  obtain ⟨hG, hd⟩ := hI
  rw [List.length_map, List.take_length] at hd
  have e3 := e2.trans hG
  refine ⟨(hit G3 e3).1, ?_⟩
  have hDp : p ≠ D := fun z => by subst z; rw [e2 _ _ hp1] at hD; cases hD
  have hp3 := e3 _ _ hp1
  (rw [Cl.wSs_at (l := l55) (k := 3) rfl]; k_call_by "EY" [])
  rw [bLen_dT hd]
  refine ⟨by rw [List.length_map]; omega, ?_⟩
  rw [(hv1.ext e3).len]
  k_call_by "EY" []
  rw [List.length_map, List.length_map]
  k_call_by "EY" []
  rw [wSs_nil]; dsimp only
  (rw [Cl.wSs_at (l := l55) (k := 4) rfl]; k_call_by "EY" [Γ_flds])
  refine sorted_B hd hok.nd (by omega) fun bk' pm hso q hq => ?_
  have hDq : D ≠ q := fun z => by subst z; rw [hd] at hq; cases hq
  have hpq : p ≠ q := fun z => by subst z; rw [hp3] at hq; cases hq
  have pml := pm.length_eq
  have hnd' := hok.nd.perm pm.symm
  rw [itV_lst pup_same]
  have hd3 : ∀ o, pup G3 q o D = some (.dT (bk.map bent)) := fun o => by rw [pup_ne hDq]; exact hd
  refine lcQ_ext (ys := bk'.map rowP) (fun G' e => watch_one (e _ _ pup_same)) (by rw [List.length_map]; omega) (by rw [List.length_map, List.length_map]) (fun i w y h1 h2 G' e R hR => ?_) fun G4 e4 => ?_
  · rw [List.getElem?_map] at h1 h2
    obtain ⟨t, ht, rfl⟩ := Option.map_eq_some_iff.mp h1
    rw [ht] at h2; cases h2
    have hm : t ∈ bk := pm.mem_iff.mp (List.mem_of_getElem? ht)
    k_call_by "EY" [beatP]
    refine ix_T (e _ _ (hd3 _)) (nks_beat _ _) (beat_depth _ _) (dLook_bget hok.nd hm) ?_
    k_call_by "EY" []
    exact ⟨by decide, hR _ .refl⟩
  have hp4 : G4 p = some (.ins (C 0) [(Str.ofString "constant", num k)]) := e4 _ _ (by rw [pup_ne hpq]; exact hp3)
  have hd4 : G4 D = some (.dT (bk.map bent)) := e4 _ _ (hd3 _)
  simp only [hp4]
  refine ⟨by simp, by simp, ?_⟩
  (rw [Cl.wSs_at (l := l55) (k := 5) rfl]; k_call_by "EY" [Γ_flds])
  have hpD' : ∀ o, pup G4 p o D = some (.dT (bk.map bent)) := fun o => by rw [pup_ne (Ne.symm hDp)]; exact hd4
  refine lcKeysQ_ext (ys := (bk.map fun t => ((t.p.natAbs : Int) + t.q.natAbs)).map PV.int) rfl (hpD' _) (by rw [List.length_map]; omega) (by simp) (fun i pr y h1 h2 G' e R hR => ?_) fun G5 e5 => ?_
  · rw [List.getElem?_map] at h1
    obtain ⟨t, ht, rfl⟩ := Option.map_eq_some_iff.mp h1
    rw [List.getElem?_map, List.getElem?_map, ht] at h2
    cases h2
    have ek : kpv (bent t).1 = .tup [.int t.p, .int t.q] := kpv_beat t.p t.q
    rw [ek]
    k_call_by "EY" []
    exact hsz _ _ _ ⟨t.p, t.q, rfl, hR _ .refl⟩
  have hp5 : G5 p = some (.ins (C 0) [(Str.ofString "constant", num k), (Str.ofString "rows", .tup (bk'.map rowP))]) := e5 _ _ pup_same
  have fin : ∀ z : Int, wSs (Γ C Φ) (B (List.drop 6 l55)) { nx := fun x G' => Q PV.non G', rt := Q } [some (PV.ref p), some (num k), some v, some (PV.ref D), none, none, none, none]
      (pup G5 p (PO.ins (C 0) (putP (Str.ofString "size") (.int z) [(Str.ofString "constant", num k), (Str.ofString "rows", .tup (bk'.map rowP))]))) := fun z => by
    rw [wSs_end (l := l55) (k := 6) rfl]
    refine hQ _ bk' z pm hso (fun x u hx hu => ?_) (by rw [pup_same]; rfl)
    rw [pup_ne hx]
    refine e5 _ _ ?_
    rw [pup_ne hx]
    exact e4 _ _ (Ext.new hq _ _ (e3 _ _ (eb1 _ _ hx hu)))
  rw [ints_map]
  cases (bk.map fun t => ((t.p.natAbs : Int) + t.q.natAbs)) with
  | nil =>
    simp only [hp5]
    exact ⟨by simp, by simp, fin _⟩
  | cons x xs =>
    simp only [hp5]
    exact ⟨by simp, by simp, fin _⟩
end
end K51
set_option Elab.async false
set_option linter.all false
set_option maxRecDepth 100000
set_option maxHeartbeats 1000000
set_option exponentiation.threshold 10000
namespace K51
open PySem PySem.Spec PyProof.Rows L2 Cl
-- M0
local macro_rules | `(tactic| k_call_by "EV" [$as,*]) => `(tactic| simp only [Cl.B, Cl.L, Cl.LG, List.foldr_cons, List.foldr_nil, Cl.wSs, Cl.wSt, Cl.wE, Cl.wEs, Cl.wTs, Cl.wOp, Cl.wQ, Cl.wS, Cl.wI, Cl.wG, Cl.wGs, Cl.CGs.len, Cl.sSeq, Cl.sRet, Cl.sRetN, Cl.sNext, Cl.sIf, Cl.sAsg, Cl.wLc, Cl.wLcQ, Cl.wipeR, Cl.sDrop, Cl.sPar2, Cl.sBrk, Cl.sCont, Cl.gN, Cl.gTp, Cl.gC, Cl.gZ, Cl.gS, Cl.wAnd, Cl.wOr, Cl.wIf, Cl.wNot, Cl.wNeg, Cl.wVar, Cl.wC, Cl.Cn.pv, Cl.w2, Cl.w3, Cl.wBin, Cl.wIdx, Cl.wSet, Cl.wTup, Cl.wLst, Cl.wNil, Cl.wCons, Cl.wCall, Cl.wMake, Cl.wB, Cl.Bi.r, Cl.bAbs, Cl.bInt, Cl.bLen_tup, Cl.bLen_rl, Cl.wIsi, Cl.CTy.p, Cl.startP, List.map_cons, List.map_nil, List.getElem?_cons_zero, List.getElem?_cons_succ, List.set_cons_zero, List.set_cons_succ, List.cons_append, List.nil_append, List.length_cons, List.length_nil, Nat.reduceAdd, Nat.reduceSub, Nat.zero_add, List.replicate, List.any_cons, List.any_nil, Cl.isOne, Cl.tru_bl, Cl.tru_int, Cl.tyOf_bl, Cl.tyOf_int, Cl.tyOf_tup, Cl.tyOf_rl, Cl.tyOf_non, Cl.cmp_lt, Cl.cmp_le, Cl.cmp_gt, Cl.cmp_ge, Cl.cmp_is, Cl.cmp_eqI, Cl.cmp_neI, Cl.at_0, Cl.at_1, Cl.at_2, true_and, and_true, Option.map_some, Option.getD_some, Cl.wTupOf, Cl.wLstOf, Cl.sFor, Cl.iVal, Cl.iEnm, Cl.iR1, Cl.iR2, Cl.iZp, Cl.seqOf_tup, Cl.seqOf_rl, Cl.tsYes, Cl.tsOne, Cl.wSeq, Cl.wSeqL, Cl.wFld, Cl.sFldP, Cl.wSlice, Cl.wPart, Cl.wNoP, Cl.wRev, Cl.Ag.w, Cl.wAll, Cl.wAny, Cl.wMax, Cl.wMin, Cl.wSum, Cl.wMaxC, Cl.wCallK, Cl.gP, $[$as:term],*])
local macro_rules | `(tactic| k_call_by "EY" [$as,*]) => `(tactic| simp only [Cl.L, Cl.LG, List.foldr_cons, List.foldr_nil, Cl.wSt, Cl.wE, Cl.wEs, Cl.wTs, Cl.wOp, Cl.wQ, Cl.wS, Cl.wI, Cl.wG, Cl.wGs, Cl.CGs.len, Cl.sRet, Cl.sRetN, Cl.sNext, Cl.sIf, Cl.sAsg, Cl.wipeR, Cl.sDrop, Cl.sPar2, Cl.sBrk, Cl.sCont, Cl.wAnd, Cl.wOr, Cl.wIf, Cl.wNot, Cl.wNeg, Cl.wVar, Cl.wC, Cl.Cn.pv, Cl.w2, Cl.w3, Cl.wTup, Cl.wLst, Cl.wNil, Cl.wCons, Cl.wCall, Cl.wMake, Cl.wB, Cl.Bi.r, Cl.bAbs, Cl.bInt, Cl.bLen_tup, Cl.bLen_rl, Cl.wIsi, Cl.CTy.p, Cl.startP, List.map_cons, List.map_nil, List.getElem?_cons_zero, List.getElem?_cons_succ, List.set_cons_zero, List.set_cons_succ, List.cons_append, List.nil_append, List.length_cons, List.length_nil, Nat.reduceAdd, Nat.reduceSub, Nat.zero_add, List.replicate, List.any_cons, List.any_nil, Cl.isOne, Cl.tru_bl, Cl.tru_int, Cl.tyOf_bl, Cl.tyOf_int, Cl.tyOf_tup, Cl.tyOf_rl, Cl.tyOf_non, Cl.cmp_lt, Cl.cmp_le, Cl.cmp_gt, Cl.cmp_ge, Cl.cmp_is, Cl.cmp_eqI, Cl.cmp_neI, Cl.at_0, Cl.at_1, Cl.at_2, true_and, and_true, Option.map_some, Option.getD_some, Cl.wTupOf, Cl.wLstOf, Cl.sFor, Cl.seqOf_tup, Cl.seqOf_rl, Cl.tsOne, Cl.wSeq, Cl.wSeqL, Cl.wFld, Cl.sFldP, Cl.wSlice, Cl.wPart, Cl.wNoP, Cl.wRev, Cl.Ag.w, Cl.wAll, Cl.wAny, Cl.wMax, Cl.wMin, Cl.wSum, Cl.wMaxC, Cl.wCallK, Cl.gP, Cl.bi_add, Cl.bi_sub, Cl.bi_mul, Cl.bi_div, Cl.bi_mod, Cl.bi_pow, Cl.ix_t0, Cl.ix_t1, Cl.ix_t2, Cl.ni1, Cl.ni2, Cl.ni3, decide_true, eq_self, Cl.b_o, String.reduceBEq, Bool.or_false, Bool.false_or, Bool.true_or, Bool.or_true, Bool.false_and, Bool.true_and, Bool.and_false, Bool.not_true, Bool.not_false, Cl.wSi, Cl.wStar, Cl.wMeth, Cl.iVal_ap, Cl.iEnm_ap, Cl.iZp_ap, Cl.iR1_ap, Cl.iR2_ap, Cl.iR3_ap, Cl.itV_tup, Cl.itV_rl, Cl.itE_tup, Cl.itZ_tup, Cl.itR_int, Cl.itR2_int, Cl.lcQ_iVal, Cl.lcQ_iEnm, Cl.lcQ_iZp, Cl.lcQ_iR1, Cl.lcQ_iR2, Cl.lc_iVal, Cl.lc_iEnm, Cl.lc_iZp, Cl.lc_iR1, Cl.lc_iR2, Cl.dc_iVal, Cl.gN_ap, Cl.gC_ap, Cl.gZ_ap, Cl.gTp2, Cl.gTp3, Cl.gTp4, Cl.gS_ap, Cl.tsYes_ap, $[$as:term],*])
-- M1
/-- a book: numbers, sizes; the beat that is none may be there -/
structure BkOk (D M d : Nat) (bk : List BE) : Prop where
  nd : BNd bk
  ok : ∀ t ∈ bk, Bd D M t.c ∧ Bd D M t.s ∧ ((t.p = 0 ∧ t.q = 0) ∨ BtOk d t)
theorem BkOk.nil {D M d : Nat} : BkOk D M d [] := ⟨List.Pairwise.nil, fun _ h => nomatch h⟩
theorem Bd.zero' {D M : Nat} (hD : 0 < D) : Bd D M (0 : Rat) := ⟨by simp, by simp⟩
theorem BkOk.put {D M N d : Nat} {bk : List BE} (h : BkOk D M d bk) (hD : 0 < D) {p q : Int} {c s : Rat} (hc : Bd D N c) (hs : Bd D N s) (hz : p.natAbs + q.natAbs ≤ d) : BkOk D (M + N) d (bput bk p q c s) := by
  refine ⟨h.nd.put _ _ _ _, fun t ht => ?_⟩
  have up : ∀ {x : Rat}, Bd D M x → Bd D (M + N) x := fun hx => hx.up (Nat.dvd_refl _) (by omega)
  have co : ∀ p q, Bd D M (bcoef bk p q).1 ∧ Bd D M (bcoef bk p q).2 := bcoef_all (P := Bd D M) (fun t ht => ⟨(h.ok t ht).1, (h.ok t ht).2.1⟩) (Bd.zero' hD)
  unfold bput at ht
  split at ht
  · rename_i hn
    unfold nbeat at hn
    simp at hn
    rcases mem_bset ht with ⟨h1, _⟩ | rfl
    · obtain ⟨k1, k2, k3⟩ := h.ok t h1; exact ⟨up k1, up k2, k3⟩
    · exact ⟨(co _ _).1.add hD hc, (co _ _).2.add hD hs.neg, .inr ⟨by simp; omega, by simp; omega⟩⟩
  · rename_i hn
    unfold nbeat at hn
    simp at hn
    rcases mem_bset ht with ⟨h1, _⟩ | rfl
    · obtain ⟨k1, k2, k3⟩ := h.ok t h1; exact ⟨up k1, up k2, k3⟩
    · refine ⟨(co _ _).1.add hD hc, (co _ _).2.add hD hs, ?_⟩
      by_cases hp : p = 0 ∧ q = 0
      · exact .inl hp
      · refine .inr ⟨?_, hz⟩
        simp; omega
theorem BkOk.len {D M d : Nat} {bk : List BE} (h : BkOk D M d bk) (hd : d ≤ 6) : bk.length ≤ 169 :=
  h.nd.len fun t ht => by
    rcases (h.ok t ht).2.2 with ⟨h1, h2⟩ | h1
    · omega
    · have := h1.sz; omega
/-- waves: the constant, the rows -/
structure WOk (D M d : Nat) (k : Rat) (bk : List BE) : Prop where
  k : Bd D M k
  ok : ∀ t ∈ bk, Bd D M t.c ∧ Bd D M t.s ∧ BtOk d t ∧ ¬ (t.c = 0 ∧ t.s = 0)
  nd : BNd bk
  so : bk.Pairwise blt
def all0 (k : Rat) (bk : List BE) : List BE := ⟨0, 0, k, 0⟩ :: bk
def vW (φ : Int → Int → Tn) (k : Rat) (bk : List BE) : Rat := k + vB φ bk
theorem vB_all {φ : Int → Int → Tn} (h : Ch φ) (k : Rat) (bk : List BE) : vB φ (all0 k bk) = vW φ k bk := by
  unfold all0 vW; simp only [vB, h.zero]; grind
theorem WOk.len {D M d : Nat} {k : Rat} {bk : List BE} (h : WOk D M d k bk) (hd : d ≤ 6) : bk.length ≤ 169 :=
  h.nd.len fun t ht => by have := (h.ok t ht).2.2.1.sz; omega
/-- what a book makes -/
def nz (t : BE) : Bool := !(decide (t.p = 0 ∧ t.q = 0)) && !(decide (t.c = 0 ∧ t.s = 0))
theorem vB_nz {φ : Int → Int → Tn} (h : Ch φ) : ∀ {bk : List BE}, BNd bk → vB φ bk = (bcoef bk 0 0).1 + vB φ (bk.filter nz)
  | [], _ => by simp [bcoef, vB]; grind
  | t :: ts, hn => by
    have ih := vB_nz h (List.pairwise_cons.mp hn).2
    have ht := (List.pairwise_cons.mp hn).1
    by_cases e : t.p = 0 ∧ t.q = 0
    · have e1 : t.is 0 0 = true := BE.is_iff.mpr e
      have e2 : nz t = false := by unfold nz; simp [e]
      have e3 : bcoef ts 0 0 = (0, 0) := by
        unfold bcoef
        rw [List.find?_eq_none.mpr]
        intro u hu
        have := ht u hu
        rw [e.1, e.2] at this
        rw [this]; exact Bool.false_ne_true
      have e4 : (bcoef (t :: ts) 0 0).1 = t.c := by unfold bcoef; rw [List.find?_cons, e1]
      rw [List.filter_cons, e2, if_neg Bool.false_ne_true, e4]
      rw [e3] at ih
      simp only [vB]
      rw [ih, e.1, e.2, h.zero]; grind
    · have e1 : t.is 0 0 = false := by rw [← Bool.not_eq_true, BE.is_iff]; exact e
      have e4 : (bcoef (t :: ts) 0 0).1 = (bcoef ts 0 0).1 := by unfold bcoef; rw [List.find?_cons, e1]
      by_cases e5 : t.c = 0 ∧ t.s = 0
      · have e2 : nz t = false := by unfold nz; simp [e5]
        rw [List.filter_cons, e2, if_neg Bool.false_ne_true, e4]
        simp only [vB]
        rw [ih, e5.1, e5.2]; grind
      · have e2 : nz t = true := by unfold nz; simp [e, e5]
        rw [List.filter_cons, e2, if_pos rfl, e4]
        simp only [vB]
        rw [ih]; grind
theorem nz_ok {D M d : Nat} {bk : List BE} (h : BkOk D M d bk) : ∀ t ∈ bk.filter nz, Bd D M t.c ∧ Bd D M t.s ∧ BtOk d t ∧ ¬ (t.c = 0 ∧ t.s = 0) := fun t ht => by
  obtain ⟨h1, h2⟩ := List.mem_filter.mp ht
  obtain ⟨k1, k2, k3⟩ := h.ok t h1
  unfold nz at h2
  simp only [Bool.and_eq_true, Bool.not_eq_true', decide_eq_false_iff_not] at h2
  rcases k3 with k3 | k3
  · exact absurd k3 h2.1
  · exact ⟨k1, k2, k3, h2.2⟩
theorem BkOk.wav {D M d : Nat} {bk bk' : List BE} (h : BkOk D M d bk) (hD : 0 < D) (p : bk'.Perm (bk.filter nz)) (so : bk'.Pairwise blt) : WOk D M d (bcoef bk 0 0).1 bk' :=
  ⟨(bcoef_all (P := Bd D M) (fun t ht => ⟨(h.ok t ht).1, (h.ok t ht).2.1⟩) (Bd.zero' hD) 0 0).1, fun t ht => nz_ok h t (p.mem_iff.mp ht), (h.nd.filter nz).perm p.symm, so⟩
theorem ne_beat {p q : Int} {G : Cl.PG} {Q : WK} : Cl.wCmp .NotEq (.tup [.int p, .int q]) (.tup [.int 0, .int 0]) G Q = Q (.bl (!decide (p = 0 ∧ q = 0))) G :=
  cmp_neP (n := 1) (m := 1) (isP_tup.mpr fun x hx => by simp at hx; rcases hx with rfl | rfl <;> exact isP_int) (isP_tup.mpr fun x hx => by simp at hx; subst hx; exact isP_int) (by decide) (by decide) (by simp)
theorem ne_nums {c s : Rat} {G : Cl.PG} {Q : WK} : Cl.wCmp .NotEq (.tup [num c, num s]) (.tup [.int 0, .int 0]) G Q = Q (.bl (!decide (c = 0 ∧ s = 0))) G :=
  cmp_neP (n := 2) (m := 1) (isP_tup.mpr fun x hx => by simp at hx; rcases hx with rfl | rfl <;> exact isP_num _ (by decide)) (isP_tup.mpr fun x hx => by simp at hx; subst hx; exact isP_int) (by decide) (by decide) (by rw [zero_num]; simp [num_iff])
theorem lk_k {k : Rat} {bk : List BE} {sz : Int} : List.lookup (Str.ofString "constant") (wavF k bk sz) = some (num k) := rfl
theorem lk_r {k : Rat} {bk : List BE} {sz : Int} : List.lookup (Str.ofString "rows") (wavF k bk sz) = some (.tup (bk.map rowP)) := rfl
theorem fm_nz : ∀ bk : List BE, (bk.map fun t => if nz t = true then some (rowP t) else none).filterMap id = (bk.filter nz).map rowP
  | [] => rfl
  | t :: ts => by
    have ih := fm_nz ts
    rw [List.map_cons, List.filterMap_cons, List.filter_cons]
    cases nz t
    · simpa using ih
    · simpa using ih
/-! calls -/
def spNeedWav (A : Addr) : PSp := fun args G Q => ∃ v k bk z, args = [v, .str z] ∧ IsWav A v k bk G ∧ Q v G
def spRowsOf (A : Addr) : PSp := fun args G Q => ∃ v k bk, args = [v] ∧ IsWav A v k bk G ∧ bk.length < 1000000 ∧ ∀ G' a, G a = none → Ext G G' → G' a = some (.lst ((all0 k bk).map rowP)) → Q (.ref a) G'
def spOfBook (A : Addr) : PSp := fun args G Q => ∃ a bk D M d, args = [.ref a] ∧ G a = some (.dT (bk.map bent)) ∧ BkOk D M d bk ∧ 0 < D ∧ d ≤ 6 ∧
  ∀ G' w bk', Ext G G' → IsWav A w (bcoef bk 0 0).1 bk' G' → bk'.Perm (bk.filter nz) → bk'.Pairwise blt → Q w G'
section
variable {C : Nat → Addr} {Φ : Nat → PSp}
/-- Waves(k, v) -/
theorem mk_wav (h : Has Φ 55 (spWavI (C 0))) {k : Rat} {v : PV} {bk : List BE} {G : Cl.PG} {Q : WK} (hv : SeqIs v (bk.map rowP) G) (hok : RsOk 6 bk) (hQ : ∀ G' w bk', Ext G G' → IsWav (C 0) w k bk' G' → bk'.Perm bk → bk'.Pairwise blt → Q w G') :
    ∀ p, G p = none → Φ 55 [.ref p, num k, v] (pup G p (.ins (C 0) [])) fun v G2 => v = .non ∧ Q (.ref p) G2 := by
  intro p hp
  refine h _ _ _ ⟨p, k, v, bk, rfl, pup_same, hv.ext (.new hp), hok, fun G' bk' sz pm so e hp' => ⟨rfl, hQ _ _ bk' (fun a x ha => ?_) ⟨p, sz, rfl, hp'⟩ pm so⟩⟩
  have : a ≠ p := fun z => by subst z; rw [hp] at ha; cases ha
  exact e _ _ this (by rw [pup_ne this]; exact ha)
theorem w20 : Kp C Φ c20 N20 (spNeedWav (C 0)) := by
  rintro args G Q ⟨v, k, bk, z, rfl, ⟨p, sz, rfl, hp⟩, hQ⟩
  k_call_by "EV" [c20, l20, N20, Γ_phi, tyOf_ins hp, Γ_cls, Γ_sub]
  refine ⟨fun D e => ?_, ?_⟩
  · cases e; simp
  · simp only [beq_self_eq_true, Bool.true_or, Bool.not_true]
    exact hQ
theorem w23 : Kp C Φ c23 N23 (spRowsOf (C 0)) := by
  rintro args G Q ⟨v, k, bk, rfl, ⟨p, sz, rfl, hp⟩, hl, hQ⟩
  have hz := size_big
  refine wSs_0 (l := l23) ?_
  (rw [Cl.wSs_at (l := l23) (k := 0) rfl]; k_call_by "EY" [N23, Γ_phi, Γ_flds, Γ_cst, hp, lk_k, lk_r])
  refine ⟨by simp, by decide, by simp, ?_⟩
  rw [List.append_nil]
  refine ⟨by rw [List.length_map]; omega, fun q hq => hQ _ q hq (.new hq) ?_⟩
  rw [pup_same]
  unfold all0 rowP
  rw [List.map_cons, zero_num]
theorem w22 (hmk : Has Φ 55 (spWavI (C 0))) : Kp C Φ c22 N22 (spOfBook (C 0)) := by
  rintro args G Q ⟨a, bk, D, M, d, rfl, ha, hok, hD, hd, hQ⟩
  have hz := size_big
  have hl := hok.len hd
  refine wSs_0 (l := l22) ?_
  (rw [Cl.wSs_at (l := l22) (k := 0) rfl]; k_call_by "EY" [N22, Γ_phi, Γ_cst])
  refine lcD_if (os := bk.map fun t => if nz t = true then some (rowP t) else none) rfl ha (by rw [List.length_map]; omega) (by simp [DW.of]) (fun i v o h1 h2 G' e R R0 ht => ?_) fun G1 q e1 hq hq1 => ?_
  · rw [List.getElem?_map] at h2
    obtain ⟨t, h3, rfl⟩ := Option.map_eq_some_iff.mp h2
    have h1' : (List.map (fun p : NestedKey × PV => PV.tup [kpv p.1, p.2]) (bk.map bent))[i]? = some v := h1
    rw [List.getElem?_map, List.getElem?_map, h3] at h1'
    have ev : v = .tup [.tup [.int t.p, .int t.q], .tup [num t.c, num t.s]] := by
      have := (Option.some.inj h1').symm
      rw [this]
      show PV.tup [kpv (bkey t.p t.q), _] = _
      rw [kpv_beat]; rfl
    subst ev
    k_call_by "EY" []
    rw [ne_beat, tru_bl]
    unfold TurnO nz at ht
    by_cases c1 : t.p = 0 ∧ t.q = 0
    · simp only [decide_eq_true c1, Bool.not_true, Bool.false_and, Bool.false_eq_true, if_false] at ht ⊢
      exact ht _ .refl
    · simp only [decide_eq_false c1, Bool.not_false, Bool.true_and] at ht ⊢
      refine ⟨two_le, ?_⟩
      rw [ne_nums, tru_bl]
      by_cases c2 : t.c = 0 ∧ t.s = 0
      · simp only [decide_eq_true c2, Bool.not_true, Bool.false_eq_true, if_false] at ht ⊢
        exact ht _ .refl
      · simp only [decide_eq_false c2, Bool.not_false, if_true] at ht ⊢
        exact ⟨by decide, ht _ .refl⟩
  rw [fm_nz] at hq1
  have ha1 := e1 _ _ ha
  (rw [Cl.wSs_at (l := l22) (k := 1) rfl]; k_call_by "EY" [Γ_phi, Γ_mks, Γ_cst, Cl.wGet2, ha1])
  refine ⟨two_le, get_T ha1 (nks_beat 0 0) (beat_depth 0 0) ?_⟩
  rw [show NestedKey.tup [.num 0, .num 0] = bkey 0 0 from rfl, dLook_bcoef, ix_t0]
  have hf := nz_ok hok
  refine mk_wav hmk (bk := bk.filter nz) (.inr ⟨q, rfl, hq1⟩) ⟨fun t ht => ?_, hok.nd.filter nz, ?_⟩ fun G' w bk' e2 hw pm so => hQ G' w bk' (e1.trans e2) hw pm so
  · obtain ⟨_, _, k3, k4⟩ := hf t ht
    exact ⟨⟨k3.up, by have := k3.sz; omega⟩, k4⟩
  · have := List.length_filter_le nz bk
    omega
end
end K51
set_option Elab.async false
set_option linter.all false
set_option maxRecDepth 100000
set_option maxHeartbeats 1000000
set_option exponentiation.threshold 10000
namespace K51
open PySem PySem.Spec PyProof.Rows L2 Cl
-- M0
local macro_rules | `(tactic| k_call_by "EY" [$as,*]) => `(tactic| simp only [Cl.L, Cl.LG, List.foldr_cons, List.foldr_nil, Cl.wSt, Cl.wE, Cl.wEs, Cl.wTs, Cl.wOp, Cl.wQ, Cl.wS, Cl.wI, Cl.wG, Cl.wGs, Cl.CGs.len, Cl.sRet, Cl.sRetN, Cl.sNext, Cl.sIf, Cl.sAsg, Cl.wipeR, Cl.sDrop, Cl.sPar2, Cl.sBrk, Cl.sCont, Cl.wAnd, Cl.wOr, Cl.wIf, Cl.wNot, Cl.wNeg, Cl.wVar, Cl.wC, Cl.Cn.pv, Cl.w2, Cl.w3, Cl.wTup, Cl.wLst, Cl.wNil, Cl.wCons, Cl.wCall, Cl.wMake, Cl.wB, Cl.Bi.r, Cl.bAbs, Cl.bInt, Cl.bLen_tup, Cl.bLen_rl, Cl.wIsi, Cl.CTy.p, Cl.startP, List.map_cons, List.map_nil, List.getElem?_cons_zero, List.getElem?_cons_succ, List.set_cons_zero, List.set_cons_succ, List.cons_append, List.nil_append, List.length_cons, List.length_nil, Nat.reduceAdd, Nat.reduceSub, Nat.zero_add, List.replicate, List.any_cons, List.any_nil, Cl.isOne, Cl.tru_bl, Cl.tru_int, Cl.tyOf_bl, Cl.tyOf_int, Cl.tyOf_tup, Cl.tyOf_rl, Cl.tyOf_non, Cl.cmp_lt, Cl.cmp_le, Cl.cmp_gt, Cl.cmp_ge, Cl.cmp_is, Cl.cmp_eqI, Cl.cmp_neI, Cl.at_0, Cl.at_1, Cl.at_2, true_and, and_true, Option.map_some, Option.getD_some, Cl.wTupOf, Cl.wLstOf, Cl.sFor, Cl.seqOf_tup, Cl.seqOf_rl, Cl.tsOne, Cl.wSeq, Cl.wSeqL, Cl.wFld, Cl.sFldP, Cl.wSlice, Cl.wPart, Cl.wNoP, Cl.wRev, Cl.Ag.w, Cl.wAll, Cl.wAny, Cl.wMax, Cl.wMin, Cl.wSum, Cl.wMaxC, Cl.wCallK, Cl.gP, Cl.bi_add, Cl.bi_sub, Cl.bi_mul, Cl.bi_div, Cl.bi_mod, Cl.bi_pow, Cl.ix_t0, Cl.ix_t1, Cl.ix_t2, Cl.ni1, Cl.ni2, Cl.ni3, decide_true, eq_self, Cl.b_o, String.reduceBEq, Bool.or_false, Bool.false_or, Bool.true_or, Bool.or_true, Bool.false_and, Bool.true_and, Bool.and_false, Bool.not_true, Bool.not_false, Cl.wSi, Cl.wStar, Cl.wMeth, Cl.iVal_ap, Cl.iEnm_ap, Cl.iZp_ap, Cl.iR1_ap, Cl.iR2_ap, Cl.iR3_ap, Cl.itV_tup, Cl.itV_rl, Cl.itE_tup, Cl.itZ_tup, Cl.itR_int, Cl.itR2_int, Cl.lcQ_iVal, Cl.lcQ_iEnm, Cl.lcQ_iZp, Cl.lcQ_iR1, Cl.lcQ_iR2, Cl.lc_iVal, Cl.lc_iEnm, Cl.lc_iZp, Cl.lc_iR1, Cl.lc_iR2, Cl.dc_iVal, Cl.gN_ap, Cl.gC_ap, Cl.gZ_ap, Cl.gTp2, Cl.gTp3, Cl.gTp4, Cl.gS_ap, Cl.tsYes_ap, $[$as:term],*])
-- M1
theorem BkOk.up {D E M N d e : Nat} {bk : List BE} (h : BkOk D M d bk) (hD : D ∣ E) (hM : M ≤ N) (hd : d ≤ e) : BkOk E N e bk :=
  ⟨h.nd, fun t ht => by
    obtain ⟨k1, k2, k3⟩ := h.ok t ht
    refine ⟨k1.up hD hM, k2.up hD hM, ?_⟩
    rcases k3 with k3 | k3
    · exact .inl k3
    · exact .inr ⟨k3.up, by have := k3.sz; omega⟩⟩
theorem WOk.upW {D E M N d e : Nat} {k : Rat} {bk : List BE} (h : WOk D M d k bk) (hD : D ∣ E) (hM : M ≤ N) (hd : d ≤ e) : WOk E N e k bk :=
  ⟨h.k.up hD hM, fun t ht => by
    obtain ⟨k1, k2, k3, k4⟩ := h.ok t ht
    exact ⟨k1.up hD hM, k2.up hD hM, ⟨k3.up, by have := k3.sz; omega⟩, k4⟩, h.nd, h.so⟩
theorem all0_ok {D M d : Nat} {k : Rat} {bk : List BE} (h : WOk D M d k bk) (hD : 0 < D) : ∀ t ∈ all0 k bk, Bd D M t.c ∧ Bd D M t.s ∧ t.p.natAbs + t.q.natAbs ≤ d := fun t ht => by
  unfold all0 at ht
  rcases List.mem_cons.mp ht with rfl | ht
  · exact ⟨h.k, Bd.zero' hD, by simp⟩
  · obtain ⟨k1, k2, k3, _⟩ := h.ok t ht
    exact ⟨k1, k2, k3.sz⟩
theorem BkOk.smls {D M d : Nat} {bk : List BE} (h : BkOk D M d bk) (hD : 0 < D) (h1 : D ≤ 2 ^ 400) (h2 : M ≤ 2 ^ 1400) : ∀ t ∈ bk, Sml t.c ∧ Sml t.s := fun t ht => by
  have e1 : D < 2 ^ 1900 := Nat.lt_of_le_of_lt h1 (by decide)
  have e2 : M * D < 2 ^ 1900 := Nat.lt_of_le_of_lt (Nat.mul_le_mul h2 h1) (by decide)
  obtain ⟨k1, k2, _⟩ := h.ok t ht
  exact ⟨k1.sml hD e1 e2, k2.sml hD e1 e2⟩
theorem bd_sml {D M : Nat} {q : Rat} (h : Bd D M q) (hD : 0 < D) (h1 : D ≤ 2 ^ 400) (h2 : M ≤ 2 ^ 1400) : Sml q :=
  h.sml hD (Nat.lt_of_le_of_lt h1 (by decide)) (Nat.lt_of_le_of_lt (Nat.mul_le_mul h2 h1) (by decide))
/-! what the books make, as functions -/
def putT (b : List BE) (t : BE) : List BE := bput b t.p t.q t.c t.s
def ofBook (b : List BE) : Rat × List BE := ((bcoef b 0 0).1, (b.filter nz).mergeSort ble)
def sumW (x y : Rat × List BE) : Rat × List BE := ofBook ((all0 x.1 x.2 ++ all0 y.1 y.2).foldl putT [])
theorem blt_uniq {a b c : List BE} (h1 : a.Perm c) (h2 : b.Perm c) (s1 : a.Pairwise blt) (s2 : b.Pairwise blt) : a = b :=
  List.Perm.eq_of_pairwise (le := blt) (fun x y _ _ h h' => by unfold blt at h h'; omega) s1 s2 (h1.trans h2.symm)
theorem srt_eq {bk bk' : List BE} (hn : BNd bk) (h : bk'.Perm bk) (s : bk'.Pairwise blt) : bk' = bk.mergeSort ble := by
  obtain ⟨c, c1, _, c3⟩ := srt_bent hn
  have hs := List.pairwise_mergeSort (le := ble) (fun a b c h1 h2 => by unfold ble at *; simp at *; omega) (fun a b => by unfold ble; simp; omega) bk
  have hn' := hn.perm (List.mergeSort_perm bk ble).symm
  refine blt_uniq h (List.mergeSort_perm bk ble) s ((hs.and hn').imp fun {a b} hab => ?_)
  obtain ⟨h1, h2⟩ := hab
  unfold ble at h1
  unfold BE.is at h2
  unfold blt
  simp at h1 h2
  omega
theorem ofBook_eq {D M d : Nat} {bk bk' : List BE} (h : BkOk D M d bk) (p : bk'.Perm (bk.filter nz)) (s : bk'.Pairwise blt) : ((bcoef bk 0 0).1, bk') = ofBook bk := by
  unfold ofBook
  rw [srt_eq (h.nd.filter nz) p s]
def spSum (A : Addr) : PSp := fun args G Q => ∃ v1 v2 k1 b1 k2 b2 D M d, args = [v1, v2] ∧ IsWav A v1 k1 b1 G ∧ IsWav A v2 k2 b2 G ∧ WOk D M d k1 b1 ∧ WOk D M d k2 b2 ∧ 0 < D ∧ D ≤ 2 ^ 400 ∧ M ≤ 2 ^ 1000 ∧ d ≤ 6 ∧
  ∀ G' w k bk, Ext G G' → IsWav A w k bk G' → WOk D (512 * M) d k bk → (∀ φ, Ch φ → vW φ k bk = vW φ k1 b1 + vW φ k2 b2) → (k, bk) = sumW (k1, b1) (k2, b2) → Q w G'
section
variable {C : Nat → Addr} {Φ : Nat → PSp}
theorem w24 (hr : Has Φ 23 (spRowsOf (C 0))) (hput : Has Φ 21 spPut) (hof : Has Φ 22 (spOfBook (C 0))) : Kp C Φ c24 N24 (spSum (C 0)) := by
  rintro args G Q ⟨v1, v2, k1, b1, k2, b2, D, M, d, rfl, i1, i2, o1, o2, hD, hD2, hM, hd, hQ⟩
  have hz := size_big
  have l1 := o1.len hd
  have l2 := o2.len hd
  refine wSs_0 (l := l24) ?_
  ((try dsimp only); rw [Cl.wSs_at (l := l24) (k := 0) rfl]; k_call_by "EY" [N24, Γ_phi, Cl.wNewT])
  intro p hp
  generalize hG1 : pup G p (PO.dT []) = G1
  have e1 : Ext G G1 := by rw [← hG1]; exact .new hp
  have hp1 : G1 p = some (.dT []) := by rw [← hG1, pup_same]
  ((try dsimp only); rw [Cl.wSs_at (l := l24) (k := 1) rfl]; k_call_by "EY" [Γ_phi])
  refine hr _ _ _ ⟨v1, k1, b1, rfl, i1.ext e1, by omega, fun G2 a1 hn1 e2 ha1 => ?_⟩
  refine hr _ _ _ ⟨v2, k2, b2, rfl, (i2.ext e1).ext e2, by omega, fun G3 a2 hn2 e3 ha2 => ?_⟩
  have len : ((all0 k1 b1).map rowP).length + ((all0 k2 b2).map rowP).length ≤ 340 := by
    simp only [List.length_map, all0, List.length_cons]; omega
  refine ⟨_, _, e3 _ _ ha1, ha2, by omega, fun a3 hn3 => ?_⟩
  dsimp only
  rw [itV_lst pup_same, ← List.map_append]
  generalize hG4 : pup G3 a3 (PO.lst (List.map rowP (all0 k1 b1 ++ all0 k2 b2))) = G4
  have e4 : Ext G3 G4 := by rw [← hG4]; exact .new hn3
  have ha3 : G4 a3 = some (.lst (List.map rowP (all0 k1 b1 ++ all0 k2 b2))) := by rw [← hG4, pup_same]
  have hp4 : G4 p = some (.dT []) := e4 _ _ (e3 _ _ (e2 _ _ hp1))
  have ha3p : a3 ≠ p := fun z => by subst z; rw [hp4] at ha3; cases ha3
  have ln : (all0 k1 b1 ++ all0 k2 b2).length ≤ 340 := by rw [List.length_map, List.length_map] at len; rw [List.length_append]; exact len
  have hall : ∀ t ∈ all0 k1 b1 ++ all0 k2 b2, Bd D M t.c ∧ Bd D M t.s ∧ t.p.natAbs + t.q.natAbs ≤ d := fun t ht => by
    rcases List.mem_append.mp ht with ht | ht
    · exact all0_ok o1 hD t ht
    · exact all0_ok o2 hD t ht
  generalize hts : all0 k1 b1 ++ all0 k2 b2 = ts at *
  refine forL_0 (fun n ρ G' => (∃ x3 x4 x5, ρ = [some v1, some v2, some (.ref p), x3, x4, x5]) ∧ Ext G G' ∧ G' a3 = some (.lst (ts.map rowP)) ∧ ∃ bk, G' p = some (.dT (bk.map bent)) ∧ BkOk D (n * M) d bk ∧ bk.length ≤ n ∧ bk = (ts.take n).foldl putT [] ∧ ∀ φ, Ch φ → vB φ bk = vB φ (ts.take n))
    ⟨⟨none, none, none, rfl⟩, ((e1.trans e2).trans e3).trans e4, ha3, [], hp4, .nil, by simp, rfl, fun φ _ => by simp [vB]⟩ ?_ ?_
  · rintro n v ρ G' P' hv ⟨⟨x3, x4, x5, rfl⟩, eG, hl, bk, hb, hbo, hbl, hfo, hval⟩ hn
    refine ⟨watch_one hl, ?_⟩
    rw [List.getElem?_map] at hv
    obtain ⟨t, ht, rfl⟩ := Option.map_eq_some_iff.mp hv
    have hm : t ∈ ts := List.mem_of_getElem? ht
    have hnl : n < ts.length := (List.getElem?_eq_some_iff.mp ht).1
    obtain ⟨bc, bs, bz⟩ := hall t hm
    k_call_by "EY" [rowP]
    ((try dsimp only); rw [Cl.wSs_cons]; k_call_by "EY" [Γ_phi])
    have hnM : n * M ≤ 2 ^ 1400 := Nat.le_trans (Nat.mul_le_mul (show n ≤ 340 by omega) hM) (by decide)
    have hM' : M ≤ 2 ^ 1400 := Nat.le_trans hM (by decide)
    refine hput _ _ _ ⟨p, bk, t.p, t.q, t.c, t.s, rfl, hb, by omega, hbo.smls hD hD2 hnM, bd_sml bc hD hD2 hM', bd_sml bs hD hD2 hM', ?_⟩
    dsimp only
    rw [wSs_nil]
    refine hn _ _ ⟨⟨_, _, _, rfl⟩, eG.updNew hp, by rw [pup_ne ha3p]; exact hl, _, pup_same, ?_, ?_, by rw [List.take_succ, ht, hfo]; simp [putT], fun φ hφ => ?_⟩
    · have := hbo.put hD bc bs bz
      rw [Nat.succ_mul]; exact this
    · have := bput_length bk t.p t.q t.c t.s; omega
    · rw [vB_put hφ hbo.nd, hval φ hφ, List.take_succ, ht, vB_append]
      simp only [Option.toList, vB]; grind
  · rintro ρ G' ⟨⟨x3, x4, x5, rfl⟩, eG, hl, bk, hb, hbo, hbl, hfo, hval⟩
    refine ⟨watch_one hl, ?_⟩
    rw [List.length_map] at hbo hval hfo
    rw [List.take_length] at hval hfo
    dsimp only
    ((try dsimp only); rw [Cl.wSs_at (l := l24) (k := 2) rfl]; k_call_by "EY" [Γ_phi])
    have hbo' : BkOk D (512 * M) d bk := hbo.up (Nat.dvd_refl _) (Nat.mul_le_mul_right _ (by omega)) (Nat.le_refl _)
    refine hof _ _ _ ⟨p, bk, D, 512 * M, d, rfl, hb, hbo', hD, hd, fun G2 w bk' e5 hw pm so => ?_⟩
    refine hQ _ w _ bk' (eG.trans e5) hw (hbo'.wav hD pm so) (fun φ hφ => ?_) (by rw [ofBook_eq hbo' pm so]; unfold sumW; rw [hts, ← hfo])
    have := vB_nz hφ hbo.nd
    unfold vW
    rw [vB_perm φ pm, ← this, hval φ hφ, ← hts, vB_append, vB_all hφ, vB_all hφ]
    rfl
end
end K51
set_option Elab.async false
set_option linter.all false
set_option maxRecDepth 100000
set_option maxHeartbeats 2000000
set_option exponentiation.threshold 10000
namespace K51
open PySem PySem.Spec PyProof.Rows L2 Cl
-- M0
local macro_rules | `(tactic| k_call_by "EY" [$as,*]) => `(tactic| simp only [Cl.L, Cl.LG, List.foldr_cons, List.foldr_nil, Cl.wSt, Cl.wE, Cl.wEs, Cl.wTs, Cl.wOp, Cl.wQ, Cl.wS, Cl.wI, Cl.wG, Cl.wGs, Cl.CGs.len, Cl.sRet, Cl.sRetN, Cl.sNext, Cl.sIf, Cl.sAsg, Cl.wipeR, Cl.sDrop, Cl.sPar2, Cl.sBrk, Cl.sCont, Cl.wAnd, Cl.wOr, Cl.wIf, Cl.wNot, Cl.wNeg, Cl.wVar, Cl.wC, Cl.Cn.pv, Cl.w2, Cl.w3, Cl.wTup, Cl.wLst, Cl.wNil, Cl.wCons, Cl.wCall, Cl.wMake, Cl.wB, Cl.Bi.r, Cl.bAbs, Cl.bInt, Cl.bLen_tup, Cl.bLen_rl, Cl.wIsi, Cl.CTy.p, Cl.startP, List.map_cons, List.map_nil, List.getElem?_cons_zero, List.getElem?_cons_succ, List.set_cons_zero, List.set_cons_succ, List.cons_append, List.nil_append, List.length_cons, List.length_nil, Nat.reduceAdd, Nat.reduceSub, Nat.zero_add, List.replicate, List.any_cons, List.any_nil, Cl.isOne, Cl.tru_bl, Cl.tru_int, Cl.tyOf_bl, Cl.tyOf_int, Cl.tyOf_tup, Cl.tyOf_rl, Cl.tyOf_non, Cl.cmp_lt, Cl.cmp_le, Cl.cmp_gt, Cl.cmp_ge, Cl.cmp_is, Cl.cmp_eqI, Cl.cmp_neI, Cl.at_0, Cl.at_1, Cl.at_2, true_and, and_true, Option.map_some, Option.getD_some, Cl.wTupOf, Cl.wLstOf, Cl.sFor, Cl.seqOf_tup, Cl.seqOf_rl, Cl.tsOne, Cl.wSeq, Cl.wSeqL, Cl.wFld, Cl.sFldP, Cl.wSlice, Cl.wPart, Cl.wNoP, Cl.wRev, Cl.Ag.w, Cl.wAll, Cl.wAny, Cl.wMax, Cl.wMin, Cl.wSum, Cl.wMaxC, Cl.wCallK, Cl.gP, Cl.bi_add, Cl.bi_sub, Cl.bi_mul, Cl.bi_div, Cl.bi_mod, Cl.bi_pow, Cl.ix_t0, Cl.ix_t1, Cl.ix_t2, Cl.ni1, Cl.ni2, Cl.ni3, decide_true, eq_self, Cl.b_o, String.reduceBEq, Bool.or_false, Bool.false_or, Bool.true_or, Bool.or_true, Bool.false_and, Bool.true_and, Bool.and_false, Bool.not_true, Bool.not_false, Cl.wSi, Cl.wStar, Cl.wMeth, Cl.iVal_ap, Cl.iEnm_ap, Cl.iZp_ap, Cl.iR1_ap, Cl.iR2_ap, Cl.iR3_ap, Cl.itV_tup, Cl.itV_rl, Cl.itE_tup, Cl.itZ_tup, Cl.itR_int, Cl.itR2_int, Cl.lcQ_iVal, Cl.lcQ_iEnm, Cl.lcQ_iZp, Cl.lcQ_iR1, Cl.lcQ_iR2, Cl.lc_iVal, Cl.lc_iEnm, Cl.lc_iZp, Cl.lc_iR1, Cl.lc_iR2, Cl.dc_iVal, Cl.gN_ap, Cl.gC_ap, Cl.gZ_ap, Cl.gTp2, Cl.gTp3, Cl.gTp4, Cl.gS_ap, Cl.tsYes_ap, $[$as:term],*])
-- M1
theorem half_n : (1 / 2 : Rat).num = 1 := by decide +kernel
theorem half_d : (1 / 2 : Rat).den = 2 := by decide +kernel
theorem half_num : PV.tup [.int 1, .int 2] = num (1 / 2) := by
  unfold num
  rw [half_n, half_d]; rfl
theorem bd_half : Bd 2 1 (1 / 2 : Rat) := ⟨by rw [half_d]; decide, by rw [half_n, half_d]; decide⟩
theorem Bd.sub' {D M N : Nat} {p q : Rat} (hD : 0 < D) (a : Bd D M p) (b : Bd D N q) : Bd D (M + N) (p - q) := by
  rw [Rat.sub_eq_add_neg]; exact a.add hD b.neg
theorem cnt {n m L a : Nat} (h1 : n < a) (h2 : a ≤ 170) (h3 : m < L) (h4 : L ≤ 170) : 2 * (n * L + m + 1) ≤ 57800 := by
  have : (n + 1) * L ≤ 170 * 170 := Nat.mul_le_mul (by omega) h4
  rw [Nat.succ_mul] at this
  omega
/-- a row's value -/
def vT (φ : Int → Int → Tn) (t : BE) : Rat := t.c * (φ t.p t.q).1 + t.s * (φ t.p t.q).2
theorem vB_snoc (φ : Int → Int → Tn) {ts : List BE} {n : Nat} {t : BE} (h : ts[n]? = some t) : vB φ (ts.take (n + 1)) = vB φ (ts.take n) + vT φ t := by
  rw [List.take_succ, h, vB_append]
  simp only [Option.toList, vB, vT]; grind
def prodT (t : BE) (b : List BE) (u : BE) : List BE :=
  bput (bput b (t.p + u.p) (t.q + u.q) (1 / 2 * (t.c * u.c - t.s * u.s)) (1 / 2 * (t.s * u.c + t.c * u.s))) (t.p - u.p) (t.q - u.q) (1 / 2 * (t.c * u.c + t.s * u.s)) (1 / 2 * (t.s * u.c - t.c * u.s))
def mulW (x y : Rat × List BE) : Rat × List BE := ofBook ((all0 x.1 x.2).foldl (fun b t => (all0 y.1 y.2).foldl (prodT t) b) [])
def spMulW (A : Addr) : PSp := fun args G Q => ∃ v1 v2 k1 b1 k2 b2 D1 M1 d1 D2 M2 d2, args = [v1, v2] ∧ IsWav A v1 k1 b1 G ∧ IsWav A v2 k2 b2 G ∧ WOk D1 M1 d1 k1 b1 ∧ WOk D2 M2 d2 k2 b2 ∧ 0 < D1 ∧ 0 < D2 ∧ D1 * D2 ≤ 2 ^ 399 ∧
  M1 ≤ 2 ^ 1000 ∧ M2 ≤ 2 ^ 1000 ∧ M1 * M2 ≤ 2 ^ 1000 ∧ d1 + d2 ≤ 6 ∧
  ∀ G' w k bk, Ext G G' → IsWav A w k bk G' → WOk (2 * (D1 * D2)) (2 ^ 17 * (M1 * M2)) (d1 + d2) k bk → (∀ φ, Ch φ → vW φ k bk = vW φ k1 b1 * vW φ k2 b2) → (k, bk) = mulW (k1, b1) (k2, b2) → Q w G'
section
variable {C : Nat → Addr} {Φ : Nat → PSp}
theorem w25 (hr : Has Φ 23 (spRowsOf (C 0))) (hput : Has Φ 21 spPut) (hof : Has Φ 22 (spOfBook (C 0))) (hmul : Has Φ 13 spMul) (hadd : Has Φ 10 spAdd) (hsub : Has Φ 12 spSub) : Kp C Φ c25 N25 (spMulW (C 0)) := by
  rintro args G Q ⟨v1, v2, k1, b1, k2, b2, D1, M1, d1, D2, M2, d2, rfl, i1, i2, o1, o2, hD1, hD2, hDD, hM1, hM2, hMM, hd, hQ⟩
  have hz := size_big
  have l1 := o1.len (by omega)
  have l2 := o2.len (by omega)
  have hD : 0 < D1 * D2 := Nat.mul_pos hD1 hD2
  have hDs : 2 * (D1 * D2) ≤ 2 ^ 400 := Nat.le_trans (Nat.mul_le_mul_left 2 hDD) (by decide)
  have hD1s : D1 ≤ 2 ^ 400 := Nat.le_trans (Nat.le_trans (Nat.le_mul_of_pos_right _ hD2) hDD) (by decide)
  have hD2s : D2 ≤ 2 ^ 400 := Nat.le_trans (Nat.le_trans (Nat.le_mul_of_pos_left _ hD1) hDD) (by decide)
  have hDDs : D1 * D2 ≤ 2 ^ 400 := Nat.le_trans hDD (by decide)
  have up14 : ∀ {m : Nat}, m ≤ 2 ^ 1000 → m ≤ 2 ^ 1400 := fun h => Nat.le_trans h (by decide)
  refine wSs_0 (l := l25) ?_
  ((try dsimp only); rw [Cl.wSs_at (l := l25) (k := 0) rfl]; k_call_by "EY" [N25, Γ_phi, Cl.wNewT])
  intro p hp
  generalize hG1 : pup G p (PO.dT []) = G1
  have e1 : Ext G G1 := by rw [← hG1]; exact .new hp
  have hp1 : G1 p = some (.dT []) := by rw [← hG1, pup_same]
  ((try dsimp only); rw [Cl.wSs_at (l := l25) (k := 1) rfl]; k_call_by "EY" [Γ_phi])
  refine hr _ _ _ ⟨v1, k1, b1, rfl, i1.ext e1, by omega, fun G2 a1 hn1 e2 ha1 => ?_⟩
  dsimp only
  rw [itV_lst ha1]
  have L1 : (all0 k1 b1).length ≤ 170 := by simp only [all0, List.length_cons]; omega
  have L2' : (all0 k2 b2).length ≤ 170 := by simp only [all0, List.length_cons]; omega
  have h1 := all0_ok o1 hD1
  have h2 := all0_ok o2 hD2
  have hp2 : G2 p = some (.dT []) := e2 _ _ hp1
  have ha1p : a1 ≠ p := fun z => by subst z; rw [hp1] at hn1; cases hn1
  have eg2 : Ext G G2 := e1.trans e2
  generalize hts1 : all0 k1 b1 = ts1 at *
  have key : ∀ {φ : Int → Int → Tn}, Ch φ → vB φ ts1 = vW φ k1 b1 := fun h => by rw [← hts1]; exact vB_all h _ _
  generalize hL : (all0 k2 b2).length = L at *
  generalize hN : 2 * (M1 * M2) = N at *
  have hNs : ∀ {m : Nat}, m ≤ 57800 → m * N ≤ 2 ^ 1400 := fun hm => by
    rw [← hN]
    exact Nat.le_trans (Nat.mul_le_mul hm (Nat.mul_le_mul_left 2 hMM)) (by decide)
  refine forL_0 (fun n ρ G' => (∃ x3 x4 x5 x6 x7 x8 x9 x10 x11 x12 x13 x14, ρ = [some v1, some v2, some (.ref p), x3, x4, x5, x6, x7, x8, x9, x10, x11, x12, x13, x14]) ∧ Ext G G' ∧ G' a1 = some (.lst (ts1.map rowP)) ∧
      ∃ bk, G' p = some (.dT (bk.map bent)) ∧ BkOk (2 * (D1 * D2)) (2 * (n * L) * N) (d1 + d2) bk ∧ bk.length ≤ 2 * (n * L) ∧ bk = (ts1.take n).foldl (fun b t => (all0 k2 b2).foldl (prodT t) b) [] ∧ ∀ φ, Ch φ → vB φ bk = vB φ (ts1.take n) * vW φ k2 b2)
    ⟨⟨none, none, none, none, none, none, none, none, none, none, none, none, rfl⟩, eg2, ha1, [], hp2, .nil, by simp, rfl, fun φ _ => by simp [vB]⟩ ?_ ?_
  · rintro n v ρ G' P' hv ⟨⟨x3, x4, x5, x6, x7, x8, x9, x10, x11, x12, x13, x14, rfl⟩, eG, hl, bk, hb, hbo, hbl, hfo, hval⟩ hn
    refine ⟨watch_one hl, ?_⟩
    rw [List.getElem?_map] at hv
    obtain ⟨t, ht, rfl⟩ := Option.map_eq_some_iff.mp hv
    have hnl : n < ts1.length := (List.getElem?_eq_some_iff.mp ht).1
    obtain ⟨bc, bs, bz⟩ := h1 t (List.mem_of_getElem? ht)
    k_call_by "EY" [rowP]
    ((try dsimp only); rw [Cl.wSs_cons]; k_call_by "EY" [Γ_phi])
    refine hr _ _ _ ⟨v2, k2, b2, rfl, i2.ext eG, by omega, fun G3 a2 hn2 e3 ha2 => ?_⟩
    dsimp only
    rw [itV_lst ha2]
    have ha2p : a2 ≠ p := fun z => by subst z; rw [hb] at hn2; cases hn2
    generalize hts2 : all0 k2 b2 = ts2 at *
    have key2 : ∀ {φ : Int → Int → Tn}, Ch φ → vB φ ts2 = vW φ k2 b2 := fun h => by rw [← hts2]; exact vB_all h _ _
    refine forL_0 (fun m ρ G' => (∃ x7 x8 x9 x10 x11 x12 x13 x14, ρ = [some v1, some v2, some (.ref p), some (.int t.p), some (.int t.q), some (num t.c), some (num t.s), x7, x8, x9, x10, x11, x12, x13, x14]) ∧ Ext G G' ∧ G' a1 = some (.lst (ts1.map rowP)) ∧ G' a2 = some (.lst (ts2.map rowP)) ∧
        ∃ bk, G' p = some (.dT (bk.map bent)) ∧ BkOk (2 * (D1 * D2)) (2 * (n * L + m) * N) (d1 + d2) bk ∧ bk.length ≤ 2 * (n * L + m) ∧ bk = (ts2.take m).foldl (prodT t) ((ts1.take n).foldl (fun b t => (all0 k2 b2).foldl (prodT t) b) []) ∧ ∀ φ, Ch φ → vB φ bk = vB φ (ts1.take n) * vW φ k2 b2 + vT φ t * vB φ (ts2.take m))
      ⟨⟨_, _, _, _, _, _, _, _, rfl⟩, eG.trans e3, e3 _ _ hl, ha2, bk, e3 _ _ hb, hbo, hbl, by rw [List.take_zero, List.foldl_nil, hts2]; exact hfo, fun φ hφ => by rw [hval φ hφ]; simp only [List.take_zero, vB]; grind⟩ ?_ ?_
    · rintro m v ρ G4 P2 hv ⟨⟨x7, x8, x9, x10, x11, x12, x13, x14, rfl⟩, eG4, hl1, hl2, bk, hb, hbo, hbl, hfo, hval⟩ hn2
      refine ⟨watch_one hl2, ?_⟩
      rw [List.getElem?_map] at hv
      obtain ⟨u, hu, rfl⟩ := Option.map_eq_some_iff.mp hv
      have hml : m < ts2.length := (List.getElem?_eq_some_iff.mp hu).1
      obtain ⟨cc, cs, cz⟩ := h2 u (List.mem_of_getElem? hu)
      have hcnt : 2 * (n * L + m + 1) ≤ 57800 := cnt hnl L1 (by rw [← hL]; exact hml) L2'
      rw [rowP, Cl.gTp3, Cl.gC_ap, Cl.gTp2, Cl.gC_ap, Cl.gN_ap, Cl.gC_ap, Cl.gN_ap, Cl.gZ_ap, Cl.gC_ap, Cl.gN_ap, Cl.gC_ap, Cl.gN_ap, Cl.gZ_ap]
      dsimp only [List.set]
      have s1 := bd_sml bc hD1 hD1s (up14 hM1)
      have s2 := bd_sml bs hD1 hD1s (up14 hM1)
      have s3 := bd_sml cc hD2 hD2s (up14 hM2)
      have s4 := bd_sml cs hD2 hD2s (up14 hM2)
      ((try dsimp only); rw [Cl.wSs_cons]; k_call_by "EY" [Γ_phi])
      refine hmul _ _ _ ⟨t.c, u.c, rfl, s1, s3, hmul _ _ _ ⟨t.s, u.s, rfl, s2, s4, ?_⟩⟩
      dsimp only
      ((try dsimp only); rw [Cl.wSs_cons]; k_call_by "EY" [Γ_phi])
      refine hmul _ _ _ ⟨t.s, u.c, rfl, s2, s3, hmul _ _ _ ⟨t.c, u.s, rfl, s1, s4, ?_⟩⟩
      have b1 := bc.mul cc
      have b2 := bs.mul cs
      have b3 := bs.mul cc
      have b4 := bc.mul cs
      have hMs := up14 hMM
      have x1 := bd_sml b1 hD hDDs hMs
      have x2 := bd_sml b2 hD hDDs hMs
      have x3 := bd_sml b3 hD hDDs hMs
      have x4 := bd_sml b4 hD hDDs hMs
      have eN : M1 * M2 + M1 * M2 = N := by rw [← hN]; omega
      have y1 := Bd.sub' hD b1 b2
      have y2 := b3.add hD b4
      have y3 := b1.add hD b2
      have y4 := Bd.sub' hD b3 b4
      rw [eN] at y1 y2 y3 y4
      have z1 := bd_half.mul y1
      have z2 := bd_half.mul y2
      have z3 := bd_half.mul y3
      have z4 := bd_half.mul y4
      rw [Nat.one_mul] at z1 z2 z3 z4
      have hN1 : N ≤ 2 ^ 1400 := by have := hNs (m := 1) (by decide); rw [Nat.one_mul] at this; exact this
      have hh : Sml (1 / 2) := bd_sml bd_half (by decide) (by decide) (by decide)
      have h0 : 0 < 2 * (D1 * D2) := Nat.mul_pos (by decide) hD
      have hb0 : BkOk (2 * (D1 * D2)) (2 * (n * L + m) * N) (d1 + d2) bk := hbo
      have c0 : 2 * (n * L + m) ≤ 57800 := by omega
      have c1 : 2 * (n * L + m) + 1 ≤ 57800 := by omega
      have zz1 : (t.p + u.p).natAbs + (t.q + u.q).natAbs ≤ d1 + d2 := by omega
      have zz2 : (t.p - u.p).natAbs + (t.q - u.q).natAbs ≤ d1 + d2 := by omega
      dsimp only
      ((try dsimp only); rw [Cl.wSs_cons]; k_call_by "EY" [Γ_phi, Γ_cst])
      refine ⟨two_le, hsub _ _ _ ⟨_, _, rfl, x1, x2, hmul _ _ _ ⟨1 / 2, _, by rw [half_num], hh, bd_sml y1 hD hDDs hN1, hadd _ _ _ ⟨_, _, rfl, x3, x4, hmul _ _ _ ⟨1 / 2, _, by rw [half_num], hh, bd_sml y2 hD hDDs hN1, ?_⟩⟩⟩⟩⟩
      refine hput _ _ _ ⟨p, bk, t.p + u.p, t.q + u.q, _, _, rfl, hb, by omega, hb0.smls h0 hDs (hNs c0), bd_sml z1 h0 hDs hN1, bd_sml z2 h0 hDs hN1, ?_⟩
      have hb1 := hb0.put h0 z1 z2 zz1
      have nl1 := bput_length bk (t.p + u.p) (t.q + u.q) (1 / 2 * (t.c * u.c - t.s * u.s)) (1 / 2 * (t.s * u.c + t.c * u.s))
      have v1' := fun (φ : Int → Int → Tn) (hφ : Ch φ) => vB_put hφ hbo.nd (t.p + u.p) (t.q + u.q) (1 / 2 * (t.c * u.c - t.s * u.s)) (1 / 2 * (t.s * u.c + t.c * u.s))
      generalize hk1 : bput bk (t.p + u.p) (t.q + u.q) (1 / 2 * (t.c * u.c - t.s * u.s)) (1 / 2 * (t.s * u.c + t.c * u.s)) = bk1 at *
      have e1' : 2 * (n * L + m) * N + N = (2 * (n * L + m) + 1) * N := (Nat.succ_mul _ _).symm
      rw [e1'] at hb1
      dsimp only
      ((try dsimp only); rw [Cl.wSs_cons]; k_call_by "EY" [Γ_phi, Γ_cst])
      refine ⟨two_le, hadd _ _ _ ⟨_, _, rfl, x1, x2, hmul _ _ _ ⟨1 / 2, _, by rw [half_num], hh, bd_sml y3 hD hDDs hN1, hsub _ _ _ ⟨_, _, rfl, x3, x4, hmul _ _ _ ⟨1 / 2, _, by rw [half_num], hh, bd_sml y4 hD hDDs hN1, ?_⟩⟩⟩⟩⟩
      refine hput _ _ _ ⟨p, bk1, t.p - u.p, t.q - u.q, _, _, rfl, pup_same, by omega, hb1.smls h0 hDs (hNs c1), bd_sml z3 h0 hDs hN1, bd_sml z4 h0 hDs hN1, ?_⟩
      have hb2 := hb1.put h0 z3 z4 zz2
      have nl2 := bput_length bk1 (t.p - u.p) (t.q - u.q) (1 / 2 * (t.c * u.c + t.s * u.s)) (1 / 2 * (t.s * u.c - t.c * u.s))
      dsimp only
      rw [wSs_nil, pup_pup]
      refine hn2 _ _ ⟨⟨_, _, _, _, _, _, _, _, rfl⟩, eG4.updNew hp, by rw [pup_ne ha1p]; exact hl1, by rw [pup_ne ha2p]; exact hl2, _, pup_same, ?_, by omega, by rw [List.take_succ, hu, List.foldl_append, ← hfo]; exact hk1 ▸ rfl, fun φ hφ => ?_⟩
      · have e2' : (2 * (n * L + m) + 1) * N + N = 2 * (n * L + (m + 1)) * N := by rw [← Nat.succ_mul] <;> exact congrArg (· * N) (by omega)
        rw [← e2']; exact hb2
      · rw [vB_put hφ hb1.nd, v1' φ hφ, hval φ hφ, vB_snoc φ hu]
        have := beat_mul hφ t.p t.q u.p u.q t.c t.s u.c u.s
        unfold vT
        grind
    · rintro ρ G4 ⟨⟨x7, x8, x9, x10, x11, x12, x13, x14, rfl⟩, eG4, hl1, hl2, bk, hb, hbo, hbl, hfo, hval⟩
      refine ⟨watch_one hl2, ?_⟩
      rw [List.length_map] at hbo hbl hval hfo
      rw [List.take_length] at hval hfo
      dsimp only
      rw [wSs_nil]
      have eL : n * L + ts2.length = (n + 1) * L := by rw [Nat.succ_mul, ← hL]
      rw [eL] at hbo hbl
      refine hn _ _ ⟨⟨_, _, _, _, _, _, _, _, _, _, _, _, rfl⟩, eG4, hl1, bk, hb, hbo, hbl, by rw [List.take_succ, ht, List.foldl_append, hfo, hts2]; rfl, fun φ hφ => ?_⟩
      rw [hval φ hφ, key2 hφ, vB_snoc φ ht]; grind
  · rintro ρ G' ⟨⟨x3, x4, x5, x6, x7, x8, x9, x10, x11, x12, x13, x14, rfl⟩, eG, hl, bk, hb, hbo, hbl, hfo, hval⟩
    refine ⟨watch_one hl, ?_⟩
    rw [List.length_map] at hbo hval hbl hfo
    rw [List.take_length] at hval hfo
    dsimp only
    ((try dsimp only); rw [Cl.wSs_at (l := l25) (k := 2) rfl]; k_call_by "EY" [Γ_phi])
    have hbo' : BkOk (2 * (D1 * D2)) (2 ^ 17 * (M1 * M2)) (d1 + d2) bk := hbo.up (Nat.dvd_refl _) (by
      have : ts1.length * L ≤ 170 * 170 := Nat.mul_le_mul L1 L2'
      rw [← hN, ← Nat.mul_assoc]
      exact Nat.mul_le_mul_right _ (by omega)) (Nat.le_refl _)
    refine hof _ _ _ ⟨p, bk, _, _, _, rfl, hb, hbo', by omega, hd, fun G2 w bk' e5 hw pm so => ?_⟩
    refine hQ _ w _ bk' (eG.trans e5) hw (hbo'.wav (by omega) pm so) (fun φ hφ => ?_) (by rw [ofBook_eq hbo' pm so]; unfold mulW; rw [hts1, ← hfo])
    have := vB_nz hφ hbo.nd
    show _ + vB φ bk' = _
    rw [vB_perm φ pm, ← this, hval φ hφ, key hφ]
end
end K51
set_option Elab.async false
set_option linter.all false
set_option maxRecDepth 100000
set_option maxHeartbeats 1000000
set_option exponentiation.threshold 10000
namespace K51
open PySem PySem.Spec PyProof.Rows L2 Cl
-- M0
local macro_rules | `(tactic| k_call_by "EV" [$as,*]) => `(tactic| simp only [Cl.B, Cl.L, Cl.LG, List.foldr_cons, List.foldr_nil, Cl.wSs, Cl.wSt, Cl.wE, Cl.wEs, Cl.wTs, Cl.wOp, Cl.wQ, Cl.wS, Cl.wI, Cl.wG, Cl.wGs, Cl.CGs.len, Cl.sSeq, Cl.sRet, Cl.sRetN, Cl.sNext, Cl.sIf, Cl.sAsg, Cl.wLc, Cl.wLcQ, Cl.wipeR, Cl.sDrop, Cl.sPar2, Cl.sBrk, Cl.sCont, Cl.gN, Cl.gTp, Cl.gC, Cl.gZ, Cl.gS, Cl.wAnd, Cl.wOr, Cl.wIf, Cl.wNot, Cl.wNeg, Cl.wVar, Cl.wC, Cl.Cn.pv, Cl.w2, Cl.w3, Cl.wBin, Cl.wIdx, Cl.wSet, Cl.wTup, Cl.wLst, Cl.wNil, Cl.wCons, Cl.wCall, Cl.wMake, Cl.wB, Cl.Bi.r, Cl.bAbs, Cl.bInt, Cl.bLen_tup, Cl.bLen_rl, Cl.wIsi, Cl.CTy.p, Cl.startP, List.map_cons, List.map_nil, List.getElem?_cons_zero, List.getElem?_cons_succ, List.set_cons_zero, List.set_cons_succ, List.cons_append, List.nil_append, List.length_cons, List.length_nil, Nat.reduceAdd, Nat.reduceSub, Nat.zero_add, List.replicate, List.any_cons, List.any_nil, Cl.isOne, Cl.tru_bl, Cl.tru_int, Cl.tyOf_bl, Cl.tyOf_int, Cl.tyOf_tup, Cl.tyOf_rl, Cl.tyOf_non, Cl.cmp_lt, Cl.cmp_le, Cl.cmp_gt, Cl.cmp_ge, Cl.cmp_is, Cl.cmp_eqI, Cl.cmp_neI, Cl.at_0, Cl.at_1, Cl.at_2, true_and, and_true, Option.map_some, Option.getD_some, Cl.wTupOf, Cl.wLstOf, Cl.sFor, Cl.iVal, Cl.iEnm, Cl.iR1, Cl.iR2, Cl.iZp, Cl.seqOf_tup, Cl.seqOf_rl, Cl.tsYes, Cl.tsOne, Cl.wSeq, Cl.wSeqL, Cl.wFld, Cl.sFldP, Cl.wSlice, Cl.wPart, Cl.wNoP, Cl.wRev, Cl.Ag.w, Cl.wAll, Cl.wAny, Cl.wMax, Cl.wMin, Cl.wSum, Cl.wMaxC, Cl.wCallK, Cl.gP, $[$as:term],*])
local macro_rules | `(tactic| k_call_by "ES" [$as,*]) => `(tactic| simp only [Cl.B, Cl.L, Cl.LG, List.foldr_cons, List.foldr_nil, Cl.wSs, Cl.wSt, Cl.wE, Cl.wEs, Cl.wTs, Cl.wOp, Cl.wQ, Cl.wS, Cl.wI, Cl.wG, Cl.wGs, Cl.CGs.len, Cl.sSeq, Cl.sRet, Cl.sRetN, Cl.sNext, Cl.sIf, Cl.sAsg, Cl.wLc, Cl.wLcQ, Cl.wipeR, Cl.sDrop, Cl.sPar2, Cl.sBrk, Cl.sCont, Cl.gN, Cl.gTp, Cl.gC, Cl.gZ, Cl.gS, Cl.wAnd, Cl.wOr, Cl.wIf, Cl.wNot, Cl.wNeg, Cl.wVar, Cl.wC, Cl.Cn.pv, Cl.w2, Cl.w3, Cl.wSet, Cl.wTup, Cl.wLst, Cl.wNil, Cl.wCons, Cl.wCall, Cl.wMake, Cl.wB, Cl.Bi.r, Cl.bAbs, Cl.bInt, Cl.bLen_tup, Cl.bLen_rl, Cl.wIsi, Cl.CTy.p, Cl.startP, List.map_cons, List.map_nil, List.getElem?_cons_zero, List.getElem?_cons_succ, List.set_cons_zero, List.set_cons_succ, List.cons_append, List.nil_append, List.length_cons, List.length_nil, Nat.reduceAdd, Nat.reduceSub, Nat.zero_add, List.replicate, List.any_cons, List.any_nil, Cl.isOne, Cl.tru_bl, Cl.tru_int, Cl.tyOf_bl, Cl.tyOf_int, Cl.tyOf_tup, Cl.tyOf_rl, Cl.tyOf_non, Cl.cmp_lt, Cl.cmp_le, Cl.cmp_gt, Cl.cmp_ge, Cl.cmp_is, Cl.cmp_eqI, Cl.cmp_neI, Cl.at_0, Cl.at_1, Cl.at_2, true_and, and_true, Option.map_some, Option.getD_some, Cl.wTupOf, Cl.wLstOf, Cl.sFor, Cl.iVal, Cl.iEnm, Cl.iR1, Cl.iR2, Cl.iZp, Cl.seqOf_tup, Cl.seqOf_rl, Cl.tsYes, Cl.tsOne, Cl.wSeq, Cl.wSeqL, Cl.wFld, Cl.sFldP, Cl.wSlice, Cl.wPart, Cl.wNoP, Cl.wRev, Cl.Ag.w, Cl.wAll, Cl.wAny, Cl.wMax, Cl.wMin, Cl.wSum, Cl.wMaxC, Cl.wCallK, Cl.gP, $[$as:term],*])
-- M1
/-! ### the law's own defs -/
def spPump : PSp := fun args G Q => ∃ ns : List Int, args = [.rl (ns.map .int)] ∧ ∀ P G', Ext G G' → G P = none → Pump P 0 G' → Q (.ref P) G'
def spOne : PSp := fun args G Q => ∃ P n L vs, args = [.ref P, .ref L] ∧ Pump P n G ∧ n ≤ 100000 ∧ L ≠ P ∧ G L = some (.lst vs) ∧ vs ≠ [] ∧ vs.length < 1000000 ∧ ∀ v ∈ vs, ∀ G', Pump P (n + 1) G' → ExtB P G G' → Q v G'
def spNumber : PSp := fun args G Q => ∃ P n size und, args = [.ref P, .int (size : Nat), .int (und : Nat)] ∧ Pump P n G ∧ n < 100000 ∧ size < 100000 ∧ 0 < und ∧ und < 100000 ∧ ∀ (a : Int) (b : Nat) G', a.natAbs ≤ size → 0 < b → b ≤ und → Pump P (n + 2) G' → ExtB P G G' → Q (num (mkRat a b)) G'
theorem cut60 (ns : List Int) : cutP (ns.map PV.int) none (some 60) = (ns.take 60).map PV.int := by
  have e : HT.sIx (ns.map PV.int).length (ns.map PV.int).length (some 60) = min 60 (ns.map PV.int).length := HT.sIx_nat _ _ 60
  unfold cutP
  rw [e, HT.sIx_none, List.drop_zero, Nat.sub_zero, List.map_take]
  rw [List.take_eq_take_iff]
  omega
section
variable {C : Nat → Addr} {Φ : Nat → PSp}
theorem w39 (hx__law_stir : Has Φ 38 spStroke) : Kp C Φ c39 N39 spOne := by
  rintro args G Q ⟨P, n, L, vs, rfl, hP, hn, hL, hG, hx_is_integer, hl, hQ⟩
  have hx_is_within : 0 < vs.length := List.length_pos_iff.mpr hx_is_integer
  k_call_by "ES" [c39, l39, N39, Γ_phi, bi_add]
  rw [bLen_lst hG]
  refine hx__law_stir _ _ _ ⟨P, n, vs.length, rfl, hP, hn, by omega, by omega, fun r G' a b hp he => ?_⟩
  obtain ⟨k, rfl⟩ : ∃ k : Nat, r = k := ⟨r.toNat, by omega⟩
  have hk : k < vs.length := by omega
  rw [ix_lst (he _ _ hL hG) (at_nat (List.getElem?_eq_getElem hk))]
  exact hQ _ (List.getElem_mem hk) _ hp he
theorem w37 : Kp C Φ c37 N37 spPump := by
  rintro args G Q ⟨ns, rfl, hQ⟩
  have hz := size_big
  k_call_by "EV" [c37, l37, N37, Γ_phi]
  intro p hp
  rw [pup_same, cut60]
  dsimp only
  intro D hD
  have hpD : p ≠ D := fun z => by subst z; rw [pup_same] at hD; cases hD
  have hDG : G D = none := by rwa [pup_ne (Ne.symm hpD)] at hD
  have e1 : (ns.take 60).map PV.int = ((ns.take 60).map fun i => (PV.int i, PV.int i)).map (·.1) := by rw [List.map_map]; rfl
  have e2 : [] ++ ((ns.take 60).map fun i => (PV.int i, PV.int i)).map (·.2) = (ns.take 60).map PV.int := by rw [List.map_map]; rfl
  have hl : (ns.take 60).length ≤ 60 := by rw [List.length_take]; omega
  have key : ∀ K : Cl.PG → Prop, K (pup (pup G p (PO.lst ((ns.take 60).map PV.int))) D (.lst ((ns.take 60).map PV.int))) → lcL [(p, (ns.take 60).map PV.int)] (gN 1) tsYes (wB bInt (wCons (wVar 1) wNil)) [some (PV.rl (List.map PV.int ns)), none] D K ((ns.take 60).map PV.int) (pup (pup G p (PO.lst ((ns.take 60).map PV.int))) D (PO.lst [])) := by
    intro K hK
    have := lcL_pairs (ws := [(p, (ns.take 60).map PV.int)]) (g := gN 1) (we := wB bInt (wCons (wVar 1) wNil)) (ρ0 := [some (PV.rl (List.map PV.int ns)), none]) (D := D) (Q := K) (G0 := pup G p (PO.lst ((ns.take 60).map PV.int))) (fun acc => watch_one (by rw [pup_ne hpD, pup_same])) ((ns.take 60).map fun i => (PV.int i, PV.int i)) [] (by simp only [List.length_nil, List.length_map]; omega) (fun q hq acc R hR => by
      obtain ⟨i, _, rfl⟩ := List.mem_map.mp hq
      exact hR) (by rw [e2]; exact hK)
    rw [← e1] at this
    exact this
  refine key _ ⟨by omega, fun q hq => ?_⟩
  have hqD : D ≠ q := fun z => by subst z; rw [pup_same] at hq; cases hq
  have hqG : G q = none := by
    rw [pup_ne (Ne.symm hqD)] at hq
    by_cases h : q = p
    · rw [h]; exact hp
    · rwa [pup_ne h] at hq
  refine hQ q _ (((Ext.new hp).trans (.new hD)).trans (.new hq)) hqG ⟨D, ns.take 60, 0, 0, pup_same, by rw [pup_ne hqD, pup_same], hqD, by omega, hl⟩
end
end K51
set_option Elab.async false
set_option linter.all false
set_option maxRecDepth 100000
set_option maxHeartbeats 1000000
set_option exponentiation.threshold 10000
namespace K51
open PySem PySem.Spec PyProof.Rows L2 Cl
-- M0
-- M1
/-! ### sizes by bits -/
def Bt (k : Nat) (q : Rat) : Prop := q.num.natAbs < 2 ^ k ∧ q.den < 2 ^ k
theorem mkRat_le {a : Int} {b : Nat} (hb : 0 < b) : (mkRat a b).num.natAbs ≤ a.natAbs ∧ (mkRat a b).den ≤ b := by
  obtain ⟨hx_is_within, hx_is_list⟩ := mkRat_den (a := a) (b := b) (by omega)
  have hx_common := Nat.le_of_dvd hb hx_is_within
  refine ⟨?_, hx_common⟩
  have : (mkRat a b).num.natAbs * b ≤ a.natAbs * b := by rw [hx_is_list]; exact Nat.mul_le_mul_left _ hx_common
  exact Nat.le_of_mul_le_mul_right this hb
theorem Bt.mk' {k : Nat} {a : Int} {b : Nat} (hb : 0 < b) (hx_is_within : a.natAbs < 2 ^ k) (hx_is_list : b < 2 ^ k) : Bt k (mkRat a b) :=
  ⟨Nat.lt_of_le_of_lt (mkRat_le hb).1 hx_is_within, Nat.lt_of_le_of_lt (mkRat_le hb).2 hx_is_list⟩
theorem Bt.up {k m : Nat} {q : Rat} (h : Bt k q) (hm : k ≤ m) : Bt m q := ⟨Nat.lt_of_lt_of_le h.1 (Nat.pow_le_pow_right (by decide) hm), Nat.lt_of_lt_of_le h.2 (Nat.pow_le_pow_right (by decide) hm)⟩
theorem Bt.sml {k : Nat} {q : Rat} (h : Bt k q) (hk : k ≤ 1900) : Sml q := h.up hk
theorem Bt.mul {k m : Nat} {p q : Rat} (h : Bt k p) (h' : Bt m q) : Bt (k + m) (p * q) := by
  rw [Rat.mul_def']
  refine .mk' (Nat.mul_pos p.den_pos q.den_pos) ?_ ?_
  · rw [Int.natAbs_mul, Nat.pow_add]; exact Nat.mul_lt_mul'' h.1 h'.1
  · rw [Nat.pow_add]; exact Nat.mul_lt_mul'' h.2 h'.2
theorem Bt.add {k m : Nat} {p q : Rat} (h : Bt k p) (h' : Bt m q) : Bt (k + m + 1) (p + q) := by
  rw [Rat.add_def']
  refine .mk' (Nat.mul_pos p.den_pos q.den_pos) ?_ ?_
  · refine Nat.lt_of_le_of_lt (Int.natAbs_add_le _ _) ?_
    rw [Int.natAbs_mul, Int.natAbs_mul, Int.natAbs_natCast, Int.natAbs_natCast, Nat.pow_succ, Nat.pow_add]
    have hx_is_within := Nat.mul_lt_mul'' h.1 h'.2
    have hx_is_list := Nat.mul_lt_mul'' h.2 h'.1
    rw [Nat.mul_comm p.den] at hx_is_list
    omega
  · rw [Nat.pow_succ, Nat.pow_add]
    have := Nat.mul_lt_mul'' h.2 h'.2
    omega
theorem Bt.neg {k : Nat} {q : Rat} (h : Bt k q) : Bt k (-q) := ⟨by simpa using h.1, by simpa using h.2⟩
theorem Bt.div {k m : Nat} {p q : Rat} (h : Bt k p) (h' : Bt m q) (hx_is_integer : 0 < q) : Bt (k + m) (p / q) := by
  have hn := num_pos' hx_is_integer
  obtain ⟨n, hn'⟩ : ∃ n : Nat, q.num = n := ⟨q.num.toNat, by omega⟩
  rw [rat_div hx_is_integer hn']
  have hx_is_within := h'.1
  rw [hn'] at hx_is_within
  refine .mk' (Nat.mul_pos p.den_pos (by omega)) ?_ ?_
  · rw [Int.natAbs_mul, Int.natAbs_natCast, Nat.pow_add]; exact Nat.mul_lt_mul'' h.1 h'.2
  · rw [Nat.pow_add]; exact Nat.mul_lt_mul'' h.2 (by simpa using hx_is_within)
theorem Bt.one : Bt 1 1 := ⟨by decide, by decide⟩
theorem Bt.pow {k : Nat} {q : Rat} (h : Bt k q) : ∀ n, Bt (1 + k * n) (q ^ n)
  | 0 => by rw [Rat.pow_zero]; exact Bt.one
  | n + 1 => by
    rw [Rat.pow_succ, Nat.mul_succ, ← Nat.add_assoc]
    exact (Bt.pow h n).mul h
def spPower : PSp := fun args G Q => ∃ q n k, args = [num q, .int (n : Nat)] ∧ Bt k q ∧ 1 + k * n ≤ 1900 ∧ k ≤ 1900 ∧ n ≤ 1000000 ∧ Q (num (q ^ n)) G
section
variable {C : Nat → Addr} {Φ : Nat → PSp}
def spTurnOf : PSp := fun args G Q => ∃ h k, args = [num h] ∧ Bt k h ∧ k ≤ 100 ∧ Q (.tup [num ((1 + -1 * (h * h)) / (1 + h * h)), num (2 * h / (1 + h * h))]) G
theorem whole_pos (h : Rat) : 0 < 1 + h * h := by
  have : 0 ≤ h * h := by
    rcases (Rat.le_total : (0 : Rat) ≤ h ∨ h ≤ 0) with a | a
    · exact Rat.mul_nonneg a a
    · have : 0 ≤ (-h) * (-h) := Rat.mul_nonneg (by grind) (by grind)
      grind
  grind
end
end K51
set_option Elab.async false
set_option linter.all false
set_option maxRecDepth 100000
set_option maxHeartbeats 1000000
set_option exponentiation.threshold 10000
namespace K51
open PySem PySem.Spec PyProof.Rows L2 Cl
-- M0
-- M1
def tmP (t : Tm) : PV := .tup [.int t.i, .int t.j, num t.q]
/-- a poly in the heap -/
def IsPoly (A : Addr) (v : PV) (d : Nat) (ts : List Tm) (G : Cl.PG) : Prop := ∃ p, v = .ref p ∧ G p = some (.ins A [(Str.ofString "terms", .tup (ts.map tmP)), (Str.ofString "degree", .int d)])
theorem IsPoly.ext {A : Addr} {v : PV} {d : Nat} {ts : List Tm} {G G' : Cl.PG} (h : IsPoly A v d ts G) (e : Ext G G') : IsPoly A v d ts G' := by
  obtain ⟨p, hx_is_within, hx_is_list⟩ := h
  exact ⟨p, hx_is_within, e _ _ hx_is_list⟩
def valAt (x y : Rat) (ts : List Tm) : Rat := ts.foldl (fun a t => a + t.q * (x ^ t.i * y ^ t.j)) 0
def IsTms (v : PV) (ts : List Tm) (G : Cl.PG) : Prop := ∃ a, v = .ref a ∧ G a = some (.lst (ts.map tmP))
/-- terms as given: a list of triples -/
def TmsIn (u : PV) (ts : List Tm) (G : Cl.PG) : Prop := ∃ a us, u = .ref a ∧ G a = some (.lst us) ∧ us.length = ts.length ∧ ∀ (k : Nat) (t : Tm), ts[k]? = some t → ∃ w, us[k]? = some w ∧ IsTm w t G
theorem IsTms.inn {v : PV} {ts : List Tm} {G : Cl.PG} (h : IsTms v ts G) : TmsIn v ts G := by
  obtain ⟨a, rfl, ha⟩ := h
  exact ⟨a, _, rfl, ha, by rw [List.length_map], fun k t hk => ⟨tmP t, by rw [List.getElem?_map, hk]; rfl, num t.q, .inl rfl, .inl rfl⟩⟩
theorem TmsIn.ext {u : PV} {ts : List Tm} {G G' : Cl.PG} (h : TmsIn u ts G) (e : Ext G G') : TmsIn u ts G' := by
  obtain ⟨a, us, hx_is_within, hx_is_list, hx_common, hx_is_number⟩ := h
  refine ⟨a, us, hx_is_within, e _ _ hx_is_list, hx_common, fun k t hk => ?_⟩
  obtain ⟨w, hx_is_point, hx_is_turn⟩ := hx_is_number k t hk
  exact ⟨w, hx_is_point, hx_is_turn.ext e⟩
end K51
set_option Elab.async false
set_option linter.all false
set_option maxRecDepth 100000
set_option maxHeartbeats 1000000
set_option exponentiation.threshold 10000
namespace K51
open PySem PySem.Spec PyProof.Rows L2 Cl
-- M0
-- M1
/-! ### sums over terms -/
def lin (φ : Nat → Nat → Rat) : List Tm → Rat
  | [] => 0
  | t :: ts => t.q * φ t.i t.j + lin φ ts
theorem lin_append (φ : Nat → Nat → Rat) : ∀ ts us : List Tm, lin φ (ts ++ us) = lin φ ts + lin φ us
  | [], us => by simp only [List.nil_append, lin]; grind
  | t :: ts, us => by simp only [List.cons_append, lin, lin_append φ ts us]; grind
theorem lin_perm (φ : Nat → Nat → Rat) {ts us : List Tm} (h : ts.Perm us) : lin φ ts = lin φ us := by
  induction h with
  | nil => rfl
  | cons x _ ih => simp only [lin, ih]
  | swap x y l => simp only [lin]; grind
  | trans _ _ hx_is_within hx_is_list => rw [hx_is_within, hx_is_list]
theorem lin_filter (φ : Nat → Nat → Rat) : ∀ ts : List Tm, lin φ (ts.filter fun t => decide (t.q ≠ 0)) = lin φ ts
  | [] => rfl
  | t :: ts => by
    rw [List.filter_cons]
    by_cases h : t.q = 0
    · rw [if_neg (by simp [h]), lin_filter φ ts, lin, h]; grind
    · rw [if_pos (by simpa using h), lin, lin, lin_filter φ ts]
theorem valAt_lin (x y : Rat) (ts : List Tm) : valAt x y ts = lin (fun i j => x ^ i * y ^ j) ts := by
  have go : ∀ (ts : List Tm) (a : Rat), ts.foldl (fun a t => a + t.q * (x ^ t.i * y ^ t.j)) a = a + lin (fun i j => x ^ i * y ^ j) ts := by
    intro ts
    induction ts with
    | nil => intro a; simp only [List.foldl_nil, lin]; grind
    | cons t ts ih => intro a; simp only [List.foldl_cons, lin, ih]; grind
  rw [valAt, go]; grind
def Tm.is (t : Tm) (i j : Nat) : Bool := t.i == i && t.j == j
theorem Tm.is_iff {t : Tm} {i j : Nat} : t.is i j = true ↔ t.i = i ∧ t.j = j := by
  unfold Tm.is; simp
def coef (ms : List Tm) (i j : Nat) : Rat := match ms.find? fun t => t.is i j with | some t => t.q | none => 0
def setTm (ms : List Tm) (i j : Nat) (v : Rat) : List Tm := if ms.any fun t => t.is i j then ms.map fun t => if t.is i j then ⟨i, j, v⟩ else t else ms ++ [⟨i, j, v⟩]
/-- no key twice -/
def KeyNd (ms : List Tm) : Prop := ms.Pairwise fun a b => b.is a.i a.j = false
theorem KeyNd.perm {ms ns : List Tm} (h : KeyNd ms) (p : ms.Perm ns) : KeyNd ns := by
  refine List.Pairwise.perm h p fun {a b} hab => ?_
  cases e : a.is b.i b.j with
  | false => rfl
  | true =>
    rw [Tm.is_iff] at e
    rw [← Bool.not_eq_true, Tm.is_iff] at hab
    exact absurd ⟨e.1.symm, e.2.symm⟩ hab
theorem KeyNd.filter {ms : List Tm} (h : KeyNd ms) (p : Tm → Bool) : KeyNd (ms.filter p) := List.Pairwise.filter p h
theorem find_of {ms : List Tm} (h : KeyNd ms) {t : Tm} (ht : t ∈ ms) : ms.find? (fun u => u.is t.i t.j) = some t := by
  induction ms with
  | nil => cases ht
  | cons u ms ih =>
    obtain ⟨hx_is_within, hx_is_list⟩ := List.pairwise_cons.mp h
    rw [List.find?_cons]
    rcases List.mem_cons.mp ht with rfl | ht
    · rw [show t.is t.i t.j = true from Tm.is_iff.mpr ⟨rfl, rfl⟩]
    · have e : u.is t.i t.j = false := by
        rw [← Bool.not_eq_true]
        intro z
        rw [Tm.is_iff] at z
        have := hx_is_within t ht
        rw [← Bool.not_eq_true, Tm.is_iff] at this
        exact this ⟨z.1.symm, z.2.symm⟩
      rw [e]
      exact ih hx_is_list ht
theorem coef_of {ms : List Tm} (h : KeyNd ms) {t : Tm} (ht : t ∈ ms) : coef ms t.i t.j = t.q := by
  unfold coef
  rw [find_of h ht]
theorem lin_set (φ : Nat → Nat → Rat) {ms : List Tm} (h : KeyNd ms) (i j : Nat) (v : Rat) : lin φ (setTm ms i j v) = lin φ ms + (v - coef ms i j) * φ i j := by
  have none_ : ∀ ms : List Tm, (∀ u ∈ ms, u.is i j = false) → ms.map (fun t => if t.is i j then (⟨i, j, v⟩ : Tm) else t) = ms := by
    intro ms h
    induction ms with
    | nil => rfl
    | cons u ms ih => rw [List.map_cons, if_neg (by simp [h u List.mem_cons_self]), ih fun w hw => h w (List.mem_cons_of_mem _ hw)]
  unfold setTm
  by_cases ha : (ms.any fun t => t.is i j) = true
  · rw [if_pos ha]
    induction ms with
    | nil => simp at ha
    | cons u ms ih =>
      obtain ⟨hx_is_within, hx_is_list⟩ := List.pairwise_cons.mp h
      by_cases hu : u.is i j = true
      · have hu' := Tm.is_iff.mp hu
        have hn : ∀ w ∈ ms, w.is i j = false := fun w hw => by have := hx_is_within w hw; rw [hu'.1, hu'.2] at this; exact this
        have ec : coef (u :: ms) i j = u.q := by unfold coef; rw [List.find?_cons, hu]
        rw [List.map_cons, if_pos hu, none_ ms hn, lin, lin, ec, hu'.1, hu'.2]; grind
      · have hu' : u.is i j = false := by simpa using hu
        have ec : coef (u :: ms) i j = coef ms i j := by unfold coef; rw [List.find?_cons, hu']
        rw [List.any_cons, hu', Bool.false_or] at ha
        rw [List.map_cons, if_neg hu, lin, lin, ih hx_is_list ha, ec]; grind
  · rw [if_neg ha, lin_append]
    have ec : coef ms i j = 0 := by
      unfold coef
      have : ms.find? (fun t => t.is i j) = none := by
        rw [List.find?_eq_none]
        intro u hu z
        exact ha (List.any_eq_true.mpr ⟨u, hu, z⟩)
      rw [this]
    rw [ec, lin, lin]; grind
theorem mem_set {ms : List Tm} {i j : Nat} {v : Rat} {t : Tm} (h : t ∈ setTm ms i j v) : (t ∈ ms ∧ t.is i j = false) ∨ t = ⟨i, j, v⟩ := by
  unfold setTm at h
  split at h
  · obtain ⟨u, hu, e⟩ := List.mem_map.mp h
    by_cases hk : u.is i j = true
    · rw [if_pos hk] at e; exact .inr e.symm
    · rw [if_neg hk] at e; subst e; exact .inl ⟨hu, by simpa using hk⟩
  · rename_i ha
    rcases List.mem_append.mp h with h | h
    · refine .inl ⟨h, ?_⟩
      rw [← Bool.not_eq_true]
      intro z
      exact ha (List.any_eq_true.mpr ⟨t, h, z⟩)
    · exact .inr (by simpa using h)
theorem set_length (ms : List Tm) (i j : Nat) (v : Rat) : (setTm ms i j v).length ≤ ms.length + 1 := by
  unfold setTm
  split <;> simp
theorem KeyNd.set {ms : List Tm} (h : KeyNd ms) (i j : Nat) (v : Rat) : KeyNd (setTm ms i j v) := by
  unfold setTm
  split
  · unfold KeyNd at h ⊢
    rw [List.pairwise_map]
    refine h.imp fun {a b} hab => ?_
    have key : ∀ t : Tm, (if t.is i j then (⟨i, j, v⟩ : Tm) else t).i = t.i ∧ (if t.is i j then (⟨i, j, v⟩ : Tm) else t).j = t.j := fun t => by
      by_cases hk : t.is i j = true
      · rw [if_pos hk]; have := Tm.is_iff.mp hk; exact ⟨this.1.symm, this.2.symm⟩
      · rw [if_neg hk]; exact ⟨rfl, rfl⟩
    show ((if b.is i j then (⟨i, j, v⟩ : Tm) else b).i == (if a.is i j then (⟨i, j, v⟩ : Tm) else a).i && (if b.is i j then (⟨i, j, v⟩ : Tm) else b).j == (if a.is i j then (⟨i, j, v⟩ : Tm) else a).j) = false
    rw [(key a).1, (key a).2, (key b).1, (key b).2]
    exact hab
  · rename_i ha
    unfold KeyNd at h ⊢
    rw [List.pairwise_append]
    refine ⟨h, List.pairwise_singleton _ _, fun a hm b hb => ?_⟩
    have : b = ⟨i, j, v⟩ := by simpa using hb
    subst this
    rw [← Bool.not_eq_true, Tm.is_iff]
    intro z
    exact ha (List.any_eq_true.mpr ⟨a, hm, Tm.is_iff.mpr ⟨z.1.symm, z.2.symm⟩⟩)
/-! ### as entries of a dict -/
def tkey (i j : Nat) : NestedKey := .tup [.num i, .num j]
def ent (t : Tm) : NestedKey × PV := (tkey t.i t.j, num t.q)
theorem tkey_inj {i j k l : Nat} : tkey i j = tkey k l ↔ i = k ∧ j = l := by
  unfold tkey
  constructor
  · intro h
    injection h with h
    injection h with hx_is_within hx_is_list
    injection hx_is_list with hx_is_list _
    injection hx_is_within with hx_is_within
    injection hx_is_list with hx_is_list
    omega
  · rintro ⟨rfl, rfl⟩; rfl
theorem dLook_ent (i j : Nat) : ∀ ms : List Tm, dLook (ms.map ent) (tkey i j) = (ms.find? fun t => t.is i j).map fun t => num t.q
  | [] => rfl
  | t :: ms => by
    have ih := dLook_ent i j ms
    unfold dLook at ih ⊢
    rw [List.map_cons, List.find?_cons, List.find?_cons]
    by_cases h : t.is i j = true
    · have h' := Tm.is_iff.mp h
      have e : decide ((ent t).1 = tkey i j) = true := decide_eq_true (tkey_inj.mpr h')
      rw [e, h]; rfl
    · have e : decide ((ent t).1 = tkey i j) = false := decide_eq_false fun z => h (Tm.is_iff.mpr (tkey_inj.mp z))
      have h' : t.is i j = false := by simpa using h
      rw [e, h']
      exact ih
theorem dLook_get {ms : List Tm} (h : KeyNd ms) {t : Tm} (ht : t ∈ ms) : dLook (ms.map ent) (tkey t.i t.j) = some (num t.q) := by
  rw [dLook_ent, find_of h ht]; rfl
theorem dLook_coef (ms : List Tm) (i j : Nat) : (dLook (ms.map ent) (tkey i j)).getD (num 0) = num (coef ms i j) := by
  rw [dLook_ent]
  unfold coef
  cases ms.find? (fun t => t.is i j) <;> rfl
theorem dPut_ent (ms : List Tm) (i j : Nat) (v : Rat) : dPut (ms.map ent) (tkey i j) (num v) = (setTm ms i j v).map ent := by
  unfold dPut setTm
  have e : (dLook (ms.map ent) (tkey i j)).isSome = ms.any fun t => t.is i j := by
    rw [dLook_ent, Option.isSome_map, Bool.eq_iff_iff, List.find?_isSome, List.any_eq_true]
  rw [e]
  split
  · rw [List.map_map, List.map_map]
    apply List.map_congr_left
    intro t _
    show (if (ent t).1 = tkey i j then ((ent t).1, num v) else ent t) = ent (if t.is i j then ⟨i, j, v⟩ else t)
    by_cases h : t.is i j = true
    · have h' := Tm.is_iff.mp h
      rw [if_pos h, if_pos (show (ent t).1 = tkey i j from tkey_inj.mpr h')]
      unfold ent
      rw [h'.1, h'.2]
    · rw [if_neg h, if_neg (show ¬ (ent t).1 = tkey i j from fun z => h (Tm.is_iff.mpr (tkey_inj.mp z)))]
  · rw [List.map_append]; rfl
theorem set_new {ms : List Tm} {t : Tm} (h : KeyNd (ms ++ [t])) : setTm ms t.i t.j t.q = ms ++ [t] := by
  unfold setTm
  rw [if_neg]
  intro z
  obtain ⟨u, hu, z⟩ := List.any_eq_true.mp z
  have := (List.pairwise_append.mp h).2.2 u hu t (by simp)
  rw [← Bool.not_eq_true, Tm.is_iff] at this
  exact this (by have := Tm.is_iff.mp z; exact ⟨this.1.symm, this.2.symm⟩)
theorem perm_map_inv {α β : Type} {f : α → β} {l m : List β} (h : l.Perm m) : ∀ ts : List α, m = ts.map f → ∃ ts' : List α, ts'.Perm ts ∧ l = ts'.map f := by
  induction h with
  | nil => intro ts e; cases ts with
    | nil => exact ⟨[], .refl _, rfl⟩
    | cons _ _ => simp at e
  | cons x p ih => intro ts e; cases ts with
    | nil => simp at e
    | cons t ts =>
      simp only [List.map_cons, List.cons.injEq] at e
      obtain ⟨ts', hx_is_within, hx_is_list⟩ := ih ts e.2
      exact ⟨t :: ts', hx_is_within.cons t, by rw [List.map_cons, ← e.1, hx_is_list]⟩
  | swap x y l => intro ts e; match ts, e with
    | t :: u :: ts, e =>
      simp only [List.map_cons, List.cons.injEq] at e
      exact ⟨u :: t :: ts, .swap t u ts, by rw [List.map_cons, List.map_cons, e.1, e.2.1, e.2.2]⟩
  | trans _ _ hx_is_within hx_is_list =>
    intro ts e
    obtain ⟨ts1, k1, k2⟩ := hx_is_list ts e
    obtain ⟨ts2, k3, k4⟩ := hx_is_within ts1 k2
    exact ⟨ts2, k3.trans k1, k4⟩
theorem srt_ent (ms : List Tm) : ∃ ms' : List Tm, ms'.Perm ms ∧ srtT ((ms.map ent).map (·.1)) = ms'.map fun t => .tup [.int t.i, .int t.j] := by
  have p : (((ms.map ent).map (·.1)).mergeSort (PySem.W.dataLe false NestedKey.data)).Perm ((ms.map ent).map (·.1)) := List.mergeSort_perm _ _
  obtain ⟨ms', hx_is_within, hx_is_list⟩ := perm_map_inv (f := fun t : Tm => tkey t.i t.j) p ms (by rw [List.map_map]; rfl)
  refine ⟨ms', hx_is_within, ?_⟩
  unfold srtT
  rw [hx_is_list, List.map_map]
  apply List.map_congr_left
  intro t _
  show kpv (tkey t.i t.j) = _
  unfold tkey
  rw [kpv, kpvs, kpvs, kpvs, kpv, kpv]
theorem alike_ent (ms : List Tm) : PySem.W.AllAlike (((ms.map ent).map (·.1)).map NestedKey.data) ∧ PySem.W.Sortable (((ms.map ent).map (·.1)).map NestedKey.data) ∧ ∀ k ∈ (ms.map ent).map (·.1), k.data.depth ≤ 64 := by
  have e : ((ms.map ent).map (·.1)).map NestedKey.data = ms.map fun t => .tuple [.int t.i, .int t.j] := by
    rw [List.map_map, List.map_map]
    apply List.map_congr_left
    intro t _
    show (tkey t.i t.j).data = _
    unfold tkey
    simp only [NestedKey.data, NestedKey.datas]
  rw [e]
  refine ⟨PySem.W.AllAlike.of fun _ _ => by simp [PySem.W.alike, PySem.W.alikeAll], PySem.W.Sortable.tuples fun _ => ⟨_, _, rfl⟩, fun k hk => ?_⟩
  rw [List.map_map] at hk
  obtain ⟨t, _, rfl⟩ := List.mem_map.mp hk
  show (tkey t.i t.j).data.depth ≤ 64
  unfold tkey
  simp [NestedKey.data, NestedKey.datas, PyData.depth, PyData.depthAll]
end K51
set_option Elab.async false
set_option linter.all false
set_option maxRecDepth 100000
set_option maxHeartbeats 1000000
set_option exponentiation.threshold 10000
namespace K51
open PySem PySem.Spec PyProof.Rows L2 Cl
-- M0
local macro_rules | `(tactic| k_call_by "ET" [$as,*]) => `(tactic| simp only [Cl.B, Cl.L, Cl.LG, List.foldr_cons, List.foldr_nil, Cl.wSs, Cl.wSt, Cl.wE, Cl.wEs, Cl.wTs, Cl.wOp, Cl.wQ, Cl.wS, Cl.wI, Cl.wG, Cl.wGs, Cl.CGs.len, Cl.sSeq, Cl.sRet, Cl.sRetN, Cl.sNext, Cl.sIf, Cl.sAsg, Cl.wLc, Cl.wLcQ, Cl.wipeR, Cl.sDrop, Cl.sPar2, Cl.sBrk, Cl.sCont, Cl.gN, Cl.gTp, Cl.gC, Cl.gZ, Cl.gS, Cl.wAnd, Cl.wOr, Cl.wIf, Cl.wNot, Cl.wNeg, Cl.wVar, Cl.wC, Cl.Cn.pv, Cl.w2, Cl.w3, Cl.wSet, Cl.wTup, Cl.wLst, Cl.wNil, Cl.wCons, Cl.wCall, Cl.wMake, Cl.wB, Cl.Bi.r, Cl.bAbs, Cl.bInt, Cl.bLen_tup, Cl.bLen_rl, Cl.wIsi, Cl.CTy.p, Cl.startP, List.map_cons, List.map_nil, List.getElem?_cons_zero, List.getElem?_cons_succ, List.set_cons_zero, List.set_cons_succ, List.cons_append, List.nil_append, List.length_cons, List.length_nil, Nat.reduceAdd, Nat.reduceSub, Nat.zero_add, List.replicate, List.any_cons, List.any_nil, Cl.isOne, Cl.tru_bl, Cl.tru_int, Cl.tyOf_bl, Cl.tyOf_int, Cl.tyOf_tup, Cl.tyOf_rl, Cl.tyOf_non, Cl.cmp_lt, Cl.cmp_le, Cl.cmp_gt, Cl.cmp_ge, Cl.cmp_is, Cl.cmp_eqI, Cl.cmp_neI, Cl.at_0, Cl.at_1, Cl.at_2, true_and, and_true, Option.map_some, Option.getD_some, Cl.wTupOf, Cl.wLstOf, Cl.sFor, Cl.iVal, Cl.iEnm, Cl.iR1, Cl.iR2, Cl.iZp, Cl.seqOf_tup, Cl.seqOf_rl, Cl.tsYes, Cl.tsOne, Cl.wSeq, Cl.wSeqL, Cl.wFld, Cl.sFldP, Cl.wSlice, Cl.wPart, Cl.wNoP, Cl.wRev, Cl.Ag.w, Cl.wAll, Cl.wAny, Cl.wMax, Cl.wMin, Cl.wSum, Cl.wMaxC, Cl.wCallK, Cl.gP, Cl.bi_add, Cl.bi_sub, Cl.bi_mul, Cl.bi_div, Cl.bi_mod, Cl.bi_pow, Cl.ix_t0, Cl.ix_t1, Cl.ix_t2, Cl.ni1, Cl.ni2, Cl.ni3, decide_true, eq_self, Cl.b_o, String.reduceBEq, Bool.or_false, Bool.false_or, Bool.true_or, Bool.or_true, Bool.false_and, Bool.true_and, Bool.and_false, Bool.not_true, Bool.not_false, $[$as:term],*])
local macro_rules | `(tactic| k_call_by "EY" [$as,*]) => `(tactic| simp only [Cl.L, Cl.LG, List.foldr_cons, List.foldr_nil, Cl.wSt, Cl.wE, Cl.wEs, Cl.wTs, Cl.wOp, Cl.wQ, Cl.wS, Cl.wI, Cl.wG, Cl.wGs, Cl.CGs.len, Cl.sRet, Cl.sRetN, Cl.sNext, Cl.sIf, Cl.sAsg, Cl.wipeR, Cl.sDrop, Cl.sPar2, Cl.sBrk, Cl.sCont, Cl.wAnd, Cl.wOr, Cl.wIf, Cl.wNot, Cl.wNeg, Cl.wVar, Cl.wC, Cl.Cn.pv, Cl.w2, Cl.w3, Cl.wTup, Cl.wLst, Cl.wNil, Cl.wCons, Cl.wCall, Cl.wMake, Cl.wB, Cl.Bi.r, Cl.bAbs, Cl.bInt, Cl.bLen_tup, Cl.bLen_rl, Cl.wIsi, Cl.CTy.p, Cl.startP, List.map_cons, List.map_nil, List.getElem?_cons_zero, List.getElem?_cons_succ, List.set_cons_zero, List.set_cons_succ, List.cons_append, List.nil_append, List.length_cons, List.length_nil, Nat.reduceAdd, Nat.reduceSub, Nat.zero_add, List.replicate, List.any_cons, List.any_nil, Cl.isOne, Cl.tru_bl, Cl.tru_int, Cl.tyOf_bl, Cl.tyOf_int, Cl.tyOf_tup, Cl.tyOf_rl, Cl.tyOf_non, Cl.cmp_lt, Cl.cmp_le, Cl.cmp_gt, Cl.cmp_ge, Cl.cmp_is, Cl.cmp_eqI, Cl.cmp_neI, Cl.at_0, Cl.at_1, Cl.at_2, true_and, and_true, Option.map_some, Option.getD_some, Cl.wTupOf, Cl.wLstOf, Cl.sFor, Cl.seqOf_tup, Cl.seqOf_rl, Cl.tsOne, Cl.wSeq, Cl.wSeqL, Cl.wFld, Cl.sFldP, Cl.wSlice, Cl.wPart, Cl.wNoP, Cl.wRev, Cl.Ag.w, Cl.wAll, Cl.wAny, Cl.wMax, Cl.wMin, Cl.wSum, Cl.wMaxC, Cl.wCallK, Cl.gP, Cl.bi_add, Cl.bi_sub, Cl.bi_mul, Cl.bi_div, Cl.bi_mod, Cl.bi_pow, Cl.ix_t0, Cl.ix_t1, Cl.ix_t2, Cl.ni1, Cl.ni2, Cl.ni3, decide_true, eq_self, Cl.b_o, String.reduceBEq, Bool.or_false, Bool.false_or, Bool.true_or, Bool.or_true, Bool.false_and, Bool.true_and, Bool.and_false, Bool.not_true, Bool.not_false, Cl.wSi, Cl.wStar, Cl.wMeth, Cl.iVal_ap, Cl.iEnm_ap, Cl.iZp_ap, Cl.iR1_ap, Cl.iR2_ap, Cl.iR3_ap, Cl.itV_tup, Cl.itV_rl, Cl.itE_tup, Cl.itZ_tup, Cl.itR_int, Cl.itR2_int, Cl.lcQ_iVal, Cl.lcQ_iEnm, Cl.lcQ_iZp, Cl.lcQ_iR1, Cl.lcQ_iR2, Cl.lc_iVal, Cl.lc_iEnm, Cl.lc_iZp, Cl.lc_iR1, Cl.lc_iR2, Cl.dc_iVal, Cl.gN_ap, Cl.gC_ap, Cl.gZ_ap, Cl.gTp2, Cl.gTp3, Cl.gTp4, Cl.gS_ap, Cl.tsYes_ap, $[$as:term],*])
-- M1
theorem dcL_inv {ws : Ws} {g : WG} {wk wv : WE} {ρ0 : Rho} {D : Addr} {Q : Cl.PG → Prop} (I : Nat → Cl.PG → Prop) : ∀ (vs : List PV) (n : Nat) (G : Cl.PG), I n G →
    (∀ k v G (R : Cl.PG → Prop), vs[k]? = some v → I (n + k) G → (∀ G', I (n + k + 1) G' → R G') → watch ws G ∧ g v ρ0 G fun ρ1 G1 => wk ρ1 G1 fun y G3 => wv ρ1 G3 fun z G4 => wPut D y z G4 R) →
    (∀ G, I (n + vs.length) G → watch ws G ∧ Q G) → dcL ws g tsYes wk wv ρ0 D Q vs G
  | [], n, G, h, _, hl => hl G h
  | v :: vs, n, G, h, hs, hl => by
    refine hs 0 v G _ rfl h fun G' h' => ?_
    refine dcL_inv I vs (n + 1) G' h' (fun k v G R e hx_common hx_is_number => ?_) fun G hx_common => ?_
    · have := hs (k + 1) v G R (by simpa using e)
      rw [show n + (k + 1) = n + 1 + k by omega] at this
      exact this hx_common hx_is_number
    · have := hl G
      rw [List.length_cons, show n + (vs.length + 1) = n + 1 + vs.length by omega] at this
      exact this hx_common
/-- the degree -/
def IsDeg (d : Nat) (ts : List Tm) : Prop := (∀ t ∈ ts, t.i + t.j ≤ d) ∧ (d = 0 ∨ ∃ t ∈ ts, t.i + t.j = d)
theorem IsDeg.perm {d : Nat} {ts us : List Tm} (h : IsDeg d ts) (p : ts.Perm us) : IsDeg d us :=
  ⟨fun t ht => h.1 t (p.mem_iff.mpr ht), h.2.imp id fun ⟨t, ht, e⟩ => ⟨t, p.mem_iff.mp ht, e⟩⟩
theorem IsDeg.uniq {d e : Nat} {ts : List Tm} (h : IsDeg d ts) (h' : IsDeg e ts) : d = e := by
  obtain ⟨a, b⟩ := h
  obtain ⟨a', b'⟩ := h'
  rcases b with b | ⟨t, ht, b⟩ <;> rcases b' with b' | ⟨t', ht', b'⟩
  · omega
  · have := a _ ht'; omega
  · have := a' _ ht; omega
  · have := a _ ht'; have := a' _ ht; omega
theorem foldl_max : ∀ (ns : List Nat) (n : Nat), (∃ m : Nat, (ns.map fun (k : Nat) => (k : Int)).foldl max (n : Int) = (m : Int) ∧ n ≤ m ∧ (∀ k ∈ ns, k ≤ m) ∧ (m = n ∨ m ∈ ns))
  | [], n => ⟨n, rfl, Nat.le_refl _, (fun _ h => nomatch h), .inl rfl⟩
  | k :: ns, n => by
    obtain ⟨m, hx_is_within, hx_is_list, hx_common, hx_is_number⟩ := foldl_max ns (max n k)
    refine ⟨m, ?_, by omega, fun l hl => ?_, ?_⟩
    · rw [List.map_cons, List.foldl_cons, ← hx_is_within]
      congr 1
      omega
    · rcases List.mem_cons.mp hl with rfl | hl
      · omega
      · exact hx_common l hl
    · rcases hx_is_number with hx_is_number | hx_is_number
      · by_cases hk : n ≤ k
        · right; rw [hx_is_number, Nat.max_eq_right hk]; exact List.mem_cons_self
        · left; rw [hx_is_number]; omega
      · exact .inr (List.mem_cons_of_mem _ hx_is_number)
theorem nks_key (i j : Nat) : nks [.int i, .int j] = some [.num i, .num j] := by
  simp [nks, nk]
theorem key_depth (i j : Nat) : (NestedKey.tup [.num i, .num j]).depth ≤ 8 := by
  simp [NestedKey.depth, NestedKey.depthAll]
theorem ix_dT {a : Addr} {ms : List Tm} {G : Cl.PG} {t : Tm} {Q : WK} (h : G a = some (.dT (ms.map ent))) (hk : KeyNd ms) (ht : t ∈ ms) (hQ : Q (num t.q) G) : Cl.wIdx (.ref a) (.tup [.int t.i, .int t.j]) G Q :=
  ix_T h (nks_key t.i t.j) (key_depth _ _) (dLook_get hk ht) hQ
theorem put_dT {a : Addr} {ms : List Tm} {G : Cl.PG} {i j : Nat} {v : Rat} {Q : Cl.PG → Prop} (h : G a = some (.dT (ms.map ent))) (hl : ms.length < 1000000) (hQ : Q (pup G a (.dT ((setTm ms i j v).map ent)))) : wPut a (.tup [.int i, .int j]) (num v) G Q := by
  show match G a, nks [.int i, .int j] with
    | some (.dT kvs), some ks => (NestedKey.tup ks).depth ≤ 8 ∧ kvs.length < sizeLine ∧ Q (pup G a (.dT (dPut kvs (.tup ks) (num v))))
    | _, _ => False
  have := size_big
  rw [h, nks_key]
  refine ⟨key_depth _ _, by rw [List.length_map]; omega, ?_⟩
  rw [show NestedKey.tup [.num (i : Int), .num (j : Int)] = tkey i j from rfl, dPut_ent]
  exact hQ
theorem set_dT {a : Addr} {ms : List Tm} {G : Cl.PG} {i j : Nat} {v : Rat} {Q : Cl.PG → Prop} (h : G a = some (.dT (ms.map ent))) (hl : ms.length < 1000000) (hQ : Q (pup G a (.dT ((setTm ms i j v).map ent)))) : wSet (.ref a) (.tup [.int i, .int j]) (num v) G Q :=
  put_dT h hl hQ
theorem get_dT {a : Addr} {ms : List Tm} {G : Cl.PG} {i j : Nat} {Q : WK} (h : G a = some (.dT (ms.map ent))) (hQ : Q (num (coef ms i j)) G) : gT a (.tup [.int i, .int j]) (.int 0) G Q := by
  show match G a, PV.tup [.int i, .int j] with
  | some (.dT kvs), .tup ks => (match nks ks with
    | some ks => (NestedKey.tup ks).depth ≤ 8 ∧ Q ((dLook kvs (.tup ks)).getD (.int 0)) G
    | none => False)
  | _, _ => False
  rw [h]
  dsimp only
  rw [nks_key]
  refine ⟨key_depth _ _, ?_⟩
  rw [show NestedKey.tup [.num (i : Int), .num (j : Int)] = tkey i j from rfl, zero_num, dLook_coef]
  exact hQ
theorem sorted_dT {a : Addr} {ms : List Tm} {G : Cl.PG} {Q : WK} (h : G a = some (.dT (ms.map ent))) (hl : ms.length ≤ 1000000) (hQ : ∀ ms' : List Tm, ms'.Perm ms → ∀ p, G p = none → Q (.ref p) (pup G p (.lst (ms'.map fun t => .tup [.int t.i, .int t.j])))) : bSorted [.ref a] G Q := by
  show match G a with
    | some (.dT kvs) => PySem.W.AllAlike ((kvs.map (·.1)).map NestedKey.data) ∧ PySem.W.Sortable ((kvs.map (·.1)).map NestedKey.data) ∧ kvs.length ≤ sizeLine ∧ (∀ k ∈ kvs.map (·.1), k.data.depth ≤ 64) ∧ ∀ p, G p = none → Q (.ref p) (pup G p (.lst (srtT (kvs.map (·.1)))))
    | some (.lst xs) => _
    | _ => False
  have := size_big
  rw [h]
  obtain ⟨hx_is_within, hx_is_list, hx_common⟩ := alike_ent ms
  obtain ⟨ms', p1, p2⟩ := srt_ent ms
  refine ⟨hx_is_within, hx_is_list, by rw [List.length_map]; omega, hx_common, fun p hp => ?_⟩
  rw [p2]
  exact hQ ms' p1 p hp
/-- a term's triple, unpacked -/
theorem IsTm.unpack {u : PV} {t : Tm} {G : Cl.PG} (h : IsTm u t G) {a b c : Nat} {ρ : Rho} {R : Rho → Cl.PG → Prop} (hR : ∀ w, IsNum w t.q G → R (((ρ.set a (some (.int t.i))).set b (some (.int t.j))).set c (some w)) G) : gTp 3 (gC (gN a) (gC (gN b) (gC (gN c) gZ))) u ρ G R := by
  obtain ⟨w, hx_is_within, hx_is_list⟩ := h
  rcases hx_is_list with rfl | ⟨p, rfl, hp⟩
  · k_call_by "ET" [Cl.gTp, Cl.gC, Cl.gN, Cl.gZ]
    exact hR w hx_is_within
  · k_call_by "ET" [Cl.gTp, Cl.gC, Cl.gN, Cl.gZ, hp]
    exact hR w hx_is_within
theorem bools_true : ∀ n : Nat, bools (List.replicate n (.bl true)) = some (List.replicate n true)
  | 0 => rfl
  | n + 1 => by rw [List.replicate_succ, List.replicate_succ, bools, bools_true n]
theorem all_true : ∀ n : Nat, (List.replicate n true).all (fun b => b) = true
  | 0 => rfl
  | n + 1 => by rw [List.replicate_succ, List.all_cons, all_true n]; rfl
theorem ints_nat : ∀ ns : List Nat, intsOf (ns.map fun (n : Nat) => PV.int n) = some (ns.map fun (n : Nat) => (n : Int))
  | [] => rfl
  | n :: ns => by rw [List.map_cons, List.map_cons, intsOf, ints_nat ns]
def spPoly (A0 : Addr) : PSp := fun args G Q => ∃ p v ts, args = [.ref p, v] ∧ G p = some (.ins A0 []) ∧ TmsIn v ts G ∧ (∀ t ∈ ts, t.ok) ∧ KeyNd ts ∧ ts.length ≤ 1000 ∧ ∀ G' ts' d, ts'.Perm ts → IsDeg d ts → ExtB p G G' → IsPoly A0 (.ref p) d ts' G' → Q .non G'
section
variable {C : Nat → Addr} {Φ : Nat → PSp}
theorem w54 (hx_is_list : Has Φ 2 (spTy isListB)) (hx_is_term : Has Φ 15 spTerm) (hx_kept : Has Φ 5 spKept) : Kp C Φ c54 N54 (spPoly (C 2)) := by
  rintro args G Q ⟨p, v, ts, rfl, hp, hv, hok, hnd, hlen, hQ⟩
  have hz := size_big
  have hv' := hv
  obtain ⟨a, us, rfl, ha, hul, hus⟩ := hv
  have hup : ∀ {k : Nat} {v : PV}, us[k]? = some v → ∃ t, ts[k]? = some t ∧ t ∈ ts ∧ IsTm v t G := fun {k v} hk => by
    have : k < us.length := (List.getElem?_eq_some_iff.mp hk).1
    have ht : ts[k]? = some ts[k] := List.getElem?_eq_getElem (by omega)
    obtain ⟨w, hx_is_within, hx_common⟩ := hus k _ ht
    rw [hk] at hx_is_within; cases hx_is_within
    exact ⟨_, ht, List.mem_of_getElem? ht, hx_common⟩
  unfold c54 l54
  ((try dsimp only); rw [Cl.wSs_cons]; k_call_by "EY" [N54, Γ_phi])
  refine hx_is_list _ _ _ ⟨_, "list", rfl, tyOf_lst ha, .inr (.inl rfl), ?_⟩
  k_call_by "EY" [isListB, itV_lst ha]
  refine lcQ_ext (ys := List.replicate us.length (.bl true)) (fun G' e => watch_one (e _ _ ha)) (by omega) (by simp) (fun k v y hx_is_within hx_common G' e R hR => ?_) fun G1 e1 => ?_
  · obtain ⟨t, ht, hm, it⟩ := hup hx_is_within
    rw [List.getElem?_replicate] at hx_common
    split at hx_common
    · cases hx_common
      k_call_by "EY" []
      exact hx_is_term _ _ _ ⟨v, t, rfl, it.ext e, hok t hm, hR⟩
    · cases hx_common
  k_call_by "EY" [bools_true, all_true]
  rw [wSs_nil]; dsimp only
  ((try dsimp only); rw [Cl.wSs_cons]; k_call_by "EY" [Γ_phi, itV_lst (e1 _ _ ha)])
  refine dc_inv (fun D n G' => Ext G1 G' ∧ G' D = some (.dT ((ts.take n).map ent))) (fun D hD => ⟨.new hD, pup_same⟩) (fun D hD k v G' R hk hI hR => ?_) fun D G2 hD hI => ?_
  · obtain ⟨hG, hd⟩ := hI
    obtain ⟨t, ht, hm, it⟩ := hup hk
    refine ⟨watch_one (hG _ _ (e1 _ _ ha)), ?_⟩
    k_call_by "EY" []
    refine (it.ext (e1.trans hG)).unpack fun w hw => ?_
    k_call_by "EY" []
    refine ⟨two_le, hx_kept _ _ _ ⟨w, t.q, rfl, hw, put_dT hd (by rw [List.length_take]; omega) (hR _ ⟨hG.updNew hD, ?_⟩)⟩⟩
    have e : ts.take (k + 1) = ts.take k ++ [t] := by rw [List.take_succ, ht]; rfl
    have hnd' : KeyNd (ts.take (k + 1)) := List.Pairwise.sublist (List.take_sublist _ _) hnd
    rw [pup_same, e]
    rw [e] at hnd'
    rw [set_new hnd']
  · obtain ⟨hG, hd⟩ := hI
    rw [hul, List.take_length] at hd
    refine ⟨watch_one (hG _ _ (e1 _ _ ha)), ?_⟩
    have hDp : p ≠ D := fun z => by subst z; rw [e1 _ _ hp] at hD; cases hD
    have hp2 := hG _ _ (e1 _ _ hp)
    have ha2 := hG _ _ (e1 _ _ ha)
    ((try dsimp only); rw [Cl.wSs_cons]; k_call_by "EY" [])
    rw [bLen_dT hd]
    refine ⟨by rw [List.length_map]; omega, ?_⟩
    rw [bLen_lst ha2]
    k_call_by "EY" []
    rw [List.length_map, hul]
    k_call_by "EY" []
    rw [wSs_nil]; dsimp only
    ((try dsimp only); rw [Cl.wSs_cons]; k_call_by "EY" [])
    refine sorted_dT hd (by omega) fun ms' pm q hq => ?_
    have hDq : D ≠ q := fun z => by subst z; rw [hd] at hq; cases hq
    have pml := pm.length_eq
    rw [itV_lst pup_same]
    have hd3 : ∀ o, pup G2 q o D = some (.dT (ts.map ent)) := fun o => by rw [pup_ne hDq]; exact hd
    refine lcQ_ext (ys := ms'.map tmP) (fun G' e => watch_one (e _ _ pup_same)) (by rw [List.length_map]; omega) (by rw [List.length_map, List.length_map]) (fun k v y hx_is_within hx_common G' e R hR => ?_) fun G3 e3 => ?_
    · rw [List.getElem?_map] at hx_is_within hx_common
      obtain ⟨t, ht, rfl⟩ := Option.map_eq_some_iff.mp hx_is_within
      rw [ht] at hx_common; cases hx_common
      have hm : t ∈ ts := pm.mem_iff.mp (List.mem_of_getElem? ht)
      k_call_by "EY" []
      refine ⟨two_le, ix_dT (e _ _ (hd3 _)) hnd hm ?_⟩
      exact ⟨by omega, hR _ .refl⟩
    have hp3 : G3 p = some (.ins (C 2) []) := e3 _ _ (Ext.new hq _ _ hp2)
    have hd4 : G3 D = some (.dT (ts.map ent)) := e3 _ _ (hd3 _)
    simp only [hp3, Γ_flds]
    refine ⟨by simp, by simp, ?_⟩
    ((try dsimp only); rw [Cl.wSs_cons]; k_call_by "EY" [Γ_flds])
    have hpD' : ∀ o, pup G3 p o D = some (.dT (ts.map ent)) := fun o => by rw [pup_ne (Ne.symm hDp)]; exact hd4
    refine lcKeysQ_ext (ys := (ts.map fun t => t.i + t.j).map fun (n : Nat) => PV.int n) rfl (hpD' _) (by rw [List.length_map]; omega) (by simp) (fun k pr y hx_is_within hx_common G' e R hR => ?_) fun G5 e5 => ?_
    · rw [List.getElem?_map] at hx_is_within
      obtain ⟨t, ht, rfl⟩ := Option.map_eq_some_iff.mp hx_is_within
      rw [List.getElem?_map, List.getElem?_map, ht] at hx_common
      cases hx_common
      have ek : kpv (ent t).1 = .tup [.int t.i, .int t.j] := by
        show kpv (tkey t.i t.j) = _
        unfold tkey
        rw [kpv, kpvs, kpvs, kpvs, kpv, kpv]
      rw [ek]
      k_call_by "EY" []
      have e : ((t.i + t.j : Nat) : Int) = t.i + t.j := Int.natCast_add _ _
      rw [← e]
      exact hR _ .refl
    have hp5 : G5 p = some (.ins (C 2) [(Str.ofString "terms", .tup (ms'.map tmP))]) := e5 _ _ pup_same
    have hB : ∀ o, ExtB p G (pup G5 p o) := fun o x u hx hu => by
      rw [pup_ne hx]
      refine e5 _ _ ?_
      rw [pup_ne hx]
      exact e3 _ _ (Ext.new hq _ _ (hG _ _ (e1 _ _ hu)))
    have fin : ∀ d : Nat, IsDeg d ts → wSs (Γ C Φ) (B []) { nx := fun x G' => Q PV.non G', rt := Q } [some (PV.ref p), some (PV.ref a), some (PV.ref D), none, none, none, none]
        (pup G5 p (PO.ins (C 2) (putP (Str.ofString "degree") (PV.int d) [(Str.ofString "terms", .tup (ms'.map tmP))]))) := fun d hd => by
      rw [wSs_nil]
      exact hQ _ ms' d pm hd (hB _) ⟨p, rfl, by rw [pup_same]; rfl⟩
    rw [ints_nat]
    cases ts with
    | nil =>
      simp only [List.map_nil, hp5]
      exact ⟨by simp, by simp, fin 0 ⟨(fun _ h => nomatch h), .inl rfl⟩⟩
    | cons t ts =>
      obtain ⟨m, k1, k2, k3, k4⟩ := foldl_max (ts.map fun t => t.i + t.j) (t.i + t.j)
      simp only [List.map_cons, hp5, k1]
      refine ⟨by simp, by simp, fin m ⟨fun u hu => ?_, .inr ?_⟩⟩
      · rcases List.mem_cons.mp hu with rfl | hu
        · exact k2
        · exact k3 _ (List.mem_map.mpr ⟨u, hu, rfl⟩)
      · rcases k4 with k4 | k4
        · exact ⟨t, List.mem_cons_self, k4.symm⟩
        · obtain ⟨u, hu, e⟩ := List.mem_map.mp k4
          exact ⟨u, List.mem_cons_of_mem _ hu, e⟩
end
end K51
set_option Elab.async false
set_option linter.all false
set_option maxRecDepth 100000
set_option maxHeartbeats 1000000
set_option exponentiation.threshold 10000
namespace K51
open PySem PySem.Spec PyProof.Rows L2 Cl
-- M0
local macro_rules | `(tactic| k_call_by "EY" [$as,*]) => `(tactic| simp only [Cl.L, Cl.LG, List.foldr_cons, List.foldr_nil, Cl.wSt, Cl.wE, Cl.wEs, Cl.wTs, Cl.wOp, Cl.wQ, Cl.wS, Cl.wI, Cl.wG, Cl.wGs, Cl.CGs.len, Cl.sRet, Cl.sRetN, Cl.sNext, Cl.sIf, Cl.sAsg, Cl.wipeR, Cl.sDrop, Cl.sPar2, Cl.sBrk, Cl.sCont, Cl.wAnd, Cl.wOr, Cl.wIf, Cl.wNot, Cl.wNeg, Cl.wVar, Cl.wC, Cl.Cn.pv, Cl.w2, Cl.w3, Cl.wTup, Cl.wLst, Cl.wNil, Cl.wCons, Cl.wCall, Cl.wMake, Cl.wB, Cl.Bi.r, Cl.bAbs, Cl.bInt, Cl.bLen_tup, Cl.bLen_rl, Cl.wIsi, Cl.CTy.p, Cl.startP, List.map_cons, List.map_nil, List.getElem?_cons_zero, List.getElem?_cons_succ, List.set_cons_zero, List.set_cons_succ, List.cons_append, List.nil_append, List.length_cons, List.length_nil, Nat.reduceAdd, Nat.reduceSub, Nat.zero_add, List.replicate, List.any_cons, List.any_nil, Cl.isOne, Cl.tru_bl, Cl.tru_int, Cl.tyOf_bl, Cl.tyOf_int, Cl.tyOf_tup, Cl.tyOf_rl, Cl.tyOf_non, Cl.cmp_lt, Cl.cmp_le, Cl.cmp_gt, Cl.cmp_ge, Cl.cmp_is, Cl.cmp_eqI, Cl.cmp_neI, Cl.at_0, Cl.at_1, Cl.at_2, true_and, and_true, Option.map_some, Option.getD_some, Cl.wTupOf, Cl.wLstOf, Cl.sFor, Cl.seqOf_tup, Cl.seqOf_rl, Cl.tsOne, Cl.wSeq, Cl.wSeqL, Cl.wFld, Cl.sFldP, Cl.wSlice, Cl.wPart, Cl.wNoP, Cl.wRev, Cl.Ag.w, Cl.wAll, Cl.wAny, Cl.wMax, Cl.wMin, Cl.wSum, Cl.wMaxC, Cl.wCallK, Cl.gP, Cl.bi_add, Cl.bi_sub, Cl.bi_mul, Cl.bi_div, Cl.bi_mod, Cl.bi_pow, Cl.ix_t0, Cl.ix_t1, Cl.ix_t2, Cl.ni1, Cl.ni2, Cl.ni3, decide_true, eq_self, Cl.b_o, String.reduceBEq, Bool.or_false, Bool.false_or, Bool.true_or, Bool.or_true, Bool.false_and, Bool.true_and, Bool.and_false, Bool.not_true, Bool.not_false, Cl.wSi, Cl.wStar, Cl.wMeth, Cl.iVal_ap, Cl.iEnm_ap, Cl.iZp_ap, Cl.iR1_ap, Cl.iR2_ap, Cl.iR3_ap, Cl.itV_tup, Cl.itV_rl, Cl.itE_tup, Cl.itZ_tup, Cl.itR_int, Cl.itR2_int, Cl.lcQ_iVal, Cl.lcQ_iEnm, Cl.lcQ_iZp, Cl.lcQ_iR1, Cl.lcQ_iR2, Cl.lc_iVal, Cl.lc_iEnm, Cl.lc_iZp, Cl.lc_iR1, Cl.lc_iR2, Cl.dc_iVal, Cl.gN_ap, Cl.gC_ap, Cl.gZ_ap, Cl.gTp2, Cl.gTp3, Cl.gTp4, Cl.gS_ap, Cl.tsYes_ap, $[$as:term],*])
-- M1
section
variable {C : Nat → Addr} {Φ : Nat → PSp}
theorem gcd_loop2 {u0 u1 : Option PV} {a b : Int} {G : Cl.PG} {wc : WE} {u : WS} {P : PEnds} (q : P.nx [u0, u1, some (.int (Int.gcd a b : Nat)), some (.int 0)] G)
    (step : ∀ (x y : Nat), ∀ P', (y = 0 → P.nx [u0, u1, some (.int x), some (.int 0)] G) → (y ≠ 0 → P'.nx [u0, u1, some (.int y), some (.int (x % y : Nat))] G) → wc [u0, u1, some (.int x), some (.int y)] G fun v G1 => match tru v G1 with
      | some true => u P' [u0, u1, some (.int x), some (.int y)] G1
      | some false => P.nx [u0, u1, some (.int x), some (.int y)] G1
      | none => False) :
    sWhile wc u P [u0, u1, some (.int a.natAbs), some (.int b.natAbs)] G := by
  refine ⟨fun m ρ G' => ∃ x y : Nat, ρ = [u0, u1, some (.int x), some (.int y)] ∧ G' = G ∧ Nat.gcd x y = Int.gcd a b ∧ m = y, ⟨b.natAbs, a.natAbs, b.natAbs, rfl, rfl, rfl, rfl⟩, ?_⟩
  rintro m ρ G' ⟨x, y, rfl, rfl, hg, rfl⟩
  refine step x m _ (fun h => ?_) (fun h => ?_)
  · subst h
    rw [Nat.gcd_zero_right] at hg
    rw [hg]; exact q
  · exact ⟨x % m, Nat.mod_lt _ (by omega), m, x % m, rfl, rfl, by rw [Nat.gcd_comm, ← Nat.gcd_rec m x, Nat.gcd_comm] <;> exact hg, rfl⟩
theorem w41 : Kp C Φ c41 N41 spLowest := by
  rintro args G Q ⟨a, b, rfl, hb, hs, q⟩
  refine wSs_0 (l := l41) ?_
  ((try dsimp only); rw [Cl.wSs_at (l := l41) (k := 0) rfl]; k_call_by "EY" [N41])
  rw [Cl.wSs_at (l := l41) (k := 1) rfl]
  refine gcd_loop2 ?_ fun x y P' h1 h2 => ?_
  · have hb' : (0 : Int) < b := by omega
    dsimp only [Nat.reduceAdd]
    ((try dsimp only); rw [Cl.wSs_at (l := l41) (k := 2) rfl]; k_call_by "EY" [decide_eq_true hb'])
    ((try dsimp only); rw [Cl.wSs_at (l := l41) (k := 3) rfl]; k_call_by "EY" [])
    have hg : (b : Int) / (Int.gcd a b : Int) = 1 ↔ (b : Int) = (Int.gcd a b : Int) := by
      have g0 : 0 < Int.gcd a b := Nat.pos_of_ne_zero fun z => by have := (Int.gcd_eq_zero_iff.mp z).2; omega
      have hc := Int.ediv_mul_cancel (Int.gcd_dvd_right a b : (Int.gcd a b : Int) ∣ b)
      constructor
      · intro h
        rw [h, Int.one_mul] at hc; exact hc.symm
      · intro h
        rw [← h]
        exact Int.ediv_self (by omega)
    rw [low_num hb] at q
    by_cases h : (b : Int) = (Int.gcd a b : Int)
    · rw [if_pos (hg.mpr h)] at q
      simp only [decide_eq_true h]
      exact ⟨gcd_small hb hs, q⟩
    · rw [if_neg (fun z => h (hg.mp z))] at q
      simp only [decide_eq_false h]
      exact ⟨gcd_small hb hs, CDivW.any (i := a) (gcd_small hb hs), two_le, q⟩
  · k_call_by "EY" []
    by_cases hy : y = 0
    · subst hy
      simpa using h1 rfl
    · have : (0 : Int) < y := by omega
      simp only [decide_eq_true this]
      ((try dsimp only); rw [Cl.wSs_cons]; k_call_by "EY" [])
      exact ⟨this, h2 hy⟩
theorem w44 (hp : Has Φ 42 spAdd) (ht : Has Φ 43 spMul) : Kp C Φ c44 N44 spSub := by
  rintro args G Q ⟨p, q, rfl, hp1, hq1, hQ⟩
  refine wSs_0 (l := l44) ?_
  ((try dsimp only); rw [Cl.wSs_at (l := l44) (k := 0) rfl]; k_call_by "EY" [N44, Γ_phi])
  have e : PV.int (-1) = num (-1) := by rw [show (-1 : Rat) = ((-1 : Int) : Rat) from rfl, num_int]
  have e2 : -1 * q = -q := by grind
  refine ht _ _ _ ⟨-1, q, by rw [e], ⟨by decide, by decide⟩, hq1, ?_⟩
  rw [e2]
  refine hp _ _ _ ⟨p, -q, rfl, hp1, sml_neg hq1, ?_⟩
  rw [← Rat.sub_eq_add_neg]; exact hQ
def spAddT : PSp := fun args G Q => ∃ x y : Tn, args = [.tup [num x.1, num x.2], .tup [num y.1, num y.2]] ∧ Sml x.1 ∧ Sml x.2 ∧ Sml y.1 ∧ Sml y.2 ∧ Sml (x.1 * y.1) ∧ Sml (x.2 * y.2) ∧ Sml (x.2 * y.1) ∧ Sml (x.1 * y.2) ∧ Q (.tup [num (tmul x y).1, num (tmul x y).2]) G
theorem w45 (hp : Has Φ 42 spAdd) (ht : Has Φ 43 spMul) (hl : Has Φ 44 spSub) : Kp C Φ c45 N45 spAddT := by
  rintro args G Q ⟨x, y, rfl, s1, s2, s3, s4, s5, s6, s7, s8, hQ⟩
  refine wSs_0 (l := l45) ?_
  ((try dsimp only); rw [Cl.wSs_at (l := l45) (k := 0) rfl]; k_call_by "EY" [N45, Γ_phi])
  refine ht _ _ _ ⟨_, _, rfl, s1, s3, ht _ _ _ ⟨_, _, rfl, s2, s4, hl _ _ _ ⟨_, _, rfl, s5, s6, ?_⟩⟩⟩
  dsimp only
  ((try dsimp only); rw [Cl.wSs_at (l := l45) (k := 1) rfl]; k_call_by "EY" [Γ_phi])
  exact ht _ _ _ ⟨_, _, rfl, s2, s3, ht _ _ _ ⟨_, _, rfl, s1, s4, hp _ _ _ ⟨_, _, rfl, s7, s8, two_le, hQ⟩⟩⟩
end
end K51
set_option Elab.async false
set_option linter.all false
set_option maxRecDepth 100000
set_option maxHeartbeats 1000000
set_option exponentiation.threshold 10000
namespace K51
open PySem PySem.Spec PyProof.Rows L2 Cl
-- M0
local macro_rules | `(tactic| k_call_by "EY" [$as,*]) => `(tactic| simp only [Cl.L, Cl.LG, List.foldr_cons, List.foldr_nil, Cl.wSt, Cl.wE, Cl.wEs, Cl.wTs, Cl.wOp, Cl.wQ, Cl.wS, Cl.wI, Cl.wG, Cl.wGs, Cl.CGs.len, Cl.sRet, Cl.sRetN, Cl.sNext, Cl.sIf, Cl.sAsg, Cl.wipeR, Cl.sDrop, Cl.sPar2, Cl.sBrk, Cl.sCont, Cl.wAnd, Cl.wOr, Cl.wIf, Cl.wNot, Cl.wNeg, Cl.wVar, Cl.wC, Cl.Cn.pv, Cl.w2, Cl.w3, Cl.wTup, Cl.wLst, Cl.wNil, Cl.wCons, Cl.wCall, Cl.wMake, Cl.wB, Cl.Bi.r, Cl.bAbs, Cl.bInt, Cl.bLen_tup, Cl.bLen_rl, Cl.wIsi, Cl.CTy.p, Cl.startP, List.map_cons, List.map_nil, List.getElem?_cons_zero, List.getElem?_cons_succ, List.set_cons_zero, List.set_cons_succ, List.cons_append, List.nil_append, List.length_cons, List.length_nil, Nat.reduceAdd, Nat.reduceSub, Nat.zero_add, List.replicate, List.any_cons, List.any_nil, Cl.isOne, Cl.tru_bl, Cl.tru_int, Cl.tyOf_bl, Cl.tyOf_int, Cl.tyOf_tup, Cl.tyOf_rl, Cl.tyOf_non, Cl.cmp_lt, Cl.cmp_le, Cl.cmp_gt, Cl.cmp_ge, Cl.cmp_is, Cl.cmp_eqI, Cl.cmp_neI, Cl.at_0, Cl.at_1, Cl.at_2, true_and, and_true, Option.map_some, Option.getD_some, Cl.wTupOf, Cl.wLstOf, Cl.sFor, Cl.seqOf_tup, Cl.seqOf_rl, Cl.tsOne, Cl.wSeq, Cl.wSeqL, Cl.wFld, Cl.sFldP, Cl.wSlice, Cl.wPart, Cl.wNoP, Cl.wRev, Cl.Ag.w, Cl.wAll, Cl.wAny, Cl.wMax, Cl.wMin, Cl.wSum, Cl.wMaxC, Cl.wCallK, Cl.gP, Cl.bi_add, Cl.bi_sub, Cl.bi_mul, Cl.bi_div, Cl.bi_mod, Cl.bi_pow, Cl.ix_t0, Cl.ix_t1, Cl.ix_t2, Cl.ni1, Cl.ni2, Cl.ni3, decide_true, eq_self, Cl.b_o, String.reduceBEq, Bool.or_false, Bool.false_or, Bool.true_or, Bool.or_true, Bool.false_and, Bool.true_and, Bool.and_false, Bool.not_true, Bool.not_false, Cl.wSi, Cl.wStar, Cl.wMeth, Cl.iVal_ap, Cl.iEnm_ap, Cl.iZp_ap, Cl.iR1_ap, Cl.iR2_ap, Cl.iR3_ap, Cl.itV_tup, Cl.itV_rl, Cl.itE_tup, Cl.itZ_tup, Cl.itR_int, Cl.itR2_int, Cl.lcQ_iVal, Cl.lcQ_iEnm, Cl.lcQ_iZp, Cl.lcQ_iR1, Cl.lcQ_iR2, Cl.lc_iVal, Cl.lc_iEnm, Cl.lc_iZp, Cl.lc_iR1, Cl.lc_iR2, Cl.dc_iVal, Cl.gN_ap, Cl.gC_ap, Cl.gZ_ap, Cl.gTp2, Cl.gTp3, Cl.gTp4, Cl.gS_ap, Cl.tsYes_ap, $[$as:term],*])
-- M1
/-- both parts of a turn: one denominator, a bound -/
structure TB (D M : Nat) (x : Tn) : Prop where
  c : Bd D M x.1
  s : Bd D M x.2
def pvT (x : Tn) : PV := .tup [num x.1, num x.2]
theorem TB.mul {D E M N : Nat} {x y : Tn} (hD : 0 < D) (hE : 0 < E) (a : TB D M x) (b : TB E N y) : TB (D * E) (2 * (M * N)) (tmul x y) := by
  have hDE := Nat.mul_pos hD hE
  have e : M * N + M * N = 2 * (M * N) := by omega
  refine ⟨?_, ?_⟩
  · rw [← e]; exact Bd.sub' hDE (a.c.mul b.c) (a.s.mul b.s)
  · rw [← e]; exact (a.s.mul b.c).add hDE (a.c.mul b.s)
theorem TB.add_ok {D E M N : Nat} {x y : Tn} (hD : 0 < D) (hE : 0 < E) (a : TB D M x) (b : TB E N y) (h1 : D * E ≤ 2 ^ 400) (h2 : M ≤ 2 ^ 600) (h3 : N ≤ 2 ^ 600) :
    Sml x.1 ∧ Sml x.2 ∧ Sml y.1 ∧ Sml y.2 ∧ Sml (x.1 * y.1) ∧ Sml (x.2 * y.2) ∧ Sml (x.2 * y.1) ∧ Sml (x.1 * y.2) := by
  have hDE := Nat.mul_pos hD hE
  have k1 : D ≤ 2 ^ 400 := Nat.le_trans (Nat.le_mul_of_pos_right _ hE) h1
  have k2 : E ≤ 2 ^ 400 := Nat.le_trans (Nat.le_mul_of_pos_left _ hD) h1
  have m1 : M ≤ 2 ^ 1400 := Nat.le_trans h2 (by decide)
  have m2 : N ≤ 2 ^ 1400 := Nat.le_trans h3 (by decide)
  have m3 : M * N ≤ 2 ^ 1400 := Nat.le_trans (Nat.mul_le_mul h2 h3) (by decide)
  exact ⟨bd_sml a.c hD k1 m1, bd_sml a.s hD k1 m1, bd_sml b.c hE k2 m2, bd_sml b.s hE k2 m2, bd_sml (a.c.mul b.c) hDE h1 m3, bd_sml (a.s.mul b.s) hDE h1 m3, bd_sml (a.s.mul b.c) hDE h1 m3, bd_sml (a.c.mul b.s) hDE h1 m3⟩
def spPenT : PSp := fun args G Q => ∃ (r : Rat) (a b : Tn) (D : Nat), args = [num r, pvT a, pvT b] ∧ Bd D D r ∧ TB D 1 a ∧ TB D 1 b ∧ 0 < D ∧ D ≤ 2 ^ 50 ∧
  Q (.tup [num (r * ((tmul a a).1 + (tmul b b).1)), num (r * ((tmul a a).2 + (tmul b b).2))]) G
section
variable {C : Nat → Addr} {Φ : Nat → PSp}
theorem w50 (hadd : Has Φ 45 spAddT) (hp : Has Φ 42 spAdd) (ht : Has Φ 43 spMul) : Kp C Φ c50 N50 spPenT := by
  rintro args G Q ⟨r, a, b, D, rfl, br, ba, bb, hD, hs, hQ⟩
  have hDD : D * D ≤ 2 ^ 400 := Nat.le_trans (Nat.mul_le_mul hs hs) (by decide)
  have h0 := Nat.mul_pos hD hD
  obtain ⟨a1, a2, a3, a4, a5, a6, a7, a8⟩ := ba.add_ok hD hD ba hDD (by decide) (by decide)
  obtain ⟨b1, b2, b3, b4, b5, b6, b7, b8⟩ := bb.add_ok hD hD bb hDD (by decide) (by decide)
  have ta := ba.mul hD hD ba
  have tb := bb.mul hD hD bb
  have sr := bd_sml br hD (Nat.le_trans hs (by decide)) (Nat.le_trans hs (by decide))
  refine wSs_0 (l := l50) ?_
  ((try dsimp only); rw [Cl.wSs_at (l := l50) (k := 0) rfl]; k_call_by "EY" [N50, Γ_phi, pvT])
  refine hadd _ _ _ ⟨a, a, rfl, a1, a2, a3, a4, a5, a6, a7, a8, hadd _ _ _ ⟨b, b, rfl, b1, b2, b3, b4, b5, b6, b7, b8, ?_⟩⟩
  dsimp only
  ((try dsimp only); rw [Cl.wSs_at (l := l50) (k := 1) rfl]; k_call_by "EY" [Γ_phi])
  have q1 := ta.c.add h0 tb.c
  have q2 := ta.s.add h0 tb.s
  have small : ∀ {x : Rat}, Bd (D * D) (2 * (1 * 1)) x → Sml x := fun h => bd_sml h h0 hDD (by decide)
  have small2 : ∀ {x : Rat}, Bd (D * D) (2 * (1 * 1) + 2 * (1 * 1)) x → Sml x := fun h => bd_sml h h0 hDD (by decide)
  exact hp _ _ _ ⟨_, _, rfl, small ta.c, small tb.c, ht _ _ _ ⟨r, _, rfl, sr, small2 q1, hp _ _ _ ⟨_, _, rfl, small ta.s, small tb.s, ht _ _ _ ⟨r, _, rfl, sr, small2 q2, two_le, hQ⟩⟩⟩⟩
end
end K51
set_option Elab.async false
set_option linter.all false
set_option maxRecDepth 100000
set_option maxHeartbeats 1000000
set_option exponentiation.threshold 10000
namespace K51
open PySem PySem.Spec PyProof.Rows L2 Cl
-- M0
local macro_rules | `(tactic| k_call_by "EY" [$as,*]) => `(tactic| simp only [Cl.L, Cl.LG, List.foldr_cons, List.foldr_nil, Cl.wSt, Cl.wE, Cl.wEs, Cl.wTs, Cl.wOp, Cl.wQ, Cl.wS, Cl.wI, Cl.wG, Cl.wGs, Cl.CGs.len, Cl.sRet, Cl.sRetN, Cl.sNext, Cl.sIf, Cl.sAsg, Cl.wipeR, Cl.sDrop, Cl.sPar2, Cl.sBrk, Cl.sCont, Cl.wAnd, Cl.wOr, Cl.wIf, Cl.wNot, Cl.wNeg, Cl.wVar, Cl.wC, Cl.Cn.pv, Cl.w2, Cl.w3, Cl.wTup, Cl.wLst, Cl.wNil, Cl.wCons, Cl.wCall, Cl.wMake, Cl.wB, Cl.Bi.r, Cl.bAbs, Cl.bInt, Cl.bLen_tup, Cl.bLen_rl, Cl.wIsi, Cl.CTy.p, Cl.startP, List.map_cons, List.map_nil, List.getElem?_cons_zero, List.getElem?_cons_succ, List.set_cons_zero, List.set_cons_succ, List.cons_append, List.nil_append, List.length_cons, List.length_nil, Nat.reduceAdd, Nat.reduceSub, Nat.zero_add, List.replicate, List.any_cons, List.any_nil, Cl.isOne, Cl.tru_bl, Cl.tru_int, Cl.tyOf_bl, Cl.tyOf_int, Cl.tyOf_tup, Cl.tyOf_rl, Cl.tyOf_non, Cl.cmp_lt, Cl.cmp_le, Cl.cmp_gt, Cl.cmp_ge, Cl.cmp_is, Cl.cmp_eqI, Cl.cmp_neI, Cl.at_0, Cl.at_1, Cl.at_2, true_and, and_true, Option.map_some, Option.getD_some, Cl.wTupOf, Cl.wLstOf, Cl.sFor, Cl.seqOf_tup, Cl.seqOf_rl, Cl.tsOne, Cl.wSeq, Cl.wSeqL, Cl.wFld, Cl.sFldP, Cl.wSlice, Cl.wPart, Cl.wNoP, Cl.wRev, Cl.Ag.w, Cl.wAll, Cl.wAny, Cl.wMax, Cl.wMin, Cl.wSum, Cl.wMaxC, Cl.wCallK, Cl.gP, Cl.bi_add, Cl.bi_sub, Cl.bi_mul, Cl.bi_div, Cl.bi_mod, Cl.bi_pow, Cl.ix_t0, Cl.ix_t1, Cl.ix_t2, Cl.ni1, Cl.ni2, Cl.ni3, decide_true, eq_self, Cl.b_o, String.reduceBEq, Bool.or_false, Bool.false_or, Bool.true_or, Bool.or_true, Bool.false_and, Bool.true_and, Bool.and_false, Bool.not_true, Bool.not_false, Cl.wSi, Cl.wStar, Cl.wMeth, Cl.iVal_ap, Cl.iEnm_ap, Cl.iZp_ap, Cl.iR1_ap, Cl.iR2_ap, Cl.iR3_ap, Cl.itV_tup, Cl.itV_rl, Cl.itE_tup, Cl.itZ_tup, Cl.itR_int, Cl.itR2_int, Cl.lcQ_iVal, Cl.lcQ_iEnm, Cl.lcQ_iZp, Cl.lcQ_iR1, Cl.lcQ_iR2, Cl.lc_iVal, Cl.lc_iEnm, Cl.lc_iZp, Cl.lc_iR1, Cl.lc_iR2, Cl.dc_iVal, Cl.gN_ap, Cl.gC_ap, Cl.gZ_ap, Cl.gTp2, Cl.gTp3, Cl.gTp4, Cl.gS_ap, Cl.tsYes_ap, $[$as:term],*])
-- M1
theorem tpow_tb {D : Nat} {x : Tn} (hD : 0 < D) (h : TB D 1 x) : ∀ k, TB (D ^ k) (2 ^ k) (tpow x k)
  | 0 => by
    show TB (D ^ 0) (2 ^ 0) ((1, 0) : Tn)
    rw [Nat.pow_zero, Nat.pow_zero]
    exact ⟨⟨by decide, by decide⟩, ⟨by decide, by decide⟩⟩
  | k + 1 => by
    have := (tpow_tb hD h k).mul (Nat.pow_pos hD) hD h
    rw [Nat.mul_one, Nat.mul_comm 2, ← Nat.pow_succ, ← Nat.pow_succ] at this
    exact this
theorem TB.conj {D M : Nat} {x : Tn} (h : TB D M x) : TB D M (tconj x) := ⟨h.c, h.s.neg⟩
theorem one_num : PV.int 1 = num 1 := by unfold num; rfl
theorem m1_num : PV.int (-1) = num (-1) := by rw [show (-1 : Rat) = ((-1 : Int) : Rat) from rfl, num_int]
def spTimesT : PSp := fun args G Q => ∃ (x : Tn) (m : Int) (D : Nat), args = [pvT x, .int m] ∧ TB D 1 x ∧ 0 < D ∧ D ≤ 2 ^ 30 ∧ m.natAbs ≤ 12 ∧ Q (pvT (tz x m)) G
section
variable {C : Nat → Addr} {Φ : Nat → PSp}
theorem w46 (hadd : Has Φ 45 spAddT) (ht : Has Φ 43 spMul) : Kp C Φ c46 N46 spTimesT := by
  rintro args G Q ⟨x, m, D, rfl, hx, hD, hs, hm, hQ⟩
  have run : ∀ (y : Tn), TB D 1 y → Q (pvT (tpow y m.natAbs)) G → wSs (Γ C Φ) (B (l46.drop 1)) { nx := fun _ G' => Q .non G', rt := Q } [some (pvT x), some (.int m), some (.tup [.int 1, .int 0]), some (pvT y), none] G := by
    intro y hy hQ
    ((try dsimp only); rw [Cl.wSs_at (l := l46) (k := 1) rfl]; k_call_by "EY" [Γ_phi])
    refine ⟨by omega, by omega, ?_⟩
    have e0 : PV.tup [.int 1, .int 0] = pvT (tpow y 0) := by
      unfold pvT tpow; rw [one_num, zero_num]
    rw [e0]
    refine forL_0 (fun n ρ G' => (∃ x4, ρ = [some (pvT x), some (.int m), some (pvT (tpow y n)), some (pvT y), x4]) ∧ G' = G) ⟨⟨_, rfl⟩, rfl⟩ ?_ ?_
    · rintro n v ρ G' P' hv ⟨⟨x4, rfl⟩, rfl⟩ hn
      have hnl : n < 12 := by
        have := (List.getElem?_eq_some_iff.mp hv).1
        simp at this; omega
      refine ⟨watch_nil, ?_⟩
      k_call_by "EY" []
      ((try dsimp only); rw [Cl.wSs_cons]; k_call_by "EY" [Γ_phi])
      have k1 : D ^ n * D ≤ 2 ^ 400 := by
        rw [← Nat.pow_succ]
        exact Nat.le_trans (Nat.pow_le_pow_left hs _) (Nat.le_trans (Nat.pow_le_pow_right (by decide) (show n + 1 ≤ 12 by omega)) (by decide))
      have k2 : 2 ^ n ≤ 2 ^ 600 := Nat.pow_le_pow_right (by decide) (by omega)
      obtain ⟨a1, a2, a3, a4, a5, a6, a7, a8⟩ := (tpow_tb hD hy n).add_ok (Nat.pow_pos hD) hD hy k1 k2 (by decide)
      refine hadd _ _ _ ⟨tpow y n, y, rfl, a1, a2, a3, a4, a5, a6, a7, a8, ?_⟩
      dsimp only
      rw [wSs_nil]
      exact hn _ _ ⟨⟨_, rfl⟩, rfl⟩
    · rintro ρ G' ⟨⟨x4, rfl⟩, rfl⟩
      refine ⟨watch_nil, ?_⟩
      dsimp only
      ((try dsimp only); rw [Cl.wSs_at (l := l46) (k := 2) rfl]; k_call_by "EY" [])
      have el : ((List.range (m.natAbs : Int).toNat).map fun (i : Nat) => PV.int i).length = m.natAbs := by simp
      rw [el]; exact hQ
  refine wSs_0 (l := l46) ?_
  ((try dsimp only); rw [Cl.wSs_at (l := l46) (k := 0) rfl]; k_call_by "EY" [N46, Γ_phi])
  refine ⟨two_le, ?_⟩
  unfold tz at hQ
  by_cases h : 0 ≤ m
  · rw [if_pos h] at hQ
    simp only [decide_eq_true h]
    exact run x hx hQ
  · rw [if_neg h] at hQ
    simp only [decide_eq_false h]
    have s2 : Sml x.2 := bd_sml hx.s hD (Nat.le_trans hs (by decide)) (by decide)
    have fin := run (tconj x) hx.conj hQ
    have e3 : -1 * x.2 = -x.2 := by grind
    unfold pvT tconj at fin
    unfold pvT
    rw [ix_t0, ix_t1]
    refine ht _ _ _ ⟨-1, x.2, by rw [m1_num], ⟨by decide, by decide⟩, s2, two_le, ?_⟩
    rw [e3]
    exact fin
end
end K51
set_option Elab.async false
set_option linter.all false
set_option maxRecDepth 100000
set_option maxHeartbeats 1000000
set_option exponentiation.threshold 10000
namespace K51
open PySem PySem.Spec PyProof.Rows L2 Cl
-- M0
local macro_rules | `(tactic| k_call_by "EY" [$as,*]) => `(tactic| simp only [Cl.L, Cl.LG, List.foldr_cons, List.foldr_nil, Cl.wSt, Cl.wE, Cl.wEs, Cl.wTs, Cl.wOp, Cl.wQ, Cl.wS, Cl.wI, Cl.wG, Cl.wGs, Cl.CGs.len, Cl.sRet, Cl.sRetN, Cl.sNext, Cl.sIf, Cl.sAsg, Cl.wipeR, Cl.sDrop, Cl.sPar2, Cl.sBrk, Cl.sCont, Cl.wAnd, Cl.wOr, Cl.wIf, Cl.wNot, Cl.wNeg, Cl.wVar, Cl.wC, Cl.Cn.pv, Cl.w2, Cl.w3, Cl.wTup, Cl.wLst, Cl.wNil, Cl.wCons, Cl.wCall, Cl.wMake, Cl.wB, Cl.Bi.r, Cl.bAbs, Cl.bInt, Cl.bLen_tup, Cl.bLen_rl, Cl.wIsi, Cl.CTy.p, Cl.startP, List.map_cons, List.map_nil, List.getElem?_cons_zero, List.getElem?_cons_succ, List.set_cons_zero, List.set_cons_succ, List.cons_append, List.nil_append, List.length_cons, List.length_nil, Nat.reduceAdd, Nat.reduceSub, Nat.zero_add, List.replicate, List.any_cons, List.any_nil, Cl.isOne, Cl.tru_bl, Cl.tru_int, Cl.tyOf_bl, Cl.tyOf_int, Cl.tyOf_tup, Cl.tyOf_rl, Cl.tyOf_non, Cl.cmp_lt, Cl.cmp_le, Cl.cmp_gt, Cl.cmp_ge, Cl.cmp_is, Cl.cmp_eqI, Cl.cmp_neI, Cl.at_0, Cl.at_1, Cl.at_2, true_and, and_true, Option.map_some, Option.getD_some, Cl.wTupOf, Cl.wLstOf, Cl.sFor, Cl.seqOf_tup, Cl.seqOf_rl, Cl.tsOne, Cl.wSeq, Cl.wSeqL, Cl.wFld, Cl.sFldP, Cl.wSlice, Cl.wPart, Cl.wNoP, Cl.wRev, Cl.Ag.w, Cl.wAll, Cl.wAny, Cl.wMax, Cl.wMin, Cl.wSum, Cl.wMaxC, Cl.wCallK, Cl.gP, Cl.bi_add, Cl.bi_sub, Cl.bi_mul, Cl.bi_div, Cl.bi_mod, Cl.bi_pow, Cl.ix_t0, Cl.ix_t1, Cl.ix_t2, Cl.ni1, Cl.ni2, Cl.ni3, decide_true, eq_self, Cl.b_o, String.reduceBEq, Bool.or_false, Bool.false_or, Bool.true_or, Bool.or_true, Bool.false_and, Bool.true_and, Bool.and_false, Bool.not_true, Bool.not_false, Cl.wSi, Cl.wStar, Cl.wMeth, Cl.iVal_ap, Cl.iEnm_ap, Cl.iZp_ap, Cl.iR1_ap, Cl.iR2_ap, Cl.iR3_ap, Cl.itV_tup, Cl.itV_rl, Cl.itE_tup, Cl.itZ_tup, Cl.itR_int, Cl.itR2_int, Cl.lcQ_iVal, Cl.lcQ_iEnm, Cl.lcQ_iZp, Cl.lcQ_iR1, Cl.lcQ_iR2, Cl.lc_iVal, Cl.lc_iEnm, Cl.lc_iZp, Cl.lc_iR1, Cl.lc_iR2, Cl.dc_iVal, Cl.gN_ap, Cl.gC_ap, Cl.gZ_ap, Cl.gTp2, Cl.gTp3, Cl.gTp4, Cl.gS_ap, Cl.tsYes_ap, $[$as:term],*])
-- M1
def spPutAt : PSp := fun args G Q => ∃ (k : Nat) (n : Int), args = [.int k, .int n] ∧ ∀ G', Ext G G' → Q (wordP (Cl.putAt k n)) G'
def spAloneFrom : PSp := fun args G Q => ∃ (k : Nat) (n : Int), args = [.int k, .int n] ∧ ∀ G', Ext G G' → Q (.tup [wordP (aloneFrom k n).1, wordP (aloneFrom k n).2]) G'
def mdP : Option (W3 × W3) → PV
  | none => .non
  | some (a, b) => .tup [wordP a, wordP b]
def spMadeIn : PSp := fun args G Q => ∃ w, args = [wordP w] ∧ WdOk w ∧ ∀ G', Ext G G' → Q (mdP (madeIn w)) G'
def spPutDown (m : Nat) : PSp := fun args G Q => ∃ w a ws, args = [wordP w, .ref a] ∧ WdOk w ∧ Wds ws ∧ mu w ≤ m ∧ G a = some (.dT (ws.map went)) ∧ ∀ G', ExtB a G G' → G' a = some (.dT ((pdn (m + 1) w ws).map went)) → Q .non G'
def spStepsIn : PSp := fun args G Q => ∃ a ws, args = [.ref a] ∧ G a = some (.lst (ws.map wordP)) ∧ ws.length ≤ 100000 ∧ (∀ w ∈ ws, WdOk w) ∧ ∀ G', Ext G G' → Q (.tup ((stepsIn ws).map wordP)) G'
theorem in_firsts (w : W3) {G : Cl.PG} {Q : WK} : Cl.wCmp .In (wordP w) (.tup [.tup [.int 0, .int 0, .int 0], .tup [.int 1, .int 0, .int 0], .tup [.int 0, .int 1, .int 0], .tup [.int 0, .int 0, .int 1]]) G Q = Q (.bl (decide (w ∈ firsts))) G := by
  have e : [PV.tup [.int 0, .int 0, .int 0], .tup [.int 1, .int 0, .int 0], .tup [.int 0, .int 1, .int 0], .tup [.int 0, .int 0, .int 1]] = firsts.map wordP := rfl
  rw [e]
  refine in_tupP (n := 1) (m := 1) (isP_word w) (fun y hy => ?_) (by decide) (by decide) ?_
  · obtain ⟨u, _, rfl⟩ := List.mem_map.mp hy; exact isP_word u
  · rw [decide_eq_true_iff, List.mem_map]
    exact ⟨fun h => ⟨w, h, rfl⟩, fun ⟨u, h, e⟩ => by rw [← wordP_inj.mp e]; exact h⟩
theorem nz_len (w : W3) : (nzAt w).length ≤ 3 := by unfold nzAt; exact List.length_filter_le _ _
theorem fm_nat (f : Nat → Bool) : ∀ ks : List Nat, (ks.map fun k => if f k = true then some (PV.int (k : Nat)) else none).filterMap id = (ks.filter f).map fun (k : Nat) => PV.int k
  | [] => rfl
  | k :: ks => by
    have ih := fm_nat f ks
    rw [List.map_cons, List.filterMap_cons, List.filter_cons]
    cases f k
    · simpa using ih
    · simpa using ih
theorem atW {w : W3} {k : Nat} (hk : k < 3) : atI [PV.int w.p, .int w.q, .int w.l] (k : Int) = some (.int (w.at k)) := by
  have : k = 0 ∨ k = 1 ∨ k = 2 := by omega
  rcases this with rfl | rfl | rfl
  · exact at_0
  · exact at_1
  · exact at_2
theorem enumW (w : W3) : enumP 0 [PV.int w.p, .int w.q, .int w.l] = [0, 1, 2].map fun (k : Nat) => PV.tup [.int k, .int (w.at k)] := rfl
theorem nz_lt {w : W3} {k : Nat} (h : k ∈ nzAt w) : k < 3 := by
  have := (List.mem_filter.mp h).1
  simp at this; omega
section
variable {C : Nat → Addr} {Φ : Nat → PSp}
theorem w29 : Kp C Φ c29 N29 spPutAt := by
  rintro args G Q ⟨k, n, rfl, hQ⟩
  refine wSs_0 (l := l29) ?_
  ((try dsimp only); rw [Cl.wSs_at (l := l29) (k := 0) rfl]; k_call_by "EY" [N29])
  refine ⟨by decide, by decide, ?_⟩
  refine lcQ_ext (ys := [.int (Cl.putAt k n).p, .int (Cl.putAt k n).q, .int (Cl.putAt k n).l]) (fun _ _ => watch_nil) (by simp) (by simp) (fun i v y h1 h2 G' e R hR => ?_) fun G1 e1 => hQ _ e1
  have go : ∀ (j : Nat) (z : Int), v = .int j → y = .int z → z = (if k = j then n else 0) → gN 2 v (wipeR [some (PV.int k), some (PV.int n), none] [2]) G' fun ρ1 G1 => wE (Γ C Φ) (.ifx (.cmp .Eq (.var 2) (.var 0)) (.var 1) (.con (.int 0))) ρ1 G1 R := by
    rintro j z rfl rfl rfl
    k_call_by "EY" []
    by_cases h : k = j
    · subst h
      simp only [decide_true, if_true]
      simp only [if_true] at hR
      exact hR _ .refl
    · rw [if_neg h] at hR
      have : ¬ ((j : Int) = (k : Int)) := by omega
      simp only [decide_eq_false this]
      exact hR _ .refl
  match i, h1, h2 with
  | 0, h1, h2 => exact go 0 _ (by cases h1; rfl) (by cases h2; rfl) rfl
  | 1, h1, h2 => exact go 1 _ (by cases h1; rfl) (by cases h2; rfl) rfl
  | 2, h1, h2 => exact go 2 _ (by cases h1; rfl) (by cases h2; rfl) rfl
  | i + 3, h1, h2 => simp at h2
theorem w30 (hp : Has Φ 29 spPutAt) : Kp C Φ c30 N30 spAloneFrom := by
  rintro args G Q ⟨k, n, rfl, hQ⟩
  unfold aloneFrom at hQ
  refine wSs_0 (l := l30) ?_
  ((try dsimp only); rw [Cl.wSs_at (l := l30) (k := 0) rfl]; k_call_by "EY" [N30])
  by_cases hn : n < 0
  · rw [if_pos hn] at hQ
    simp only [decide_eq_true hn]
    ((try dsimp only); rw [Cl.wSs_cons]; k_call_by "EY" [Γ_phi])
    exact hp _ _ _ ⟨k, 0, rfl, fun G1 e1 => hp _ _ _ ⟨k, -n, rfl, fun G2 e2 => ⟨two_le, hQ _ (e1.trans e2)⟩⟩⟩
  rw [if_neg hn] at hQ
  simp only [decide_eq_false hn]
  rw [wSs_nil]; dsimp only
  ((try dsimp only); rw [Cl.wSs_at (l := l30) (k := 1) rfl]; k_call_by "EY" [])
  refine ⟨by decide, ?_⟩
  by_cases he : n % 2 = 0
  · rw [if_pos he] at hQ
    simp only [decide_eq_true he]
    ((try dsimp only); rw [Cl.wSs_cons]; k_call_by "EY" [Γ_phi])
    exact ⟨divSmall (by decide) (by decide), hp _ _ _ ⟨k, n / 2, rfl, fun G1 e1 => hp _ _ _ ⟨k, 0, rfl, fun G2 e2 => ⟨two_le, hQ _ (e1.trans e2)⟩⟩⟩⟩
  rw [if_neg he] at hQ
  simp only [decide_eq_false he]
  rw [wSs_nil]; dsimp only
  ((try dsimp only); rw [Cl.wSs_at (l := l30) (k := 2) rfl]; k_call_by "EY" [Γ_phi])
  exact ⟨divSmall (by decide) (by decide), hp _ _ _ ⟨k, (n + 1) / 2, rfl, fun G1 e1 => hp _ _ _ ⟨k, 1, rfl, fun G2 e2 => ⟨two_le, hQ _ (e1.trans e2)⟩⟩⟩⟩
theorem w31 (hput : Has Φ 29 spPutAt) (hal : Has Φ 30 spAloneFrom) : Kp C Φ c31 N31 spMadeIn := by
  rintro args G Q ⟨w, rfl, hw, hQ⟩
  have hz := size_big
  refine wSs_0 (l := l31) ?_
  ((try dsimp only); rw [Cl.wSs_at (l := l31) (k := 0) rfl]; k_call_by "EY" [N31, Γ_cst])
  rw [in_firsts, tru_bl]
  by_cases hf : w ∈ firsts
  · simp only [decide_eq_true hf]
    ((try dsimp only); rw [Cl.wSs_cons]; k_call_by "EY" [])
    have : madeIn w = none := by unfold madeIn; rw [if_pos hf]
    rw [this] at hQ
    exact hQ _ .refl
  simp only [decide_eq_false hf]
  rw [wSs_nil]; dsimp only
  ((try dsimp only); rw [Cl.wSs_at (l := l31) (k := 1) rfl]; k_call_by "EY" [wordP])
  rw [enumW]
  refine lc_if (os := [0, 1, 2].map fun (k : Nat) => if decide (w.at k ≠ 0) = true then some (PV.int k) else none) (fun _ _ => watch_nil) (by simp) (by simp) (fun i v o h1 h2 G' e R R0 ht => ?_) fun G1 a e1 ha0 ha => ?_
  · rw [List.getElem?_map] at h1 h2
    obtain ⟨k, hk, rfl⟩ := Option.map_eq_some_iff.mp h1
    rw [hk] at h2; cases h2
    k_call_by "EY" []
    unfold TurnO at ht
    by_cases c1 : w.at k = 0
    · simp only [c1, decide_true, Bool.not_true] at ht ⊢
      exact ht _ .refl
    · simp only [decide_eq_false c1, Bool.not_false]
      simp only [ne_eq, c1, not_false_eq_true, decide_true, if_true] at ht
      exact ht _ .refl
  rw [fm_nat (fun k => decide (w.at k ≠ 0))] at ha
  have ha : G1 a = some (.lst ((nzAt w).map fun (k : Nat) => PV.int k)) := ha
  ((try dsimp only); rw [Cl.wSs_at (l := l31) (k := 2) rfl]; k_call_by "EY" [])
  rw [bLen_lst ha, List.length_map]
  k_call_by "EY" []
  by_cases hl : (nzAt w).length = 1
  · have hl' : ((nzAt w).length : Int) = 1 := by omega
    simp only [decide_eq_true hl']
    obtain ⟨k, k1, k2, k3, k4, k5⟩ := nz_one hw hf hl
    have hm : madeIn w = some (aloneFrom k (w.at k)) := by unfold madeIn; rw [if_neg hf, if_pos hl, k2]; rfl
    rw [k2] at ha
    ((try dsimp only); rw [Cl.wSs_cons]; k_call_by "EY" [Γ_phi])
    rw [ix_l0 ha, ix_l0 ha, ix_tup (atW k1)]
    refine hal _ _ _ ⟨k, w.at k, rfl, fun G2 e2 => ?_⟩
    rw [hm] at hQ
    exact hQ _ (e1.trans e2)
  have hl' : ¬ ((nzAt w).length : Int) = 1 := by omega
  simp only [decide_eq_false hl']
  rw [wSs_nil]; dsimp only
  obtain ⟨k, k1, k2, k3, k4, k5, k6, k7⟩ := ev_key hw hf hl
  have hm : madeIn w = some (Cl.putAt k (w.at k / 2), rest w k) := by
    unfold madeIn
    rw [if_neg hf, if_neg hl, List.headD_eq_head?_getD, k2]; rfl
  rw [hm] at hQ
  ((try dsimp only); rw [Cl.wSs_at (l := l31) (k := 3) rfl]; k_call_by "EY" [itV_lst ha])
  refine lc_if (os := (nzAt w).map fun (k : Nat) => if decide (w.at k % 2 = 0) = true then some (PV.int k) else none) (fun G' e => watch_one (e _ _ ha)) (by rw [List.length_map]; have := nz_len w; omega) (by simp) (fun i v o h1 h2 G' e R R0 ht => ?_) fun G2 b e2 hb0 hb => ?_
  · rw [List.getElem?_map] at h1 h2
    obtain ⟨j, hj, rfl⟩ := Option.map_eq_some_iff.mp h1
    rw [hj] at h2; cases h2
    k_call_by "EY" []
    rw [ix_tup (atW (nz_lt (List.mem_of_getElem? hj)))]
    k_call_by "EY" []
    refine ⟨by decide, ?_⟩
    unfold TurnO at ht
    by_cases c1 : w.at j % 2 = 0
    · simp only [c1, decide_true] at ht ⊢
      exact ht _ .refl
    · simp only [decide_eq_false c1]
      simp only [c1, decide_false, Bool.false_eq_true, if_false] at ht
      exact ht _ .refl
  rw [fm_nat (fun k => decide (w.at k % 2 = 0))] at hb
  have hb : G2 b = some (.lst ((evAt w).map fun (k : Nat) => PV.int k)) := hb
  obtain ⟨es, hes⟩ : ∃ es, evAt w = k :: es := by
    cases h : evAt w with
    | nil => rw [h] at k2; cases k2
    | cons x xs => rw [h] at k2; cases k2; exact ⟨xs, rfl⟩
  rw [hes] at hb
  rw [ix_l0 hb]
  ((try dsimp only); rw [Cl.wSs_at (l := l31) (k := 4) rfl]; k_call_by "EY" [Γ_phi])
  rw [ix_tup (atW k1)]
  k_call_by "EY" []
  refine ⟨divSmall (by decide) (by decide), hput _ _ _ ⟨k, w.at k / 2, rfl, fun G3 e3 => ?_⟩⟩
  rw [enumW]
  refine lcQ_ext (ys := [.int (rest w k).p, .int (rest w k).q, .int (rest w k).l]) (fun _ _ => watch_nil) (by simp) (by simp) (fun i v y h1 h2 G' e R hR => ?_) fun G4 e4 => ⟨two_le, hQ _ (((e1.trans e2).trans e3).trans e4)⟩
  have go : ∀ (j : Nat) (z : Int), v = .tup [.int j, .int (w.at j)] → y = .int z → z = (if j = k then 0 else -w.at j) → gTp 2 (gC (gN 3) (gC (gN 4) gZ)) v (wipeR [some (wordP w), some (PV.ref a), some (PV.int k), none, none] [3, 4]) G' fun ρ1 G1 => wE (Γ C Φ) (.ifx (.cmp .Eq (.var 3) (.var 2)) (.con (.int 0)) (.neg (.var 4))) ρ1 G1 R := by
    rintro j z rfl rfl rfl
    k_call_by "EY" []
    by_cases h : j = k
    · subst h
      simp only [decide_true, if_true]
      simp only [if_true] at hR
      exact hR _ .refl
    · rw [if_neg h] at hR
      have : ¬ ((j : Int) = (k : Int)) := by omega
      simp only [decide_eq_false this]
      exact hR _ .refl
  match i, h1, h2 with
  | 0, h1, h2 => exact go 0 _ (by cases h1; rfl) (by cases h2; rfl) rfl
  | 1, h1, h2 => exact go 1 _ (by cases h1; rfl) (by cases h2; rfl) rfl
  | 2, h1, h2 => exact go 2 _ (by cases h1; rfl) (by cases h2; rfl) rfl
  | i + 3, h1, h2 => simp at h2
end
end K51
set_option Elab.async false
set_option linter.all false
set_option maxRecDepth 100000
set_option maxHeartbeats 1000000
set_option exponentiation.threshold 10000
namespace K51
open PySem PySem.Spec PyProof.Rows L2 Cl
-- M0
local macro_rules | `(tactic| k_call_by "EY" [$as,*]) => `(tactic| simp only [Cl.L, Cl.LG, List.foldr_cons, List.foldr_nil, Cl.wSt, Cl.wE, Cl.wEs, Cl.wTs, Cl.wOp, Cl.wQ, Cl.wS, Cl.wI, Cl.wG, Cl.wGs, Cl.CGs.len, Cl.sRet, Cl.sRetN, Cl.sNext, Cl.sIf, Cl.sAsg, Cl.wipeR, Cl.sDrop, Cl.sPar2, Cl.sBrk, Cl.sCont, Cl.wAnd, Cl.wOr, Cl.wIf, Cl.wNot, Cl.wNeg, Cl.wVar, Cl.wC, Cl.Cn.pv, Cl.w2, Cl.w3, Cl.wTup, Cl.wLst, Cl.wNil, Cl.wCons, Cl.wCall, Cl.wMake, Cl.wB, Cl.Bi.r, Cl.bAbs, Cl.bInt, Cl.bLen_tup, Cl.bLen_rl, Cl.wIsi, Cl.CTy.p, Cl.startP, List.map_cons, List.map_nil, List.getElem?_cons_zero, List.getElem?_cons_succ, List.set_cons_zero, List.set_cons_succ, List.cons_append, List.nil_append, List.length_cons, List.length_nil, Nat.reduceAdd, Nat.reduceSub, Nat.zero_add, List.replicate, List.any_cons, List.any_nil, Cl.isOne, Cl.tru_bl, Cl.tru_int, Cl.tyOf_bl, Cl.tyOf_int, Cl.tyOf_tup, Cl.tyOf_rl, Cl.tyOf_non, Cl.cmp_lt, Cl.cmp_le, Cl.cmp_gt, Cl.cmp_ge, Cl.cmp_is, Cl.cmp_eqI, Cl.cmp_neI, Cl.at_0, Cl.at_1, Cl.at_2, true_and, and_true, Option.map_some, Option.getD_some, Cl.wTupOf, Cl.wLstOf, Cl.sFor, Cl.seqOf_tup, Cl.seqOf_rl, Cl.tsOne, Cl.wSeq, Cl.wSeqL, Cl.wFld, Cl.sFldP, Cl.wSlice, Cl.wPart, Cl.wNoP, Cl.wRev, Cl.Ag.w, Cl.wAll, Cl.wAny, Cl.wMax, Cl.wMin, Cl.wSum, Cl.wMaxC, Cl.wCallK, Cl.gP, Cl.bi_add, Cl.bi_sub, Cl.bi_mul, Cl.bi_div, Cl.bi_mod, Cl.bi_pow, Cl.ix_t0, Cl.ix_t1, Cl.ix_t2, Cl.ni1, Cl.ni2, Cl.ni3, decide_true, eq_self, Cl.b_o, String.reduceBEq, Bool.or_false, Bool.false_or, Bool.true_or, Bool.or_true, Bool.false_and, Bool.true_and, Bool.and_false, Bool.not_true, Bool.not_false, Cl.wSi, Cl.wStar, Cl.wMeth, Cl.iVal_ap, Cl.iEnm_ap, Cl.iZp_ap, Cl.iR1_ap, Cl.iR2_ap, Cl.iR3_ap, Cl.itV_tup, Cl.itV_rl, Cl.itE_tup, Cl.itZ_tup, Cl.itR_int, Cl.itR2_int, Cl.lcQ_iVal, Cl.lcQ_iEnm, Cl.lcQ_iZp, Cl.lcQ_iR1, Cl.lcQ_iR2, Cl.lc_iVal, Cl.lc_iEnm, Cl.lc_iZp, Cl.lc_iR1, Cl.lc_iR2, Cl.dc_iVal, Cl.gN_ap, Cl.gC_ap, Cl.gZ_ap, Cl.gTp2, Cl.gTp3, Cl.gTp4, Cl.gS_ap, Cl.tsYes_ap, $[$as:term],*])
-- M1
section
variable {C : Nat → Addr} {Φ : Nat → PSp}
theorem putdown_core {w : W3} {a : Addr} {ws : List W3} {m : Nat} {G : Cl.PG} {Q : WK} (hmade : Has Φ 31 spMadeIn) (hrec : madeIn w ≠ none → Has Φ 32 (spPutDown m) ∧ mu w ≤ m + 1) (hw : WdOk w) (hws : Wds ws) (ha : G a = some (.dT (ws.map went)))
    (hQ : ∀ G', ExtB a G G' → G' a = some (.dT ((pdn (m + 2) w ws).map went)) → Q .non G') : wSs (Γ C Φ) c32 { nx := fun _ G' => Q .non G', rt := Q } (startP N32 [wordP w, .ref a]) G := by
  have hz := size_big
  refine wSs_0 (l := l32) ?_
  ((try dsimp only); rw [Cl.wSs_at (l := l32) (k := 0) rfl]; k_call_by "EY" [N32, Γ_phi])
  refine hmade _ _ _ ⟨w, rfl, hw, fun G1 e1 => ?_⟩
  dsimp only
  have ha1 := e1 _ _ ha
  have eb1 : ExtB a G G1 := .of e1
  rw [pdn] at hQ
  cases hm : madeIn w with
  | none =>
    rw [hm] at hQ
    ((try dsimp only); rw [Cl.wSs_at (l := l32) (k := 1) rfl]; k_call_by "EY" [mdP])
    have : Cl.isNon PV.non = true := rfl
    simp only [this]
    ((try dsimp only); rw [Cl.wSs_cons]; k_call_by "EY" [])
    exact hQ _ eb1 ha1
  | some xy =>
    obtain ⟨x, y⟩ := xy
    rw [hm] at hQ
    dsimp only at hQ
    obtain ⟨hrec, hmu⟩ := hrec (by rw [hm]; exact fun z => nomatch z)
    obtain ⟨k1, k2, k3, k4⟩ := made_ok hw hm
    ((try dsimp only); rw [Cl.wSs_at (l := l32) (k := 1) rfl]; k_call_by "EY" [mdP])
    have : Cl.isNon (PV.tup [wordP x, wordP y]) = false := rfl
    simp only [this]
    rw [show wordP w = .tup [.int w.p, .int w.q, .int w.l] from rfl, in_T ha1 (nks_word w) (word_depth w), tru_bl]
    rw [show NestedKey.tup [.num w.p, .num w.q, .num w.l] = wkey w from rfl, dLook_went]
    by_cases hin : w ∈ ws
    · simp only [decide_eq_true hin]
      rw [if_pos hin] at hQ
      ((try dsimp only); rw [Cl.wSs_cons]; k_call_by "EY" [])
      exact hQ _ eb1 ha1
    simp only [decide_eq_false hin]
    rw [if_neg hin] at hQ
    rw [wSs_nil]; dsimp only
    ((try dsimp only); rw [Cl.wSs_at (l := l32) (k := 2) rfl]; k_call_by "EY" [])
    refine forL_0 (fun n ρ G' => (∃ x3, ρ = [some (.tup [.int w.p, .int w.q, .int w.l]), some (.ref a), some (.tup [wordP x, wordP y]), x3]) ∧ ExtB a G G' ∧ Wds (([x, y].take n).foldl (fun f u => pdn (m + 1) u f) ws) ∧ G' a = some (.dT ((([x, y].take n).foldl (fun f u => pdn (m + 1) u f) ws).map went))) ⟨⟨_, rfl⟩, eb1, hws, ha1⟩ ?_ ?_
    · rintro n v ρ G' P' hv ⟨⟨x3, rfl⟩, eG, hW, hd⟩ hn
      refine ⟨watch_nil, ?_⟩
      have hv' : ∃ u, v = wordP u ∧ [x, y][n]? = some u := by
        match n, hv with
        | 0, hv => exact ⟨x, by cases hv; rfl, rfl⟩
        | 1, hv => exact ⟨y, by cases hv; rfl, rfl⟩
        | n + 2, hv => simp at hv
      obtain ⟨u, rfl, hu⟩ := hv'
      have hu' : WdOk u ∧ mu u ≤ m := by
        have := List.mem_of_getElem? hu
        simp at this
        rcases this with rfl | rfl
        · exact ⟨k1, by omega⟩
        · exact ⟨k2, by omega⟩
      k_call_by "EY" []
      ((try dsimp only); rw [Cl.wSs_cons]; k_call_by "EY" [Γ_phi])
      refine hrec _ _ _ ⟨u, a, _, rfl, hu'.1, hW, hu'.2, hd, fun G2 e2 h2 => ?_⟩
      dsimp only
      rw [wSs_nil]
      have et : ([x, y].take (n + 1)).foldl (fun f u => pdn (m + 1) u f) ws = pdn (m + 1) u (([x, y].take n).foldl (fun f u => pdn (m + 1) u f) ws) := by
        rw [List.take_succ, hu]; simp
      refine hn _ _ ⟨⟨_, rfl⟩, eG.trans e2, ?_, ?_⟩
      · rw [et]; exact hW.pdn _ _ hu'.1
      · rw [et]; exact h2
    · rintro ρ G' ⟨⟨x3, rfl⟩, eG, hW, hd⟩
      refine ⟨watch_nil, ?_⟩
      have hW : Wds (pdn (m + 1) y (pdn (m + 1) x ws)) := hW
      have hd : G' a = some (.dT ((pdn (m + 1) y (pdn (m + 1) x ws)).map went)) := hd
      dsimp only
      have hl := hW.len
      ((try dsimp only); rw [Cl.wSs_at (l := l32) (k := 3) rfl]; k_call_by "EY" [])
      refine set_T hd (nks_word w) (word_depth w) (by rw [List.length_map]; omega) ?_
      rw [show NestedKey.tup [.num w.p, .num w.q, .num w.l] = wkey w from rfl, dPut_went]
      rw [wSs_end (l := l32) (k := 4) rfl]
      exact hQ _ (eG.trans .upd) pup_same
theorem mu_zero {w : W3} (hw : WdOk w) (h : mu w ≤ 0) : madeIn w = none := by
  cases hm : madeIn w with
  | none => rfl
  | some xy =>
    obtain ⟨x, y⟩ := xy
    have := (made_ok hw hm).2.2.1
    omega
theorem pdn_none {w : W3} (h : madeIn w = none) (m : Nat) (ws : List W3) : pdn (m + 1) w ws = ws := by rw [pdn, h]
theorem w32_0 (hmade : Has Φ 31 spMadeIn) : Kp C Φ c32 N32 (spPutDown 0) := by
  rintro args G Q ⟨w, a, ws, rfl, hw, hws, hmu, ha, hQ⟩
  have h0 := mu_zero hw hmu
  refine putdown_core (m := 0) hmade (fun z => absurd h0 z) hw hws ha fun G' e h => hQ G' e ?_
  rw [pdn_none h0] at h ⊢
  exact h
theorem w32_s {m : Nat} (hmade : Has Φ 31 spMadeIn) (hrec : Has Φ 32 (spPutDown m)) : Kp C Φ c32 N32 (spPutDown (m + 1)) := by
  rintro args G Q ⟨w, a, ws, rfl, hw, hws, hmu, ha, hQ⟩
  exact putdown_core hmade (fun _ => ⟨hrec, hmu⟩) hw hws ha hQ
theorem w33 (hp : ∀ m, m ≤ 24 → Has Φ 32 (spPutDown m)) : Kp C Φ c33 N33 spStepsIn := by
  rintro args G Q ⟨a, ws, rfl, ha, hl, hok, hQ⟩
  have hz := size_big
  refine wSs_0 (l := l33) ?_
  ((try dsimp only); rw [Cl.wSs_at (l := l33) (k := 0) rfl]; k_call_by "EY" [N33, Γ_phi, Cl.wNewT])
  intro p hp0
  have hap : a ≠ p := fun z => by subst z; rw [ha] at hp0; cases hp0
  ((try dsimp only); rw [Cl.wSs_at (l := l33) (k := 1) rfl]; k_call_by "EY" [Γ_phi])
  rw [itV_lst (by rw [pup_ne hap]; exact ha)]
  refine forL_0 (fun n ρ G' => (∃ x2, ρ = [some (.ref a), some (.ref p), x2]) ∧ ExtB p G G' ∧ Wds ((ws.take n).foldl (fun f w => pdn 25 w f) []) ∧ G' p = some (.dT (((ws.take n).foldl (fun f w => pdn 25 w f) []).map went))) ⟨⟨_, rfl⟩, .of (.new hp0), .nil, pup_same⟩ ?_ ?_
  · rintro n v ρ G' P' hv ⟨⟨x2, rfl⟩, eG, hW, hd⟩ hn
    refine ⟨watch_one (eG _ _ hap ha), ?_⟩
    rw [List.getElem?_map] at hv
    obtain ⟨w, hw, rfl⟩ := Option.map_eq_some_iff.mp hv
    k_call_by "EY" []
    ((try dsimp only); rw [Cl.wSs_cons]; k_call_by "EY" [Γ_phi])
    refine hp 24 (by omega) _ _ _ ⟨w, p, _, rfl, hok w (List.mem_of_getElem? hw), hW, mu_le w, hd, fun G2 e2 h2 => ?_⟩
    dsimp only
    rw [wSs_nil]
    have et : (ws.take (n + 1)).foldl (fun f u => pdn 25 u f) [] = pdn 25 w ((ws.take n).foldl (fun f u => pdn 25 u f) []) := by
      rw [List.take_succ, hw]; simp
    refine hn _ _ ⟨⟨_, rfl⟩, eG.trans e2, ?_, ?_⟩
    · rw [et]; exact hW.pdn _ _ (hok w (List.mem_of_getElem? hw))
    · rw [et]; exact h2
  · rintro ρ G' ⟨⟨x2, rfl⟩, eG, hW, hd⟩
    refine ⟨watch_one (eG _ _ hap ha), ?_⟩
    rw [List.length_map, List.take_length] at hW hd
    have hl := hW.len
    dsimp only
    ((try dsimp only); rw [Cl.wSs_at (l := l33) (k := 2) rfl]; k_call_by "EY" [])
    rw [tupD_T hd]
    refine ⟨by rw [List.length_map]; omega, ?_⟩
    have e : (ws.foldl (fun f w => pdn 25 w f) []) = stepsIn ws := rfl
    rw [e, List.map_map] at *
    have e2 : (stepsIn ws).map ((fun p : NestedKey × PV => kpv p.1) ∘ went) = (stepsIn ws).map wordP := List.map_congr_left fun w _ => kpv_word w
    rw [e2]
    refine hQ _ fun x o hx => ?_
    have hxp : x ≠ p := fun z => by subst z; rw [hp0] at hx; cases hx
    exact eG x o hxp hx
end
end K51
set_option Elab.async false
set_option linter.all false
set_option maxRecDepth 100000
set_option maxHeartbeats 2000000
set_option exponentiation.threshold 10000
namespace K51
open PySem PySem.Spec PyProof.Rows L2 Cl
-- M0
local macro_rules | `(tactic| k_call_by "EY" [$as,*]) => `(tactic| simp only [Cl.L, Cl.LG, List.foldr_cons, List.foldr_nil, Cl.wSt, Cl.wE, Cl.wEs, Cl.wTs, Cl.wOp, Cl.wQ, Cl.wS, Cl.wI, Cl.wG, Cl.wGs, Cl.CGs.len, Cl.sRet, Cl.sRetN, Cl.sNext, Cl.sIf, Cl.sAsg, Cl.wipeR, Cl.sDrop, Cl.sPar2, Cl.sBrk, Cl.sCont, Cl.wAnd, Cl.wOr, Cl.wIf, Cl.wNot, Cl.wNeg, Cl.wVar, Cl.wC, Cl.Cn.pv, Cl.w2, Cl.w3, Cl.wTup, Cl.wLst, Cl.wNil, Cl.wCons, Cl.wCall, Cl.wMake, Cl.wB, Cl.Bi.r, Cl.bAbs, Cl.bInt, Cl.bLen_tup, Cl.bLen_rl, Cl.wIsi, Cl.CTy.p, Cl.startP, List.map_cons, List.map_nil, List.getElem?_cons_zero, List.getElem?_cons_succ, List.set_cons_zero, List.set_cons_succ, List.cons_append, List.nil_append, List.length_cons, List.length_nil, Nat.reduceAdd, Nat.reduceSub, Nat.zero_add, List.replicate, List.any_cons, List.any_nil, Cl.isOne, Cl.tru_bl, Cl.tru_int, Cl.tyOf_bl, Cl.tyOf_int, Cl.tyOf_tup, Cl.tyOf_rl, Cl.tyOf_non, Cl.cmp_lt, Cl.cmp_le, Cl.cmp_gt, Cl.cmp_ge, Cl.cmp_is, Cl.cmp_eqI, Cl.cmp_neI, Cl.at_0, Cl.at_1, Cl.at_2, true_and, and_true, Option.map_some, Option.getD_some, Cl.wTupOf, Cl.wLstOf, Cl.sFor, Cl.seqOf_tup, Cl.seqOf_rl, Cl.tsOne, Cl.wSeq, Cl.wSeqL, Cl.wFld, Cl.sFldP, Cl.wSlice, Cl.wPart, Cl.wNoP, Cl.wRev, Cl.Ag.w, Cl.wAll, Cl.wAny, Cl.wMax, Cl.wMin, Cl.wSum, Cl.wMaxC, Cl.wCallK, Cl.gP, Cl.bi_add, Cl.bi_sub, Cl.bi_mul, Cl.bi_div, Cl.bi_mod, Cl.bi_pow, Cl.ix_t0, Cl.ix_t1, Cl.ix_t2, Cl.ni1, Cl.ni2, Cl.ni3, decide_true, eq_self, Cl.b_o, String.reduceBEq, Bool.or_false, Bool.false_or, Bool.true_or, Bool.or_true, Bool.false_and, Bool.true_and, Bool.and_false, Bool.not_true, Bool.not_false, Cl.wSi, Cl.wStar, Cl.wMeth, Cl.iVal_ap, Cl.iEnm_ap, Cl.iZp_ap, Cl.iR1_ap, Cl.iR2_ap, Cl.iR3_ap, Cl.itV_tup, Cl.itV_rl, Cl.itE_tup, Cl.itZ_tup, Cl.itR_int, Cl.itR2_int, Cl.lcQ_iVal, Cl.lcQ_iEnm, Cl.lcQ_iZp, Cl.lcQ_iR1, Cl.lcQ_iR2, Cl.lc_iVal, Cl.lc_iEnm, Cl.lc_iZp, Cl.lc_iR1, Cl.lc_iR2, Cl.dc_iVal, Cl.gN_ap, Cl.gC_ap, Cl.gZ_ap, Cl.gTp2, Cl.gTp3, Cl.gTp4, Cl.gS_ap, Cl.tsYes_ap, $[$as:term],*])
-- M1
/-! ### the waves of a polynomial -/
def wX (φ : Int → Int → Tn) (r : Rat) : Rat := r * (φ 0 1).1 + r * (φ 1 0).1
def wY (φ : Int → Int → Tn) (r : Rat) : Rat := r * (φ 0 1).2 + r * (φ 1 0).2
def wDen (Dq Dr : Nat) : Nat := Dq * (2 * Dr) ^ 6
def wMx (Mq Mr : Nat) : Nat := 512 ^ 30 * (Mq * (2 ^ 17 * Mr) ^ 6)
structure PolOk (Dq Mq d : Nat) (ts : List Tm) : Prop where
  l : ts.length ≤ 30
  t : ∀ t ∈ ts, t.i + t.j ≤ d ∧ Bd Dq Mq t.q
def wavX (r : Rat) : Rat × List BE := (0, [(⟨0, 1, r, 0⟩ : BE), ⟨1, 0, r, 0⟩].mergeSort ble)
def wavY (r : Rat) : Rat × List BE := (0, [(⟨0, 1, 0, r⟩ : BE), ⟨1, 0, 0, r⟩].mergeSort ble)
def wavT (r : Rat) (t : Tm) (m : Nat) : Rat × List BE := (List.range m).foldl (fun w n => mulW w (if n < t.i then wavX r else wavY r)) (t.q, [])
def wavesIn (r : Rat) (ts : List Tm) : Rat × List BE := ts.foldl (fun w t => sumW w (wavT r t (t.i + t.j))) (0, [])
def spWavesIn (A A2 : Addr) : PSp := fun args G Q => ∃ v r dg ts d Dq Mq Dr Mr, args = [v, num r] ∧ IsPoly A2 v dg ts G ∧ PolOk Dq Mq d ts ∧ d ≤ 6 ∧ Bd Dr Mr r ∧ 0 < r ∧ 0 < Dq ∧ 0 < Dr ∧ 0 < Mr ∧ Dq ≤ 2 ^ 100 ∧ Dr ≤ 2 ^ 40 ∧ Mq ≤ 2 ^ 300 ∧ Mr ≤ 2 ^ 40 ∧
  ∀ G' w k bk, Ext G G' → IsWav A w k bk G' → WOk (wDen Dq Dr) (wMx Mq Mr) d k bk → (∀ φ, Ch φ → vW φ k bk = lin (fun i j => wX φ r ^ i * wY φ r ^ j) ts) → (k, bk) = wavesIn r ts → Q w G'
theorem rs_nil (d : Nat) : RsOk d [] := ⟨(fun _ h => nomatch h), List.Pairwise.nil, by simp⟩
theorem wok_nil {D M d : Nat} {k : Rat} (h : Bd D M k) : WOk D M d k [] := ⟨h, (fun _ h => nomatch h), List.Pairwise.nil, List.Pairwise.nil⟩
theorem vW_nil (φ : Int → Int → Tn) (k : Rat) : vW φ k [] = k := by unfold vW; simp only [vB]; grind
theorem wav_two {r : Rat} {Dr Mr : Nat} (h : Bd Dr Mr r) (h0 : 0 < Dr) {c s : Rat} (hc : c = r ∨ c = 0) (hs : s = r ∨ s = 0) (hn : ¬ (c = 0 ∧ s = 0)) {k : Rat} {bk : List BE} (hk : k = 0) (pm : bk.Perm [⟨0, 1, c, s⟩, ⟨1, 0, c, s⟩]) (so : bk.Pairwise blt) : WOk Dr Mr 1 k bk := by
  have nd : BNd [(⟨0, 1, c, s⟩ : BE), ⟨1, 0, c, s⟩] := List.pairwise_cons.mpr ⟨fun b hb => by simp at hb; subst hb; rfl, List.pairwise_singleton _ _⟩
  have z0 : Bd Dr Mr (0 : Rat) := Bd.zero' h0
  have zc : Bd Dr Mr c := by rcases hc with rfl | rfl <;> assumption
  have zs : Bd Dr Mr s := by rcases hs with rfl | rfl <;> assumption
  refine ⟨by rw [hk]; exact z0, fun t ht => ?_, nd.perm pm.symm, so⟩
  have := pm.mem_iff.mp ht
  simp only [List.mem_cons, List.not_mem_nil, or_false] at this
  rcases this with rfl | rfl
  · exact ⟨zc, zs, ⟨.inr ⟨rfl, by simp⟩, by simp⟩, hn⟩
  · exact ⟨zc, zs, ⟨.inl (by simp), by simp⟩, hn⟩
theorem rs_two {c s : Rat} (hn : ¬ (c = 0 ∧ s = 0)) : RsOk 6 [⟨0, 1, c, s⟩, ⟨1, 0, c, s⟩] := by
  refine ⟨fun t ht => ?_, List.pairwise_cons.mpr ⟨fun b hb => by simp at hb; subst hb; rfl, List.pairwise_singleton _ _⟩, by simp⟩
  simp only [List.mem_cons, List.not_mem_nil, or_false] at ht
  rcases ht with rfl | rfl
  · exact ⟨⟨.inr ⟨rfl, by simp⟩, by simp⟩, hn⟩
  · exact ⟨⟨.inl (by simp), by simp⟩, hn⟩
theorem vW_two {φ : Int → Int → Tn} {c s k : Rat} {bk : List BE} (hk : k = 0) (pm : bk.Perm [⟨0, 1, c, s⟩, ⟨1, 0, c, s⟩]) : vW φ k bk = c * (φ 0 1).1 + s * (φ 0 1).2 + (c * (φ 1 0).1 + s * (φ 1 0).2) := by
  unfold vW
  rw [vB_perm φ pm, hk]
  simp only [vB]; grind
/-- x's, then y's: what is left to be multiplied -/
def xyAt (i : Nat) (a b : PV) (n : Nat) : PV := if n < i then a else b
theorem xy_get {i j : Nat} {a b v : PV} {n : Nat} (h : (List.replicate i a ++ List.replicate j b)[n]? = some v) : n < i + j ∧ v = xyAt i a b n := by
  have hn := (List.getElem?_eq_some_iff.mp h).1
  simp at hn
  refine ⟨hn, ?_⟩
  unfold xyAt
  by_cases hi : n < i
  · rw [List.getElem?_append_left (by simpa using hi), List.getElem?_replicate, if_pos hi] at h
    rw [if_pos hi]; exact (Option.some.inj h).symm
  · rw [List.getElem?_append_right (by simpa using hi), List.getElem?_replicate] at h
    rw [if_neg hi]
    split at h
    · exact (Option.some.inj h).symm
    · cases h
def xyV (x y : Rat) (i n : Nat) : Rat := x ^ (min n i) * y ^ (n - i)
theorem xyV_succ (x y : Rat) (i n : Nat) : xyV x y i (n + 1) = xyV x y i n * (if n < i then x else y) := by
  unfold xyV
  by_cases h : n < i
  · rw [if_pos h, show min (n + 1) i = min n i + 1 by omega, show n + 1 - i = n - i by omega, Rat.pow_succ]; grind
  · rw [if_neg h, show min (n + 1) i = min n i by omega, show n + 1 - i = (n - i) + 1 by omega, Rat.pow_succ]; grind
theorem mul4 (c D z r : Nat) : c * (D * z * r) = D * (z * (c * r)) := by grind
theorem den_step {Dq Dr n : Nat} : 2 * (Dq * (2 * Dr) ^ n * Dr) = Dq * (2 * Dr) ^ (n + 1) := mul4 2 Dq ((2 * Dr) ^ n) Dr
theorem mx_step {Mq Mr n : Nat} : 2 ^ 17 * (Mq * (2 ^ 17 * Mr) ^ n * Mr) = Mq * (2 ^ 17 * Mr) ^ (n + 1) := mul4 (2 ^ 17) Mq ((2 ^ 17 * Mr) ^ n) Mr
theorem bi_rep {a : Addr} {x : PV} {i : Nat} {G : Cl.PG} {Q : WK} (h : G a = some (.lst [x])) (hi : i ≤ 1000) (hQ : ∀ p, G p = none → Q (.ref p) (pup G p (.lst (List.replicate i x)))) : Cl.wBin .Mult (.ref a) (.int (i : Nat)) G Q := by
  have := size_big
  refine ⟨[x], h, by omega, by omega, by simp; omega, fun p hp => ?_⟩
  rw [Int.toNat_natCast, rep_flat]
  exact hQ p hp
theorem bi_cat {a b : Addr} {xs ys : List PV} {G : Cl.PG} {Q : WK} (h : G a = some (.lst xs)) (h' : G b = some (.lst ys)) (hi : xs.length + ys.length ≤ 1000000) (hQ : ∀ p, G p = none → Q (.ref p) (pup G p (.lst (xs ++ ys)))) : Cl.wBin .Add (.ref a) (.ref b) G Q := by
  have := size_big
  exact ⟨xs, ys, h, h', by omega, hQ⟩
theorem lin_snoc (φ : Nat → Nat → Rat) {ts : List Tm} {n : Nat} {t : Tm} (h : ts[n]? = some t) : lin φ (ts.take (n + 1)) = lin φ (ts.take n) + t.q * φ t.i t.j := by
  rw [List.take_succ, h, lin_append]
  simp only [Option.toList, lin]; grind
theorem poly_terms {A : Addr} {v : PV} {d : Nat} {ts : List Tm} {G : Cl.PG} (h : IsPoly A v d ts G) : ∃ p fs, v = .ref p ∧ G p = some (.ins A fs) ∧ fs.lookup (Str.ofString "terms") = some (.tup (ts.map tmP)) ∧ fs.lookup (Str.ofString "degree") = some (.int d) := by
  obtain ⟨p, rfl, hp⟩ := h
  exact ⟨p, _, rfl, hp, rfl, rfl⟩
section
variable {C : Nat → Addr} {Φ : Nat → PSp}
theorem mk_wavR (h : Has Φ 55 (spWavI (C 0))) {k : Rat} {v : PV} {bk : List BE} {G : Cl.PG} {R : Addr → Cl.PG → Prop} (hv : SeqIs v (bk.map rowP) G) (hok : RsOk 6 bk) (hQ : ∀ G' p bk', Ext G G' → IsWav (C 0) (.ref p) k bk' G' → bk'.Perm bk → bk'.Pairwise blt → R p G') :
    ∀ p, G p = none → Φ 55 [.ref p, num k, v] (pup G p (.ins (C 0) [])) fun v G2 => v = .non ∧ R p G2 := by
  intro p hp
  refine h _ _ _ ⟨p, k, v, bk, rfl, pup_same, hv.ext (.new hp), hok, fun G' bk' sz pm so e hp' => ⟨rfl, hQ _ _ bk' (fun a x ha => ?_) ⟨p, sz, rfl, hp'⟩ pm so⟩⟩
  have : a ≠ p := fun z => by subst z; rw [hp] at ha; cases ha
  exact e _ _ this (by rw [pup_ne this]; exact ha)
theorem mk_wav0 (h : Has Φ 55 (spWavI (C 0))) {v : PV} {bk : List BE} {G : Cl.PG} {R : Addr → Cl.PG → Prop} (hv : SeqIs v (bk.map rowP) G) (hok : RsOk 6 bk) (hQ : ∀ G' p bk', Ext G G' → IsWav (C 0) (.ref p) 0 bk' G' → bk'.Perm bk → bk'.Pairwise blt → R p G') :
    ∀ p, G p = none → Φ 55 [.ref p, .int 0, v] (pup G p (.ins (C 0) [])) fun v G2 => v = .non ∧ R p G2 := by
  rw [zero_num]; exact mk_wavR h hv hok hQ
theorem w26 (hmk : Has Φ 55 (spWavI (C 0))) (hmul : Has Φ 25 (spMulW (C 0))) (hsum : Has Φ 24 (spSum (C 0))) : Kp C Φ c26 N26 (spWavesIn (C 0) (C 2)) := by
  rintro args G Q ⟨v, r, dg, ts, d, Dq, Mq, Dr, Mr, rfl, hv, hts, hd, br, r0, q0, dr0, mr0, hDq, hDr, hMq, hMr, hQ⟩
  have hz := size_big
  have rn : ¬ r = 0 := fun z => by rw [z] at r0; exact absurd r0 (by decide)
  refine wSs_0 (l := l26) ?_
  ((try dsimp only); rw [Cl.wSs_at (l := l26) (k := 0) rfl]; k_call_by "EY" [N26, Γ_phi, Γ_mks])
  refine ⟨by decide, by decide, by decide, by decide, by decide, fun p0 hp0 => ?_⟩
  rw [show [PV.tup [PV.tup [PV.int 0, PV.int 1], num r, PV.int 0], PV.tup [PV.tup [PV.int 1, PV.int 0], num r, PV.int 0]] = List.map rowP [⟨0, 1, r, 0⟩, ⟨1, 0, r, 0⟩] by simp only [List.map_cons, List.map_nil, rowP, ← zero_num]]
  refine mk_wav0 hmk (bk := [⟨0, 1, r, 0⟩, ⟨1, 0, r, 0⟩]) (.inr ⟨p0, rfl, pup_same⟩) (rs_two fun z => rn z.1) fun G1 px bx e1 hx pmx sox => ?_
  generalize hwx : PV.ref px = wx at *
  have e1 : Ext G G1 := (Ext.new hp0).trans e1
  clear hp0
  ((try dsimp only); rw [Cl.wSs_at (l := l26) (k := 1) rfl]; k_call_by "EY" [Γ_phi, Γ_mks])
  refine ⟨by decide, by decide, by decide, by decide, by decide, fun p0 hp0 => ?_⟩
  rw [show [PV.tup [PV.tup [PV.int 0, PV.int 1], PV.int 0, num r], PV.tup [PV.tup [PV.int 1, PV.int 0], PV.int 0, num r]] = List.map rowP [⟨0, 1, 0, r⟩, ⟨1, 0, 0, r⟩] by simp only [List.map_cons, List.map_nil, rowP, ← zero_num]]
  refine mk_wav0 hmk (bk := [⟨0, 1, 0, r⟩, ⟨1, 0, 0, r⟩]) (.inr ⟨p0, rfl, pup_same⟩) (rs_two fun z => rn z.2) fun G2 py by_ e2 hy pmy soy => ?_
  generalize hwy : PV.ref py = wy at *
  have e2 : Ext G1 G2 := (Ext.new hp0).trans e2
  clear hp0
  ((try dsimp only); rw [Cl.wSs_at (l := l26) (k := 2) rfl]; k_call_by "EY" [Γ_phi, Γ_mks])
  refine ⟨by decide, ?_⟩
  refine mk_wav0 hmk (bk := []) (.inl rfl) (rs_nil 6) fun G3 pf bf e3 hf pmf sof => ?_
  generalize hwf : PV.ref pf = wf at *
  have bf0 : bf = [] := pmf.eq_nil
  subst bf0
  have ox : WOk Dr Mr 1 0 bx := wav_two br dr0 (.inl rfl) (.inr rfl) (fun z => rn z.1) rfl pmx sox
  have oy : WOk Dr Mr 1 0 by_ := wav_two br dr0 (.inr rfl) (.inl rfl) (fun z => rn z.2) rfl pmy soy
  have vx : ∀ φ, vW φ 0 bx = wX φ r := fun φ => by rw [vW_two rfl pmx]; unfold wX; grind
  have vy : ∀ φ, vW φ 0 by_ = wY φ r := fun φ => by rw [vW_two rfl pmy]; unfold wY; grind
  have nd2 : ∀ c s : Rat, BNd [(⟨0, 1, c, s⟩ : BE), ⟨1, 0, c, s⟩] := fun c s => List.pairwise_cons.mpr ⟨fun b hb => by simp at hb; subst hb; rfl, List.pairwise_singleton _ _⟩
  have qx : (0, bx) = wavX r := by unfold wavX; rw [srt_eq (nd2 _ _) pmx sox]
  have qy : (0, by_) = wavY r := by unfold wavY; rw [srt_eq (nd2 _ _) pmy soy]
  have E3 := (e1.trans e2).trans e3
  have hx3 : IsWav (C 0) wx 0 bx G3 := (hx.ext e2).ext e3
  have hy3 : IsWav (C 0) wy 0 by_ G3 := hy.ext e3
  generalize hM0 : Mq * (2 ^ 17 * Mr) ^ 6 = M0
  have mxle : ∀ n, n ≤ 6 → Mq * (2 ^ 17 * Mr) ^ n ≤ M0 := fun n hn => by
    rw [← hM0]
    exact Nat.mul_le_mul_left _ (Nat.pow_le_pow_right (by omega) hn)
  have hM0s : M0 ≤ 2 ^ 642 := by
    rw [← hM0]
    exact Nat.le_trans (Nat.mul_le_mul hMq (Nat.pow_le_pow_left (Nat.mul_le_mul_left _ hMr) 6)) (by decide)
  have dpos : 0 < 2 * Dr := by omega
  have ddvd : ∀ n, n ≤ 6 → Dq * (2 * Dr) ^ n ∣ wDen Dq Dr := fun n hn => Nat.mul_dvd_mul_left _ (Nat.pow_dvd_pow _ hn)
  have hD0 : 0 < wDen Dq Dr := Nat.mul_pos q0 (Nat.pow_pos dpos)
  have hD0s : wDen Dq Dr ≤ 2 ^ 400 := Nat.le_trans (Nat.mul_le_mul hDq (Nat.pow_le_pow_left (Nat.mul_le_mul_left 2 hDr) 6)) (by decide)
  obtain ⟨pp, fs, rfl, hpp, hft, _⟩ := poly_terms hv
  have hpp3 := E3 _ _ hpp
  ((try dsimp only); rw [Cl.wSs_at (l := l26) (k := 3) rfl]; k_call_by "EY" [Γ_phi, Γ_flds, hpp3, hft])
  refine ⟨by simp, ?_⟩
  refine forL_0 (fun n ρ G' => (∃ wf x5 x6 x7 x8 x9, ρ = [some (.ref pp), some (num r), some wx, some wy, some wf, x5, x6, x7, x8, x9] ∧ ∃ k bk, IsWav (C 0) wf k bk G' ∧ WOk (wDen Dq Dr) (512 ^ n * M0) d k bk ∧ (k, bk) = wavesIn r (ts.take n) ∧ ∀ φ, Ch φ → vW φ k bk = lin (fun i j => wX φ r ^ i * wY φ r ^ j) (ts.take n)) ∧ Ext G3 G')
    ⟨⟨wf, none, none, none, none, none, rfl, 0, [], hf, wok_nil (Bd.zero' hD0), rfl, fun φ _ => by rw [vW_nil]; simp [lin]⟩, .refl⟩ ?_ ?_
  · rintro n v ρ G4 P' hv ⟨⟨wf, x5, x6, x7, x8, x9, rfl, k, bk, hf, of, qf, vf⟩, eG⟩ hn
    refine ⟨watch_nil, ?_⟩
    rw [List.getElem?_map] at hv
    obtain ⟨t, ht, rfl⟩ := Option.map_eq_some_iff.mp hv
    obtain ⟨tij, bt⟩ := hts.t t (List.mem_of_getElem? ht)
    have hnl : n < ts.length := (List.getElem?_eq_some_iff.mp ht).1
    have hnl30 : n < 30 := Nat.lt_of_lt_of_le hnl hts.l
    k_call_by "EY" [tmP]
    ((try dsimp only); rw [Cl.wSs_cons]; k_call_by "EY" [Γ_phi, Γ_mks])
    refine ⟨by decide, ?_⟩
    refine mk_wavR hmk (k := t.q) (bk := []) (.inl rfl) (rs_nil 6) fun G5 pb bb e5 hb pmb sob => ?_
    generalize hwb : PV.ref pb = wb at *
    have bb0 : bb = [] := pmb.eq_nil
    subst bb0
    ((try dsimp only); rw [Cl.wSs_cons]; k_call_by "EY" [Γ_phi])
    refine ⟨by decide, fun p1 hp1 => bi_rep pup_same (by omega) fun p2 hp2 => ⟨by decide, fun p3 hp3 => bi_rep pup_same (by omega) fun p4 hp4 => ?_⟩⟩
    generalize hG9 : pup (pup (pup (pup G5 p1 (.lst [wx])) p2 (.lst (List.replicate t.i wx))) p3 (.lst [wy])) p4 (.lst (List.replicate t.j wy)) = G9
    have e9 : Ext G5 G9 := by rw [← hG9]; exact (((Ext.new hp1).trans (.new hp2)).trans (.new hp3)).trans (.new hp4)
    have hp29 : G9 p2 = some (.lst (List.replicate t.i wx)) := by rw [← hG9]; exact Ext.new hp4 _ _ (Ext.new hp3 _ _ pup_same)
    have hp49 : G9 p4 = some (.lst (List.replicate t.j wy)) := by rw [← hG9]; exact pup_same
    refine bi_cat hp29 hp49 (by simp; omega) fun p5 hp5 => ?_
    rw [itV_lst pup_same]
    generalize hG10 : pup G9 p5 (.lst (List.replicate t.i wx ++ List.replicate t.j wy)) = G10
    have e10 : Ext G5 G10 := by rw [← hG10]; exact e9.trans (.new hp5)
    have hp510 : G10 p5 = some (.lst (List.replicate t.i wx ++ List.replicate t.j wy)) := by rw [← hG10]; exact pup_same
    have E10 : Ext G3 G10 := (eG.trans e5).trans e10
    refine forL_0 (fun m ρ G' => (∃ wb x9, ρ = [some (.ref pp), some (num r), some wx, some wy, some wf, some (.int t.i), some (.int t.j), some (num t.q), some wb, x9] ∧ ∃ k bk, IsWav (C 0) wb k bk G' ∧ WOk (Dq * (2 * Dr) ^ m) (Mq * (2 ^ 17 * Mr) ^ m) m k bk ∧ (k, bk) = wavT r t m ∧ ∀ φ, Ch φ → vW φ k bk = t.q * xyV (wX φ r) (wY φ r) t.i m) ∧ Ext G10 G')
      ⟨⟨wb, x9, rfl, t.q, [], hb.ext e10, wok_nil (bt.up (by simp) (by simp)), rfl, fun φ _ => by rw [vW_nil]; unfold xyV; simp⟩, .refl⟩ ?_ ?_
    · rintro m v ρ G11 P2 hv ⟨⟨wb, x9, rfl, k2, b2, hb, ob, qb, vb⟩, eG2⟩ hn2
      refine ⟨watch_one (eG2 _ _ hp510), ?_⟩
      obtain ⟨hm, rfl⟩ := xy_get hv
      have hm6 : m < 6 := by omega
      k_call_by "EY" []
      ((try dsimp only); rw [Cl.wSs_cons]; k_call_by "EY" [Γ_phi])
      have part : ∃ bz, IsWav (C 0) (xyAt t.i wx wy m) 0 bz G11 ∧ WOk Dr Mr 1 0 bz ∧ (0, bz) = (if m < t.i then wavX r else wavY r) ∧ ∀ φ, vW φ 0 bz = if m < t.i then wX φ r else wY φ r := by
        unfold xyAt
        by_cases h : m < t.i
        · rw [if_pos h]; exact ⟨bx, (hx3.ext E10).ext eG2, ox, by rw [if_pos h]; exact qx, fun φ => by rw [if_pos h]; exact vx φ⟩
        · rw [if_neg h]; exact ⟨by_, (hy3.ext E10).ext eG2, oy, by rw [if_neg h]; exact qy, fun φ => by rw [if_neg h]; exact vy φ⟩
      obtain ⟨bz, hbz, obz, qbz, vbz⟩ := part
      have h1 : Dq * (2 * Dr) ^ m ≤ 2 ^ 350 := Nat.le_trans (Nat.mul_le_mul hDq (Nat.pow_le_pow_left (Nat.mul_le_mul_left 2 hDr) m)) (Nat.le_trans (Nat.mul_le_mul_left _ (Nat.pow_le_pow_right (by decide) (show m ≤ 5 by omega))) (by decide))
      have h2 : Mq * (2 ^ 17 * Mr) ^ m ≤ 2 ^ 642 := Nat.le_trans (mxle m (by omega)) hM0s
      refine hmul _ _ _ ⟨wb, _, k2, b2, 0, bz, _, _, m, Dr, Mr, 1, rfl, hb, hbz, ob, obz, Nat.mul_pos q0 (Nat.pow_pos dpos), dr0, Nat.le_trans (Nat.mul_le_mul h1 hDr) (by decide), Nat.le_trans h2 (by decide), Nat.le_trans hMr (by decide), Nat.le_trans (Nat.mul_le_mul h2 hMr) (by decide), by omega, fun G12 w k3 b3 e12 hw ow vw qw => ?_⟩
      dsimp only
      rw [wSs_nil]
      rw [den_step, mx_step] at ow
      refine hn2 _ _ ⟨⟨w, _, rfl, k3, b3, hw, ow, by rw [qw, qb, qbz]; unfold wavT; rw [List.range_succ, List.foldl_append]; rfl, fun φ hφ => ?_⟩, eG2.trans e12⟩
      rw [vw φ hφ, vb φ hφ, vbz φ, xyV_succ]; grind
    · rintro ρ G11 ⟨⟨wb, x9, rfl, k2, b2, hb, ob, qb, vb⟩, eG2⟩
      refine ⟨watch_one (eG2 _ _ hp510), ?_⟩
      have hlen : (List.replicate t.i wx ++ List.replicate t.j wy).length = t.i + t.j := by simp
      rw [hlen] at ob vb qb
      dsimp only
      ((try dsimp only); rw [Cl.wSs_cons]; k_call_by "EY" [Γ_phi])
      have h5 : 512 ^ n * M0 ≤ 2 ^ 1000 := Nat.le_trans (Nat.mul_le_mul (Nat.pow_le_pow_right (by decide) (show n ≤ 30 by omega)) hM0s) (by decide)
      have ob' : WOk (wDen Dq Dr) (512 ^ n * M0) d k2 b2 := ob.upW (ddvd _ (by omega)) (Nat.le_trans (mxle _ (by omega)) (Nat.le_mul_of_pos_left _ (Nat.pow_pos (by decide)))) tij
      refine hsum _ _ _ ⟨wf, wb, k, bk, k2, b2, _, _, d, rfl, ((hf.ext e5).ext e10).ext eG2, hb, of, ob', hD0, hD0s, h5, hd, fun G12 w k3 b3 e12 hw ow vw qw => ?_⟩
      dsimp only
      rw [wSs_nil]
      refine hn _ _ ⟨⟨w, _, _, _, _, _, rfl, k3, b3, hw, ?_, by rw [qw, qf, qb]; unfold wavesIn; rw [List.take_succ, ht, List.foldl_append]; rfl, fun φ hφ => ?_⟩, ((E10.trans eG2).trans e12)⟩
      · rw [Nat.pow_succ, Nat.mul_comm (512 ^ n), Nat.mul_assoc]; exact ow
      · rw [vw φ hφ, vf φ hφ, vb φ hφ, lin_snoc _ ht]
        have : xyV (wX φ r) (wY φ r) t.i (t.i + t.j) = wX φ r ^ t.i * wY φ r ^ t.j := by
          unfold xyV
          rw [Nat.min_eq_right (Nat.le_add_right _ _), Nat.add_sub_cancel_left]
        rw [this]
  · rintro ρ G4 ⟨⟨wf, x5, x6, x7, x8, x9, rfl, k, bk, hf, of, qf, vf⟩, eG⟩
    refine ⟨watch_nil, ?_⟩
    rw [List.length_map] at of vf qf
    rw [List.take_length] at vf qf
    dsimp only
    ((try dsimp only); rw [Cl.wSs_at (l := l26) (k := 4) rfl]; k_call_by "EY" [])
    refine hQ _ wf k bk (E3.trans eG) hf (of.upW (Nat.dvd_refl _) ?_ (Nat.le_refl _)) vf qf
    unfold wMx
    rw [hM0]
    exact Nat.mul_le_mul_right _ (Nat.pow_le_pow_right (by decide) hts.l)
end
end K51
set_option Elab.async false
set_option linter.all false
set_option maxRecDepth 100000
set_option maxHeartbeats 2000000
set_option exponentiation.threshold 10000
namespace K51
open PySem PySem.Spec PyProof.Rows L2 Cl
-- M0
local macro_rules | `(tactic| k_call_by "EY" [$as,*]) => `(tactic| simp only [Cl.L, Cl.LG, List.foldr_cons, List.foldr_nil, Cl.wSt, Cl.wE, Cl.wEs, Cl.wTs, Cl.wOp, Cl.wQ, Cl.wS, Cl.wI, Cl.wG, Cl.wGs, Cl.CGs.len, Cl.sRet, Cl.sRetN, Cl.sNext, Cl.sIf, Cl.sAsg, Cl.wipeR, Cl.sDrop, Cl.sPar2, Cl.sBrk, Cl.sCont, Cl.wAnd, Cl.wOr, Cl.wIf, Cl.wNot, Cl.wNeg, Cl.wVar, Cl.wC, Cl.Cn.pv, Cl.w2, Cl.w3, Cl.wTup, Cl.wLst, Cl.wNil, Cl.wCons, Cl.wCall, Cl.wMake, Cl.wB, Cl.Bi.r, Cl.bAbs, Cl.bInt, Cl.bLen_tup, Cl.bLen_rl, Cl.wIsi, Cl.CTy.p, Cl.startP, List.map_cons, List.map_nil, List.getElem?_cons_zero, List.getElem?_cons_succ, List.set_cons_zero, List.set_cons_succ, List.cons_append, List.nil_append, List.length_cons, List.length_nil, Nat.reduceAdd, Nat.reduceSub, Nat.zero_add, List.replicate, List.any_cons, List.any_nil, Cl.isOne, Cl.tru_bl, Cl.tru_int, Cl.tyOf_bl, Cl.tyOf_int, Cl.tyOf_tup, Cl.tyOf_rl, Cl.tyOf_non, Cl.cmp_lt, Cl.cmp_le, Cl.cmp_gt, Cl.cmp_ge, Cl.cmp_is, Cl.cmp_eqI, Cl.cmp_neI, Cl.at_0, Cl.at_1, Cl.at_2, true_and, and_true, Option.map_some, Option.getD_some, Cl.wTupOf, Cl.wLstOf, Cl.sFor, Cl.seqOf_tup, Cl.seqOf_rl, Cl.tsOne, Cl.wSeq, Cl.wSeqL, Cl.wFld, Cl.sFldP, Cl.wSlice, Cl.wPart, Cl.wNoP, Cl.wRev, Cl.Ag.w, Cl.wAll, Cl.wAny, Cl.wMax, Cl.wMin, Cl.wSum, Cl.wMaxC, Cl.wCallK, Cl.gP, Cl.bi_add, Cl.bi_sub, Cl.bi_mul, Cl.bi_div, Cl.bi_mod, Cl.bi_pow, Cl.ix_t0, Cl.ix_t1, Cl.ix_t2, Cl.ni1, Cl.ni2, Cl.ni3, decide_true, eq_self, Cl.b_o, String.reduceBEq, Bool.or_false, Bool.false_or, Bool.true_or, Bool.or_true, Bool.false_and, Bool.true_and, Bool.and_false, Bool.not_true, Bool.not_false, Cl.wSi, Cl.wStar, Cl.wMeth, Cl.iVal_ap, Cl.iEnm_ap, Cl.iZp_ap, Cl.iR1_ap, Cl.iR2_ap, Cl.iR3_ap, Cl.itV_tup, Cl.itV_rl, Cl.itE_tup, Cl.itZ_tup, Cl.itR_int, Cl.itR2_int, Cl.lcQ_iVal, Cl.lcQ_iEnm, Cl.lcQ_iZp, Cl.lcQ_iR1, Cl.lcQ_iR2, Cl.lc_iVal, Cl.lc_iEnm, Cl.lc_iZp, Cl.lc_iR1, Cl.lc_iR2, Cl.dc_iVal, Cl.gN_ap, Cl.gC_ap, Cl.gZ_ap, Cl.gTp2, Cl.gTp3, Cl.gTp4, Cl.gS_ap, Cl.tsYes_ap, $[$as:term],*])
-- M1
/-! ### terms, plans -/
abbrev Ct := W3 × Rat
def termP (t : Ct) : PV := .tup [wordP t.1, num t.2]
def cosOf (t : BE) : List Ct := [(⟨2 * t.p, 2 * t.q, 0⟩, t.c + 7 / 24 * t.s), (⟨2 * t.p, 2 * t.q, 2⟩, -25 / 24 * t.s)]
def cosAll (bk : List BE) : List Ct := bk.flatMap cosOf
def cosT (bk : List BE) : List Ct := (cosAll bk).filter fun t => decide (t.2 ≠ 0)
def armWords : List W3 := [⟨2, 0, 0⟩, ⟨0, 2, 0⟩]
def planWords (bk : List BE) : List W3 := stepsIn (armWords ++ (cosT bk).map (·.1))
def planF (k : Rat) (bk : List BE) : List (Str × PV) := [(Str.ofString "constant", num k), (Str.ofString "terms", .tup ((cosT bk).map termP)), (Str.ofString "words", .tup ((planWords bk).map wordP))]
def IsPlan (A : Addr) (v : PV) (k : Rat) (bk : List BE) (G : Cl.PG) : Prop := ∃ p, v = .ref p ∧ G p = some (.ins A (planF k bk))
/-- a polynomial and a radius, their sizes -/
structure PolIn (A2 : Addr) (v : PV) (r : Rat) (ts : List Tm) (d Dq Mq Dr Mr : Nat) (G : Cl.PG) : Prop where
  v : ∃ dg, IsPoly A2 v dg ts G
  ts : PolOk Dq Mq d ts
  d : d ≤ 6
  br : Bd Dr Mr r
  r0 : 0 < r
  q0 : 0 < Dq
  dr0 : 0 < Dr
  mr0 : 0 < Mr
  hDq : Dq ≤ 2 ^ 100
  hDr : Dr ≤ 2 ^ 40
  hMq : Mq ≤ 2 ^ 300
  hMr : Mr ≤ 2 ^ 40
theorem PolIn.ext {A2 : Addr} {v : PV} {r : Rat} {ts : List Tm} {d Dq Mq Dr Mr : Nat} {G G' : Cl.PG} (h : PolIn A2 v r ts d Dq Mq Dr Mr G) (e : Ext G G') : PolIn A2 v r ts d Dq Mq Dr Mr G' := by
  obtain ⟨⟨dg, h1⟩, h2, h3, h4, h5, h6, h7, h8, h9, h10, h11, h12⟩ := h
  exact ⟨⟨dg, h1.ext e⟩, h2, h3, h4, h5, h6, h7, h8, h9, h10, h11, h12⟩
/-- what is known of the waves -/
structure WavFor (r : Rat) (ts : List Tm) (d Dq Mq Dr Mr : Nat) (k : Rat) (bk : List BE) : Prop where
  ok : WOk (wDen Dq Dr) (wMx Mq Mr) d k bk
  val : ∀ φ, Ch φ → vW φ k bk = lin (fun i j => wX φ r ^ i * wY φ r ^ j) ts
  eq : (k, bk) = wavesIn r ts
theorem PolIn.den {A2 : Addr} {v : PV} {r : Rat} {ts : List Tm} {d Dq Mq Dr Mr : Nat} {G : Cl.PG} (h : PolIn A2 v r ts d Dq Mq Dr Mr G) : 0 < wDen Dq Dr ∧ wDen Dq Dr ≤ 2 ^ 350 ∧ wMx Mq Mr ≤ 2 ^ 920 := by
  refine ⟨Nat.mul_pos h.q0 (Nat.pow_pos (by have := h.dr0; omega)), ?_, ?_⟩
  · exact Nat.le_trans (Nat.mul_le_mul h.hDq (Nat.pow_le_pow_left (Nat.mul_le_mul_left 2 h.hDr) 6)) (by decide)
  · exact Nat.le_trans (Nat.mul_le_mul_left _ (Nat.mul_le_mul h.hMq (Nat.pow_le_pow_left (Nat.mul_le_mul_left _ h.hMr) 6))) (by decide)
theorem c724 : PV.tup [.int 7, .int 24] = num (7 / 24) := by
  have h1 : (7 / 24 : Rat).num = 7 := by decide +kernel
  have h2 : (7 / 24 : Rat).den = 24 := by decide +kernel
  unfold num
  rw [h1, h2]; rfl
theorem c2524 : PV.tup [.int (-25), .int 24] = num (-25 / 24) := by
  have h1 : (-25 / 24 : Rat).num = -25 := by decide +kernel
  have h2 : (-25 / 24 : Rat).den = 24 := by decide +kernel
  unfold num
  rw [h1, h2]; rfl
theorem b724 : Bd 24 1 (7 / 24 : Rat) := ⟨by decide +kernel, by decide +kernel⟩
theorem b2524 : Bd 24 2 (-25 / 24 : Rat) := ⟨by decide +kernel, by decide +kernel⟩
theorem cos_bd {D M d : Nat} {k : Rat} {bk : List BE} (h : WOk D M d k bk) (hD : 0 < D) : ∀ t ∈ cosAll bk, Bd (24 * D) (2 * M) t.2 := fun t ht => by
  obtain ⟨b, hb, hm⟩ := List.mem_flatMap.mp ht
  obtain ⟨k1, k2, _⟩ := h.ok b hb
  unfold cosOf at hm
  simp only [List.mem_cons, List.not_mem_nil, or_false] at hm
  rcases hm with rfl | rfl
  · have := (k1.up (Nat.dvd_mul_left D 24) (Nat.le_refl M)).add (by omega) (b724.mul k2)
    rw [Nat.one_mul, ← Nat.two_mul] at this
    exact this
  · exact b2524.mul k2
theorem cosT_bd {D M d : Nat} {k : Rat} {bk : List BE} (h : WOk D M d k bk) (hD : 0 < D) : ∀ t ∈ cosT bk, Bd (24 * D) (2 * M) t.2 := fun t ht => cos_bd h hD t (List.mem_filter.mp ht).1
theorem cosAll_len (bk : List BE) : (cosAll bk).length = 2 * bk.length := by
  unfold cosAll
  induction bk with
  | nil => rfl
  | cons b bs ih => rw [List.flatMap_cons, List.length_append, ih]; simp [cosOf]; omega
theorem cosT_len (bk : List BE) : (cosT bk).length ≤ 2 * bk.length := by
  rw [← cosAll_len]; exact List.length_filter_le _ _
theorem cosT_word {D M d : Nat} {k : Rat} {bk : List BE} (h : WOk D M d k bk) : ∀ t ∈ cosT bk, (∃ b ∈ bk, BtOk d b ∧ t.1.p = 2 * b.p ∧ t.1.q = 2 * b.q ∧ (t.1.l = 0 ∨ t.1.l = 2)) := fun t ht => by
  obtain ⟨b, hb, hm⟩ := List.mem_flatMap.mp (List.mem_filter.mp ht).1
  obtain ⟨_, _, k3, _⟩ := h.ok b hb
  unfold cosOf at hm
  simp only [List.mem_cons, List.not_mem_nil, or_false] at hm
  rcases hm with rfl | rfl
  · exact ⟨b, hb, k3, rfl, rfl, .inl rfl⟩
  · exact ⟨b, hb, k3, rfl, rfl, .inr rfl⟩
theorem cosT_wd {D M d : Nat} {k : Rat} {bk : List BE} (h : WOk D M d k bk) (hd : d ≤ 6) : ∀ w ∈ armWords ++ (cosT bk).map (·.1), WdOk w := fun w hw => by
  rcases List.mem_append.mp hw with hw | hw
  · simp only [armWords, List.mem_cons, List.not_mem_nil, or_false] at hw
    rcases hw with rfl | rfl
    · exact ⟨by decide, by decide⟩
    · exact ⟨by decide, by decide⟩
  · obtain ⟨t, ht, rfl⟩ := List.mem_map.mp hw
    obtain ⟨b, _, h1, h2, h3, h4⟩ := cosT_word h t ht
    have := h1.sz
    refine ⟨⟨by omega, by omega, by omega⟩, by omega, by omega, by omega⟩
def spCosines (A : Addr) : PSp := fun args G Q => ∃ v k bk D M d, args = [v] ∧ IsWav A v k bk G ∧ WOk D M d k bk ∧ 0 < D ∧ 24 * D ≤ 2 ^ 400 ∧ M ≤ 2 ^ 1000 ∧ d ≤ 6 ∧ ∀ G', Ext G G' → Q (.tup ((cosT bk).map termP)) G'
section
variable {C : Nat → Addr} {Φ : Nat → PSp}
theorem w27 (hn : Has Φ 16 (spNeedPoly (C 2))) (ha : Has Φ 7 spAbove) (hw : Has Φ 26 (spWavesIn (C 0) (C 2))) : Kp C Φ c27 N27 (spWavesIn (C 0) (C 2)) := by
  rintro args G Q ⟨v, r, dg, ts, d, Dq, Mq, Dr, Mr, rfl, hv, hts, hd, br, r0, hrest⟩
  obtain ⟨pp, fs, rfl, hpp, _, _⟩ := poly_terms hv
  refine wSs_0 (l := l27) ?_
  ((try dsimp only); rw [Cl.wSs_at (l := l27) (k := 0) rfl]; k_call_by "EY" [N27, Γ_phi])
  refine hn _ _ _ ⟨pp, fs, _, rfl, hpp, ?_⟩
  dsimp only
  ((try dsimp only); rw [Cl.wSs_at (l := l27) (k := 1) rfl]; k_call_by "EY" [Γ_phi])
  refine ha _ _ _ ⟨_, r, _, rfl, .inl rfl, r0, ?_⟩
  exact hw _ _ _ ⟨_, r, dg, ts, d, Dq, Mq, Dr, Mr, rfl, hv, hts, hd, br, r0, hrest⟩
theorem w28 (hneed : Has Φ 20 (spNeedWav (C 0))) (hadd : Has Φ 10 spAdd) (hmul : Has Φ 13 spMul) : Kp C Φ c28 N28 (spCosines (C 0)) := by
  rintro args G Q ⟨v, k, bk, D, M, d, rfl, hv, hok, hD, hD2, hM, hd, hQ⟩
  have hz := size_big
  have hl := hok.len hd
  refine wSs_0 (l := l28) ?_
  ((try dsimp only); rw [Cl.wSs_at (l := l28) (k := 0) rfl]; k_call_by "EY" [N28, Γ_phi, Γ_dfs, Cl.wCall])
  refine hneed _ _ _ ⟨v, k, bk, _, rfl, hv, ?_⟩
  dsimp only
  ((try dsimp only); rw [Cl.wSs_at (l := l28) (k := 1) rfl]; k_call_by "EY" [])
  refine ⟨by decide, fun p hp => ?_⟩
  have e1 : Ext G (pup G p (.lst [])) := .new hp
  obtain ⟨pw, sz, rfl, hpw⟩ := hv
  have hpp : pw ≠ p := fun z => by subst z; rw [hpw] at hp; cases hp
  ((try dsimp only); rw [Cl.wSs_at (l := l28) (k := 2) rfl]; k_call_by "EY" [Γ_flds, pup_ne hpp, hpw, lk_r])
  refine ⟨by simp, ?_⟩
  have hsml := fun {x : Rat} (h : Bd D M x) => bd_sml h hD (Nat.le_trans (Nat.le_mul_of_pos_left D (by decide : 0 < 24)) hD2) (Nat.le_trans hM (by decide))
  have h24 : 0 < 24 * D := by omega
  refine forL_0 (fun n ρ G' => (∃ x2 x3 x4 x5 x6 x7, ρ = [some (.ref pw), some (.ref p), x2, x3, x4, x5, x6, x7]) ∧ ExtB p G G' ∧ G' p = some (.lst ((cosAll (bk.take n)).map termP))) ⟨⟨_, _, _, _, _, _, rfl⟩, .of e1, pup_same⟩ ?_ ?_
  · rintro n v ρ G1 P' hv ⟨⟨x2, x3, x4, x5, x6, x7, rfl⟩, eG, hf⟩ hn
    refine ⟨watch_nil, ?_⟩
    rw [List.getElem?_map] at hv
    obtain ⟨t, ht, rfl⟩ := Option.map_eq_some_iff.mp hv
    have hnl : n < bk.length := (List.getElem?_eq_some_iff.mp ht).1
    obtain ⟨bc, bs, bz, _⟩ := hok.ok t (List.mem_of_getElem? ht)
    have hlen : ((cosAll (bk.take n)).map termP).length < 1000 := by rw [List.length_map, cosAll_len, List.length_take]; omega
    have hsn : (cosAll (bk.take (n + 1))).map termP = ((cosAll (bk.take n)).map termP ++ [.tup [.tup [.int (2 * t.p), .int (2 * t.q), .int 0], num (t.c + 7 / 24 * t.s)]]) ++ [.tup [.tup [.int (2 * t.p), .int (2 * t.q), .int 2], num (-25 / 24 * t.s)]] := by
      rw [List.take_succ, ht]
      simp [cosAll, cosOf, termP, wordP]
    rw [hsn] at hn
    generalize (cosAll (bk.take n)).map termP = L1 at hf hlen hn
    rw [rowP, Cl.gTp3, Cl.gC_ap, Cl.gTp2, Cl.gC_ap, Cl.gN_ap, Cl.gC_ap, Cl.gN_ap, Cl.gZ_ap, Cl.gC_ap, Cl.gN_ap, Cl.gC_ap, Cl.gN_ap, Cl.gZ_ap]
    dsimp only [List.set]
    have b1 := b724.mul bs
    rw [Nat.one_mul] at b1
    ((try dsimp only); rw [Cl.wSs_cons]; k_call_by "EY" [Γ_phi, Γ_cst, Cl.wApp, hf])
    refine ⟨.inr (.inl ⟨by decide, by decide⟩), .inr (.inl ⟨by decide, by decide⟩), by decide, ?_⟩
    rw [c724]
    refine hmul _ _ _ ⟨7 / 24, t.s, rfl, bd_sml b724 (by decide) (by decide) (by decide), hsml bs, hadd _ _ _ ⟨t.c, _, rfl, hsml bc, bd_sml b1 h24 hD2 (Nat.le_trans hM (by decide)), by decide, ?_⟩⟩
    rw [hf]
    refine ⟨by omega, ?_⟩
    generalize PV.tup [PV.tup [PV.int (2 * t.p), PV.int (2 * t.q), PV.int 0], num (t.c + 7 / 24 * t.s)] = u1 at hn ⊢
    generalize hG2 : pup G1 p (PO.lst (L1 ++ [u1])) = G2
    have hf2 : G2 p = some (PO.lst (L1 ++ [u1])) := by rw [← hG2]; exact pup_same
    have eG2 : ExtB p G1 G2 := by rw [← hG2]; exact .upd
    ((try dsimp only); rw [Cl.wSs_cons]; k_call_by "EY" [Γ_phi, Γ_cst, Cl.wApp, hf2])
    refine ⟨.inr (.inl ⟨by decide, by decide⟩), .inr (.inl ⟨by decide, by decide⟩), by decide, ?_⟩
    rw [c2524]
    refine hmul _ _ _ ⟨-25 / 24, t.s, rfl, bd_sml b2524 (by decide) (by decide) (by decide), hsml bs, by decide, ?_⟩
    rw [hf2]
    refine ⟨by rw [List.length_append]; simp only [List.length_singleton]; omega, ?_⟩
    rw [wSs_nil]
    exact hn _ _ ⟨⟨_, _, _, _, _, _, rfl⟩, (eG.trans eG2).trans .upd, pup_same⟩
  · rintro ρ G1 ⟨⟨x2, x3, x4, x5, x6, x7, rfl⟩, eG, hf⟩
    refine ⟨watch_nil, ?_⟩
    rw [List.length_map, List.take_length] at hf
    dsimp only
    ((try dsimp only); rw [Cl.wSs_at (l := l28) (k := 3) rfl]; k_call_by "EY" [])
    rw [itV_lst hf]
    have eG' : Ext G G1 := fun x o hx => eG _ _ (fun z => by subst z; rw [hp] at hx; cases hx) hx
    refine lcQ_if (os := (cosAll bk).map fun t => if t.2 ≠ 0 then some (termP t) else none) (fun G' e => watch_one (e _ _ hf)) (by rw [List.length_map, cosAll_len]; omega) (by simp) (fun i v o h1 h2 G' e R R0 ht => ?_) fun G2 e2 => ?_
    · rw [List.getElem?_map] at h1 h2
      obtain ⟨t, h3, rfl⟩ := Option.map_eq_some_iff.mp h1
      rw [h3] at h2; cases h2
      k_call_by "EY" [termP]
      rw [cmp_ne0, tru_bl]
      unfold TurnO at ht
      by_cases c1 : t.2 = 0
      · simp only [c1, decide_true, Bool.not_true, ne_eq, not_true_eq_false, if_false] at ht ⊢
        exact ht _ .refl
      · simp only [decide_eq_false c1, Bool.not_false]
        simp only [ne_eq, c1, not_false_eq_true, if_true] at ht
        exact ⟨two_le, ht _ .refl⟩
    · have e3 : ((cosAll bk).map fun t => if t.2 ≠ 0 then some (termP t) else none).filterMap id = (cosT bk).map termP := by
        unfold cosT
        rw [List.filterMap_map, ← List.filterMap_eq_map, List.filterMap_filter]
        congr 1
        funext t
        by_cases c1 : t.2 = 0
        · simp [c1]
        · simp [c1]
      rw [e3]
      exact hQ _ (eG'.trans e2)
end
end K51
set_option Elab.async false
set_option linter.all false
set_option maxRecDepth 100000
set_option maxHeartbeats 2000000
set_option exponentiation.threshold 10000
namespace K51
open PySem PySem.Spec PyProof.Rows L2 Cl
-- M0
local macro_rules | `(tactic| k_call_by "EY" [$as,*]) => `(tactic| simp only [Cl.L, Cl.LG, List.foldr_cons, List.foldr_nil, Cl.wSt, Cl.wE, Cl.wEs, Cl.wTs, Cl.wOp, Cl.wQ, Cl.wS, Cl.wI, Cl.wG, Cl.wGs, Cl.CGs.len, Cl.sRet, Cl.sRetN, Cl.sNext, Cl.sIf, Cl.sAsg, Cl.wipeR, Cl.sDrop, Cl.sPar2, Cl.sBrk, Cl.sCont, Cl.wAnd, Cl.wOr, Cl.wIf, Cl.wNot, Cl.wNeg, Cl.wVar, Cl.wC, Cl.Cn.pv, Cl.w2, Cl.w3, Cl.wTup, Cl.wLst, Cl.wNil, Cl.wCons, Cl.wCall, Cl.wMake, Cl.wB, Cl.Bi.r, Cl.bAbs, Cl.bInt, Cl.bLen_tup, Cl.bLen_rl, Cl.wIsi, Cl.CTy.p, Cl.startP, List.map_cons, List.map_nil, List.getElem?_cons_zero, List.getElem?_cons_succ, List.set_cons_zero, List.set_cons_succ, List.cons_append, List.nil_append, List.length_cons, List.length_nil, Nat.reduceAdd, Nat.reduceSub, Nat.zero_add, List.replicate, List.any_cons, List.any_nil, Cl.isOne, Cl.tru_bl, Cl.tru_int, Cl.tyOf_bl, Cl.tyOf_int, Cl.tyOf_tup, Cl.tyOf_rl, Cl.tyOf_non, Cl.cmp_lt, Cl.cmp_le, Cl.cmp_gt, Cl.cmp_ge, Cl.cmp_is, Cl.cmp_eqI, Cl.cmp_neI, Cl.at_0, Cl.at_1, Cl.at_2, true_and, and_true, Option.map_some, Option.getD_some, Cl.wTupOf, Cl.wLstOf, Cl.sFor, Cl.seqOf_tup, Cl.seqOf_rl, Cl.tsOne, Cl.wSeq, Cl.wSeqL, Cl.wFld, Cl.sFldP, Cl.wSlice, Cl.wPart, Cl.wNoP, Cl.wRev, Cl.Ag.w, Cl.wAll, Cl.wAny, Cl.wMax, Cl.wMin, Cl.wSum, Cl.wMaxC, Cl.wCallK, Cl.gP, Cl.bi_add, Cl.bi_sub, Cl.bi_mul, Cl.bi_div, Cl.bi_mod, Cl.bi_pow, Cl.ix_t0, Cl.ix_t1, Cl.ix_t2, Cl.ni1, Cl.ni2, Cl.ni3, decide_true, eq_self, Cl.b_o, String.reduceBEq, Bool.or_false, Bool.false_or, Bool.true_or, Bool.or_true, Bool.false_and, Bool.true_and, Bool.and_false, Bool.not_true, Bool.not_false, Cl.wSi, Cl.wStar, Cl.wMeth, Cl.iVal_ap, Cl.iEnm_ap, Cl.iZp_ap, Cl.iR1_ap, Cl.iR2_ap, Cl.iR3_ap, Cl.itV_tup, Cl.itV_rl, Cl.itE_tup, Cl.itZ_tup, Cl.itR_int, Cl.itR2_int, Cl.lcQ_iVal, Cl.lcQ_iEnm, Cl.lcQ_iZp, Cl.lcQ_iR1, Cl.lcQ_iR2, Cl.lc_iVal, Cl.lc_iEnm, Cl.lc_iZp, Cl.lc_iR1, Cl.lc_iR2, Cl.dc_iVal, Cl.gN_ap, Cl.gC_ap, Cl.gZ_ap, Cl.gTp2, Cl.gTp3, Cl.gTp4, Cl.gS_ap, Cl.tsYes_ap, $[$as:term],*])
-- M1
def spPlanI (A A1 A2 : Addr) : PSp := fun args G Q => ∃ p v r ts d Dq Mq Dr Mr, args = [.ref p, v, num r] ∧ G p = some (.ins A1 []) ∧ PolIn A2 v r ts d Dq Mq Dr Mr G ∧
  ∀ G' k bk, ExtB p G G' → G' p = some (.ins A1 (planF k bk)) → WavFor r ts d Dq Mq Dr Mr k bk → Q .non G'
def spPlanOf (A1 A2 : Addr) : PSp := fun args G Q => ∃ v u r ts d Dq Mq Dr Mr, args = [v, u] ∧ IsNum u r G ∧ PolIn A2 v r ts d Dq Mq Dr Mr G ∧
  ∀ G' w k bk, Ext G G' → IsPlan A1 w k bk G' → WavFor r ts d Dq Mq Dr Mr k bk → Q w G'
def spTermsFor (A2 : Addr) : PSp := fun args G Q => ∃ v u r ts d Dq Mq Dr Mr, args = [v, u] ∧ IsNum u r G ∧ PolIn A2 v r ts d Dq Mq Dr Mr G ∧
  ∀ G' k bk, Ext G G' → WavFor r ts d Dq Mq Dr Mr k bk → Q (.tup ((cosT bk).map termP)) G'
def rabs (x : Rat) : Rat := if 0 < x then x else -x
def reachT (ts : List Ct) : Rat := ts.foldl (fun a t => a + rabs t.2) 0
def spReach (A1 : Addr) : PSp := fun args G Q => ∃ v k bk D M, args = [v] ∧ IsPlan A1 v k bk G ∧ (∀ t ∈ cosT bk, Bd D M t.2) ∧ (cosT bk).length ≤ 1000 ∧ 0 < D ∧ D ≤ 2 ^ 400 ∧ M ≤ 2 ^ 1300 ∧ Q (num (reachT (cosT bk))) G
def spReachFor (A2 : Addr) : PSp := fun args G Q => ∃ v u r ts d Dq Mq Dr Mr, args = [v, u] ∧ IsNum u r G ∧ PolIn A2 v r ts d Dq Mq Dr Mr G ∧
  ∀ G' k bk, Ext G G' → WavFor r ts d Dq Mq Dr Mr k bk → Q (num (reachT (cosT bk))) G'
theorem rabs_bd {D M : Nat} {x : Rat} (h : Bd D M x) : Bd D M (rabs x) := by unfold rabs; split; exact h; exact h.neg
theorem lk_t {k : Rat} {bk : List BE} : List.lookup (Str.ofString "terms") (planF k bk) = some (.tup ((cosT bk).map termP)) := rfl
theorem lk_m {k : Rat} {bk : List BE} : List.lookup (Str.ofString "reach") (planF k bk) = none := rfl
theorem reach_snoc {ts : List Ct} {n : Nat} {t : Ct} (h : ts[n]? = some t) : reachT (ts.take (n + 1)) = reachT (ts.take n) + rabs t.2 := by
  unfold reachT
  rw [List.take_succ, h, List.foldl_append]; rfl
def spSign : PSp := fun args G Q => ∃ q : Rat, args = [num q] ∧ Q (.int (if 0 < q then 1 else if q < 0 then -1 else 0)) G
theorem num_pos_iff {q : Rat} : (0 : Int) < q.num ↔ 0 < q := by
  constructor
  · intro h
    have h1 : 0 ≤ q := Rat.num_nonneg.mp (by omega)
    rcases Rat.le_iff_lt_or_eq.mp h1 with h2 | h2
    · exact h2
    · rw [← h2] at h; exact absurd h (by decide)
  · exact num_pos'
theorem num_neg_iff {q : Rat} : q.num < 0 ↔ q < 0 := by
  have := num_pos_iff (q := -q)
  rw [Rat.neg_num] at this
  constructor
  · intro h
    have := this.mp (by omega)
    grind
  · intro h
    have := this.mpr (by grind)
    omega
section
variable {C : Nat → Addr} {Φ : Nat → PSp}
theorem w14 (hh : Has Φ 8 spHalves) : Kp C Φ c14 N14 spSign := by
  rintro args G Q ⟨q, rfl, hQ⟩
  refine wSs_0 (l := l14) ?_
  ((try dsimp only); rw [Cl.wSs_at (l := l14) (k := 0) rfl]; k_call_by "EY" [N14, Γ_phi])
  refine hh _ _ _ ⟨q, rfl, ?_⟩
  dsimp only
  rw [ix_t0]
  ((try dsimp only); rw [Cl.wSs_at (l := l14) (k := 1) rfl]; k_call_by "EY" [])
  by_cases h1 : 0 < q
  · have a1 := num_pos_iff.mpr h1
    rw [if_pos h1] at hQ
    have a2 : ¬ q.num < 0 := by omega
    simp only [decide_eq_true a1, decide_eq_false a2]
    exact hQ
  · have a1 : ¬ 0 < q.num := fun z => h1 (num_pos_iff.mp z)
    rw [if_neg h1] at hQ
    by_cases h2 : q < 0
    · have a2 := num_neg_iff.mpr h2
      rw [if_pos h2] at hQ
      simp only [decide_eq_false a1, decide_eq_true a2]
      exact hQ
    · have a2 : ¬ q.num < 0 := fun z => h2 (num_neg_iff.mp z)
      rw [if_neg h2] at hQ
      simp only [decide_eq_false a1, decide_eq_false a2]
      exact hQ
theorem w56 (hwav : Has Φ 27 (spWavesIn (C 0) (C 2))) (hcos : Has Φ 28 (spCosines (C 0))) (hst : Has Φ 33 spStepsIn) : Kp C Φ c56 N56 (spPlanI (C 0) (C 1) (C 2)) := by
  rintro args G Q ⟨p, v, r, ts, d, Dq, Mq, Dr, Mr, rfl, hp, hin, hQ⟩
  have hz := size_big
  have hden := hin.den
  obtain ⟨⟨dg, hv⟩, h2, h3, h4, h5, h6, h7, h8, h9, h10, h11, h12⟩ := hin
  refine wSs_0 (l := l56) ?_
  ((try dsimp only); rw [Cl.wSs_at (l := l56) (k := 0) rfl]; k_call_by "EY" [N56, Γ_phi])
  refine hwav _ _ _ ⟨v, r, dg, ts, d, Dq, Mq, Dr, Mr, rfl, hv, h2, h3, h4, h5, h6, h7, h8, h9, h10, h11, h12, fun G1 w k bk e1 hw ow vw qw => ?_⟩
  dsimp only
  have hl := ow.len h3
  have hp1 := e1 _ _ hp
  obtain ⟨pw, sz, rfl, hpw⟩ := id hw
  have hpwp : p ≠ pw := fun z => by
    subst z; rw [hp1] at hpw
    injection hpw with hpw
    injection hpw with _ hpw
    cases hpw
  ((try dsimp only); rw [Cl.wSs_at (l := l56) (k := 1) rfl]; k_call_by "EY" [Γ_flds, hpw, lk_k, hp1])
  refine ⟨by simp, by simp, by simp, ?_⟩
  generalize hG2 : pup G1 p (PO.ins (C 1) (putP (Str.ofString "constant") (num k) [])) = G2
  have hp2 : G2 p = some (.ins (C 1) [(Str.ofString "constant", num k)]) := by rw [← hG2, pup_same]; rfl
  have e2 : ExtB p G1 G2 := by rw [← hG2]; exact .upd
  have hw2 : IsWav (C 0) (.ref pw) k bk G2 := ⟨pw, sz, rfl, e2 _ _ (Ne.symm hpwp) hpw⟩
  ((try dsimp only); rw [Cl.wSs_at (l := l56) (k := 2) rfl]; k_call_by "EY" [Γ_phi])
  refine hcos _ _ _ ⟨_, k, bk, _, _, d, rfl, hw2, ow, hden.1, Nat.le_trans (Nat.mul_le_mul_left 24 hden.2.1) (by decide), Nat.le_trans hden.2.2 (by decide), h3, fun G3 e3 => ?_⟩
  have hp3 := e3 _ _ hp2
  k_call_by "EY" [Γ_flds, hp3]
  refine ⟨by simp, by simp, ?_⟩
  generalize hG4 : pup G3 p (PO.ins (C 1) (putP (Str.ofString "terms") (PV.tup (List.map termP (cosT bk))) [(Str.ofString "constant", num k)])) = G4
  have hp4 : G4 p = some (.ins (C 1) [(Str.ofString "constant", num k), (Str.ofString "terms", .tup ((cosT bk).map termP))]) := by rw [← hG4, pup_same]; rfl
  have e4 : ExtB p G3 G4 := by rw [← hG4]; exact .upd
  have hct := cosT_len bk
  ((try dsimp only); rw [Cl.wSs_at (l := l56) (k := 3) rfl]; k_call_by "EY" [Γ_phi, Γ_cst, Γ_flds, hp4])
  have lkt : List.lookup (Str.ofString "terms") [(Str.ofString "constant", num k), (Str.ofString "terms", PV.tup (List.map termP (cosT bk)))] = some (.tup ((cosT bk).map termP)) := rfl
  simp only [lkt]
  refine ⟨by simp, ?_⟩
  rw [itV_tup]
  refine lcQ_ext (ys := ((cosT bk).map (·.1)).map wordP) (fun _ _ => watch_nil) (by rw [List.length_map]; omega) (by simp) (fun i v y h1 h2 G' e R hR => ?_) fun G5 e5 => ?_
  · rw [List.map_map, List.getElem?_map] at h2
    rw [List.getElem?_map] at h1
    obtain ⟨t, ht, rfl⟩ := Option.map_eq_some_iff.mp h1
    rw [ht] at h2
    cases h2
    k_call_by "EY" [termP]
    exact hR _ .refl
  refine ⟨by simp; omega, fun q hq => ?_⟩
  have hpq : p ≠ q := fun z => by subst z; rw [e5 _ _ hp4] at hq; cases hq
  refine hst _ _ _ ⟨q, armWords ++ (cosT bk).map (·.1), rfl, by rw [pup_same, List.map_append]; simp only [List.append_nil]; rfl, by simp [armWords]; omega, cosT_wd ow h3, fun G6 e6 => ?_⟩
  have hp6 := e6 _ _ (Ext.new hq _ _ (e5 _ _ hp4))
  k_call_by "EY" [hp6]
  refine ⟨by simp, by simp, ?_⟩
  rw [wSs_end (l := l56) (k := 4) rfl]
  refine hQ _ k bk (fun x o hx ho => ?_) pup_same ⟨ow, vw, qw⟩
  rw [pup_ne hx]
  exact e6 _ _ (Ext.new hq _ _ (e5 _ _ (e4 _ _ hx (e3 _ _ (e2 _ _ hx (e1 _ _ ho))))))
theorem w57 (hadd : Has Φ 10 spAdd) (hneg : Has Φ 11 spNeg) (hsg : Has Φ 14 spSign) : Kp C Φ c57 N57 (spReach (C 1)) := by
  rintro args G Q ⟨v, k, bk, D, M, rfl, ⟨p, rfl, hp⟩, hbd, hl, hD, hD2, hM, hQ⟩
  have hz := size_big
  refine wSs_0 (l := l57) ?_
  ((try dsimp only); rw [Cl.wSs_at (l := l57) (k := 0) rfl]; k_call_by "EY" [N57])
  ((try dsimp only); rw [Cl.wSs_at (l := l57) (k := 1) rfl]; k_call_by "EY" [Γ_flds, hp, lk_t])
  refine ⟨by simp, ?_⟩
  rw [zero_num]
  generalize hts : cosT bk = ts at *
  refine forL_0 (fun n ρ G' => (∃ x2 x3, ρ = [some (.ref p), some (num (reachT (ts.take n))), x2, x3] ∧ Bd D (n * M) (reachT (ts.take n))) ∧ G' = G) ⟨⟨_, _, rfl, Bd.zero' hD⟩, rfl⟩ ?_ ?_
  · rintro n v ρ G1 P' hv ⟨⟨x2, x3, rfl, hb⟩, rfl⟩ hn
    refine ⟨watch_nil, ?_⟩
    rw [List.getElem?_map] at hv
    obtain ⟨t, ht, rfl⟩ := Option.map_eq_some_iff.mp hv
    have hnl : n < ts.length := (List.getElem?_eq_some_iff.mp ht).1
    have bt := hbd t (List.mem_of_getElem? ht)
    have hM1 : n * M ≤ 2 ^ 1400 := Nat.le_trans (Nat.mul_le_mul (show n ≤ 1000 by omega) hM) (by decide)
    have s1 := bd_sml hb hD hD2 hM1
    have s2 := bd_sml (rabs_bd bt) hD hD2 (Nat.le_trans hM (by decide))
    have hstep : Bd D ((n + 1) * M) (reachT (ts.take n) + rabs t.2) := by
      rw [Nat.succ_mul]; exact hb.add hD (rabs_bd bt)
    rw [← reach_snoc ht] at hstep
    k_call_by "EY" [termP]
    ((try dsimp only); rw [Cl.wSs_cons]; k_call_by "EY" [Γ_phi])
    refine hsg _ _ _ ⟨t.2, rfl, ?_⟩
    have fin : wSs (Γ C Φ) (B []) P' [some (.ref p), some (num (reachT (ts.take (n + 1)))), some (wordP t.1), some (num t.2)] G1 := by
      rw [wSs_nil]
      exact hn _ _ ⟨⟨_, _, rfl, hstep⟩, rfl⟩
    by_cases h0 : 0 < t.2
    · have ea : rabs t.2 = t.2 := by unfold rabs; rw [if_pos h0]
      rw [ea] at s2
      simp only [if_pos h0]
      rw [reach_snoc ht, ea] at fin
      k_call_by "EY" []
      exact hadd _ _ _ ⟨_, t.2, rfl, s1, s2, fin⟩
    · have ea : rabs t.2 = -t.2 := by unfold rabs; rw [if_neg h0]
      rw [ea] at s2
      simp only [if_neg h0]
      rw [reach_snoc ht, ea] at fin
      by_cases h1 : t.2 < 0
      · simp only [if_pos h1]
        k_call_by "EY" []
        exact hneg _ _ _ ⟨t.2, rfl, hadd _ _ _ ⟨_, -t.2, rfl, s1, s2, fin⟩⟩
      · simp only [if_neg h1]
        k_call_by "EY" []
        exact hneg _ _ _ ⟨t.2, rfl, hadd _ _ _ ⟨_, -t.2, rfl, s1, s2, fin⟩⟩
  · rintro ρ G1 ⟨⟨x2, x3, rfl, hb⟩, rfl⟩
    refine ⟨watch_nil, ?_⟩
    rw [List.length_map, List.take_length]
    dsimp only
    ((try dsimp only); rw [Cl.wSs_at (l := l57) (k := 2) rfl]; k_call_by "EY" [])
    exact hQ
theorem w34 (hn : Has Φ 16 (spNeedPoly (C 2))) (ha : Has Φ 7 spAbove) (hmk : Has Φ 56 (spPlanI (C 0) (C 1) (C 2))) : Kp C Φ c34 N34 (spPlanOf (C 1) (C 2)) := by
  rintro args G Q ⟨v, u, r, ts, d, Dq, Mq, Dr, Mr, rfl, hu, hin, hQ⟩
  obtain ⟨dg, hv⟩ := hin.v
  obtain ⟨pp, fs, rfl, hpp, _, _⟩ := poly_terms hv
  refine wSs_0 (l := l34) ?_
  ((try dsimp only); rw [Cl.wSs_at (l := l34) (k := 0) rfl]; k_call_by "EY" [N34, Γ_phi])
  refine hn _ _ _ ⟨pp, fs, _, rfl, hpp, ?_⟩
  dsimp only
  ((try dsimp only); rw [Cl.wSs_at (l := l34) (k := 1) rfl]; k_call_by "EY" [Γ_phi, Γ_mks])
  refine ha _ _ _ ⟨_, r, _, rfl, hu, hin.r0, ?_⟩
  dsimp only
  intro p hp
  refine hmk _ _ _ ⟨p, _, r, ts, d, Dq, Mq, Dr, Mr, rfl, pup_same, hin.ext (.new hp), fun G1 k bk e1 h1 hw => ⟨rfl, ?_⟩⟩
  refine hQ _ _ k bk (fun x o hx => ?_) ⟨p, rfl, h1⟩ hw
  have : x ≠ p := fun z => by subst z; rw [hp] at hx; cases hx
  exact e1 _ _ this (by rw [pup_ne this]; exact hx)
theorem w35 (h : Has Φ 34 (spPlanOf (C 1) (C 2))) : Kp C Φ c35 N35 (spTermsFor (C 2)) := by
  rintro args G Q ⟨v, u, r, ts, d, Dq, Mq, Dr, Mr, rfl, hu, hin, hQ⟩
  refine wSs_0 (l := l35) ?_
  ((try dsimp only); rw [Cl.wSs_at (l := l35) (k := 0) rfl]; k_call_by "EY" [N35, Γ_phi, Γ_flds])
  refine h _ _ _ ⟨v, u, r, ts, d, Dq, Mq, Dr, Mr, rfl, hu, hin, fun G1 w k bk e1 hw ow => ?_⟩
  obtain ⟨p, rfl, hp⟩ := hw
  simp only [hp, lk_t]
  exact ⟨by simp, hQ _ k bk e1 ow⟩
theorem w36 (h : Has Φ 34 (spPlanOf (C 1) (C 2))) (hr : Has Φ 57 (spReach (C 1))) : Kp C Φ c36 N36 (spReachFor (C 2)) := by
  rintro args G Q ⟨v, u, r, ts, d, Dq, Mq, Dr, Mr, rfl, hu, hin, hQ⟩
  have hden := hin.den
  refine wSs_0 (l := l36) ?_
  ((try dsimp only); rw [Cl.wSs_at (l := l36) (k := 0) rfl]; k_call_by "EY" [N36, Γ_phi, Γ_mts])
  refine h _ _ _ ⟨v, u, r, ts, d, Dq, Mq, Dr, Mr, rfl, hu, hin, fun G1 w k bk e1 hw ow => ?_⟩
  obtain ⟨p, rfl, hp⟩ := id hw
  simp only [hp, lk_m]
  have hl := cosT_len bk
  have hl2 := ow.ok.len hin.d
  exact ⟨trivial, trivial, hr _ _ _ ⟨_, k, bk, _, _, rfl, hw, cosT_bd ow.ok hden.1, by omega, by omega, Nat.le_trans (Nat.mul_le_mul_left 24 hden.2.1) (by decide), Nat.le_trans (Nat.mul_le_mul_left 2 hden.2.2) (by decide), hQ _ k bk e1 ow⟩⟩
end
end K51
set_option Elab.async false
set_option linter.all false
set_option maxRecDepth 100000
set_option maxHeartbeats 2000000
set_option exponentiation.threshold 10000
namespace K51
open PySem PySem.Spec PyProof.Rows L2 Cl
-- M0
local macro_rules | `(tactic| k_call_by "EY" [$as,*]) => `(tactic| simp only [Cl.L, Cl.LG, List.foldr_cons, List.foldr_nil, Cl.wSt, Cl.wE, Cl.wEs, Cl.wTs, Cl.wOp, Cl.wQ, Cl.wS, Cl.wI, Cl.wG, Cl.wGs, Cl.CGs.len, Cl.sRet, Cl.sRetN, Cl.sNext, Cl.sIf, Cl.sAsg, Cl.wipeR, Cl.sDrop, Cl.sPar2, Cl.sBrk, Cl.sCont, Cl.wAnd, Cl.wOr, Cl.wIf, Cl.wNot, Cl.wNeg, Cl.wVar, Cl.wC, Cl.Cn.pv, Cl.w2, Cl.w3, Cl.wTup, Cl.wLst, Cl.wNil, Cl.wCons, Cl.wCall, Cl.wMake, Cl.wB, Cl.Bi.r, Cl.bAbs, Cl.bInt, Cl.bLen_tup, Cl.bLen_rl, Cl.wIsi, Cl.CTy.p, Cl.startP, List.map_cons, List.map_nil, List.getElem?_cons_zero, List.getElem?_cons_succ, List.set_cons_zero, List.set_cons_succ, List.cons_append, List.nil_append, List.length_cons, List.length_nil, Nat.reduceAdd, Nat.reduceSub, Nat.zero_add, List.replicate, List.any_cons, List.any_nil, Cl.isOne, Cl.tru_bl, Cl.tru_int, Cl.tyOf_bl, Cl.tyOf_int, Cl.tyOf_tup, Cl.tyOf_rl, Cl.tyOf_non, Cl.cmp_lt, Cl.cmp_le, Cl.cmp_gt, Cl.cmp_ge, Cl.cmp_is, Cl.cmp_eqI, Cl.cmp_neI, Cl.at_0, Cl.at_1, Cl.at_2, true_and, and_true, Option.map_some, Option.getD_some, Cl.wTupOf, Cl.wLstOf, Cl.sFor, Cl.seqOf_tup, Cl.seqOf_rl, Cl.tsOne, Cl.wSeq, Cl.wSeqL, Cl.wFld, Cl.sFldP, Cl.wSlice, Cl.wPart, Cl.wNoP, Cl.wRev, Cl.Ag.w, Cl.wAll, Cl.wAny, Cl.wMax, Cl.wMin, Cl.wSum, Cl.wMaxC, Cl.wCallK, Cl.gP, Cl.bi_add, Cl.bi_sub, Cl.bi_mul, Cl.bi_div, Cl.bi_mod, Cl.bi_pow, Cl.ix_t0, Cl.ix_t1, Cl.ix_t2, Cl.ni1, Cl.ni2, Cl.ni3, decide_true, eq_self, Cl.b_o, String.reduceBEq, Bool.or_false, Bool.false_or, Bool.true_or, Bool.or_true, Bool.false_and, Bool.true_and, Bool.and_false, Bool.not_true, Bool.not_false, Cl.wSi, Cl.wStar, Cl.wMeth, Cl.iVal_ap, Cl.iEnm_ap, Cl.iZp_ap, Cl.iR1_ap, Cl.iR2_ap, Cl.iR3_ap, Cl.itV_tup, Cl.itV_rl, Cl.itE_tup, Cl.itZ_tup, Cl.itR_int, Cl.itR2_int, Cl.lcQ_iVal, Cl.lcQ_iEnm, Cl.lcQ_iZp, Cl.lcQ_iR1, Cl.lcQ_iR2, Cl.lc_iVal, Cl.lc_iEnm, Cl.lc_iZp, Cl.lc_iR1, Cl.lc_iR2, Cl.dc_iVal, Cl.gN_ap, Cl.gC_ap, Cl.gZ_ap, Cl.gTp2, Cl.gTp3, Cl.gTp4, Cl.gS_ap, Cl.tsYes_ap, $[$as:term],*])
-- M1
/-! ### drawn terms -/
theorem num_of {q : Rat} {a : Int} {b : Nat} (h1 : q.num = a) (h2 : q.den = b) (hb : b ≠ 1) : PV.tup [.int a, .int b] = num q := by
  unfold num
  rw [h1, h2, if_neg hb]
theorem num_ofI {q : Rat} {a : Int} (h1 : q.num = a) (h2 : q.den = 1) : PV.int a = num q := by
  unfold num
  rw [h1, h2, if_pos rfl]
def coefs : List Rat := [1, -1, 2, 1 / 2, -3 / 2, 5, 2 / 3, -4]
theorem coefs_eq : [PV.int 1, .int (-1), .int 2, .tup [.int 1, .int 2], .tup [.int (-3), .int 2], .int 5, .tup [.int 2, .int 3], .int (-4)] = coefs.map num := by
  unfold coefs
  simp only [List.map_cons, List.map_nil]
  rw [← num_of (q := 1 / 2) (a := 1) (b := 2) (by decide +kernel) (by decide +kernel) (by decide), ← num_of (q := -3 / 2) (a := -3) (b := 2) (by decide +kernel) (by decide +kernel) (by decide), ← num_of (q := 2 / 3) (a := 2) (b := 3) (by decide +kernel) (by decide +kernel) (by decide),
    ← num_ofI (q := 1) (a := 1) (by decide +kernel) (by decide +kernel), ← num_ofI (q := -1) (a := -1) (by decide +kernel) (by decide +kernel), ← num_ofI (q := 2) (a := 2) (by decide +kernel) (by decide +kernel), ← num_ofI (q := 5) (a := 5) (by decide +kernel) (by decide +kernel), ← num_ofI (q := -4) (a := -4) (by decide +kernel) (by decide +kernel)]
  rfl
theorem coefs_ok : ∀ q ∈ coefs, q ≠ 0 ∧ Bd 6 5 q := by
  intro q hq
  simp only [coefs, List.mem_cons, List.not_mem_nil, or_false] at hq
  rcases hq with rfl | rfl | rfl | rfl | rfl | rfl | rfl | rfl <;> exact ⟨by decide +kernel, by decide +kernel, by decide +kernel⟩
structure TsOk (d : Nat) (ts : List Tm) : Prop where
  nd : KeyNd ts
  t : ∀ t ∈ ts, t.i + t.j ≤ d ∧ t.q ≠ 0 ∧ Bd 6 5 t.q
theorem Pump.ne {P a : Addr} {n : Nat} {G : Cl.PG} (h : Pump P n G) (ha : G a = none) : a ≠ P := by
  obtain ⟨cl, cs, k, l, h1, _⟩ := h.ex
  intro z; subst z; rw [h1] at ha; cases ha
def spPolyT : PSp := fun args G Q => ∃ (P : Addr) (n d m : Nat), args = [.ref P, .int d, .int m] ∧ Pump P n G ∧ n ≤ 1000 ∧ d ≤ 6 ∧ m ≤ 8 ∧ ∀ a ts G', TsOk d ts → ts.length ≤ m → G a = none → G' a = some (.lst (ts.map tmP)) → Pump P (n + 24) G' → ExtB P G G' → Q (.ref a) G'
section
variable {C : Nat → Addr} {Φ : Nat → PSp}
theorem w47 (hpick : Has Φ 39 spOne) (hst : Has Φ 38 spStroke) : Kp C Φ c47 N47 spPolyT := by
  rintro args G Q ⟨P, n, d, m, rfl, hP, hn, hd, hm, hQ⟩
  have hz := size_big
  refine wSs_0 (l := l47) ?_
  ((try dsimp only); rw [Cl.wSs_at (l := l47) (k := 0) rfl]; k_call_by "EY" [N47, Γ_phi, Cl.wNewT])
  intro D hD
  have hDP := hP.ne hD
  ((try dsimp only); rw [Cl.wSs_at (l := l47) (k := 1) rfl]; k_call_by "EY" [])
  refine ⟨by omega, by omega, ?_⟩
  refine forL_0 (fun k ρ G' => (∃ x4 x5 x6 x7, ρ = [some (.ref P), some (.int d), some (.int m), some (.ref D), x4, x5, x6, x7]) ∧ ∃ ms, G' D = some (.dT (ms.map ent)) ∧ KeyNd ms ∧ ms.length ≤ k ∧ (∀ t ∈ ms, t.i + t.j ≤ d ∧ t.q ≠ 0 ∧ Bd 6 5 t.q) ∧ Pump P (n + 3 * k) G' ∧ ExtB P G G')
    ⟨⟨_, _, _, _, rfl⟩, [], pup_same, List.Pairwise.nil, by simp, (fun _ h => nomatch h), hP.ext (.new hD), .of (.new hD)⟩ ?_ ?_
  · rintro k v ρ G2 P' hv ⟨⟨x4, x5, x6, x7, rfl⟩, ms, hms, nd, hl, hok, hP2, e2⟩ hn'
    have hk : k < m := by have := (List.getElem?_eq_some_iff.mp hv).1; simpa using this
    refine ⟨watch_nil, ?_⟩
    k_call_by "EY" []
    ((try dsimp only); rw [Cl.wSs_cons]; k_call_by "EY" [Γ_phi])
    refine hst _ _ _ ⟨P, _, _, rfl, hP2, by omega, by omega, by omega, fun i G3 i0 i1 hP3 e3 => ?_⟩
    obtain ⟨i, rfl⟩ : ∃ k : Nat, i = k := ⟨i.toNat, by omega⟩
    ((try dsimp only); rw [Cl.wSs_cons]; k_call_by "EY" [Γ_phi])
    refine hst _ _ _ ⟨P, _, _, rfl, hP3, by omega, by omega, by omega, fun j G4 j0 j1 hP4 e4 => ?_⟩
    obtain ⟨j, rfl⟩ : ∃ k : Nat, j = k := ⟨j.toNat, by omega⟩
    ((try dsimp only); rw [Cl.wSs_cons]; k_call_by "EY" [Γ_phi])
    refine ⟨by decide, by decide, by decide, by decide, fun q hq => ?_⟩
    have hqP := hP4.ne hq
    rw [coefs_eq]
    refine hpick _ _ _ ⟨P, _, q, _, rfl, hP4.ext (.new hq), by omega, hqP, pup_same, by simp [coefs], by simp [coefs], fun v hv G5 hP5 e5 => ?_⟩
    obtain ⟨c, hc, rfl⟩ := List.mem_map.mp hv
    obtain ⟨c0, cb⟩ := coefs_ok c hc
    have hqD : D ≠ q := fun z => by
      subst z
      rw [e4 _ _ hDP (e3 _ _ hDP hms)] at hq; cases hq
    have hms5 : G5 D = some (.dT (ms.map ent)) := e5 _ _ hDP (by rw [pup_ne hqD]; exact e4 _ _ hDP (e3 _ _ hDP hms))
    have hB5 := ((e2.trans e3).trans e4).trans ((ExtB.of (.new hq)).trans e5)
    ((try dsimp only); rw [Cl.wSs_cons]; k_call_by "EY" [])
    refine ⟨two_le, ?_⟩
    refine set_dT hms5 (by omega) ?_
    rw [wSs_nil]
    refine hn' _ _ ⟨⟨_, _, _, _, rfl⟩, _, pup_same, nd.set _ _ _, by have := set_length ms i j c; omega, fun t ht => ?_, ?_, ?_⟩
    · rcases mem_set ht with h | rfl
      · exact hok t h.1
      · exact ⟨by show i + j ≤ d; omega, c0, cb⟩
    · obtain ⟨cl, cs, k', l', g1, g2, g3, g4, g5⟩ := hP5.ex
      have hDc : cl ≠ D := fun z => by rw [z, hms5] at g2; cases g2
      exact ⟨cl, cs, k', l', by rw [pup_ne (Ne.symm hDP)]; exact g1, by rw [pup_ne hDc]; exact g2, g3, by omega, g5⟩
    · intro x o hx ho
      rw [pup_ne]
      · exact hB5 _ _ hx ho
      · intro z; subst z; rw [hD] at ho; cases ho
  · rintro ρ G2 ⟨⟨x4, x5, x6, x7, rfl⟩, ms, hms, nd, hl, hok, hP2, e2⟩
    refine ⟨watch_nil, ?_⟩
    dsimp only
    simp only [List.length_map, List.length_range, Int.toNat_natCast] at hl hP2
    ((try dsimp only); rw [Cl.wSs_at (l := l47) (k := 2) rfl]; k_call_by "EY" [])
    refine lcD_ext (ys := ms.map tmP) rfl hms (by rw [List.length_map]; omega) (by simp [DW.of]) (fun k v y h1 h2 G' e R hR => ?_) fun G3 D' e3 hD' h3 => ?_
    · simp only [DW.of, List.getElem?_map] at h1 h2
      cases ht : ms[k]? with
      | none => rw [ht] at h2; cases h2
      | some t =>
        rw [ht] at h1 h2
        cases h2
        have ev : v = .tup [.int t.i, .int t.j] := by
          have := (Option.some.inj h1).symm
          rw [this]
          show kpv (tkey t.i t.j) = _
          unfold tkey
          rw [kpv, kpvs, kpvs, kpvs, kpv, kpv]
        subst ev
        k_call_by "EY" []
        refine ⟨two_le, ix_F (e _ _ pup_same) (nks_key _ _) (key_depth _ _) (dLook_get nd (List.mem_of_getElem? ht)) ?_⟩
        exact ⟨by decide, hR _ .refl⟩
    · have hDP2 : D' ≠ P := hP2.ne hD'
      refine hQ D' ms G3 ⟨nd, hok⟩ hl ?_ h3 ((hP2.ext e3).up (by omega)) (e2.trans (.of e3))
      cases h : G D' with
      | none => rfl
      | some o =>
        have := e2 _ _ hDP2 h
        rw [hD'] at this; cases this
end
end K51
set_option Elab.async false
set_option linter.all false
set_option maxRecDepth 100000
set_option maxHeartbeats 2000000
set_option exponentiation.threshold 10000
namespace K51
open PySem PySem.Spec PyProof.Rows L2 Cl
-- M0
local macro_rules | `(tactic| k_call_by "EY" [$as,*]) => `(tactic| simp only [Cl.L, Cl.LG, List.foldr_cons, List.foldr_nil, Cl.wSt, Cl.wE, Cl.wEs, Cl.wTs, Cl.wOp, Cl.wQ, Cl.wS, Cl.wI, Cl.wG, Cl.wGs, Cl.CGs.len, Cl.sRet, Cl.sRetN, Cl.sNext, Cl.sIf, Cl.sAsg, Cl.wipeR, Cl.sDrop, Cl.sPar2, Cl.sBrk, Cl.sCont, Cl.wAnd, Cl.wOr, Cl.wIf, Cl.wNot, Cl.wNeg, Cl.wVar, Cl.wC, Cl.Cn.pv, Cl.w2, Cl.w3, Cl.wTup, Cl.wLst, Cl.wNil, Cl.wCons, Cl.wCall, Cl.wMake, Cl.wB, Cl.Bi.r, Cl.bAbs, Cl.bInt, Cl.bLen_tup, Cl.bLen_rl, Cl.wIsi, Cl.CTy.p, Cl.startP, List.map_cons, List.map_nil, List.getElem?_cons_zero, List.getElem?_cons_succ, List.set_cons_zero, List.set_cons_succ, List.cons_append, List.nil_append, List.length_cons, List.length_nil, Nat.reduceAdd, Nat.reduceSub, Nat.zero_add, List.replicate, List.any_cons, List.any_nil, Cl.isOne, Cl.tru_bl, Cl.tru_int, Cl.tyOf_bl, Cl.tyOf_int, Cl.tyOf_tup, Cl.tyOf_rl, Cl.tyOf_non, Cl.cmp_lt, Cl.cmp_le, Cl.cmp_gt, Cl.cmp_ge, Cl.cmp_is, Cl.cmp_eqI, Cl.cmp_neI, Cl.at_0, Cl.at_1, Cl.at_2, true_and, and_true, Option.map_some, Option.getD_some, Cl.wTupOf, Cl.wLstOf, Cl.sFor, Cl.seqOf_tup, Cl.seqOf_rl, Cl.tsOne, Cl.wSeq, Cl.wSeqL, Cl.wFld, Cl.sFldP, Cl.wSlice, Cl.wPart, Cl.wNoP, Cl.wRev, Cl.Ag.w, Cl.wAll, Cl.wAny, Cl.wMax, Cl.wMin, Cl.wSum, Cl.wMaxC, Cl.wCallK, Cl.gP, Cl.bi_add, Cl.bi_sub, Cl.bi_mul, Cl.bi_div, Cl.bi_mod, Cl.bi_pow, Cl.ix_t0, Cl.ix_t1, Cl.ix_t2, Cl.ni1, Cl.ni2, Cl.ni3, decide_true, eq_self, Cl.b_o, String.reduceBEq, Bool.or_false, Bool.false_or, Bool.true_or, Bool.or_true, Bool.false_and, Bool.true_and, Bool.and_false, Bool.not_true, Bool.not_false, Cl.wSi, Cl.wStar, Cl.wMeth, Cl.iVal_ap, Cl.iEnm_ap, Cl.iZp_ap, Cl.iR1_ap, Cl.iR2_ap, Cl.iR3_ap, Cl.itV_tup, Cl.itV_rl, Cl.itE_tup, Cl.itZ_tup, Cl.itR_int, Cl.itR2_int, Cl.lcQ_iVal, Cl.lcQ_iEnm, Cl.lcQ_iZp, Cl.lcQ_iR1, Cl.lcQ_iR2, Cl.lc_iVal, Cl.lc_iEnm, Cl.lc_iZp, Cl.lc_iR1, Cl.lc_iR2, Cl.dc_iVal, Cl.gN_ap, Cl.gC_ap, Cl.gZ_ap, Cl.gTp2, Cl.gTp3, Cl.gTp4, Cl.gS_ap, Cl.tsYes_ap, $[$as:term],*])
-- M1
def pxy (x y : Rat) (i j : Nat) : Rat := x ^ i * y ^ j
def spValueP : PSp := fun args G Q => ∃ v x y ts d Dq Mq Dp Mp, args = [v, .tup [num x, num y]] ∧ IsTms v ts G ∧ ts.length ≤ 30 ∧ (∀ t ∈ ts, t.i + t.j ≤ d ∧ Bd Dq Mq t.q) ∧ d ≤ 6 ∧ Bd Dp Mp x ∧ Bd Dp Mp y ∧ 0 < Dq ∧ 0 < Dp ∧ 0 < Mp ∧ 0 < Mq ∧ Dq * Dp ^ 6 ≤ 2 ^ 400 ∧ Mq * Mp ^ 6 ≤ 2 ^ 1300 ∧ Q (num (lin (pxy x y) ts)) G
theorem pow_bd {D M : Nat} {x : Rat} (h : Bd D M x) : ∀ n, Bd (D ^ n) (M ^ n) (x ^ n)
  | 0 => by rw [Rat.pow_zero]; exact ⟨by simp, by simp⟩
  | n + 1 => by rw [Rat.pow_succ, Nat.pow_succ, Nat.pow_succ]; exact (pow_bd h n).mul h
theorem pq_bd {Dq Mq Dp Mp : Nat} {c x y : Rat} (hc : Bd Dq Mq c) (hx : Bd Dp Mp x) (hy : Bd Dp Mp y) (i j : Nat) : Bd (Dq * Dp ^ (i + j)) (Mq * Mp ^ (i + j)) (c * x ^ i * y ^ j) := by
  have := (hc.mul (pow_bd hx i)).mul (pow_bd hy j)
  rw [Nat.mul_assoc, ← Nat.pow_add, Nat.mul_assoc, ← Nat.pow_add] at this
  exact this
section
variable {C : Nat → Addr} {Φ : Nat → PSp}
theorem w48 (hadd : Has Φ 42 spAdd) (hmul : Has Φ 43 spMul) : Kp C Φ c48 N48 spValueP := by
  rintro args G Q ⟨v, x, y, ts, d, Dq, Mq, Dp, Mp, rfl, ⟨a, rfl, ha⟩, hl, hts, hd, bx, by_, q0, p0, m0, mq0, hD, hM, hQ⟩
  have hz := size_big
  have hDn : ∀ n, n ≤ 6 → Dq * Dp ^ n ≤ 2 ^ 400 := fun n hn => Nat.le_trans (Nat.mul_le_mul_left _ (Nat.pow_le_pow_right p0 hn)) hD
  have hMn : ∀ n, n ≤ 6 → Mq * Mp ^ n ≤ 2 ^ 1300 := fun n hn => Nat.le_trans (Nat.mul_le_mul_left _ (Nat.pow_le_pow_right m0 hn)) hM
  have pos : ∀ n, 0 < Dq * Dp ^ n := fun n => Nat.mul_pos q0 (Nat.pow_pos p0)
  have up : ∀ {m : Nat}, m ≤ 2 ^ 1300 → m ≤ 2 ^ 1400 := fun h => Nat.le_trans h (by decide)
  have sm : ∀ {q : Rat} (i j : Nat), Bd (Dq * Dp ^ (i + j)) (Mq * Mp ^ (i + j)) q → i + j ≤ 6 → Sml q := fun i j h hn => bd_sml h (pos _) (hDn _ hn) (up (hMn _ hn))
  have dq1 : 1 * Dp ≤ 2 ^ 400 := Nat.le_trans (Nat.mul_le_mul_right _ q0) (by have := hDn 1 (by decide); rwa [Nat.pow_one] at this)
  rw [Nat.one_mul] at dq1
  have mp1 : Mp ≤ 2 ^ 1300 := by
    have := hMn 1 (by decide)
    rw [Nat.pow_one] at this
    exact Nat.le_trans (Nat.le_mul_of_pos_left _ (by omega)) this
  have sx := bd_sml bx p0 dq1 (up mp1)
  have sy := bd_sml by_ p0 dq1 (up mp1)
  refine wSs_0 (l := l48) ?_
  ((try dsimp only); rw [Cl.wSs_at (l := l48) (k := 0) rfl]; k_call_by "EY" [N48])
  ((try dsimp only); rw [Cl.wSs_at (l := l48) (k := 1) rfl]; k_call_by "EY" [])
  rw [itV_lst ha, zero_num]
  refine forL_0 (fun n ρ G' => (∃ x3 x4 x5 x6, ρ = [some (.ref a), some (.tup [num x, num y]), some (num (lin (pxy x y) (ts.take n))), x3, x4, x5, x6]) ∧ Bd (Dq * Dp ^ 6) (n * (Mq * Mp ^ 6)) (lin (pxy x y) (ts.take n)) ∧ G' = G) ⟨⟨_, _, _, _, rfl⟩, Bd.zero' (pos 6), rfl⟩ ?_ ?_
  · rintro n v ρ G1 P' hv ⟨⟨x3, x4, x5, x6, rfl⟩, hb, rfl⟩ hn
    refine ⟨watch_one ha, ?_⟩
    rw [List.getElem?_map] at hv
    obtain ⟨t, ht, rfl⟩ := Option.map_eq_some_iff.mp hv
    have hnl : n < ts.length := (List.getElem?_eq_some_iff.mp ht).1
    obtain ⟨tij, bt⟩ := hts t (List.mem_of_getElem? ht)
    rw [tmP, Cl.gTp3, Cl.gC_ap, Cl.gN_ap, Cl.gC_ap, Cl.gN_ap, Cl.gC_ap, Cl.gN_ap, Cl.gZ_ap]
    dsimp only [List.set]
    ((try dsimp only); rw [Cl.wSs_cons]; k_call_by "EY" [Γ_phi])
    refine ⟨by omega, by omega, ?_⟩
    refine forL_0 (fun m ρ G' => (∃ x6, ρ = [some (.ref a), some (.tup [num x, num y]), some (num (lin (pxy x y) (ts.take n))), some (.int t.i), some (.int t.j), some (num (t.q * x ^ m * y ^ 0)), x6]) ∧ G' = G1) ⟨⟨_, by rw [Rat.pow_zero, Rat.pow_zero, Rat.mul_one, Rat.mul_one]⟩, rfl⟩ ?_ ?_
    · rintro m v ρ G2 P2 hv ⟨⟨x6, rfl⟩, rfl⟩ hn2
      have hm : m < t.i := by have := (List.getElem?_eq_some_iff.mp hv).1; simpa using this
      refine ⟨watch_nil, ?_⟩
      k_call_by "EY" []
      ((try dsimp only); rw [Cl.wSs_cons]; k_call_by "EY" [Γ_phi])
      have b := pq_bd bt bx by_ m 0
      refine hmul _ _ _ ⟨_, x, rfl, sm m 0 b (by omega), sx, ?_⟩
      ((try dsimp only); rw [Cl.wSs_nil]; try dsimp only)
      have e : t.q * x ^ m * y ^ 0 * x = t.q * x ^ (m + 1) * y ^ 0 := by rw [Rat.pow_succ]; grind
      rw [e]
      exact hn2 _ _ ⟨⟨_, rfl⟩, rfl⟩
    rintro ρ G2 ⟨⟨x6, rfl⟩, rfl⟩
    refine ⟨watch_nil, ?_⟩
    have el : ((List.range (t.i : Int).toNat).map fun (i : Nat) => PV.int i).length = t.i := by simp
    rw [el]
    dsimp only
    ((try dsimp only); rw [Cl.wSs_cons]; k_call_by "EY" [Γ_phi])
    refine ⟨by omega, by omega, ?_⟩
    refine forL_0 (fun m ρ G' => (∃ x6, ρ = [some (.ref a), some (.tup [num x, num y]), some (num (lin (pxy x y) (ts.take n))), some (.int t.i), some (.int t.j), some (num (t.q * x ^ t.i * y ^ m)), x6]) ∧ G' = G2) ⟨⟨_, rfl⟩, rfl⟩ ?_ ?_
    · rintro m v ρ G3 P2 hv ⟨⟨x6, rfl⟩, rfl⟩ hn2
      have hm : m < t.j := by have := (List.getElem?_eq_some_iff.mp hv).1; simpa using this
      refine ⟨watch_nil, ?_⟩
      k_call_by "EY" []
      ((try dsimp only); rw [Cl.wSs_cons]; k_call_by "EY" [Γ_phi])
      have b := pq_bd bt bx by_ t.i m
      refine hmul _ _ _ ⟨_, y, rfl, sm _ _ b (by omega), sy, ?_⟩
      ((try dsimp only); rw [Cl.wSs_nil]; try dsimp only)
      have e : t.q * x ^ t.i * y ^ m * y = t.q * x ^ t.i * y ^ (m + 1) := by rw [Rat.pow_succ]; grind
      rw [e]
      exact hn2 _ _ ⟨⟨_, rfl⟩, rfl⟩
    rintro ρ G3 ⟨⟨x6, rfl⟩, rfl⟩
    refine ⟨watch_nil, ?_⟩
    have el : ((List.range (t.j : Int).toNat).map fun (i : Nat) => PV.int i).length = t.j := by simp
    rw [el]
    dsimp only
    ((try dsimp only); rw [Cl.wSs_cons]; k_call_by "EY" [Γ_phi])
    have b := pq_bd bt bx by_ t.i t.j
    have hM2 : n * (Mq * Mp ^ 6) ≤ 2 ^ 1400 := Nat.le_trans (Nat.mul_le_mul (show n ≤ 30 by omega) hM) (by decide)
    refine hadd _ _ _ ⟨_, _, rfl, bd_sml hb (pos 6) hD hM2, sm _ _ b (by omega), ?_⟩
    have e : lin (pxy x y) (ts.take n) + t.q * x ^ t.i * y ^ t.j = lin (pxy x y) (ts.take (n + 1)) := by
      rw [lin_snoc _ ht]; unfold pxy; grind
    have b6 : Bd (Dq * Dp ^ 6) (Mq * Mp ^ 6) (t.q * x ^ t.i * y ^ t.j) := b.up (Nat.mul_dvd_mul_left _ (Nat.pow_dvd_pow _ (by omega))) (Nat.mul_le_mul_left _ (Nat.pow_le_pow_right m0 (by omega)))
    have b7 := hb.add (pos 6) b6
    rw [← Nat.succ_mul, e] at b7
    rw [e]
    ((try dsimp only); rw [Cl.wSs_nil]; try dsimp only)
    exact hn _ _ ⟨⟨_, _, _, _, rfl⟩, b7, rfl⟩
  · rintro ρ G1 ⟨⟨x3, x4, x5, x6, rfl⟩, hb, rfl⟩
    refine ⟨watch_one ha, ?_⟩
    rw [List.length_map, List.take_length]
    dsimp only
    ((try dsimp only); rw [Cl.wSs_at (l := l48) (k := 2) rfl]; k_call_by "EY" [])
    exact hQ
end
end K51
set_option Elab.async false
set_option linter.all false
set_option maxRecDepth 100000
set_option maxHeartbeats 2000000
set_option exponentiation.threshold 10000
namespace K51
open PySem PySem.Spec PyProof.Rows L2 Cl
-- M0
local macro_rules | `(tactic| k_call_by "EY" [$as,*]) => `(tactic| simp only [Cl.L, Cl.LG, List.foldr_cons, List.foldr_nil, Cl.wSt, Cl.wE, Cl.wEs, Cl.wTs, Cl.wOp, Cl.wQ, Cl.wS, Cl.wI, Cl.wG, Cl.wGs, Cl.CGs.len, Cl.sRet, Cl.sRetN, Cl.sNext, Cl.sIf, Cl.sAsg, Cl.wipeR, Cl.sDrop, Cl.sPar2, Cl.sBrk, Cl.sCont, Cl.wAnd, Cl.wOr, Cl.wIf, Cl.wNot, Cl.wNeg, Cl.wVar, Cl.wC, Cl.Cn.pv, Cl.w2, Cl.w3, Cl.wTup, Cl.wLst, Cl.wNil, Cl.wCons, Cl.wCall, Cl.wMake, Cl.wB, Cl.Bi.r, Cl.bAbs, Cl.bInt, Cl.bLen_tup, Cl.bLen_rl, Cl.wIsi, Cl.CTy.p, Cl.startP, List.map_cons, List.map_nil, List.getElem?_cons_zero, List.getElem?_cons_succ, List.set_cons_zero, List.set_cons_succ, List.cons_append, List.nil_append, List.length_cons, List.length_nil, Nat.reduceAdd, Nat.reduceSub, Nat.zero_add, List.replicate, List.any_cons, List.any_nil, Cl.isOne, Cl.tru_bl, Cl.tru_int, Cl.tyOf_bl, Cl.tyOf_int, Cl.tyOf_tup, Cl.tyOf_rl, Cl.tyOf_non, Cl.cmp_lt, Cl.cmp_le, Cl.cmp_gt, Cl.cmp_ge, Cl.cmp_is, Cl.cmp_eqI, Cl.cmp_neI, Cl.at_0, Cl.at_1, Cl.at_2, true_and, and_true, Option.map_some, Option.getD_some, Cl.wTupOf, Cl.wLstOf, Cl.sFor, Cl.seqOf_tup, Cl.seqOf_rl, Cl.tsOne, Cl.wSeq, Cl.wSeqL, Cl.wFld, Cl.sFldP, Cl.wSlice, Cl.wPart, Cl.wNoP, Cl.wRev, Cl.Ag.w, Cl.wAll, Cl.wAny, Cl.wMax, Cl.wMin, Cl.wSum, Cl.wMaxC, Cl.wCallK, Cl.gP, Cl.bi_add, Cl.bi_sub, Cl.bi_mul, Cl.bi_div, Cl.bi_mod, Cl.bi_pow, Cl.ix_t0, Cl.ix_t1, Cl.ix_t2, Cl.ni1, Cl.ni2, Cl.ni3, decide_true, eq_self, Cl.b_o, String.reduceBEq, Bool.or_false, Bool.false_or, Bool.true_or, Bool.or_true, Bool.false_and, Bool.true_and, Bool.and_false, Bool.not_true, Bool.not_false, Cl.wSi, Cl.wStar, Cl.wMeth, Cl.iVal_ap, Cl.iEnm_ap, Cl.iZp_ap, Cl.iR1_ap, Cl.iR2_ap, Cl.iR3_ap, Cl.itV_tup, Cl.itV_rl, Cl.itE_tup, Cl.itZ_tup, Cl.itR_int, Cl.itR2_int, Cl.lcQ_iVal, Cl.lcQ_iEnm, Cl.lcQ_iZp, Cl.lcQ_iR1, Cl.lcQ_iR2, Cl.lc_iVal, Cl.lc_iEnm, Cl.lc_iZp, Cl.lc_iR1, Cl.lc_iR2, Cl.dc_iVal, Cl.gN_ap, Cl.gC_ap, Cl.gZ_ap, Cl.gTp2, Cl.gTp3, Cl.gTp4, Cl.gS_ap, Cl.tsYes_ap, $[$as:term],*])
-- M1
def spTurnT : PSp := fun args G Q => ∃ P n, args = [.ref P] ∧ Pump P n G ∧ n ≤ 10000 ∧ ∀ (x : Tn) (D : Nat) G', Unit1 x → TB D 1 x → 0 < D → D ≤ 25 → Pump P (n + 2) G' → ExtB P G G' → Q (pvT x) G'
theorem pq_cases : ∀ (r : Fin 9) (s : Fin 4), ((r.val : Int) - 4 = 0 ∧ (s.val : Int) = 0) ∨ ∃ w : Nat, w ∈ List.range 26 ∧ 0 < w ∧ (w : Int) = ((r.val : Int) - 4) * ((r.val : Int) - 4) + s.val * s.val ∧ ((s.val : Int) * s.val - ((r.val : Int) - 4) * ((r.val : Int) - 4)).natAbs ≤ w ∧ (2 * ((r.val : Int) - 4) * s.val).natAbs ≤ w := by decide +kernel
theorem unit_of {p q : Int} {w : Nat} (hw : 0 < w) (e : (w : Int) = p * p + q * q) : Unit1 (mkRat (q * q - p * p) w, mkRat (2 * p * q) w) := by
  have hw0 : (w : Rat) ≠ 0 := by
    intro z
    have : (w : Int) = 0 := by exact_mod_cast z
    omega
  have e' : (w : Rat) = (p : Rat) * p + (q : Rat) * q := by
    have : ((w : Int) : Rat) = ((p * p + q * q : Int) : Rat) := by rw [e]
    rw [Rat.intCast_add, Rat.intCast_mul, Rat.intCast_mul] at this
    exact this
  have a1 : mkRat (q * q - p * p) w * w = (q : Rat) * q - p * p := by
    rw [Rat.mkRat_eq_div, Rat.intCast_sub, Rat.intCast_mul, Rat.intCast_mul]
    exact Rat.div_mul_cancel hw0
  have a2 : mkRat (2 * p * q) w * w = 2 * (p : Rat) * q := by
    rw [Rat.mkRat_eq_div, Rat.intCast_mul, Rat.intCast_mul]
    exact Rat.div_mul_cancel hw0
  unfold Unit1
  generalize mkRat (q * q - p * p) w = A at *
  generalize mkRat (2 * p * q) w = B at *
  dsimp only
  have : (A * A + B * B) * (w * w) = (w : Rat) * w := by grind
  have hww : (w : Rat) * w ≠ 0 := by
    intro z
    rcases Rat.mul_eq_zero.mp z with z | z <;> exact hw0 z
  have h3 : (A * A + B * B - 1) * ((w : Rat) * w) = 0 := by grind
  rcases Rat.mul_eq_zero.mp h3 with z | z
  · grind
  · exact absurd z hww
def lam : Tn := (4 / 5, 3 / 5)
theorem lam_pv : PV.tup [.tup [.int 4, .int 5], .tup [.int 3, .int 5]] = pvT lam := by
  unfold pvT lam
  rw [← num_of (q := 4 / 5) (a := 4) (b := 5) (by decide +kernel) (by decide +kernel) (by decide), ← num_of (q := 3 / 5) (a := 3) (b := 5) (by decide +kernel) (by decide +kernel) (by decide)]
  rfl
theorem lam_unit : Unit1 lam := by unfold Unit1 lam; decide +kernel
theorem lam_tb : TB 5 1 lam := ⟨⟨by decide +kernel, by decide +kernel⟩, ⟨by decide +kernel, by decide +kernel⟩⟩
theorem tz_tb {D : Nat} {x : Tn} (hD : 0 < D) (h : TB D 1 x) (m : Int) : TB (D ^ m.natAbs) (2 ^ m.natAbs) (tz x m) := by
  unfold tz
  split
  · exact tpow_tb hD h _
  · exact tpow_tb hD h.conj _
def spCosT : PSp := fun args G Q => ∃ (w : W3) (a b : Tn) (D : Nat), args = [wordP w, pvT a, pvT b] ∧ TB D 1 a ∧ TB D 1 b ∧ 0 < D ∧ D ≤ 2 ^ 20 ∧ w.p.natAbs + w.q.natAbs ≤ 12 ∧ w.l.natAbs ≤ 2 ∧ Q (num (tmul (chOf a b w.p w.q) (tz lam w.l)).1) G
section
variable {C : Nat → Addr} {Φ : Nat → PSp}
theorem w49 (hst : Has Φ 38 spStroke) (hlow : Has Φ 41 spLowest) : Kp C Φ c49 N49 spTurnT := by
  rintro args G Q ⟨P, n, rfl, hP, hn, hQ⟩
  refine wSs_0 (l := l49) ?_
  ((try dsimp only); rw [Cl.wSs_at (l := l49) (k := 0) rfl]; k_call_by "EY" [N49, Γ_phi])
  refine hst _ _ _ ⟨P, _, _, rfl, hP, by omega, by omega, by omega, fun r G1 r0 r1 hP1 e1 => ?_⟩
  refine hst _ _ _ ⟨P, _, _, rfl, hP1, by omega, by omega, by omega, fun s G2 s0 s1 hP2 e2 => ?_⟩
  obtain ⟨r, rfl⟩ : ∃ k : Nat, r = k := ⟨r.toNat, by omega⟩
  obtain ⟨s, rfl⟩ : ∃ k : Nat, s = k := ⟨s.toNat, by omega⟩
  have hc := pq_cases ⟨r, by omega⟩ ⟨s, by omega⟩
  dsimp only at hc
  generalize hp : (r : Int) - 4 = p at *
  generalize hq : (s : Int) = q at *
  have pb : p.natAbs ≤ 4 := by omega
  have qb : q.natAbs ≤ 4 := by omega
  rcases hc with ⟨rfl, rfl⟩ | ⟨w, _, w0, we, wa, wb⟩
  · ((try dsimp only); rw [Cl.wSs_at (l := l49) (k := 1) rfl]; k_call_by "EY" [])
    ((try dsimp only); rw [Cl.wSs_cons]; k_call_by "EY" [])
    refine ⟨two_le, ?_⟩
    have := hQ (-1, 0) 1 G2 (by unfold Unit1; decide +kernel) ⟨⟨by decide +kernel, by decide +kernel⟩, ⟨by decide +kernel, by decide +kernel⟩⟩ (by decide) (by decide) hP2 (e1.trans e2)
    unfold pvT at this
    rw [← m1_num, ← zero_num] at this
    exact this
  · have hne : ¬ (p = 0 ∧ q = 0) := by
      rintro ⟨rfl, rfl⟩; omega
    have hw25 : w ≤ 25 := by
      have := ‹w ∈ List.range 26›
      rw [List.mem_range] at this; omega
    have small : ∀ {i j : Int}, i.natAbs ≤ 1000 → j.natAbs ≤ 1000 → CMulW i j ∨ CMul i j := fun h1 h2 => .inr (.inr ⟨by omega, by omega⟩)
    have next : wSs (Γ C Φ) (B (l49.drop 2)) { nx := fun _ G' => Q .non G', rt := Q } [some (.ref P), some (.int p), some (.int q), none] G2 := by
      ((try dsimp only); rw [Cl.wSs_at (l := l49) (k := 2) rfl]; k_call_by "EY" [])
      refine ⟨small (by omega) (by omega), small (by omega) (by omega), ?_⟩
      rw [← we]
      ((try dsimp only); rw [Cl.wSs_at (l := l49) (k := 3) rfl]; k_call_by "EY" [Γ_phi])
      refine ⟨small (by omega) (by omega), small (by omega) (by omega), hlow _ _ _ ⟨_, w, rfl, w0, Nat.lt_of_le_of_lt hw25 (by decide), small (by omega) (by omega), small (by omega) (by omega), hlow _ _ _ ⟨_, w, rfl, w0, Nat.lt_of_le_of_lt hw25 (by decide), two_le, ?_⟩⟩⟩
      refine hQ (_, _) w G2 (unit_of w0 we) ⟨.mk_ (by omega) (Nat.dvd_refl _) (by omega), .mk_ (by omega) (Nat.dvd_refl _) (by omega)⟩ w0 hw25 hP2 (e1.trans e2)
    ((try dsimp only); rw [Cl.wSs_at (l := l49) (k := 1) rfl]; k_call_by "EY" [])
    by_cases h1 : p = 0
    · have h2 : ¬ q = 0 := fun z => hne ⟨h1, z⟩
      simp only [decide_eq_true h1, decide_eq_false h2]
      ((try dsimp only); rw [Cl.wSs_nil]; try dsimp only)
      exact next
    · simp only [decide_eq_false h1]
      ((try dsimp only); rw [Cl.wSs_nil]; try dsimp only)
      exact next
theorem w51 (hadd : Has Φ 45 spAddT) (hmul : Has Φ 46 spTimesT) : Kp C Φ c51 N51 spCosT := by
  rintro args G Q ⟨w, a, b, D, rfl, ha, hb, hD, hD2, hpq, hl, hQ⟩
  have dle : D ≤ 2 ^ 30 := Nat.le_trans hD2 (by decide)
  refine wSs_0 (l := l51) ?_
  ((try dsimp only); rw [Cl.wSs_at (l := l51) (k := 0) rfl]; k_call_by "EY" [N51, Γ_phi, wordP])
  refine hmul _ _ _ ⟨a, w.p, D, rfl, ha, hD, dle, by omega, hmul _ _ _ ⟨b, w.q, D, rfl, hb, hD, dle, by omega, ?_⟩⟩
  have t1 := tz_tb hD ha w.p
  have t2 := tz_tb hD hb w.q
  have pw : ∀ k, 0 < D ^ k := fun k => Nat.pow_pos hD
  have hDD : D ^ w.p.natAbs * D ^ w.q.natAbs ≤ 2 ^ 300 := by
    rw [← Nat.pow_add]
    exact Nat.le_trans (Nat.pow_le_pow_left hD2 _) (Nat.le_trans (Nat.pow_le_pow_right (by decide) hpq) (by decide))
  have m1 : 2 ^ w.p.natAbs ≤ 2 ^ 12 := Nat.pow_le_pow_right (by decide) (by omega)
  have m2 : 2 ^ w.q.natAbs ≤ 2 ^ 12 := Nat.pow_le_pow_right (by decide) (by omega)
  obtain ⟨b1, b2, b3, b4, b5, b6, b7, b8⟩ := t1.add_ok (pw _) (pw _) t2 (Nat.le_trans hDD (by decide)) (Nat.le_trans m1 (by decide)) (Nat.le_trans m2 (by decide))
  refine hadd _ _ _ ⟨_, _, rfl, b1, b2, b3, b4, b5, b6, b7, b8, ?_⟩
  ((try dsimp only); rw [Cl.wSs_at (l := l51) (k := 1) rfl]; k_call_by "EY" [Γ_phi, wordP])
  refine ⟨two_le, two_le, two_le, ?_⟩
  rw [lam_pv]
  refine hmul _ _ _ ⟨lam, w.l, 5, rfl, lam_tb, by decide, by decide, by omega, ?_⟩
  have t3 := t1.mul (pw _) (pw _) t2
  have t4 := tz_tb (by decide) lam_tb w.l
  have m4 : 5 ^ w.l.natAbs ≤ 5 ^ 2 := Nat.pow_le_pow_right (by decide) hl
  have m5 : 2 ^ w.l.natAbs ≤ 2 ^ 2 := Nat.pow_le_pow_right (by decide) hl
  obtain ⟨c1, c2, c3, c4, c5, c6, c7, c8⟩ := t3.add_ok (Nat.mul_pos (pw _) (pw _)) (Nat.pow_pos (by decide)) t4 (Nat.le_trans (Nat.mul_le_mul hDD m4) (by decide)) (Nat.le_trans (Nat.mul_le_mul_left 2 (Nat.mul_le_mul m1 m2)) (by decide)) (Nat.le_trans m5 (by decide))
  refine hadd _ _ _ ⟨_, _, rfl, c1, c2, c3, c4, c5, c6, c7, c8, ?_⟩
  dsimp only
  rw [ix_t0]
  exact hQ
end
end K51
set_option Elab.async false
set_option linter.all false
set_option maxRecDepth 100000
set_option maxHeartbeats 2000000
set_option exponentiation.threshold 10000
namespace K51
open PySem PySem.Spec PyProof.Rows L2 Cl
-- M0
local macro_rules | `(tactic| k_call_by "EY" [$as,*]) => `(tactic| simp only [Cl.L, Cl.LG, List.foldr_cons, List.foldr_nil, Cl.wSt, Cl.wE, Cl.wEs, Cl.wTs, Cl.wOp, Cl.wQ, Cl.wS, Cl.wI, Cl.wG, Cl.wGs, Cl.CGs.len, Cl.sRet, Cl.sRetN, Cl.sNext, Cl.sIf, Cl.sAsg, Cl.wipeR, Cl.sDrop, Cl.sPar2, Cl.sBrk, Cl.sCont, Cl.wAnd, Cl.wOr, Cl.wIf, Cl.wNot, Cl.wNeg, Cl.wVar, Cl.wC, Cl.Cn.pv, Cl.w2, Cl.w3, Cl.wTup, Cl.wLst, Cl.wNil, Cl.wCons, Cl.wCall, Cl.wMake, Cl.wB, Cl.Bi.r, Cl.bAbs, Cl.bInt, Cl.bLen_tup, Cl.bLen_rl, Cl.wIsi, Cl.CTy.p, Cl.startP, List.map_cons, List.map_nil, List.getElem?_cons_zero, List.getElem?_cons_succ, List.set_cons_zero, List.set_cons_succ, List.cons_append, List.nil_append, List.length_cons, List.length_nil, Nat.reduceAdd, Nat.reduceSub, Nat.zero_add, List.replicate, List.any_cons, List.any_nil, Cl.isOne, Cl.tru_bl, Cl.tru_int, Cl.tyOf_bl, Cl.tyOf_int, Cl.tyOf_tup, Cl.tyOf_rl, Cl.tyOf_non, Cl.cmp_lt, Cl.cmp_le, Cl.cmp_gt, Cl.cmp_ge, Cl.cmp_is, Cl.cmp_eqI, Cl.cmp_neI, Cl.at_0, Cl.at_1, Cl.at_2, true_and, and_true, Option.map_some, Option.getD_some, Cl.wTupOf, Cl.wLstOf, Cl.sFor, Cl.seqOf_tup, Cl.seqOf_rl, Cl.tsOne, Cl.wSeq, Cl.wSeqL, Cl.wFld, Cl.sFldP, Cl.wSlice, Cl.wPart, Cl.wNoP, Cl.wRev, Cl.Ag.w, Cl.wAll, Cl.wAny, Cl.wMax, Cl.wMin, Cl.wSum, Cl.wMaxC, Cl.wCallK, Cl.gP, Cl.bi_add, Cl.bi_sub, Cl.bi_mul, Cl.bi_div, Cl.bi_mod, Cl.bi_pow, Cl.ix_t0, Cl.ix_t1, Cl.ix_t2, Cl.ni1, Cl.ni2, Cl.ni3, decide_true, eq_self, Cl.b_o, String.reduceBEq, Bool.or_false, Bool.false_or, Bool.true_or, Bool.or_true, Bool.false_and, Bool.true_and, Bool.and_false, Bool.not_true, Bool.not_false, Cl.wSi, Cl.wStar, Cl.wMeth, Cl.iVal_ap, Cl.iEnm_ap, Cl.iZp_ap, Cl.iR1_ap, Cl.iR2_ap, Cl.iR3_ap, Cl.itV_tup, Cl.itV_rl, Cl.itE_tup, Cl.itZ_tup, Cl.itR_int, Cl.itR2_int, Cl.lcQ_iVal, Cl.lcQ_iEnm, Cl.lcQ_iZp, Cl.lcQ_iR1, Cl.lcQ_iR2, Cl.lc_iVal, Cl.lc_iEnm, Cl.lc_iZp, Cl.lc_iR1, Cl.lc_iR2, Cl.dc_iVal, Cl.gN_ap, Cl.gC_ap, Cl.gZ_ap, Cl.gTp2, Cl.gTp3, Cl.gTp4, Cl.gS_ap, Cl.tsYes_ap, $[$as:term],*])
-- M1
structure CtOk (d : Nat) (t : Ct) : Prop where
  n : t.2 ≠ 0
  p : t.1.p % 2 = 0
  q : t.1.q % 2 = 0
  l : t.1.l = 0 ∨ t.1.l = 2
  up : 0 < t.1.p ∨ (t.1.p = 0 ∧ 0 < t.1.q)
  sz : t.1.p.natAbs + t.1.q.natAbs ≤ 2 * d
def spWordsRight : PSp := fun args G Q => ∃ (ts : List Ct) (d : Nat), args = [.tup (ts.map termP), .int (d : Nat)] ∧ ts.length ≤ 1000 ∧ (ts.map (·.1)).Pairwise wlt ∧ (∀ t ∈ ts, CtOk d t) ∧ d ≤ 1000 ∧ ∀ G', Ext G G' → Q (.bl true) G'
theorem eq_words {u w : W3} {G : Cl.PG} {Q : WK} : Cl.wCmp .Eq (wordP u) (wordP w) G Q = Q (.bl (decide (u = w))) G :=
  cmp_eqP (n := 1) (m := 1) (isP_word u) (isP_word w) (by decide) (by decide) (by rw [decide_eq_true_iff, wordP_inj])
theorem eq_pair {p q : Int} {G : Cl.PG} {Q : WK} : Cl.wCmp .Eq (.tup [.int p, .int q]) (.tup [.int 0, .int 0]) G Q = Q (.bl (decide (p = 0 ∧ q = 0))) G :=
  cmp_eqP (n := 1) (m := 1) (isP_tup.mpr fun x hx => by simp at hx; rcases hx with rfl | rfl <;> exact isP_int) (isP_tup.mpr fun x hx => by simp at hx; subst hx; exact isP_int) (by decide) (by decide) (by simp)
theorem nin_02 {l : Int} (h : l = 0 ∨ l = 2) {G : Cl.PG} {Q : WK} : Cl.wCmp .NotIn (.int l) (.tup [.int 0, .int 2]) G Q = Q (.bl false) G :=
  nin_tupP (n := 1) (m := 1) (k := true) isP_int (fun y hy => by simp at hy; rcases hy with rfl | rfl <;> exact isP_int) (by decide) (by decide) (by simp; exact h)
theorem fm_none {α : Type} : ∀ (ts : List α), (ts.map fun _ => (none : Option PV)).filterMap id = []
  | [] => rfl
  | t :: ts => by rw [List.map_cons, List.filterMap_cons]; exact fm_none ts
section
variable {C : Nat → Addr} {Φ : Nat → PSp}
theorem w52 : Kp C Φ c52 N52 spWordsRight := by
  rintro args G Q ⟨ts, d, rfl, hl, hso, hok, hd, hQ⟩
  have hz := size_big
  refine wSs_0 (l := l52) ?_
  ((try dsimp only); rw [Cl.wSs_at (l := l52) (k := 0) rfl]; k_call_by "EY" [N52])
  refine lc_ext (ys := (ts.map (·.1)).map wordP) (fun _ _ => watch_nil) (by rw [List.length_map]; omega) (by simp) (fun i v y h1 h2 G' e R hR => ?_) fun G1 a e1 ha0 ha => ?_
  · rw [List.map_map, List.getElem?_map] at h2
    rw [List.getElem?_map] at h1
    obtain ⟨t, ht, rfl⟩ := Option.map_eq_some_iff.mp h1
    rw [ht] at h2
    cases h2
    k_call_by "EY" [termP]
    exact hR _ .refl
  have hlw : (ts.map (·.1)).length ≤ 1000 := by rw [List.length_map]; exact hl
  have hgw : ∀ k w, (ts.map (·.1))[k]? = some w → ∃ t ∈ ts, t.1 = w := fun k w h => by
    rw [List.getElem?_map] at h
    obtain ⟨t, ht, rfl⟩ := Option.map_eq_some_iff.mp h
    exact ⟨t, List.mem_of_getElem? ht, rfl⟩
  generalize hws : ts.map (·.1) = ws at *
  ((try dsimp only); rw [Cl.wSs_at (l := l52) (k := 1) rfl]; k_call_by "EY" [])
  refine sorted_W ha hso (by omega) fun p hp => ?_
  have hap : a ≠ p := fun z => by subst z; rw [ha] at hp; cases hp
  have hP1 : ∀ u ∈ ws.map wordP, isP 1 u := fun u hu => by
    obtain ⟨w, _, rfl⟩ := List.mem_map.mp hu; exact isP_word w
  generalize hG2 : pup G1 p (.lst (ws.map wordP)) = G2
  have e2 : Ext G1 G2 := by rw [← hG2]; exact .new hp
  have hp2 : G2 p = some (.lst (ws.map wordP)) := by rw [← hG2]; exact pup_same
  have ha2 := e2 _ _ ha
  rw [cmp_neL (n := 1) (m := 1) (k := true) ha2 hp2 hP1 hP1 (by decide) (by decide) (by simp), tru_bl]
  try dsimp only [Bool.not_true]
  rw [bLen_lst ha2]
  k_call_by "EY" []
  refine ⟨⟨by decide, by decide, by omega, by rw [List.length_map]; omega⟩, ?_⟩
  refine lc_if (os := (List.range (((ws.map wordP).length : Int) - 1).toNat).map fun _ => (none : Option PV)) (fun _ _ => watch_nil) (by rw [List.length_map, List.length_range, List.length_map]; omega) (by simp) (fun i v o h1 h2 G' e R R0 ht => ?_) fun G3 b e3 hb0 hb => ?_
  · rw [List.getElem?_map] at h1 h2
    obtain ⟨k, hk, rfl⟩ := Option.map_eq_some_iff.mp h1
    rw [hk] at h2; cases h2
    have hkl : k + 1 < ws.length := by
      have hi := (List.getElem?_eq_some_iff.mp hk).1
      rw [List.getElem?_eq_getElem hi] at hk
      simp at hk hi
      omega
    unfold TurnO at ht
    k_call_by "EY" []
    have ha' := e _ _ ha2
    have i1 : (1 : Int) + (k : Int) = ((k + 1 : Nat) : Int) := by omega
    have i2 : ((k + 1 : Nat) : Int) - 1 = ((k : Nat) : Int) := by omega
    rw [i1, i2]
    rw [ix_lst ha' (at_nat (n := k + 1) (x := wordP ws[k + 1]) (by rw [List.getElem?_map, List.getElem?_eq_getElem hkl]; rfl)), ix_lst ha' (at_nat (n := k) (x := wordP ws[k]) (by rw [List.getElem?_map, List.getElem?_eq_getElem (by omega)]; rfl))]
    have hne : ¬ ws[k + 1] = ws[k] := fun z => by
      have := List.pairwise_iff_getElem.mp hso k (k + 1) (by omega) hkl (by omega)
      rw [z] at this
      unfold wlt at this
      omega
    rw [eq_words, decide_eq_false hne, tru_bl]
    exact ht _ .refl
  rw [fm_none] at hb
  refine ⟨by decide, fun q hq => ?_⟩
  have hbq : b ≠ q := fun z => by subst z; rw [hb] at hq; cases hq
  have nil : ∀ u ∈ ([] : List PV), isP 1 u := fun _ h => nomatch h
  generalize hG4 : pup G3 q (.lst []) = G4
  have e4 : Ext G3 G4 := by rw [← hG4]; exact .new hq
  have hq4 : G4 q = some (.lst []) := by rw [← hG4]; exact pup_same
  rw [cmp_neL (n := 1) (m := 1) (k := true) (e4 _ _ hb) hq4 nil nil (by decide) (by decide) (by simp), tru_bl]
  try dsimp only [Bool.not_true]
  refine lc_if (os := ts.map fun _ => (none : Option PV)) (fun _ _ => watch_nil) (by rw [List.length_map]; omega) (by simp) (fun i v o h1 h2 G' e R R0 ht => ?_) fun G5 c e5 hc0 hc => ?_
  · rw [List.getElem?_map] at h1 h2
    obtain ⟨t, h3, rfl⟩ := Option.map_eq_some_iff.mp h1
    rw [h3] at h2; cases h2
    unfold TurnO at ht
    k_call_by "EY" [termP]
    rw [cmp_eq0, decide_eq_false (hok t (List.mem_of_getElem? h3)).n, tru_bl]
    exact ht _ .refl
  rw [fm_none] at hc
  refine ⟨by decide, fun q2 hq2 => ?_⟩
  generalize hG6 : pup G5 q2 (.lst []) = G6
  have e6 : Ext G5 G6 := by rw [← hG6]; exact .new hq2
  have hq6 : G6 q2 = some (.lst []) := by rw [← hG6]; exact pup_same
  rw [cmp_neL (n := 1) (m := 1) (k := true) (e6 _ _ hc) hq6 nil nil (by decide) (by decide) (by simp), tru_bl]
  try dsimp only [Bool.not_true]
  have E6 := ((((e1.trans e2).trans e3).trans e4).trans e5).trans e6
  have ha6 := e6 _ _ (e5 _ _ (e4 _ _ (e3 _ _ ha2)))
  ((try dsimp only); rw [Cl.wSs_nil]; try dsimp only)
  ((try dsimp only); rw [Cl.wSs_at (l := l52) (k := 2) rfl]; k_call_by "EY" [])
  rw [itV_lst ha6]
  refine forL_0 (fun n ρ G' => (∃ x3 x4 x5, ρ = [some (.tup (ts.map termP)), some (.int d), some (.ref a), x3, x4, x5, none, none, none]) ∧ G' = G6) ⟨⟨_, _, _, rfl⟩, rfl⟩ ?_ ?_
  · rintro n v ρ G7 P' hv ⟨⟨x3, x4, x5, rfl⟩, rfl⟩ hn
    refine ⟨watch_one ha6, ?_⟩
    rw [List.getElem?_map] at hv
    obtain ⟨w, hw, rfl⟩ := Option.map_eq_some_iff.mp hv
    obtain ⟨t, ht, rfl⟩ := hgw _ _ hw
    obtain ⟨k1, k2, k3, k4, k5, k6⟩ := hok t ht
    rw [wordP]
    (rw [Cl.gTp3, Cl.gC_ap, Cl.gN_ap, Cl.gC_ap, Cl.gN_ap, Cl.gC_ap, Cl.gN_ap, Cl.gZ_ap]; dsimp only [List.set])
    ((try dsimp only); rw [Cl.wSs_cons]; k_call_by "EY" [])
    refine ⟨by decide, ?_⟩
    have n1 : ¬ (t.1.p = 0 ∧ t.1.q = 0) := by omega
    have n2 : ¬ t.1.p < 0 := by omega
    simp only [k2, k3, decide_true, Bool.not_true]
    refine ⟨by decide, ?_⟩
    refine ⟨by decide, ?_⟩
    rw [nin_02 k4, tru_bl]
    dsimp only
    refine ⟨by decide, by decide, ?_⟩
    rw [eq_pair, decide_eq_false n1, tru_bl]
    simp only [decide_eq_false n2]
    have n3 : ¬ (2 : Int) * (d : Int) < (t.1.p.natAbs : Int) + (t.1.q.natAbs : Int) := by omega
    by_cases h : t.1.p = 0
    · have hq : ¬ t.1.q < 0 := by omega
      simp only [decide_eq_true h, decide_eq_false hq]
      ((try dsimp only); rw [Cl.wSs_nil]; try dsimp only)
      ((try dsimp only); rw [Cl.wSs_cons]; k_call_by "EY" [])
      refine ⟨.inr (.inl ⟨by decide, by decide⟩), ?_⟩
      simp only [decide_eq_false n3]
      ((try dsimp only); rw [Cl.wSs_nil]; try dsimp only)
      exact hn _ _ ⟨⟨_, _, _, rfl⟩, rfl⟩
    · simp only [decide_eq_false h]
      ((try dsimp only); rw [Cl.wSs_nil]; try dsimp only)
      ((try dsimp only); rw [Cl.wSs_cons]; k_call_by "EY" [])
      refine ⟨.inr (.inl ⟨by decide, by decide⟩), ?_⟩
      simp only [decide_eq_false n3]
      ((try dsimp only); rw [Cl.wSs_nil]; try dsimp only)
      exact hn _ _ ⟨⟨_, _, _, rfl⟩, rfl⟩
  · rintro ρ G7 ⟨⟨x3, x4, x5, rfl⟩, rfl⟩
    refine ⟨watch_one ha6, ?_⟩
    dsimp only
    ((try dsimp only); rw [Cl.wSs_at (l := l52) (k := 3) rfl]; k_call_by "EY" [])
    exact hQ _ E6
end
end K51
set_option Elab.async false
set_option linter.all false
set_option maxRecDepth 100000
set_option maxHeartbeats 2000000
set_option exponentiation.threshold 10000
namespace K51
open PySem PySem.Spec PyProof.Rows L2 Cl
-- M0
-- M1
/-! ### the plain law -/
theorem cosT_sorted {bk : List BE} (so : bk.Pairwise blt) : ((cosT bk).map (·.1)).Pairwise wlt := by
  rw [List.pairwise_map]
  unfold cosT
  refine List.Pairwise.filter _ ?_
  unfold cosAll
  rw [List.pairwise_flatMap]
  refine ⟨fun t _ => ?_, so.imp fun {a b} hab => ?_⟩
  · unfold cosOf
    refine List.pairwise_cons.mpr ⟨fun u hu => ?_, List.pairwise_singleton _ _⟩
    simp only [List.mem_singleton] at hu
    subst hu
    exact .inr ⟨rfl, .inr ⟨rfl, by show (0 : Int) < 2; decide⟩⟩
  · intro x hx y hy
    unfold blt at hab
    unfold cosOf at hx hy
    simp only [List.mem_cons, List.not_mem_nil, or_false] at hx hy
    unfold wlt
    rcases hx with rfl | rfl <;> rcases hy with rfl | rfl <;> dsimp only <;> omega
theorem cosT_ok {D M d : Nat} {k : Rat} {bk : List BE} (h : WOk D M d k bk) : ∀ t ∈ cosT bk, CtOk d t := fun t ht => by
  obtain ⟨b, hb, h1, h2, h3, h4⟩ := cosT_word h t ht
  have h5 := (List.mem_filter.mp ht).2
  have h6 := h1.up
  have h7 := h1.sz
  exact ⟨by simpa using h5, by omega, by omega, h4, by omega, by omega⟩
def csum (ψ : W3 → Rat) : List Ct → Rat
  | [] => 0
  | t :: ts => t.2 * ψ t.1 + csum ψ ts
theorem csum_append (ψ : W3 → Rat) : ∀ ts us : List Ct, csum ψ (ts ++ us) = csum ψ ts + csum ψ us
  | [], us => by simp only [csum, List.nil_append]; grind
  | t :: ts, us => by simp only [csum, List.cons_append]; rw [csum_append ψ ts us]; grind
theorem csum_filter (ψ : W3 → Rat) : ∀ ts : List Ct, csum ψ (ts.filter fun t => decide (t.2 ≠ 0)) = csum ψ ts
  | [] => rfl
  | t :: ts => by
    rw [List.filter_cons]
    by_cases h : t.2 = 0
    · rw [if_neg (by simp [h]), csum_filter ψ ts, csum, h]; grind
    · rw [if_pos (by simp [h]), csum, csum, csum_filter ψ ts]
def psi (a b : Tn) (w : W3) : Rat := (tmul (chOf a b w.p w.q) (tz lam w.l)).1
theorem lam2 : tz lam 2 = (7 / 25, 24 / 25) := by
  show tmul (tmul (1, 0) lam) lam = _
  unfold tmul lam
  ext <;> decide +kernel
theorem lam0 : tz lam 0 = (1, 0) := rfl
theorem csum_vB {a b : Tn} (ha : Unit1 a) (hb : Unit1 b) : ∀ bk : List BE, csum (psi a b) (cosAll bk) = vB (chOf (tmul a a) (tmul b b)) bk
  | [] => rfl
  | t :: bk => by
    unfold cosAll
    rw [List.flatMap_cons, csum_append]
    have ih := csum_vB ha hb bk
    unfold cosAll at ih
    rw [ih, vB]
    congr 1
    rw [chOf_sq ha hb]
    unfold cosOf
    simp only [csum, psi]
    rw [lam2, lam0]
    generalize chOf a b (2 * t.p) (2 * t.q) = z
    unfold tmul
    dsimp only
    grind
theorem csum_cosT {a b : Tn} (ha : Unit1 a) (hb : Unit1 b) (bk : List BE) : csum (psi a b) (cosT bk) = vB (chOf (tmul a a) (tmul b b)) bk := by
  unfold cosT
  rw [csum_filter, csum_vB ha hb]
theorem chOf01 (a b : Tn) : chOf a b 0 1 = b := by unfold chOf; rw [tz_zero, tz_one, one_tmul]
theorem chOf10 (a b : Tn) : chOf a b 1 0 = a := by unfold chOf; rw [tz_zero, tz_one, tmul_one]
/-- what the polynomial has at the pen, less all terms, is the constant -/
theorem law_sum {r : Rat} {ts : List Tm} {d Dq Mq Dr Mr : Nat} {k : Rat} {bk : List BE} (h : WavFor r ts d Dq Mq Dr Mr k bk) {a b : Tn} (ha : Unit1 a) (hb : Unit1 b) :
    lin (pxy (r * ((tmul a a).1 + (tmul b b).1)) (r * ((tmul a a).2 + (tmul b b).2))) ts - csum (psi a b) (cosT bk) = k := by
  have hv := h.val _ (ch_of (ha.mul ha) (hb.mul hb))
  unfold vW at hv
  rw [csum_cosT ha hb]
  have e1 : wX (chOf (tmul a a) (tmul b b)) r = r * ((tmul a a).1 + (tmul b b).1) := by unfold wX; rw [chOf01, chOf10]; grind
  have e2 : wY (chOf (tmul a a) (tmul b b)) r = r * ((tmul a a).2 + (tmul b b).2) := by unfold wY; rw [chOf01, chOf10]; grind
  rw [e1, e2] at hv
  show lin (fun i j => _) ts - _ = k
  unfold pxy
  rw [← hv]
  grind
theorem reach_of (ts : List Ct) (f : Rat → Ct → Rat) (hf : ∀ a t, f a t = a + rabs t.2) : ts.foldl f 0 = reachT ts := by
  unfold reachT
  congr 1
  funext a t
  exact hf a t
end K51
set_option Elab.async false
set_option linter.all false
set_option maxRecDepth 100000
set_option maxHeartbeats 2000000
set_option exponentiation.threshold 10000
namespace K51
open PySem PySem.Spec PyProof.Rows L2 Cl
-- M0
local macro_rules | `(tactic| k_call_by "EY" [$as,*]) => `(tactic| simp only [Cl.L, Cl.LG, List.foldr_cons, List.foldr_nil, Cl.wSt, Cl.wE, Cl.wEs, Cl.wTs, Cl.wOp, Cl.wQ, Cl.wS, Cl.wI, Cl.wG, Cl.wGs, Cl.CGs.len, Cl.sRet, Cl.sRetN, Cl.sNext, Cl.sIf, Cl.sAsg, Cl.wipeR, Cl.sDrop, Cl.sPar2, Cl.sBrk, Cl.sCont, Cl.wAnd, Cl.wOr, Cl.wIf, Cl.wNot, Cl.wNeg, Cl.wVar, Cl.wC, Cl.Cn.pv, Cl.w2, Cl.w3, Cl.wTup, Cl.wLst, Cl.wNil, Cl.wCons, Cl.wCall, Cl.wMake, Cl.wB, Cl.Bi.r, Cl.bAbs, Cl.bInt, Cl.bLen_tup, Cl.bLen_rl, Cl.wIsi, Cl.CTy.p, Cl.startP, List.map_cons, List.map_nil, List.getElem?_cons_zero, List.getElem?_cons_succ, List.set_cons_zero, List.set_cons_succ, List.cons_append, List.nil_append, List.length_cons, List.length_nil, Nat.reduceAdd, Nat.reduceSub, Nat.zero_add, List.replicate, List.any_cons, List.any_nil, Cl.isOne, Cl.tru_bl, Cl.tru_int, Cl.tyOf_bl, Cl.tyOf_int, Cl.tyOf_tup, Cl.tyOf_rl, Cl.tyOf_non, Cl.cmp_lt, Cl.cmp_le, Cl.cmp_gt, Cl.cmp_ge, Cl.cmp_is, Cl.cmp_eqI, Cl.cmp_neI, Cl.at_0, Cl.at_1, Cl.at_2, true_and, and_true, Option.map_some, Option.getD_some, Cl.wTupOf, Cl.wLstOf, Cl.sFor, Cl.seqOf_tup, Cl.seqOf_rl, Cl.tsOne, Cl.wSeq, Cl.wSeqL, Cl.wFld, Cl.sFldP, Cl.wSlice, Cl.wPart, Cl.wNoP, Cl.wRev, Cl.Ag.w, Cl.wAll, Cl.wAny, Cl.wMax, Cl.wMin, Cl.wSum, Cl.wMaxC, Cl.wCallK, Cl.gP, Cl.bi_add, Cl.bi_sub, Cl.bi_mul, Cl.bi_div, Cl.bi_mod, Cl.bi_pow, Cl.ix_t0, Cl.ix_t1, Cl.ix_t2, Cl.ni1, Cl.ni2, Cl.ni3, decide_true, eq_self, Cl.b_o, String.reduceBEq, Bool.or_false, Bool.false_or, Bool.true_or, Bool.or_true, Bool.false_and, Bool.true_and, Bool.and_false, Bool.not_true, Bool.not_false, Cl.wSi, Cl.wStar, Cl.wMeth, Cl.iVal_ap, Cl.iEnm_ap, Cl.iZp_ap, Cl.iR1_ap, Cl.iR2_ap, Cl.iR3_ap, Cl.itV_tup, Cl.itV_rl, Cl.itE_tup, Cl.itZ_tup, Cl.itR_int, Cl.itR2_int, Cl.lcQ_iVal, Cl.lcQ_iEnm, Cl.lcQ_iZp, Cl.lcQ_iR1, Cl.lcQ_iR2, Cl.lc_iVal, Cl.lc_iEnm, Cl.lc_iZp, Cl.lc_iR1, Cl.lc_iR2, Cl.dc_iVal, Cl.gN_ap, Cl.gC_ap, Cl.gZ_ap, Cl.gTp2, Cl.gTp3, Cl.gTp4, Cl.gS_ap, Cl.tsYes_ap, $[$as:term],*])
-- M1
def rads : List Rat := [1, 5 / 6, 2, 1 / 2, 7 / 3]
theorem rads_eq : [PV.int 1, .tup [.int 5, .int 6], .int 2, .tup [.int 1, .int 2], .tup [.int 7, .int 3]] = rads.map num := by
  unfold rads
  simp only [List.map_cons, List.map_nil]
  rw [← num_of (q := 5 / 6) (a := 5) (b := 6) (by decide +kernel) (by decide +kernel) (by decide), ← num_of (q := 1 / 2) (a := 1) (b := 2) (by decide +kernel) (by decide +kernel) (by decide), ← num_of (q := 7 / 3) (a := 7) (b := 3) (by decide +kernel) (by decide +kernel) (by decide),
    ← num_ofI (q := 1) (a := 1) (by decide +kernel) (by decide +kernel), ← num_ofI (q := 2) (a := 2) (by decide +kernel) (by decide +kernel)]
  rfl
theorem rads_ok : ∀ q ∈ rads, 0 < q ∧ Bd 6 3 q := by
  intro q hq
  simp only [rads, List.mem_cons, List.not_mem_nil, or_false] at hq
  rcases hq with rfl | rfl | rfl | rfl | rfl <;> exact ⟨by decide +kernel, by decide +kernel, by decide +kernel⟩
def spLaw : PSp := fun args G Q => ∃ ns : List Int, args = [.rl (ns.map .int)] ∧ ∀ G', Q (.bl true) G'
theorem TB.up {D E M : Nat} {x : Tn} (h : TB D M x) (hd : D ∣ E) : TB E M x := ⟨h.c.up hd (Nat.le_refl _), h.s.up hd (Nat.le_refl _)⟩
/-- what is drawn in one turn of the law -/
structure Drawn (r : Rat) (d : Nat) (ts : List Tm) : Prop where
  r0 : 0 < r
  rb : Bd 6 3 r
  dd : d ≤ 4
  tk : TsOk d ts
  l : ts.length ≤ 5
theorem Drawn.pol {r : Rat} {d : Nat} {ts ts' : List Tm} (h : Drawn r d ts) (p : ts'.Perm ts) {A2 : Addr} {v : PV} {dg : Nat} {G : Cl.PG} (hv : IsPoly A2 v dg ts' G) : PolIn A2 v r ts' d 6 5 6 3 G :=
  ⟨⟨dg, hv⟩, ⟨by rw [p.length_eq]; have := h.l; omega, fun t ht => by obtain ⟨h1, _, h3⟩ := h.tk.t t (p.mem_iff.mp ht); exact ⟨h1, h3⟩⟩, by have := h.dd; omega, h.rb, h.r0, by decide, by decide, by decide, by decide, by decide, by decide, by decide⟩
theorem eq_terms {ts us : List Ct} {G : Cl.PG} {Q : WK} (h : ts = us) : Cl.wCmp .NotEq (.tup (ts.map termP)) (.tup (us.map termP)) G Q = Q (.bl false) G := by
  subst h
  have hp : isP 3 (.tup (ts.map termP)) := isP_tup.mpr fun x hx => by
    obtain ⟨t, _, rfl⟩ := List.mem_map.mp hx
    exact isP_tup.mpr fun y hy => by
      simp only [List.mem_cons, List.not_mem_nil, or_false] at hy
      rcases hy with rfl | rfl
      · exact isP_word _
      · exact isP_num _ (by decide)
  exact cmp_neP (k := true) hp hp (by decide) (by decide) (by simp)
theorem psi_bd {a b : Tn} {D : Nat} {w : W3} (ha : TB D 1 a) (hb : TB D 1 b) (hD : 0 < D) (hpq : w.p.natAbs + w.q.natAbs ≤ 12) (hl : w.l.natAbs ≤ 2) : Bd (D ^ 12 * 25) (2 ^ 16) (psi a b w) := by
  have pw : ∀ k, 0 < D ^ k := fun k => Nat.pow_pos hD
  have t3 := (tz_tb hD ha w.p).mul (pw _) (pw _) (tz_tb hD hb w.q)
  have t5 := (t3.mul (Nat.mul_pos (pw _) (pw _)) (Nat.pow_pos (by decide)) (tz_tb (by decide) lam_tb w.l)).c
  refine t5.up (Nat.mul_dvd_mul ?_ ?_) ?_
  · rw [← Nat.pow_add]; exact Nat.pow_dvd_pow _ hpq
  · exact Nat.pow_dvd_pow 5 hl
  · have m1 : 2 ^ w.p.natAbs * 2 ^ w.q.natAbs ≤ 2 ^ 12 := by rw [← Nat.pow_add]; exact Nat.pow_le_pow_right (by decide) hpq
    have m2 : 2 ^ w.l.natAbs ≤ 2 ^ 2 := Nat.pow_le_pow_right (by decide) hl
    exact Nat.le_trans (Nat.mul_le_mul_left 2 (Nat.mul_le_mul (Nat.mul_le_mul_left 2 m1) m2)) (by decide)
theorem lin_bd {Dq Mq Dp Mp : Nat} {x y : Rat} (hx : Bd Dp Mp x) (hy : Bd Dp Mp y) (q0 : 0 < Dq) (p0 : 0 < Dp) (m0 : 0 < Mp) : ∀ ts : List Tm, (∀ t ∈ ts, t.i + t.j ≤ 6 ∧ Bd Dq Mq t.q) → Bd (Dq * Dp ^ 6) (ts.length * (Mq * Mp ^ 6)) (lin (pxy x y) ts)
  | [], _ => Bd.zero' (Nat.mul_pos q0 (Nat.pow_pos p0))
  | t :: ts, h => by
    have ih := lin_bd hx hy q0 p0 m0 ts fun t ht => h t (List.mem_cons_of_mem _ ht)
    obtain ⟨h1, h2⟩ := h t List.mem_cons_self
    have b : Bd (Dq * Dp ^ 6) (Mq * Mp ^ 6) (t.q * x ^ t.i * y ^ t.j) := (pq_bd h2 hx hy t.i t.j).up (Nat.mul_dvd_mul_left _ (Nat.pow_dvd_pow _ h1)) (Nat.mul_le_mul_left _ (Nat.pow_le_pow_right m0 h1))
    have := b.add (Nat.mul_pos q0 (Nat.pow_pos p0)) ih
    rw [List.length_cons, Nat.succ_mul, Nat.add_comm]
    have e : lin (pxy x y) (t :: ts) = t.q * x ^ t.i * y ^ t.j + lin (pxy x y) ts := by
      simp only [lin, pxy]; grind
    rw [e]; exact this
theorem wMx53 : wMx 5 3 ≤ 2 ^ 400 := by decide +kernel
theorem csum_snoc (ψ : W3 → Rat) {ts : List Ct} {n : Nat} {t : Ct} (h : ts[n]? = some t) : csum ψ (ts.take (n + 1)) = csum ψ (ts.take n) + t.2 * ψ t.1 := by
  rw [List.take_succ, h, csum_append]
  simp only [Option.toList, csum]; grind
theorem three_num : PV.int 3 = num 3 := by unfold num; rfl
theorem const_in {A2 : Addr} {v : PV} {dg : Nat} {ts : List Tm} {G : Cl.PG} (hv : IsPoly A2 v dg ts G) (h : ∀ t ∈ ts, t = ⟨0, 0, 7⟩) (hl : ts.length ≤ 1) : PolIn A2 v 3 ts 0 1 7 1 3 G :=
  ⟨⟨dg, hv⟩, ⟨by omega, fun t ht => by rw [h t ht]; exact ⟨by decide, by decide +kernel, by decide +kernel⟩⟩, by decide, ⟨by decide +kernel, by decide +kernel⟩, by decide +kernel, by decide, by decide, by decide, by decide, by decide, by decide, by decide⟩
theorem const_bk {r : Rat} {ts : List Tm} {Dq Mq Dr Mr : Nat} {k : Rat} {bk : List BE} (h : WavFor r ts 0 Dq Mq Dr Mr k bk) : bk = [] := by
  cases bk with
  | nil => rfl
  | cons t bk =>
    obtain ⟨_, _, h3, _⟩ := h.ok.ok t List.mem_cons_self
    have h4 := h3.up
    have h5 := h3.sz
    exfalso; omega
theorem eq_nil {G : Cl.PG} {Q : WK} : Cl.wCmp .Eq (.tup []) (.tup []) G Q = Q (.bl true) G :=
  cmp_eqP (n := 1) (m := 1) (k := true) (isP_tup.mpr fun x h => by simp at h) (isP_tup.mpr fun x h => by simp at h) (by decide) (by decide) (by simp)
theorem wSs_consC {Γ : Gam} {s : CS} {ss : CSs} {P : PEnds} {ρ : Rho} {G : Cl.PG} : wSs Γ (CSs.cons s ss) P ρ G = wSt Γ s { P with nx := fun ρ1 G1 => wSs Γ ss P ρ1 G1 } ρ G := rfl
theorem wSs_nilC {Γ : Gam} {P : PEnds} {ρ : Rho} {G : Cl.PG} : wSs Γ CSs.nil P ρ G = P.nx ρ G := rfl
theorem wIf_con {wc : WE} {ρ : Rho} {G : Cl.PG} {R : WK} {a b : Int} : Cl.wIf wc (Cl.wC (.int a)) (Cl.wC (.int b)) ρ G R = wc ρ G fun v G1 => match tru v G1 with | some t => R (.int (if t = true then a else b)) G1 | none => False := by
  unfold Cl.wIf Cl.wC
  congr 1
  funext v G1
  cases tru v G1 with
  | none => rfl
  | some t => cases t <;> rfl
section
variable {C : Nat → Addr} {Φ : Nat → PSp}
theorem w53 (hchurn : Has Φ 37 spPump) (hpick : Has Φ 39 spOne) (hst : Has Φ 38 spStroke) (hpoly : Has Φ 47 spPolyT) (hmk : Has Φ 54 (spPoly (C 2))) (hterms : Has Φ 35 (spTermsFor (C 2))) (hright : Has Φ 52 spWordsRight) (hplus : Has Φ 42 spAdd) (htimes : Has Φ 43 spMul) (hhalves : Has Φ 40 spHalves) (hreach : Has Φ 36 (spReachFor (C 2))) (hwav : Has Φ 27 (spWavesIn (C 0) (C 2))) (hturn : Has Φ 49 spTurnT) (hpen : Has Φ 50 spPenT) (hvalue : Has Φ 48 spValueP) (hless : Has Φ 44 spSub) (hcos : Has Φ 51 spCosT) : Kp C Φ c53 N53 spLaw := by
  rintro args G Q ⟨ns, rfl, hQ⟩
  have hz := size_big
  refine wSs_0 (l := l53) ?_
  ((try dsimp only); rw [Cl.wSs_at (l := l53) (k := 0) rfl]; k_call_by "EY" [N53, Γ_phi])
  refine hchurn _ _ _ ⟨ns, rfl, fun P G0 e0 hP0 hP => ?_⟩
  ((try dsimp only); rw [Cl.wSs_at (l := l53) (k := 1) rfl]; k_call_by "EY" [])
  refine ⟨by decide, by decide, ?_⟩
  refine forL_0 (fun n ρ G' => (∃ x2 x3 x4 x5 x6 x7 x8 x9 x10 x11 x12 x13 x14 x15, ρ = [some (.rl (ns.map .int)), some (.ref P), x2, x3, x4, x5, x6, x7, x8, x9, x10, x11, x12, x13, x14, x15]) ∧ Pump P (100 * n) G') ⟨⟨_, _, _, _, _, _, _, _, _, _, _, _, _, _, rfl⟩, hP⟩ ?_ ?_
  · rintro n v0 ρ G1 P' hv ⟨⟨x2, x3, x4, x5, x6, x7, x8, x9, x10, x11, x12, x13, x14, x15, rfl⟩, hP1⟩ hn
    have hn2 : n < 2 := by have := (List.getElem?_eq_some_iff.mp hv).1; simpa using this
    refine ⟨watch_nil, ?_⟩
    k_call_by "EY" []
    ((try dsimp only); rw [Cl.wSs_cons]; simp only [Cl.L, Cl.LG, List.foldr_cons, List.foldr_nil, Cl.wSt, Cl.wE, Cl.wEs, Cl.wTs, Cl.wOp, Cl.wQ, Cl.wS, Cl.wI, Cl.wG, Cl.wGs, Cl.CGs.len, Cl.sRet, Cl.sRetN, Cl.sNext, Cl.sIf, Cl.sAsg, Cl.wipeR, Cl.sDrop, Cl.sPar2, Cl.sBrk, Cl.sCont, Cl.wAnd, Cl.wOr, Cl.wIf, Cl.wNot, Cl.wNeg, Cl.wVar, Cl.wC, Cl.Cn.pv, Cl.w2, Cl.w3, Cl.wTup, Cl.wLst, Cl.wNil, Cl.wCons, Cl.wCall, Cl.wMake, Cl.wB, Cl.Bi.r, Cl.bAbs, Cl.bInt, Cl.bLen_tup, Cl.bLen_rl, Cl.wIsi, Cl.CTy.p, Cl.startP, List.map_cons, List.map_nil, List.getElem?_cons_zero, List.getElem?_cons_succ, List.set_cons_zero, List.set_cons_succ, List.cons_append, List.nil_append, List.length_cons, List.length_nil, Nat.reduceAdd, Nat.reduceSub, Nat.zero_add, List.replicate, List.any_cons, List.any_nil, Cl.isOne, Cl.tru_bl, Cl.tru_int, Cl.tyOf_bl, Cl.tyOf_int, Cl.tyOf_tup, Cl.tyOf_rl, Cl.tyOf_non, Cl.cmp_lt, Cl.cmp_le, Cl.cmp_gt, Cl.cmp_ge, Cl.cmp_is, Cl.cmp_eqI, Cl.cmp_neI, Cl.at_0, Cl.at_1, Cl.at_2, true_and, and_true, Option.map_some, Option.getD_some, Cl.wTupOf, Cl.wLstOf, Cl.sFor, Cl.seqOf_tup, Cl.seqOf_rl, Cl.tsOne, Cl.wSeq, Cl.wSeqL, Cl.wFld, Cl.sFldP, Cl.wSlice, Cl.wPart, Cl.wNoP, Cl.wRev, Cl.Ag.w, Cl.wAll, Cl.wAny, Cl.wMax, Cl.wMin, Cl.wSum, Cl.wMaxC, Cl.wCallK, Cl.gP, Cl.bi_add, Cl.bi_sub, Cl.bi_mul, Cl.bi_div, Cl.bi_mod, Cl.bi_pow, Cl.ix_t0, Cl.ix_t1, Cl.ix_t2, Cl.ni1, Cl.ni2, Cl.ni3, decide_true, eq_self, Cl.b_o, String.reduceBEq, Bool.or_false, Bool.false_or, Bool.true_or, Bool.or_true, Bool.false_and, Bool.true_and, Bool.and_false, Bool.not_true, Bool.not_false, Cl.wSi, Cl.wStar, Cl.wMeth, Cl.iVal_ap, Cl.iEnm_ap, Cl.iZp_ap, Cl.iR1_ap, Cl.iR2_ap, Cl.iR3_ap, Cl.itV_tup, Cl.itV_rl, Cl.itE_tup, Cl.itZ_tup, Cl.itR_int, Cl.itR2_int, Cl.lcQ_iVal, Cl.lcQ_iEnm, Cl.lcQ_iZp, Cl.lcQ_iR1, Cl.lcQ_iR2, Cl.lc_iVal, Cl.lc_iEnm, Cl.lc_iZp, Cl.lc_iR1, Cl.lc_iR2, Cl.dc_iVal, Cl.gN_ap, Cl.gC_ap, Cl.gZ_ap, Cl.gTp2, Cl.gTp3, Cl.gTp4, Cl.gS_ap, Cl.tsYes_ap, Γ_phi, wIf_con, -Cl.wIf])
    refine hst _ _ _ ⟨P, _, _, rfl, hP1, by omega, by omega, by omega, fun s0 G2 s00 s01 hP2 e2 => ?_⟩
    k_call_by "EY" []
    have hz42 : (if decide (s0 = 0) = true then (4 : Int) else 2) = 4 ∨ (if decide (s0 = 0) = true then (4 : Int) else 2) = 2 := by
      split
      · exact .inl rfl
      · exact .inr rfl
    generalize (if decide (s0 = 0) = true then (4 : Int) else 2) = z at hz42 ⊢
    refine ⟨by decide, fun p1 hp1 => ?_⟩
    have hp1P := hP2.ne hp1
    refine hpick _ _ _ ⟨P, _, p1, _, rfl, hP2.ext (.new hp1), by omega, hp1P, pup_same, by simp, by simp, fun v hv G3 hP3 e3 => ?_⟩
    obtain ⟨d, rfl, hd⟩ : ∃ d : Nat, v = .int d ∧ d ≤ 4 := by
      simp only [List.mem_cons, List.not_mem_nil, or_false] at hv
      rcases hv with rfl | rfl | rfl | rfl | rfl | rfl | rfl
      · exact ⟨1, rfl, by omega⟩
      · exact ⟨2, rfl, by omega⟩
      · exact ⟨2, rfl, by omega⟩
      · exact ⟨1, rfl, by omega⟩
      · exact ⟨3, rfl, by omega⟩
      · exact ⟨0, rfl, by omega⟩
      · rcases hz42 with rfl | rfl
        · exact ⟨4, rfl, by omega⟩
        · exact ⟨2, rfl, by omega⟩
    clear hv
    ((try dsimp only); rw [Cl.wSs_cons]; k_call_by "EY" [Γ_phi])
    refine hst _ _ _ ⟨P, _, _, rfl, hP3, by omega, by omega, by omega, fun m0 G4 m00 m01 hP4 e4 => ?_⟩
    obtain ⟨m, hm⟩ : ∃ m : Nat, 1 + m0 = m := ⟨(1 + m0).toNat, by omega⟩
    k_call_by "EY" []
    rw [hm]
    refine hpoly _ _ _ ⟨P, _, d, m, rfl, hP4, by omega, by omega, by omega, fun a ts G5 hts hl ha0 ha hP5 e5 => ?_⟩
    ((try dsimp only); rw [Cl.wSs_cons]; k_call_by "EY" [Γ_phi])
    refine ⟨by decide, by decide, by decide, by decide, fun p2 hp2 => ?_⟩
    have hp2P := hP5.ne hp2
    rw [rads_eq]
    refine hpick _ _ _ ⟨P, _, p2, _, rfl, hP5.ext (.new hp2), by omega, hp2P, pup_same, by simp [rads], by simp [rads], fun v hv G6 hP6 e6 => ?_⟩
    obtain ⟨r, hr, rfl⟩ := List.mem_map.mp hv
    obtain ⟨r0, rb⟩ := rads_ok r hr
    clear hv
    have haP := hP4.ne ha0
    have hap2 : a ≠ p2 := fun z => by subst z; rw [ha] at hp2; cases hp2
    have ha6 : G6 a = some (.lst (ts.map tmP)) := e6 _ _ haP (by rw [pup_ne hap2]; exact ha)
    have hdr : Drawn r d ts := ⟨r0, rb, hd, hts, by omega⟩
    clear e2 e3 e4 e5 e6 hP1 hP2 hP3 hP4 hP5 ha ha0 hp1 hp2 hap2 hp1P hp2P
    ((try dsimp only); rw [Cl.wSs_cons]; k_call_by "EY" [Γ_phi, Γ_mks])
    intro p3 hp3
    have ha7 : pup G6 p3 (.ins (C 2) []) a = some (.lst (ts.map tmP)) := Ext.new hp3 _ _ ha6
    have htok : ∀ t ∈ ts, t.ok := fun t ht => by
      obtain ⟨h1, h2, _⟩ := hts.t t ht
      exact ⟨by omega, h2⟩
    refine hmk _ _ _ ⟨p3, .ref a, ts, rfl, pup_same, (IsTms.inn ⟨a, rfl, ha7⟩), htok, hts.nd, by omega, fun G7 ts' dg pm _ e7 hpo => ⟨rfl, ?_⟩⟩
    have E67 : Ext G6 G7 := fun x o hx => by
      have : x ≠ p3 := fun z => by subst z; rw [hp3] at hx; cases hx
      exact e7 _ _ this (by rw [pup_ne this]; exact hx)
    have ha8 := E67 _ _ ha6
    have hP7 := hP6.ext E67
    have hin := hdr.pol pm hpo
    clear hP6 ha7 ha6 hp3 e7
    generalize PV.ref p3 = po at *
    ((try dsimp only); rw [Cl.wSs_cons]; k_call_by "EY" [Γ_phi])
    refine hterms _ _ _ ⟨po, num r, r, ts', d, 6, 5, 6, 3, rfl, .inl rfl, hin, fun G8 k bk e8 hw => ?_⟩
    have hl51 := cosT_len bk
    have hl52 := hw.ok.len (by omega)
    have hin8 := hin.ext e8
    ((try dsimp only); rw [Cl.wSs_cons]; k_call_by "EY" [Γ_phi, Γ_sub, Γ_cls, Γ_kfs])
    refine hright _ _ _ ⟨cosT bk, d, rfl, by omega, cosT_sorted hw.ok.so, cosT_ok hw.ok, by omega, fun G9 e9 => ?_⟩
    k_call_by "EY" []
    refine hterms _ _ _ ⟨po, num r, r, ts', d, 6, 5, 6, 3, rfl, .inl rfl, hin8.ext e9, fun G10 k' bk' e10 hw' => ?_⟩
    have e11 : cosT bk' = cosT bk := by
      have := hw'.eq.trans hw.eq.symm
      injection this with _ this
      rw [this]
    dsimp only
    rw [eq_terms e11, tru_bl]
    dsimp only
    ((try dsimp only); rw [Cl.wSs_nil]; try dsimp only)
    have E10 := (e8.trans e9).trans e10
    have hin10 := hin.ext E10
    have ha10 := E10 _ _ ha8
    have hP10 := hP7.ext E10
    clear hw' e11 e10 e9 e8 hP7 ha8 hin8 hin E67
    ((try dsimp only); rw [Cl.wSs_cons]; k_call_by "EY" [])
    ((try dsimp only); rw [Cl.wSs_cons]; k_call_by "EY" [Γ_phi])
    rw [zero_num]
    have hcb0 : ∃ DX MX, (∀ t ∈ cosT bk, Bd DX (2 * MX) t.2) ∧ 0 < DX ∧ DX ≤ 2 ^ 100 ∧ MX ≤ 2 ^ 400 ∧ 6 ∣ DX := ⟨24 * wDen 6 6, wMx 5 3, cosT_bd hw.ok hin10.den.1, by decide +kernel, by decide +kernel, wMx53, by decide +kernel⟩
    obtain ⟨DX, MX, hcb, hD24, hDXs, hMx, h6⟩ := hcb0
    have hDle : DX ≤ 2 ^ 400 := Nat.le_trans hDXs (by decide)
    refine forL_0 (fun n ρ G' => (∃ x9 x10, ρ = [some (.rl (ns.map .int)), some (.ref P), some v0, some (.int d), some (.ref a), some (num r), some po, some (.tup ((cosT bk).map termP)), some (num (reachT ((cosT bk).take n))), x9, x10, x11, x12, x13, x14, x15]) ∧ Bd DX (n * (2 * MX)) (reachT ((cosT bk).take n)) ∧ G' = G10) ⟨⟨_, _, rfl⟩, Bd.zero' hD24, rfl⟩ ?_ ?_
    · rintro n v ρ G11 P2 hv ⟨⟨x9, x10, rfl⟩, hb, rfl⟩ hn2
      refine ⟨watch_nil, ?_⟩
      rw [List.getElem?_map] at hv
      obtain ⟨t, ht, rfl⟩ := Option.map_eq_some_iff.mp hv
      have hnl : n < (cosT bk).length := (List.getElem?_eq_some_iff.mp ht).1
      have bt := hcb t (List.mem_of_getElem? ht)
      have hM1 : n * (2 * MX) ≤ 2 ^ 1400 := Nat.le_trans (Nat.mul_le_mul (show n ≤ 1000 by omega) (Nat.mul_le_mul_left 2 hMx)) (by decide)
      have hM2 : 2 * MX ≤ 2 ^ 1400 := Nat.le_trans (Nat.mul_le_mul_left 2 hMx) (by decide)
      have s1 := bd_sml hb hD24 hDle hM1
      have s0 := bd_sml bt hD24 hDle hM2
      have s2 := bd_sml (rabs_bd bt) hD24 hDle hM2
      have hstep : Bd DX ((n + 1) * (2 * MX)) (reachT ((cosT bk).take n) + rabs t.2) := by
        rw [Nat.succ_mul]; exact hb.add hD24 (rabs_bd bt)
      rw [← reach_snoc ht] at hstep
      rw [termP]
      (rw [Cl.gTp2, Cl.gC_ap, Cl.gN_ap, Cl.gC_ap, Cl.gN_ap, Cl.gZ_ap]; dsimp only [List.set])
      have fin : wSs (Γ C Φ) (B []) P2 [some (.rl (ns.map .int)), some (.ref P), some v0, some (.int d), some (.ref a), some (num r), some po, some (.tup ((cosT bk).map termP)), some (num (reachT ((cosT bk).take (n + 1)))), some (wordP t.1), some (num t.2), x11, x12, x13, x14, x15] G11 := by
        rw [wSs_nil]
        exact hn2 _ _ ⟨⟨_, _, rfl⟩, hstep, rfl⟩
      rw [reach_snoc ht] at fin
      ((try dsimp only); rw [Cl.wSs_cons]; k_call_by "EY" [Γ_phi])
      refine hhalves _ _ _ ⟨t.2, rfl, ?_⟩
      k_call_by "EY" []
      by_cases h0 : 0 < t.2
      · have ea : rabs t.2 = t.2 := by unfold rabs; rw [if_pos h0]
        rw [ea] at s2 fin
        simp only [decide_eq_true (num_pos_iff.mpr h0)]
        exact hplus _ _ _ ⟨_, t.2, rfl, s1, s2, fin⟩
      · have ea : rabs t.2 = -t.2 := by unfold rabs; rw [if_neg h0]
        rw [ea] at s2 fin
        simp only [decide_eq_false (fun z => h0 (num_pos_iff.mp z))]
        have en : -1 * t.2 = -t.2 := by grind
        rw [m1_num]
        refine htimes _ _ _ ⟨-1, t.2, rfl, ⟨by decide, by decide⟩, s0, ?_⟩
        rw [en]
        exact hplus _ _ _ ⟨_, -t.2, rfl, s1, s2, fin⟩
    rintro ρ G11 ⟨⟨x9, x10, rfl⟩, hb, rfl⟩
    refine ⟨watch_nil, ?_⟩
    rw [List.length_map, List.take_length]
    ((try dsimp only); rw [Cl.wSs_cons]; k_call_by "EY" [Γ_phi])
    refine hreach _ _ _ ⟨po, num r, r, ts', d, 6, 5, 6, 3, rfl, .inl rfl, hin10, fun G12 k' bk' e12 hw' => ?_⟩
    have e11 : cosT bk' = cosT bk := by
      have := hw'.eq.trans hw.eq.symm
      injection this with _ this
      rw [this]
    dsimp only
    rw [e11, cmp_neR, decide_eq_true rfl, tru_bl]
    try dsimp only [Bool.not_true]
    ((try dsimp only); rw [Cl.wSs_nil]; try dsimp only)
    have hin12 := hin10.ext e12
    have ha12 := e12 _ _ ha10
    have hP12 := hP10.ext e12
    clear hw' e11 hb hP10 ha10 hin10 e12
    ((try dsimp only); rw [Cl.wSs_cons]; k_call_by "EY" [Γ_phi, Γ_flds])
    obtain ⟨⟨dg', hv12⟩, i2, i3, i4, i5, i6, i7, i8, i9, i10, i11, i12⟩ := id hin12
    refine hwav _ _ _ ⟨po, r, dg', ts', d, 6, 5, 6, 3, rfl, hv12, i2, i3, i4, i5, i6, i7, i8, i9, i10, i11, i12, fun G13 w k' bk' e13 hwv ow vw qw => ?_⟩
    have ek : k' = k := by
      have := qw.trans hw.eq.symm
      injection this
    obtain ⟨pw, sz, rfl, hpw⟩ := hwv
    k_call_by "EY" [Γ_flds, hpw, lk_k]
    refine ⟨by simp, ?_⟩
    rw [ek]
    have ha13 := e13 _ _ ha12
    have hP13 := hP12.ext e13
    clear hpw ow vw qw ek hP12 ha12 hin12 e13 hv12
    rw [wSs_consC]
    k_call_by "EY" []
    refine ⟨by decide, by decide, ?_⟩
    have haP13 : a ≠ P := haP
    refine forL_0 (fun m ρ G' => (∃ x9 x10 x12 x13 x14 x15, ρ = [some (.rl (ns.map .int)), some (.ref P), some v0, some (.int d), some (.ref a), some (num r), some po, some (.tup ((cosT bk).map termP)), some (num (reachT (cosT bk))), x9, x10, some (num k), x12, x13, x14, x15]) ∧ G' a = some (.lst (ts.map tmP)) ∧ Pump P (100 * n + 50 + 4 * m) G') ⟨⟨_, _, _, _, _, _, rfl⟩, ha13, hP13.up (by omega)⟩ ?_ ?_
    · rintro m v ρ G14 P2 hv ⟨⟨x9, x10, x12, x13, x14, x15, rfl⟩, ha14, hP14⟩ hn2
      have hm3 : m < 3 := by have := (List.getElem?_eq_some_iff.mp hv).1; simpa using this
      refine ⟨watch_nil, ?_⟩
      (rw [Cl.gN_ap]; dsimp only [List.set])
      ((try dsimp only); rw [Cl.wSs_cons]; k_call_by "EY" [Γ_phi])
      refine hturn _ _ _ ⟨P, _, rfl, hP14, by omega, fun ta Da G15 ua ba Da0 Da1 hP15 e15 => ?_⟩
      refine hturn _ _ _ ⟨P, _, rfl, hP15, by omega, fun tb Db G16 ub bb Db0 Db1 hP16 e16 => ?_⟩
      have ha16 := e16 _ _ haP13 (e15 _ _ haP13 ha14)
      obtain ⟨D, hDa, hDb, hD6, hD0, hDs⟩ : ∃ D, Da ∣ D ∧ Db ∣ D ∧ 6 ∣ D ∧ 0 < D ∧ D ≤ 2 ^ 12 := by
        refine ⟨6 * (Da * Db), Nat.dvd_mul_left_of_dvd (Nat.dvd_mul_right _ _) _, Nat.dvd_mul_left_of_dvd (Nat.dvd_mul_left _ _) _, Nat.dvd_mul_right _ _, Nat.mul_pos (by decide) (Nat.mul_pos Da0 Db0), ?_⟩
        exact Nat.le_trans (Nat.mul_le_mul_left 6 (Nat.mul_le_mul Da1 Db1)) (by decide)
      have ba := ba.up hDa
      have bb := bb.up hDb
      have D3 : 3 ≤ D := by have := Nat.le_of_dvd hD0 hD6; omega
      have br : Bd D D r := rb.up hD6 D3
      dsimp only
      ((try dsimp only); rw [Cl.wSs_cons]; k_call_by "EY" [Γ_phi])
      refine hpen _ _ _ ⟨r, ta, tb, D, rfl, br, ba, bb, hD0, Nat.le_trans hDs (by decide), ?_⟩
      have h0 := Nat.mul_pos hD0 hD0
      have hbx : Bd (D * (D * D)) (D * 4) (r * ((tmul ta ta).1 + (tmul tb tb).1)) := br.mul (((ba.mul hD0 hD0 ba).c).add h0 ((bb.mul hD0 hD0 bb).c))
      have hby : Bd (D * (D * D)) (D * 4) (r * ((tmul ta ta).2 + (tmul tb tb).2)) := br.mul (((ba.mul hD0 hD0 ba).s).add h0 ((bb.mul hD0 hD0 bb).s))
      have hsum := law_sum hw ua ub
      generalize r * ((tmul ta ta).1 + (tmul tb tb).1) = X at *
      generalize r * ((tmul ta ta).2 + (tmul tb tb).2) = Y at *
      have d3 : D * (D * D) ≤ 2 ^ 36 := Nat.le_trans (Nat.mul_le_mul hDs (Nat.mul_le_mul hDs hDs)) (by decide)
      have d30 : 0 < D * (D * D) := Nat.mul_pos hD0 h0
      have m4 : D * 4 ≤ 2 ^ 14 := Nat.le_trans (Nat.mul_le_mul_right 4 hDs) (by decide)
      have hDP : 6 * (D * (D * D)) ^ 6 ≤ 2 ^ 220 := Nat.le_trans (Nat.mul_le_mul_left 6 (Nat.pow_le_pow_left d3 6)) (by decide)
      have hMP : 5 * (D * 4) ^ 6 ≤ 2 ^ 90 := Nat.le_trans (Nat.mul_le_mul_left 5 (Nat.pow_le_pow_left m4 6)) (by decide)
      have htb : ∀ t ∈ ts, t.i + t.j ≤ 6 ∧ Bd 6 5 t.q := fun t ht => by
        obtain ⟨k1, _, k3⟩ := hts.t t ht
        exact ⟨by omega, k3⟩
      refine hvalue _ _ _ ⟨.ref a, X, Y, ts, 6, 6, 5, D * (D * D), D * 4, rfl, ⟨a, rfl, ha16⟩, by omega, htb, by decide, hbx, hby, by decide, d30, by omega, by decide, Nat.le_trans hDP (by decide), Nat.le_trans hMP (by decide), ?_⟩
      have hvb := lin_bd hbx hby (by decide) d30 (show 0 < D * 4 by omega) ts htb
      rw [lin_perm (pxy X Y) pm] at hsum
      generalize lin (pxy X Y) ts = V at *
      have hlen5 : ts.length ≤ 5 := by omega
      -- one denominator
      obtain ⟨E, hE1, hE2, hE0, hEs⟩ : ∃ E, 6 * (D * (D * D)) ^ 6 ∣ E ∧ DX * (D ^ 12 * 25) ∣ E ∧ 0 < E ∧ E ≤ 2 ^ 400 := by
        have e3 : (D * (D * D)) ^ 6 = D ^ 18 := by
          have : D * (D * D) = D ^ 3 := by rw [Nat.pow_succ, Nat.pow_succ, Nat.pow_one]; exact (Nat.mul_assoc _ _ _).symm
          rw [this, ← Nat.pow_mul]
        have s18 : D ^ 18 ≤ 2 ^ 216 := Nat.le_trans (Nat.pow_le_pow_left hDs 18) (by decide)
        refine ⟨DX * (D ^ 18 * 25), ?_, Nat.mul_dvd_mul_left _ (Nat.mul_dvd_mul_right (Nat.pow_dvd_pow _ (by decide)) _), Nat.mul_pos hD24 (Nat.mul_pos (Nat.pow_pos hD0) (by decide)), ?_⟩
        · rw [e3]
          exact Nat.mul_dvd_mul h6 (Nat.dvd_mul_right _ _)
        · exact Nat.le_trans (Nat.mul_le_mul hDXs (Nat.mul_le_mul_right 25 s18)) (by decide)
      have hV : Bd E (2 ^ 500) V := hvb.up hE1 (Nat.le_trans (Nat.mul_le_mul hlen5 hMP) (by decide))
      clear hvb hE1 hbx hby d3 d30 m4 hDP hMP htb br D3 h0
      have hMt : 2 * MX * 2 ^ 16 ≤ 2 ^ 420 := Nat.le_trans (Nat.mul_le_mul_right _ (Nat.mul_le_mul_left 2 hMx)) (by decide)
      ((try dsimp only); rw [Cl.wSs_cons]; k_call_by "EY" [])
      refine forL_0 (fun j ρ G' => (∃ x9 x10, ρ = [some (.rl (ns.map .int)), some (.ref P), some v0, some (.int d), some (.ref a), some (num r), some po, some (.tup ((cosT bk).map termP)), some (num (reachT (cosT bk))), x9, x10, some (num k), some v, some (pvT ta), some (pvT tb), some (num (V - csum (psi ta tb) ((cosT bk).take j)))]) ∧ Bd E (2 ^ 500 + j * 2 ^ 420) (V - csum (psi ta tb) ((cosT bk).take j)) ∧ G' = G16) ⟨⟨_, _, by
        have : V - csum (psi ta tb) ((cosT bk).take 0) = V := by simp only [List.take_zero, csum]; grind
        rw [this]⟩, by
        have : V - csum (psi ta tb) ((cosT bk).take 0) = V := by simp only [List.take_zero, csum]; grind
        rw [this]; exact hV.up (Nat.dvd_refl _) (by omega), rfl⟩ ?_ ?_
      · rintro j u ρ G17 P3 hv3 ⟨⟨x9, x10, rfl⟩, hb, rfl⟩ hn3
        refine ⟨watch_nil, ?_⟩
        rw [List.getElem?_map] at hv3
        obtain ⟨t, ht, rfl⟩ := Option.map_eq_some_iff.mp hv3
        have hjl : j < (cosT bk).length := (List.getElem?_eq_some_iff.mp ht).1
        have htm := List.mem_of_getElem? ht
        have bt := hcb t htm
        obtain ⟨_, _, _, c4, _, c6⟩ := cosT_ok hw.ok t htm
        have hpq : t.1.p.natAbs + t.1.q.natAbs ≤ 12 := by omega
        have hl2 : t.1.l.natAbs ≤ 2 := by omega
        have bp := psi_bd ba bb hD0 hpq hl2
        have btp := (bt.mul bp).up hE2 hMt
        have sD : D ^ 12 * 25 ≤ 2 ^ 400 := Nat.le_trans (Nat.mul_le_mul_right 25 (Nat.pow_le_pow_left hDs 12)) (by decide)
        rw [termP]
        (rw [Cl.gTp2, Cl.gC_ap, Cl.gN_ap, Cl.gC_ap, Cl.gN_ap, Cl.gZ_ap]; dsimp only [List.set])
        have hj : 2 ^ 500 + j * 2 ^ 420 ≤ 2 ^ 1400 := Nat.le_trans (Nat.add_le_add_left (Nat.mul_le_mul_right _ (show j ≤ 1000 by omega)) _) (by decide)
        ((try dsimp only); rw [Cl.wSs_cons]; k_call_by "EY" [Γ_phi])
        refine hcos _ _ _ ⟨t.1, ta, tb, D, rfl, ba, bb, hD0, Nat.le_trans hDs (by decide), hpq, hl2, ?_⟩
        refine htimes _ _ _ ⟨t.2, psi ta tb t.1, rfl, bd_sml bt hD24 hDle (Nat.le_trans (Nat.mul_le_mul_left 2 hMx) (by decide)), bd_sml bp (Nat.mul_pos (Nat.pow_pos hD0) (by decide)) sD (by decide), ?_⟩
        refine hless _ _ _ ⟨_, _, rfl, bd_sml hb hE0 hEs hj, bd_sml btp hE0 hEs (by decide), ?_⟩
        have e : V - csum (psi ta tb) ((cosT bk).take j) - t.2 * psi ta tb t.1 = V - csum (psi ta tb) ((cosT bk).take (j + 1)) := by
          rw [csum_snoc _ ht]; grind
        have hb' := Bd.sub' hE0 hb btp
        rw [e] at hb' ⊢
        ((try dsimp only); rw [Cl.wSs_nil]; try dsimp only)
        refine hn3 _ _ ⟨⟨_, _, rfl⟩, ?_, rfl⟩
        rw [Nat.succ_mul, ← Nat.add_assoc]; exact hb'
      rintro ρ G17 ⟨⟨x9, x10, rfl⟩, hb, rfl⟩
      refine ⟨watch_nil, ?_⟩
      rw [List.length_map, List.take_length, hsum]
      ((try dsimp only); rw [Cl.wSs_cons]; k_call_by "EY" [])
      rw [cmp_neR, decide_eq_true rfl, tru_bl]
      try dsimp only [Bool.not_true]
      ((try dsimp only); rw [Cl.wSs_nil]; try dsimp only)
      ((try dsimp only); rw [Cl.wSs_nil]; try dsimp only)
      exact hn2 _ _ ⟨⟨_, _, _, _, _, _, rfl⟩, ha16, hP16.up (by omega)⟩
    rintro ρ G14 ⟨⟨x9, x10, x12, x13, x14, x15, rfl⟩, ha14, hP14⟩
    refine ⟨watch_nil, ?_⟩
    dsimp only
    rw [wSs_nilC]
    refine hn _ _ ⟨⟨_, _, _, _, _, _, _, _, _, _, _, _, _, _, rfl⟩, hP14.up ?_⟩
    simp; omega
  · rintro ρ G1 ⟨⟨x2, x3, x4, x5, x6, x7, x8, x9, x10, x11, x12, x13, x14, x15, rfl⟩, hP1⟩
    refine ⟨watch_nil, ?_⟩
    dsimp only
    ((try dsimp only); rw [Cl.wSs_at (l := l53) (k := 2) rfl]; k_call_by "EY" [Γ_phi, Γ_mks])
    refine ⟨by decide, fun p0 hp0 => ?_⟩
    intro p3 hp3
    have hp03 : p0 ≠ p3 := fun z => by subst z; rw [pup_same] at hp3; cases hp3
    refine hmk _ _ _ ⟨p3, .ref p0, [], rfl, pup_same, (IsTms.inn ⟨p0, rfl, by rw [pup_ne hp03]; exact pup_same⟩), (fun _ h => nomatch h), List.Pairwise.nil, by simp, fun G7 ts' dg pm _ e7 hpo => ⟨rfl, ?_⟩⟩
    rw [three_num]
    refine hterms _ _ _ ⟨_, num 3, 3, ts', 0, 1, 7, 1, 3, rfl, .inl rfl, const_in hpo (fun t ht => by have := pm.mem_iff.mp ht; cases this) (by rw [pm.length_eq]; simp), fun G8 k bk e8 hw => ?_⟩
    rw [const_bk hw]
    k_call_by "EY" []
    refine ⟨by decide, ?_⟩
    rw [show (cosT [] : List Ct) = [] from rfl, List.map_nil, eq_nil, tru_bl]
    dsimp only
    refine ⟨by decide, by decide, fun p1 hp1 => ?_⟩
    intro p4 hp4
    have hp14 : p1 ≠ p4 := fun z => by subst z; rw [pup_same] at hp4; cases hp4
    have e7t : PV.tup [.int 0, .int 0, .int 7] = tmP ⟨0, 0, 7⟩ := by unfold tmP; rw [← num_ofI (q := 7) (a := 7) (by decide +kernel) (by decide +kernel)]; rfl
    rw [e7t] at hp4 ⊢
    refine hmk _ _ _ ⟨p4, .ref p1, [⟨0, 0, 7⟩], rfl, pup_same, (IsTms.inn ⟨p1, rfl, by rw [pup_ne hp14]; exact pup_same⟩), (fun t h => by simp at h; subst h; exact ⟨by decide, by decide +kernel⟩), List.pairwise_singleton _ _, by simp, fun G9 ts2 dg2 pm2 _ e9 hpo2 => ⟨rfl, ?_⟩⟩
    refine hreach _ _ _ ⟨_, num 3, 3, ts2, 0, 1, 7, 1, 3, rfl, .inl rfl, const_in hpo2 (fun t ht => by have := pm2.mem_iff.mp ht; simpa using this) (by rw [pm2.length_eq]; simp), fun G10 k2 bk2 e10 hw2 => ?_⟩
    rw [const_bk hw2]
    rw [show reachT (cosT []) = 0 from rfl]
    dsimp only
    rw [cmp_eq0, decide_eq_true rfl]
    exact hQ _
end
end K51
set_option Elab.async false
set_option linter.all false
set_option maxRecDepth 100000
set_option maxHeartbeats 0
namespace K51
open PySem PySem.Spec PyProof.Rows L2 Cl
def dfs : List He.DefD := tab.map (·.d)
def fas : List He.Fa := ([.glo "is_integer", .glo "is_within", .glo "is_list", .glo "common", .glo "is_number", .glo "kept", .glo "need_number", .glo "need_above", .glo "halves", .glo "lowest", .glo "added", .glo "turned", .glo "less_by", .glo "product", .glo "sign_in", .glo "is_term", .glo "need_poly", .glo "size_of", .glo "is_beat", .glo "is_row", .glo "need_waves", .glo "put", .glo "of_book", .glo "rows_of", .glo "sum_of_waves", .glo "product_of_waves", .glo "waves_in", .glo "waves_of", .glo "cosines", .glo "put_at"] : List He.Fa) ++ ([.glo "alone_from", .glo "made_in", .glo "put_down", .glo "steps_in", .glo "need_plan", .glo "terms_for", .glo "reach_for", .glo "_law_churn", .glo "_law_stir", .glo "_law_pick", .glo "_law_halves", .glo "_law_low", .glo "_law_plus", .glo "_law_times", .glo "_law_less", .glo "_law_added", .glo "_law_multiplied", .glo "_law_poly", .glo "_law_value", .glo "_law_turn", .glo "_law_pen", .glo "_law_cosine", .glo "_law_words_right", .glo "law", .free "abs", .free "all", .free "bool", .free "enumerate", .free "int", .free "isinstance"] : List He.Fa) ++ ([.free "len", .free "list", .free "max", .free "range", .free "sorted", .free "tuple", .int "MOST_DEGREE" 6, .int "MOST_SIZE" 6, .glo "HALF", .glo "COSINE", .glo "LATER", .glo "NO_BEAT", .glo "FIRST_WORDS", .glo "ARM_WORDS", .glo "Waves", .cls "Waves", .noat "Waves" "rows", .noat "Waves" "constant", .noat "Waves" "terms", .noat "Waves" "degree", .noat "Waves" "size", .noat "Waves" "words", .glo "Plan", .cls "Plan", .noat "Plan" "rows", .noat "Plan" "constant", .noat "Plan" "terms", .noat "Plan" "degree", .noat "Plan" "size", .noat "Plan" "words"] : List He.Fa) ++ ([.glo "Poly", .cls "Poly", .noat "Poly" "rows", .noat "Poly" "constant", .noat "Poly" "terms", .noat "Poly" "degree", .noat "Poly" "size", .noat "Poly" "words", .mkr "Waves", .mkr "Plan", .mkr "Poly", .meth "Plan" "reach"] : List He.Fa)
def ex (K : Frag) : Bool := true && hasV K (.tup [.int 1, .int 2]) (.ref (He.ga K "HALF")) && hasV K (.tup [.int 7, .int 24]) (.ref (He.ga K "COSINE")) && hasV K (.tup [.int (-25), .int 24]) (.ref (He.ga K "LATER")) && hasV K (.tup [.int 0, .int 0]) (.ref (He.ga K "NO_BEAT")) && hasV K (.tup [.tup [.int 0, .int 0, .int 0], .tup [.int 1, .int 0, .int 0], .tup [.int 0, .int 1, .int 0], .tup [.int 0, .int 0, .int 1]]) (.ref (He.ga K "FIRST_WORDS")) && hasV K (.tup [.tup [.int 2, .int 0, .int 0], .tup [.int 0, .int 2, .int 0]]) (.ref (He.ga K "ARM_WORDS")) && clsB K [He.ga K "Poly", He.ga K "Waves"]
def loose : List Str := (["_wall", "CurveError", "BadNumber", "BadPoly", "BadWaves", "is_integer", "is_within", "is_list", "common", "is_number", "kept", "need_number", "need_above", "halves", "lowest", "added", "turned", "less_by", "product", "sign_in", "MOST_DEGREE", "is_term", "Poly", "need_poly", "MOST_SIZE", "HALF", "COSINE", "LATER", "NO_BEAT", "size_of"] : List Str) ++ (["is_beat", "is_row", "Waves", "need_waves", "put", "of_book", "rows_of", "sum_of_waves", "product_of_waves", "waves_in", "waves_of", "cosines", "FIRST_WORDS", "put_at", "alone_from", "made_in", "put_down", "steps_in", "ARM_WORDS", "Plan", "need_plan", "terms_for", "reach_for", "_law_churn", "_law_stir", "_law_pick", "_law_halves", "_law_low", "_law_plus", "_law_times"] : List Str) ++ (["_law_less", "_law_added", "_law_multiplied", "_law_poly", "_law_value", "_law_turn", "_law_pen", "_law_cosine", "_law_words_right"] : List Str)
abbrev R : PySem.W.OpenRow := PySem.W.OpenLaw.row PySem.Challenge.rw_typedcurve_k51_terms_make_the_curve
abbrev hkH : PySem.W.Hook := He.hookX 4 fas dfs [] [] ex
def ob (s : PySem.W.SharedT) : He.AlX := He.obsX 4 fas dfs [] [] ex (HandSHeadRun.getT s)
theorem ob_eq (s : PySem.W.SharedT) : ob s = hkH.obs s.abs := He.obsX_eq (HandSHeadRun.getT_eq s)
theorem run (w : World) : HandSHeadRun.RunEq R (PySem.W.view R.prog [77]) hkH ob 20000 loose w := by
  intro os
  kernel_rfl
end K51
set_option Elab.async false
set_option linter.all false
set_option maxRecDepth 100000
set_option maxHeartbeats 4000000
set_option exponentiation.threshold 10000
namespace K51
open PySem PySem.Spec PyProof.Rows L2 Cl
theorem len0 {C : Nat → Addr} : ∀ args G Q, (spTy isIntB) args G Q → args.length = 1 := by
  rintro args G Q ⟨_, _, rfl, _⟩
  rfl
theorem len1 {C : Nat → Addr} : ∀ args G Q, spWithin args G Q → args.length = 3 := by
  rintro args G Q ⟨_, _, h⟩
  rcases h with ⟨rfl, _⟩ | ⟨_, rfl, _⟩ <;> rfl
theorem len2 {C : Nat → Addr} : ∀ args G Q, (spTy isListB) args G Q → args.length = 1 := by
  rintro args G Q ⟨_, _, rfl, _⟩
  rfl
theorem len3 {C : Nat → Addr} : ∀ args G Q, spCommon args G Q → args.length = 2 := by
  rintro args G Q ⟨_, _, rfl, _⟩
  rfl
theorem len4 {C : Nat → Addr} : ∀ args G Q, spIsNum args G Q → args.length = 1 := by
  rintro args G Q ⟨_, _, rfl, _⟩
  rfl
theorem len5 {C : Nat → Addr} : ∀ args G Q, spKept args G Q → args.length = 1 := by
  rintro args G Q ⟨_, _, rfl, _⟩
  rfl
theorem len6 {C : Nat → Addr} : ∀ args G Q, spNeedNum args G Q → args.length = 2 := by
  rintro args G Q ⟨_, _, rfl, _⟩
  rfl
theorem len7 {C : Nat → Addr} : ∀ args G Q, spAbove args G Q → args.length = 2 := by
  rintro args G Q ⟨_, _, _, rfl, _⟩
  rfl
theorem len8 {C : Nat → Addr} : ∀ args G Q, spHalves args G Q → args.length = 1 := by
  rintro args G Q ⟨_, rfl, _⟩
  rfl
theorem len9 {C : Nat → Addr} : ∀ args G Q, spLowest args G Q → args.length = 2 := by
  rintro args G Q ⟨_, _, rfl, _⟩
  rfl
theorem len10 {C : Nat → Addr} : ∀ args G Q, spAdd args G Q → args.length = 2 := by
  rintro args G Q ⟨_, _, rfl, _⟩
  rfl
theorem len11 {C : Nat → Addr} : ∀ args G Q, spNeg args G Q → args.length = 1 := by
  rintro args G Q ⟨_, rfl, _⟩
  rfl
theorem len12 {C : Nat → Addr} : ∀ args G Q, spSub args G Q → args.length = 2 := by
  rintro args G Q ⟨_, _, rfl, _⟩
  rfl
theorem len13 {C : Nat → Addr} : ∀ args G Q, spMul args G Q → args.length = 2 := by
  rintro args G Q ⟨_, _, rfl, _⟩
  rfl
theorem len14 {C : Nat → Addr} : ∀ args G Q, spSign args G Q → args.length = 1 := by
  rintro args G Q ⟨_, rfl, _⟩
  rfl
theorem len15 {C : Nat → Addr} : ∀ args G Q, spTerm args G Q → args.length = 1 := by
  rintro args G Q ⟨_, _, rfl, _⟩
  rfl
theorem len16 {C : Nat → Addr} : ∀ args G Q, (spNeedPoly (C 2)) args G Q → args.length = 2 := by
  rintro args G Q ⟨_, _, _, rfl, _⟩
  rfl
theorem len17 {C : Nat → Addr} : ∀ args G Q, spSizeOf args G Q → args.length = 1 := by
  rintro args G Q ⟨_, _, rfl, _⟩
  rfl
theorem len18 {C : Nat → Addr} : ∀ args G Q, spBeat args G Q → args.length = 1 := by
  rintro args G Q ⟨_, _, rfl, _⟩
  rfl
theorem len19 {C : Nat → Addr} : ∀ args G Q, spRow args G Q → args.length = 1 := by
  rintro args G Q ⟨_, rfl, _⟩
  rfl
theorem len20 {C : Nat → Addr} : ∀ args G Q, (spNeedWav (C 0)) args G Q → args.length = 2 := by
  rintro args G Q ⟨_, _, _, _, rfl, _⟩
  rfl
theorem len21 {C : Nat → Addr} : ∀ args G Q, spPut args G Q → args.length = 4 := by
  rintro args G Q ⟨_, _, _, _, _, _, rfl, _⟩
  rfl
theorem len22 {C : Nat → Addr} : ∀ args G Q, (spOfBook (C 0)) args G Q → args.length = 1 := by
  rintro args G Q ⟨_, _, _, _, _, rfl, _⟩
  rfl
theorem len23 {C : Nat → Addr} : ∀ args G Q, (spRowsOf (C 0)) args G Q → args.length = 1 := by
  rintro args G Q ⟨_, _, _, rfl, _⟩
  rfl
theorem len24 {C : Nat → Addr} : ∀ args G Q, (spSum (C 0)) args G Q → args.length = 2 := by
  rintro args G Q ⟨_, _, _, _, _, _, _, _, _, rfl, _⟩
  rfl
theorem len25 {C : Nat → Addr} : ∀ args G Q, (spMulW (C 0)) args G Q → args.length = 2 := by
  rintro args G Q ⟨_, _, _, _, _, _, _, _, _, _, _, _, rfl, _⟩
  rfl
theorem len26 {C : Nat → Addr} : ∀ args G Q, (spWavesIn (C 0) (C 2)) args G Q → args.length = 2 := by
  rintro args G Q ⟨_, _, _, _, _, _, _, _, _, rfl, _⟩
  rfl
theorem len27 {C : Nat → Addr} : ∀ args G Q, (spWavesIn (C 0) (C 2)) args G Q → args.length = 2 := by
  rintro args G Q ⟨_, _, _, _, _, _, _, _, _, rfl, _⟩
  rfl
theorem len28 {C : Nat → Addr} : ∀ args G Q, (spCosines (C 0)) args G Q → args.length = 1 := by
  rintro args G Q ⟨_, _, _, _, _, _, rfl, _⟩
  rfl
theorem len29 {C : Nat → Addr} : ∀ args G Q, spPutAt args G Q → args.length = 2 := by
  rintro args G Q ⟨_, _, rfl, _⟩
  rfl
theorem len30 {C : Nat → Addr} : ∀ args G Q, spAloneFrom args G Q → args.length = 2 := by
  rintro args G Q ⟨_, _, rfl, _⟩
  rfl
theorem len31 {C : Nat → Addr} : ∀ args G Q, spMadeIn args G Q → args.length = 1 := by
  rintro args G Q ⟨_, rfl, _⟩
  rfl
theorem len32 {C : Nat → Addr} {m : Nat} : ∀ args G Q, (spPutDown m) args G Q → args.length = 2 := by
  rintro args G Q ⟨_, _, _, rfl, _⟩
  rfl
theorem len33 {C : Nat → Addr} : ∀ args G Q, spStepsIn args G Q → args.length = 1 := by
  rintro args G Q ⟨_, _, rfl, _⟩
  rfl
theorem len34 {C : Nat → Addr} : ∀ args G Q, (spPlanOf (C 1) (C 2)) args G Q → args.length = 2 := by
  rintro args G Q ⟨_, _, _, _, _, _, _, _, _, rfl, _⟩
  rfl
theorem len35 {C : Nat → Addr} : ∀ args G Q, (spTermsFor (C 2)) args G Q → args.length = 2 := by
  rintro args G Q ⟨_, _, _, _, _, _, _, _, _, rfl, _⟩
  rfl
theorem len36 {C : Nat → Addr} : ∀ args G Q, (spReachFor (C 2)) args G Q → args.length = 2 := by
  rintro args G Q ⟨_, _, _, _, _, _, _, _, _, rfl, _⟩
  rfl
theorem len37 {C : Nat → Addr} : ∀ args G Q, spPump args G Q → args.length = 1 := by
  rintro args G Q ⟨_, rfl, _⟩
  rfl
theorem len38 {C : Nat → Addr} : ∀ args G Q, spStroke args G Q → args.length = 2 := by
  rintro args G Q ⟨_, _, _, rfl, _⟩
  rfl
theorem len39 {C : Nat → Addr} : ∀ args G Q, spOne args G Q → args.length = 2 := by
  rintro args G Q ⟨_, _, _, _, rfl, _⟩
  rfl
theorem len40 {C : Nat → Addr} : ∀ args G Q, spHalves args G Q → args.length = 1 := by
  rintro args G Q ⟨_, rfl, _⟩
  rfl
theorem len41 {C : Nat → Addr} : ∀ args G Q, spLowest args G Q → args.length = 2 := by
  rintro args G Q ⟨_, _, rfl, _⟩
  rfl
theorem len42 {C : Nat → Addr} : ∀ args G Q, spAdd args G Q → args.length = 2 := by
  rintro args G Q ⟨_, _, rfl, _⟩
  rfl
theorem len43 {C : Nat → Addr} : ∀ args G Q, spMul args G Q → args.length = 2 := by
  rintro args G Q ⟨_, _, rfl, _⟩
  rfl
theorem len44 {C : Nat → Addr} : ∀ args G Q, spSub args G Q → args.length = 2 := by
  rintro args G Q ⟨_, _, rfl, _⟩
  rfl
theorem len45 {C : Nat → Addr} : ∀ args G Q, spAddT args G Q → args.length = 2 := by
  rintro args G Q ⟨_, _, rfl, _⟩
  rfl
theorem len46 {C : Nat → Addr} : ∀ args G Q, spTimesT args G Q → args.length = 2 := by
  rintro args G Q ⟨_, _, _, rfl, _⟩
  rfl
theorem len47 {C : Nat → Addr} : ∀ args G Q, spPolyT args G Q → args.length = 3 := by
  rintro args G Q ⟨_, _, _, _, rfl, _⟩
  rfl
theorem len48 {C : Nat → Addr} : ∀ args G Q, spValueP args G Q → args.length = 2 := by
  rintro args G Q ⟨_, _, _, _, _, _, _, _, _, rfl, _⟩
  rfl
theorem len49 {C : Nat → Addr} : ∀ args G Q, spTurnT args G Q → args.length = 1 := by
  rintro args G Q ⟨_, _, rfl, _⟩
  rfl
theorem len50 {C : Nat → Addr} : ∀ args G Q, spPenT args G Q → args.length = 3 := by
  rintro args G Q ⟨_, _, _, _, rfl, _⟩
  rfl
theorem len51 {C : Nat → Addr} : ∀ args G Q, spCosT args G Q → args.length = 3 := by
  rintro args G Q ⟨_, _, _, _, rfl, _⟩
  rfl
theorem len52 {C : Nat → Addr} : ∀ args G Q, spWordsRight args G Q → args.length = 2 := by
  rintro args G Q ⟨_, _, rfl, _⟩
  rfl
theorem len53 {C : Nat → Addr} : ∀ args G Q, spLaw args G Q → args.length = 1 := by
  rintro args G Q ⟨_, rfl, _⟩
  rfl
theorem len54 {C : Nat → Addr} : ∀ args G Q, (spPoly (C 2)) args G Q → args.length = 2 := by
  rintro args G Q ⟨_, _, _, rfl, _⟩
  rfl
theorem len55 {C : Nat → Addr} : ∀ args G Q, (spWavI (C 0)) args G Q → args.length = 3 := by
  rintro args G Q ⟨_, _, _, _, rfl, _⟩
  rfl
theorem len56 {C : Nat → Addr} : ∀ args G Q, (spPlanI (C 0) (C 1) (C 2)) args G Q → args.length = 3 := by
  rintro args G Q ⟨_, _, _, _, _, _, _, _, _, rfl, _⟩
  rfl
theorem len57 {C : Nat → Addr} : ∀ args G Q, (spReach (C 1)) args G Q → args.length = 1 := by
  rintro args G Q ⟨_, _, _, _, _, rfl, _⟩
  rfl
def S (C : Nat → Addr) : Nat → Nat → PSp
  | k, 0 => lv 1 k ((spTy isIntB))
  | k, 1 => lv 2 k (spWithin)
  | k, 2 => lv 1 k ((spTy isListB))
  | k, 3 => lv 1 k (spCommon)
  | k, 4 => lv 3 k (spIsNum)
  | k, 5 => lv 1 k (spKept)
  | k, 6 => lv 4 k (spNeedNum)
  | k, 7 => lv 4 k (spAbove)
  | k, 8 => lv 1 k (spHalves)
  | k, 9 => lv 2 k (spLowest)
  | k, 10 => lv 3 k (spAdd)
  | k, 11 => lv 2 k (spNeg)
  | k, 12 => lv 4 k (spSub)
  | k, 13 => lv 3 k (spMul)
  | k, 14 => lv 2 k (spSign)
  | k, 15 => lv 4 k (spTerm)
  | k, 16 => lv 1 k ((spNeedPoly (C 2)))
  | k, 17 => lv 1 k (spSizeOf)
  | k, 18 => lv 3 k (spBeat)
  | k, 19 => lv 4 k (spRow)
  | k, 20 => lv 1 k ((spNeedWav (C 0)))
  | k, 21 => lv 4 k (spPut)
  | k, 22 => lv 6 k ((spOfBook (C 0)))
  | k, 23 => lv 1 k ((spRowsOf (C 0)))
  | k, 24 => lv 7 k ((spSum (C 0)))
  | k, 25 => lv 7 k ((spMulW (C 0)))
  | k, 26 => lv 8 k ((spWavesIn (C 0) (C 2)))
  | k, 27 => lv 9 k ((spWavesIn (C 0) (C 2)))
  | k, 28 => lv 4 k ((spCosines (C 0)))
  | k, 29 => lv 1 k (spPutAt)
  | k, 30 => lv 2 k (spAloneFrom)
  | k, 31 => lv 3 k (spMadeIn)
  | k, 32 => fun args G Q => ∃ m, m + 4 ≤ k ∧ (spPutDown m) args G Q
  | k, 33 => lv 29 k (spStepsIn)
  | k, 34 => lv 31 k ((spPlanOf (C 1) (C 2)))
  | k, 35 => lv 32 k ((spTermsFor (C 2)))
  | k, 36 => lv 32 k ((spReachFor (C 2)))
  | k, 37 => lv 1 k (spPump)
  | k, 38 => lv 1 k (spStroke)
  | k, 39 => lv 2 k (spOne)
  | k, 40 => lv 1 k (spHalves)
  | k, 41 => lv 1 k (spLowest)
  | k, 42 => lv 2 k (spAdd)
  | k, 43 => lv 2 k (spMul)
  | k, 44 => lv 3 k (spSub)
  | k, 45 => lv 4 k (spAddT)
  | k, 46 => lv 5 k (spTimesT)
  | k, 47 => lv 3 k (spPolyT)
  | k, 48 => lv 3 k (spValueP)
  | k, 49 => lv 2 k (spTurnT)
  | k, 50 => lv 5 k (spPenT)
  | k, 51 => lv 6 k (spCosT)
  | k, 52 => lv 1 k (spWordsRight)
  | k, 53 => lv 33 k (spLaw)
  | k, 54 => lv 5 k ((spPoly (C 2)))
  | k, 55 => lv 5 k ((spWavI (C 0)))
  | k, 56 => lv 30 k ((spPlanI (C 0) (C 1) (C 2)))
  | k, 57 => lv 4 k ((spReach (C 1)))
  | _, _ => fun _ _ _ => False
section
variable {C : Nat → Addr} {k : Nat}
theorem hs0 (h : 1 ≤ k) : Has (S C k) 0 ((spTy isIntB)) := fun _ _ _ z => show _ ∧ _ from ⟨h, z⟩
theorem hs1 (h : 2 ≤ k) : Has (S C k) 1 (spWithin) := fun _ _ _ z => show _ ∧ _ from ⟨h, z⟩
theorem hs2 (h : 1 ≤ k) : Has (S C k) 2 ((spTy isListB)) := fun _ _ _ z => show _ ∧ _ from ⟨h, z⟩
theorem hs3 (h : 1 ≤ k) : Has (S C k) 3 (spCommon) := fun _ _ _ z => show _ ∧ _ from ⟨h, z⟩
theorem hs4 (h : 3 ≤ k) : Has (S C k) 4 (spIsNum) := fun _ _ _ z => show _ ∧ _ from ⟨h, z⟩
theorem hs5 (h : 1 ≤ k) : Has (S C k) 5 (spKept) := fun _ _ _ z => show _ ∧ _ from ⟨h, z⟩
theorem hs6 (h : 4 ≤ k) : Has (S C k) 6 (spNeedNum) := fun _ _ _ z => show _ ∧ _ from ⟨h, z⟩
theorem hs7 (h : 4 ≤ k) : Has (S C k) 7 (spAbove) := fun _ _ _ z => show _ ∧ _ from ⟨h, z⟩
theorem hs8 (h : 1 ≤ k) : Has (S C k) 8 (spHalves) := fun _ _ _ z => show _ ∧ _ from ⟨h, z⟩
theorem hs9 (h : 2 ≤ k) : Has (S C k) 9 (spLowest) := fun _ _ _ z => show _ ∧ _ from ⟨h, z⟩
theorem hs10 (h : 3 ≤ k) : Has (S C k) 10 (spAdd) := fun _ _ _ z => show _ ∧ _ from ⟨h, z⟩
theorem hs11 (h : 2 ≤ k) : Has (S C k) 11 (spNeg) := fun _ _ _ z => show _ ∧ _ from ⟨h, z⟩
theorem hs12 (h : 4 ≤ k) : Has (S C k) 12 (spSub) := fun _ _ _ z => show _ ∧ _ from ⟨h, z⟩
theorem hs13 (h : 3 ≤ k) : Has (S C k) 13 (spMul) := fun _ _ _ z => show _ ∧ _ from ⟨h, z⟩
theorem hs14 (h : 2 ≤ k) : Has (S C k) 14 (spSign) := fun _ _ _ z => show _ ∧ _ from ⟨h, z⟩
theorem hs15 (h : 4 ≤ k) : Has (S C k) 15 (spTerm) := fun _ _ _ z => show _ ∧ _ from ⟨h, z⟩
theorem hs16 (h : 1 ≤ k) : Has (S C k) 16 ((spNeedPoly (C 2))) := fun _ _ _ z => show _ ∧ _ from ⟨h, z⟩
theorem hs17 (h : 1 ≤ k) : Has (S C k) 17 (spSizeOf) := fun _ _ _ z => show _ ∧ _ from ⟨h, z⟩
theorem hs18 (h : 3 ≤ k) : Has (S C k) 18 (spBeat) := fun _ _ _ z => show _ ∧ _ from ⟨h, z⟩
theorem hs19 (h : 4 ≤ k) : Has (S C k) 19 (spRow) := fun _ _ _ z => show _ ∧ _ from ⟨h, z⟩
theorem hs20 (h : 1 ≤ k) : Has (S C k) 20 ((spNeedWav (C 0))) := fun _ _ _ z => show _ ∧ _ from ⟨h, z⟩
theorem hs21 (h : 4 ≤ k) : Has (S C k) 21 (spPut) := fun _ _ _ z => show _ ∧ _ from ⟨h, z⟩
theorem hs22 (h : 6 ≤ k) : Has (S C k) 22 ((spOfBook (C 0))) := fun _ _ _ z => show _ ∧ _ from ⟨h, z⟩
theorem hs23 (h : 1 ≤ k) : Has (S C k) 23 ((spRowsOf (C 0))) := fun _ _ _ z => show _ ∧ _ from ⟨h, z⟩
theorem hs24 (h : 7 ≤ k) : Has (S C k) 24 ((spSum (C 0))) := fun _ _ _ z => show _ ∧ _ from ⟨h, z⟩
theorem hs25 (h : 7 ≤ k) : Has (S C k) 25 ((spMulW (C 0))) := fun _ _ _ z => show _ ∧ _ from ⟨h, z⟩
theorem hs26 (h : 8 ≤ k) : Has (S C k) 26 ((spWavesIn (C 0) (C 2))) := fun _ _ _ z => show _ ∧ _ from ⟨h, z⟩
theorem hs27 (h : 9 ≤ k) : Has (S C k) 27 ((spWavesIn (C 0) (C 2))) := fun _ _ _ z => show _ ∧ _ from ⟨h, z⟩
theorem hs28 (h : 4 ≤ k) : Has (S C k) 28 ((spCosines (C 0))) := fun _ _ _ z => show _ ∧ _ from ⟨h, z⟩
theorem hs29 (h : 1 ≤ k) : Has (S C k) 29 (spPutAt) := fun _ _ _ z => show _ ∧ _ from ⟨h, z⟩
theorem hs30 (h : 2 ≤ k) : Has (S C k) 30 (spAloneFrom) := fun _ _ _ z => show _ ∧ _ from ⟨h, z⟩
theorem hs31 (h : 3 ≤ k) : Has (S C k) 31 (spMadeIn) := fun _ _ _ z => show _ ∧ _ from ⟨h, z⟩
theorem hs32 {m : Nat} (h : m + 4 ≤ k) : Has (S C k) 32 ((spPutDown m)) := fun _ _ _ z => show ∃ _, _ ∧ _ from ⟨m, h, z⟩
theorem hs33 (h : 29 ≤ k) : Has (S C k) 33 (spStepsIn) := fun _ _ _ z => show _ ∧ _ from ⟨h, z⟩
theorem hs34 (h : 31 ≤ k) : Has (S C k) 34 ((spPlanOf (C 1) (C 2))) := fun _ _ _ z => show _ ∧ _ from ⟨h, z⟩
theorem hs35 (h : 32 ≤ k) : Has (S C k) 35 ((spTermsFor (C 2))) := fun _ _ _ z => show _ ∧ _ from ⟨h, z⟩
theorem hs36 (h : 32 ≤ k) : Has (S C k) 36 ((spReachFor (C 2))) := fun _ _ _ z => show _ ∧ _ from ⟨h, z⟩
theorem hs37 (h : 1 ≤ k) : Has (S C k) 37 (spPump) := fun _ _ _ z => show _ ∧ _ from ⟨h, z⟩
theorem hs38 (h : 1 ≤ k) : Has (S C k) 38 (spStroke) := fun _ _ _ z => show _ ∧ _ from ⟨h, z⟩
theorem hs39 (h : 2 ≤ k) : Has (S C k) 39 (spOne) := fun _ _ _ z => show _ ∧ _ from ⟨h, z⟩
theorem hs40 (h : 1 ≤ k) : Has (S C k) 40 (spHalves) := fun _ _ _ z => show _ ∧ _ from ⟨h, z⟩
theorem hs41 (h : 1 ≤ k) : Has (S C k) 41 (spLowest) := fun _ _ _ z => show _ ∧ _ from ⟨h, z⟩
theorem hs42 (h : 2 ≤ k) : Has (S C k) 42 (spAdd) := fun _ _ _ z => show _ ∧ _ from ⟨h, z⟩
theorem hs43 (h : 2 ≤ k) : Has (S C k) 43 (spMul) := fun _ _ _ z => show _ ∧ _ from ⟨h, z⟩
theorem hs44 (h : 3 ≤ k) : Has (S C k) 44 (spSub) := fun _ _ _ z => show _ ∧ _ from ⟨h, z⟩
theorem hs45 (h : 4 ≤ k) : Has (S C k) 45 (spAddT) := fun _ _ _ z => show _ ∧ _ from ⟨h, z⟩
theorem hs46 (h : 5 ≤ k) : Has (S C k) 46 (spTimesT) := fun _ _ _ z => show _ ∧ _ from ⟨h, z⟩
theorem hs47 (h : 3 ≤ k) : Has (S C k) 47 (spPolyT) := fun _ _ _ z => show _ ∧ _ from ⟨h, z⟩
theorem hs48 (h : 3 ≤ k) : Has (S C k) 48 (spValueP) := fun _ _ _ z => show _ ∧ _ from ⟨h, z⟩
theorem hs49 (h : 2 ≤ k) : Has (S C k) 49 (spTurnT) := fun _ _ _ z => show _ ∧ _ from ⟨h, z⟩
theorem hs50 (h : 5 ≤ k) : Has (S C k) 50 (spPenT) := fun _ _ _ z => show _ ∧ _ from ⟨h, z⟩
theorem hs51 (h : 6 ≤ k) : Has (S C k) 51 (spCosT) := fun _ _ _ z => show _ ∧ _ from ⟨h, z⟩
theorem hs52 (h : 1 ≤ k) : Has (S C k) 52 (spWordsRight) := fun _ _ _ z => show _ ∧ _ from ⟨h, z⟩
theorem hs53 (h : 33 ≤ k) : Has (S C k) 53 (spLaw) := fun _ _ _ z => show _ ∧ _ from ⟨h, z⟩
theorem hs54 (h : 5 ≤ k) : Has (S C k) 54 ((spPoly (C 2))) := fun _ _ _ z => show _ ∧ _ from ⟨h, z⟩
theorem hs55 (h : 5 ≤ k) : Has (S C k) 55 ((spWavI (C 0))) := fun _ _ _ z => show _ ∧ _ from ⟨h, z⟩
theorem hs56 (h : 30 ≤ k) : Has (S C k) 56 ((spPlanI (C 0) (C 1) (C 2))) := fun _ _ _ z => show _ ∧ _ from ⟨h, z⟩
theorem hs57 (h : 4 ≤ k) : Has (S C k) 57 ((spReach (C 1))) := fun _ _ _ z => show _ ∧ _ from ⟨h, z⟩
theorem hw : ∀ i t args G Q, tab[i]? = some t → S C (k + 1) i args G Q → wSs (Γ C (S C k)) t.c { nx := fun _ G' => Q .non G', rt := Q } (startP t.N args) G
  | 0, t, args, G, Q, h, q => by
    cases h; have hr : 1 ≤ k + 1 := q.1
    exact w0  args G Q q.2
  | 1, t, args, G, Q, h, q => by
    cases h; have hr : 2 ≤ k + 1 := q.1
    exact w1 (hs0 (by omega)) args G Q q.2
  | 2, t, args, G, Q, h, q => by
    cases h; have hr : 1 ≤ k + 1 := q.1
    exact w2  args G Q q.2
  | 3, t, args, G, Q, h, q => by
    cases h; have hr : 1 ≤ k + 1 := q.1
    exact w3  args G Q q.2
  | 4, t, args, G, Q, h, q => by
    cases h; have hr : 3 ≤ k + 1 := q.1
    exact w4 (hs0 (by omega)) (hs2 (by omega)) (hs1 (by omega)) (hs3 (by omega)) args G Q q.2
  | 5, t, args, G, Q, h, q => by
    cases h; have hr : 1 ≤ k + 1 := q.1
    exact w5  args G Q q.2
  | 6, t, args, G, Q, h, q => by
    cases h; have hr : 4 ≤ k + 1 := q.1
    exact w6 (hs4 (by omega)) (hs5 (by omega)) args G Q q.2
  | 7, t, args, G, Q, h, q => by
    cases h; have hr : 4 ≤ k + 1 := q.1
    exact w7 (hs4 (by omega)) (hs2 (by omega)) (hs5 (by omega)) args G Q q.2
  | 8, t, args, G, Q, h, q => by
    cases h; have hr : 1 ≤ k + 1 := q.1
    exact w8  args G Q q.2
  | 9, t, args, G, Q, h, q => by
    cases h; have hr : 2 ≤ k + 1 := q.1
    exact w9 (hs3 (by omega)) args G Q q.2
  | 10, t, args, G, Q, h, q => by
    cases h; have hr : 3 ≤ k + 1 := q.1
    exact w10 (hs8 (by omega)) (hs9 (by omega)) args G Q q.2
  | 11, t, args, G, Q, h, q => by
    cases h; have hr : 2 ≤ k + 1 := q.1
    exact w11 (hs8 (by omega)) args G Q q.2
  | 12, t, args, G, Q, h, q => by
    cases h; have hr : 4 ≤ k + 1 := q.1
    exact w12 (hs10 (by omega)) (hs11 (by omega)) args G Q q.2
  | 13, t, args, G, Q, h, q => by
    cases h; have hr : 3 ≤ k + 1 := q.1
    exact w13 (hs8 (by omega)) (hs9 (by omega)) args G Q q.2
  | 14, t, args, G, Q, h, q => by
    cases h; have hr : 2 ≤ k + 1 := q.1
    exact w14 (hs8 (by omega)) args G Q q.2
  | 15, t, args, G, Q, h, q => by
    cases h; have hr : 4 ≤ k + 1 := q.1
    exact w15 (hs2 (by omega)) (hs4 (by omega)) (hs1 (by omega)) args G Q q.2
  | 16, t, args, G, Q, h, q => by
    cases h; have hr : 1 ≤ k + 1 := q.1
    exact w16  args G Q q.2
  | 17, t, args, G, Q, h, q => by
    cases h; have hr : 1 ≤ k + 1 := q.1
    exact w17  args G Q q.2
  | 18, t, args, G, Q, h, q => by
    cases h; have hr : 3 ≤ k + 1 := q.1
    exact w18 (hs2 (by omega)) (hs1 (by omega)) (hs17 (by omega)) args G Q q.2
  | 19, t, args, G, Q, h, q => by
    cases h; have hr : 4 ≤ k + 1 := q.1
    exact w19 (hs2 (by omega)) (hs18 (by omega)) (hs4 (by omega)) args G Q q.2
  | 20, t, args, G, Q, h, q => by
    cases h; have hr : 1 ≤ k + 1 := q.1
    exact w20  args G Q q.2
  | 21, t, args, G, Q, h, q => by
    cases h; have hr : 4 ≤ k + 1 := q.1
    exact w21 (hs10 (by omega)) (hs11 (by omega)) args G Q q.2
  | 22, t, args, G, Q, h, q => by
    cases h; have hr : 6 ≤ k + 1 := q.1
    exact w22 (hs55 (by omega)) args G Q q.2
  | 23, t, args, G, Q, h, q => by
    cases h; have hr : 1 ≤ k + 1 := q.1
    exact w23  args G Q q.2
  | 24, t, args, G, Q, h, q => by
    cases h; have hr : 7 ≤ k + 1 := q.1
    exact w24 (hs23 (by omega)) (hs21 (by omega)) (hs22 (by omega)) args G Q q.2
  | 25, t, args, G, Q, h, q => by
    cases h; have hr : 7 ≤ k + 1 := q.1
    exact w25 (hs23 (by omega)) (hs21 (by omega)) (hs22 (by omega)) (hs13 (by omega)) (hs10 (by omega)) (hs12 (by omega)) args G Q q.2
  | 26, t, args, G, Q, h, q => by
    cases h; have hr : 8 ≤ k + 1 := q.1
    exact w26 (hs55 (by omega)) (hs25 (by omega)) (hs24 (by omega)) args G Q q.2
  | 27, t, args, G, Q, h, q => by
    cases h; have hr : 9 ≤ k + 1 := q.1
    exact w27 (hs16 (by omega)) (hs7 (by omega)) (hs26 (by omega)) args G Q q.2
  | 28, t, args, G, Q, h, q => by
    cases h; have hr : 4 ≤ k + 1 := q.1
    exact w28 (hs20 (by omega)) (hs10 (by omega)) (hs13 (by omega)) args G Q q.2
  | 29, t, args, G, Q, h, q => by
    cases h; have hr : 1 ≤ k + 1 := q.1
    exact w29  args G Q q.2
  | 30, t, args, G, Q, h, q => by
    cases h; have hr : 2 ≤ k + 1 := q.1
    exact w30 (hs29 (by omega)) args G Q q.2
  | 31, t, args, G, Q, h, q => by
    cases h; have hr : 3 ≤ k + 1 := q.1
    exact w31 (hs29 (by omega)) (hs30 (by omega)) args G Q q.2
  | 32, t, args, G, Q, h, q => by
    cases h; obtain ⟨m, hm, q⟩ := (show ∃ m, m + 4 ≤ k + 1 ∧ _ from q)
    cases m with
    | zero => exact w32_0 (hs31 (by omega)) args G Q q
    | succ m => exact w32_s (hs31 (by omega)) (hs32 (m := m) (by omega)) args G Q q
  | 33, t, args, G, Q, h, q => by
    cases h; have hr : 29 ≤ k + 1 := q.1
    exact w33 (fun m hm => hs32 (by omega)) args G Q q.2
  | 34, t, args, G, Q, h, q => by
    cases h; have hr : 31 ≤ k + 1 := q.1
    exact w34 (hs16 (by omega)) (hs7 (by omega)) (hs56 (by omega)) args G Q q.2
  | 35, t, args, G, Q, h, q => by
    cases h; have hr : 32 ≤ k + 1 := q.1
    exact w35 (hs34 (by omega)) args G Q q.2
  | 36, t, args, G, Q, h, q => by
    cases h; have hr : 32 ≤ k + 1 := q.1
    exact w36 (hs34 (by omega)) (hs57 (by omega)) args G Q q.2
  | 37, t, args, G, Q, h, q => by
    cases h; have hr : 1 ≤ k + 1 := q.1
    exact w37  args G Q q.2
  | 38, t, args, G, Q, h, q => by
    cases h; have hr : 1 ≤ k + 1 := q.1
    exact w38  args G Q q.2
  | 39, t, args, G, Q, h, q => by
    cases h; have hr : 2 ≤ k + 1 := q.1
    exact w39 (hs38 (by omega)) args G Q q.2
  | 40, t, args, G, Q, h, q => by
    cases h; have hr : 1 ≤ k + 1 := q.1
    exact w40  args G Q q.2
  | 41, t, args, G, Q, h, q => by
    cases h; have hr : 1 ≤ k + 1 := q.1
    exact w41  args G Q q.2
  | 42, t, args, G, Q, h, q => by
    cases h; have hr : 2 ≤ k + 1 := q.1
    exact w42 (hs40 (by omega)) (hs41 (by omega)) args G Q q.2
  | 43, t, args, G, Q, h, q => by
    cases h; have hr : 2 ≤ k + 1 := q.1
    exact w43 (hs40 (by omega)) (hs41 (by omega)) args G Q q.2
  | 44, t, args, G, Q, h, q => by
    cases h; have hr : 3 ≤ k + 1 := q.1
    exact w44 (hs42 (by omega)) (hs43 (by omega)) args G Q q.2
  | 45, t, args, G, Q, h, q => by
    cases h; have hr : 4 ≤ k + 1 := q.1
    exact w45 (hs42 (by omega)) (hs43 (by omega)) (hs44 (by omega)) args G Q q.2
  | 46, t, args, G, Q, h, q => by
    cases h; have hr : 5 ≤ k + 1 := q.1
    exact w46 (hs45 (by omega)) (hs43 (by omega)) args G Q q.2
  | 47, t, args, G, Q, h, q => by
    cases h; have hr : 3 ≤ k + 1 := q.1
    exact w47 (hs39 (by omega)) (hs38 (by omega)) args G Q q.2
  | 48, t, args, G, Q, h, q => by
    cases h; have hr : 3 ≤ k + 1 := q.1
    exact w48 (hs42 (by omega)) (hs43 (by omega)) args G Q q.2
  | 49, t, args, G, Q, h, q => by
    cases h; have hr : 2 ≤ k + 1 := q.1
    exact w49 (hs38 (by omega)) (hs41 (by omega)) args G Q q.2
  | 50, t, args, G, Q, h, q => by
    cases h; have hr : 5 ≤ k + 1 := q.1
    exact w50 (hs45 (by omega)) (hs42 (by omega)) (hs43 (by omega)) args G Q q.2
  | 51, t, args, G, Q, h, q => by
    cases h; have hr : 6 ≤ k + 1 := q.1
    exact w51 (hs45 (by omega)) (hs46 (by omega)) args G Q q.2
  | 52, t, args, G, Q, h, q => by
    cases h; have hr : 1 ≤ k + 1 := q.1
    exact w52  args G Q q.2
  | 53, t, args, G, Q, h, q => by
    cases h; have hr : 33 ≤ k + 1 := q.1
    exact w53 (hs37 (by omega)) (hs39 (by omega)) (hs38 (by omega)) (hs47 (by omega)) (hs54 (by omega)) (hs35 (by omega)) (hs52 (by omega)) (hs42 (by omega)) (hs43 (by omega)) (hs40 (by omega)) (hs36 (by omega)) (hs27 (by omega)) (hs49 (by omega)) (hs50 (by omega)) (hs48 (by omega)) (hs44 (by omega)) (hs51 (by omega)) args G Q q.2
  | 54, t, args, G, Q, h, q => by
    cases h; have hr : 5 ≤ k + 1 := q.1
    exact w54 (hs2 (by omega)) (hs15 (by omega)) (hs5 (by omega)) args G Q q.2
  | 55, t, args, G, Q, h, q => by
    cases h; have hr : 5 ≤ k + 1 := q.1
    exact w55 (hs6 (by omega)) (hs2 (by omega)) (hs19 (by omega)) (hs5 (by omega)) (hs17 (by omega)) args G Q q.2
  | 56, t, args, G, Q, h, q => by
    cases h; have hr : 30 ≤ k + 1 := q.1
    exact w56 (hs27 (by omega)) (hs28 (by omega)) (hs33 (by omega)) args G Q q.2
  | 57, t, args, G, Q, h, q => by
    cases h; have hr : 4 ≤ k + 1 := q.1
    exact w57 (hs10 (by omega)) (hs11 (by omega)) (hs14 (by omega)) args G Q q.2
  | i + 58, t, args, G, Q, h, q => by have : tab.length = 58 := rfl; rw [List.getElem?_eq_none (by omega)] at h; cases h
theorem hlen : ∀ i t args G Q, tab[i]? = some t → S C k i args G Q → args.length = t.ps.length
  | 0, t, args, G, Q, h, q => by cases h; exact len0 (C := C) args G Q q.2
  | 1, t, args, G, Q, h, q => by cases h; exact len1 (C := C) args G Q q.2
  | 2, t, args, G, Q, h, q => by cases h; exact len2 (C := C) args G Q q.2
  | 3, t, args, G, Q, h, q => by cases h; exact len3 (C := C) args G Q q.2
  | 4, t, args, G, Q, h, q => by cases h; exact len4 (C := C) args G Q q.2
  | 5, t, args, G, Q, h, q => by cases h; exact len5 (C := C) args G Q q.2
  | 6, t, args, G, Q, h, q => by cases h; exact len6 (C := C) args G Q q.2
  | 7, t, args, G, Q, h, q => by cases h; exact len7 (C := C) args G Q q.2
  | 8, t, args, G, Q, h, q => by cases h; exact len8 (C := C) args G Q q.2
  | 9, t, args, G, Q, h, q => by cases h; exact len9 (C := C) args G Q q.2
  | 10, t, args, G, Q, h, q => by cases h; exact len10 (C := C) args G Q q.2
  | 11, t, args, G, Q, h, q => by cases h; exact len11 (C := C) args G Q q.2
  | 12, t, args, G, Q, h, q => by cases h; exact len12 (C := C) args G Q q.2
  | 13, t, args, G, Q, h, q => by cases h; exact len13 (C := C) args G Q q.2
  | 14, t, args, G, Q, h, q => by cases h; exact len14 (C := C) args G Q q.2
  | 15, t, args, G, Q, h, q => by cases h; exact len15 (C := C) args G Q q.2
  | 16, t, args, G, Q, h, q => by cases h; exact len16 (C := C) args G Q q.2
  | 17, t, args, G, Q, h, q => by cases h; exact len17 (C := C) args G Q q.2
  | 18, t, args, G, Q, h, q => by cases h; exact len18 (C := C) args G Q q.2
  | 19, t, args, G, Q, h, q => by cases h; exact len19 (C := C) args G Q q.2
  | 20, t, args, G, Q, h, q => by cases h; exact len20 (C := C) args G Q q.2
  | 21, t, args, G, Q, h, q => by cases h; exact len21 (C := C) args G Q q.2
  | 22, t, args, G, Q, h, q => by cases h; exact len22 (C := C) args G Q q.2
  | 23, t, args, G, Q, h, q => by cases h; exact len23 (C := C) args G Q q.2
  | 24, t, args, G, Q, h, q => by cases h; exact len24 (C := C) args G Q q.2
  | 25, t, args, G, Q, h, q => by cases h; exact len25 (C := C) args G Q q.2
  | 26, t, args, G, Q, h, q => by cases h; exact len26 (C := C) args G Q q.2
  | 27, t, args, G, Q, h, q => by cases h; exact len27 (C := C) args G Q q.2
  | 28, t, args, G, Q, h, q => by cases h; exact len28 (C := C) args G Q q.2
  | 29, t, args, G, Q, h, q => by cases h; exact len29 (C := C) args G Q q.2
  | 30, t, args, G, Q, h, q => by cases h; exact len30 (C := C) args G Q q.2
  | 31, t, args, G, Q, h, q => by cases h; exact len31 (C := C) args G Q q.2
  | 32, t, args, G, Q, h, q => by cases h; obtain ⟨m, _, q⟩ := (show ∃ m, m + 4 ≤ k ∧ _ from q); exact len32 (C := C) args G Q q
  | 33, t, args, G, Q, h, q => by cases h; exact len33 (C := C) args G Q q.2
  | 34, t, args, G, Q, h, q => by cases h; exact len34 (C := C) args G Q q.2
  | 35, t, args, G, Q, h, q => by cases h; exact len35 (C := C) args G Q q.2
  | 36, t, args, G, Q, h, q => by cases h; exact len36 (C := C) args G Q q.2
  | 37, t, args, G, Q, h, q => by cases h; exact len37 (C := C) args G Q q.2
  | 38, t, args, G, Q, h, q => by cases h; exact len38 (C := C) args G Q q.2
  | 39, t, args, G, Q, h, q => by cases h; exact len39 (C := C) args G Q q.2
  | 40, t, args, G, Q, h, q => by cases h; exact len40 (C := C) args G Q q.2
  | 41, t, args, G, Q, h, q => by cases h; exact len41 (C := C) args G Q q.2
  | 42, t, args, G, Q, h, q => by cases h; exact len42 (C := C) args G Q q.2
  | 43, t, args, G, Q, h, q => by cases h; exact len43 (C := C) args G Q q.2
  | 44, t, args, G, Q, h, q => by cases h; exact len44 (C := C) args G Q q.2
  | 45, t, args, G, Q, h, q => by cases h; exact len45 (C := C) args G Q q.2
  | 46, t, args, G, Q, h, q => by cases h; exact len46 (C := C) args G Q q.2
  | 47, t, args, G, Q, h, q => by cases h; exact len47 (C := C) args G Q q.2
  | 48, t, args, G, Q, h, q => by cases h; exact len48 (C := C) args G Q q.2
  | 49, t, args, G, Q, h, q => by cases h; exact len49 (C := C) args G Q q.2
  | 50, t, args, G, Q, h, q => by cases h; exact len50 (C := C) args G Q q.2
  | 51, t, args, G, Q, h, q => by cases h; exact len51 (C := C) args G Q q.2
  | 52, t, args, G, Q, h, q => by cases h; exact len52 (C := C) args G Q q.2
  | 53, t, args, G, Q, h, q => by cases h; exact len53 (C := C) args G Q q.2
  | 54, t, args, G, Q, h, q => by cases h; exact len54 (C := C) args G Q q.2
  | 55, t, args, G, Q, h, q => by cases h; exact len55 (C := C) args G Q q.2
  | 56, t, args, G, Q, h, q => by cases h; exact len56 (C := C) args G Q q.2
  | 57, t, args, G, Q, h, q => by cases h; exact len57 (C := C) args G Q q.2
  | i + 58, t, args, G, Q, h, q => by have : tab.length = 58 := rfl; rw [List.getElem?_eq_none (by omega)] at h; cases h
theorem hS0 : ∀ i args G Q, ¬ S C 0 i args G Q
  | 0, args, G, Q, q => absurd q.1 (by decide)
  | 1, args, G, Q, q => absurd q.1 (by decide)
  | 2, args, G, Q, q => absurd q.1 (by decide)
  | 3, args, G, Q, q => absurd q.1 (by decide)
  | 4, args, G, Q, q => absurd q.1 (by decide)
  | 5, args, G, Q, q => absurd q.1 (by decide)
  | 6, args, G, Q, q => absurd q.1 (by decide)
  | 7, args, G, Q, q => absurd q.1 (by decide)
  | 8, args, G, Q, q => absurd q.1 (by decide)
  | 9, args, G, Q, q => absurd q.1 (by decide)
  | 10, args, G, Q, q => absurd q.1 (by decide)
  | 11, args, G, Q, q => absurd q.1 (by decide)
  | 12, args, G, Q, q => absurd q.1 (by decide)
  | 13, args, G, Q, q => absurd q.1 (by decide)
  | 14, args, G, Q, q => absurd q.1 (by decide)
  | 15, args, G, Q, q => absurd q.1 (by decide)
  | 16, args, G, Q, q => absurd q.1 (by decide)
  | 17, args, G, Q, q => absurd q.1 (by decide)
  | 18, args, G, Q, q => absurd q.1 (by decide)
  | 19, args, G, Q, q => absurd q.1 (by decide)
  | 20, args, G, Q, q => absurd q.1 (by decide)
  | 21, args, G, Q, q => absurd q.1 (by decide)
  | 22, args, G, Q, q => absurd q.1 (by decide)
  | 23, args, G, Q, q => absurd q.1 (by decide)
  | 24, args, G, Q, q => absurd q.1 (by decide)
  | 25, args, G, Q, q => absurd q.1 (by decide)
  | 26, args, G, Q, q => absurd q.1 (by decide)
  | 27, args, G, Q, q => absurd q.1 (by decide)
  | 28, args, G, Q, q => absurd q.1 (by decide)
  | 29, args, G, Q, q => absurd q.1 (by decide)
  | 30, args, G, Q, q => absurd q.1 (by decide)
  | 31, args, G, Q, q => absurd q.1 (by decide)
  | 32, args, G, Q, q => by obtain ⟨m, h, _⟩ := (show ∃ m, m + 4 ≤ 0 ∧ _ from q); omega
  | 33, args, G, Q, q => absurd q.1 (by decide)
  | 34, args, G, Q, q => absurd q.1 (by decide)
  | 35, args, G, Q, q => absurd q.1 (by decide)
  | 36, args, G, Q, q => absurd q.1 (by decide)
  | 37, args, G, Q, q => absurd q.1 (by decide)
  | 38, args, G, Q, q => absurd q.1 (by decide)
  | 39, args, G, Q, q => absurd q.1 (by decide)
  | 40, args, G, Q, q => absurd q.1 (by decide)
  | 41, args, G, Q, q => absurd q.1 (by decide)
  | 42, args, G, Q, q => absurd q.1 (by decide)
  | 43, args, G, Q, q => absurd q.1 (by decide)
  | 44, args, G, Q, q => absurd q.1 (by decide)
  | 45, args, G, Q, q => absurd q.1 (by decide)
  | 46, args, G, Q, q => absurd q.1 (by decide)
  | 47, args, G, Q, q => absurd q.1 (by decide)
  | 48, args, G, Q, q => absurd q.1 (by decide)
  | 49, args, G, Q, q => absurd q.1 (by decide)
  | 50, args, G, Q, q => absurd q.1 (by decide)
  | 51, args, G, Q, q => absurd q.1 (by decide)
  | 52, args, G, Q, q => absurd q.1 (by decide)
  | 53, args, G, Q, q => absurd q.1 (by decide)
  | 54, args, G, Q, q => absurd q.1 (by decide)
  | 55, args, G, Q, q => absurd q.1 (by decide)
  | 56, args, G, Q, q => absurd q.1 (by decide)
  | 57, args, G, Q, q => absurd q.1 (by decide)
  | i + 58, args, G, Q, q => q
end
section
variable {P : Program} {w w0 : World} {h0 : Heap} {K : Frag} {mg : Str → Option Value} {base h : Heap}
def Cs (K : Frag) (i : Nat) : Addr := ([He.ga K "Waves", He.ga K "Plan", He.ga K "Poly"]).getD i 0
theorem hD (c : He.SaysD fas dfs K) : ∀ (i : Nat) (t : DT), tab[i]? = some t → ∃ fd, t.Is K fd
  | 0, t, h => by cases h; exact c.def_ 0 (d := t0.d) rfl
  | 1, t, h => by cases h; exact c.def_ 1 (d := t1.d) rfl
  | 2, t, h => by cases h; exact c.def_ 2 (d := t2.d) rfl
  | 3, t, h => by cases h; exact c.def_ 3 (d := t3.d) rfl
  | 4, t, h => by cases h; exact c.def_ 4 (d := t4.d) rfl
  | 5, t, h => by cases h; exact c.def_ 5 (d := t5.d) rfl
  | 6, t, h => by cases h; exact c.def_ 6 (d := t6.d) rfl
  | 7, t, h => by cases h; exact c.def_ 7 (d := t7.d) rfl
  | 8, t, h => by cases h; exact c.def_ 8 (d := t8.d) rfl
  | 9, t, h => by cases h; exact c.def_ 9 (d := t9.d) rfl
  | 10, t, h => by cases h; exact c.def_ 10 (d := t10.d) rfl
  | 11, t, h => by cases h; exact c.def_ 11 (d := t11.d) rfl
  | 12, t, h => by cases h; exact c.def_ 12 (d := t12.d) rfl
  | 13, t, h => by cases h; exact c.def_ 13 (d := t13.d) rfl
  | 14, t, h => by cases h; exact c.def_ 14 (d := t14.d) rfl
  | 15, t, h => by cases h; exact c.def_ 15 (d := t15.d) rfl
  | 16, t, h => by cases h; exact c.def_ 16 (d := t16.d) rfl
  | 17, t, h => by cases h; exact c.def_ 17 (d := t17.d) rfl
  | 18, t, h => by cases h; exact c.def_ 18 (d := t18.d) rfl
  | 19, t, h => by cases h; exact c.def_ 19 (d := t19.d) rfl
  | 20, t, h => by cases h; exact c.def_ 20 (d := t20.d) rfl
  | 21, t, h => by cases h; exact c.def_ 21 (d := t21.d) rfl
  | 22, t, h => by cases h; exact c.def_ 22 (d := t22.d) rfl
  | 23, t, h => by cases h; exact c.def_ 23 (d := t23.d) rfl
  | 24, t, h => by cases h; exact c.def_ 24 (d := t24.d) rfl
  | 25, t, h => by cases h; exact c.def_ 25 (d := t25.d) rfl
  | 26, t, h => by cases h; exact c.def_ 26 (d := t26.d) rfl
  | 27, t, h => by cases h; exact c.def_ 27 (d := t27.d) rfl
  | 28, t, h => by cases h; exact c.def_ 28 (d := t28.d) rfl
  | 29, t, h => by cases h; exact c.def_ 29 (d := t29.d) rfl
  | 30, t, h => by cases h; exact c.def_ 30 (d := t30.d) rfl
  | 31, t, h => by cases h; exact c.def_ 31 (d := t31.d) rfl
  | 32, t, h => by cases h; exact c.def_ 32 (d := t32.d) rfl
  | 33, t, h => by cases h; exact c.def_ 33 (d := t33.d) rfl
  | 34, t, h => by cases h; exact c.def_ 34 (d := t34.d) rfl
  | 35, t, h => by cases h; exact c.def_ 35 (d := t35.d) rfl
  | 36, t, h => by cases h; exact c.def_ 36 (d := t36.d) rfl
  | 37, t, h => by cases h; exact c.def_ 37 (d := t37.d) rfl
  | 38, t, h => by cases h; exact c.def_ 38 (d := t38.d) rfl
  | 39, t, h => by cases h; exact c.def_ 39 (d := t39.d) rfl
  | 40, t, h => by cases h; exact c.def_ 40 (d := t40.d) rfl
  | 41, t, h => by cases h; exact c.def_ 41 (d := t41.d) rfl
  | 42, t, h => by cases h; exact c.def_ 42 (d := t42.d) rfl
  | 43, t, h => by cases h; exact c.def_ 43 (d := t43.d) rfl
  | 44, t, h => by cases h; exact c.def_ 44 (d := t44.d) rfl
  | 45, t, h => by cases h; exact c.def_ 45 (d := t45.d) rfl
  | 46, t, h => by cases h; exact c.def_ 46 (d := t46.d) rfl
  | 47, t, h => by cases h; exact c.def_ 47 (d := t47.d) rfl
  | 48, t, h => by cases h; exact c.def_ 48 (d := t48.d) rfl
  | 49, t, h => by cases h; exact c.def_ 49 (d := t49.d) rfl
  | 50, t, h => by cases h; exact c.def_ 50 (d := t50.d) rfl
  | 51, t, h => by cases h; exact c.def_ 51 (d := t51.d) rfl
  | 52, t, h => by cases h; exact c.def_ 52 (d := t52.d) rfl
  | 53, t, h => by cases h; exact c.def_ 53 (d := t53.d) rfl
  | 54, t, h => by cases h; exact c.def_ 54 (d := t54.d) rfl
  | 55, t, h => by cases h; exact c.def_ 55 (d := t55.d) rfl
  | 56, t, h => by cases h; exact c.def_ 56 (d := t56.d) rfl
  | 57, t, h => by cases h; exact c.def_ 57 (d := t57.d) rfl
  | i + 58, t, h => by have : tab.length = 58 := rfl; rw [List.getElem?_eq_none (by omega)] at h; cases h
theorem fns_ok : namesB fnNames tab fas = true := by decide +kernel
theorem glob (KX : K.In h) (G : h.Ns mainGlobals mg) (c : He.SaysX fas dfs [] [] ex w0 h0 K) (k : Nat) (X : Cx) (e1 : X.prog = P) (e2 : X.w = w) (e3 : X.K = K) (e4 : X.mg = mg) (e5 : X.base = base) (e6 : X.calm = true) (hr : Room (2 * k + 1) X.A) (gd : X.A.guards = some [])
    (ih : ∀ i t fd, tab[i]? = some t → t.Is K fd → FnO P w K mg base (2 * k) (He.fAd K t.d.at_) fd t.ps (S (Cs K) k i)) : Glob (Γ (Cs K) (S (Cs K) k)) X := by
  subst e1; subst e2; subst e3; subst e4; subst e5
  have cf := c.t.d
  have fk : ∀ f ∈ fas, f.ok X.K = true := fun f hf => cf.facts hf
  have hr0 : Room (2 * k) X.A := hr.mono (by omega)
  have hx : ex X.K = true := c.more
  unfold ex at hx
  simp only [Bool.and_eq_true, Bool.true_and] at hx
  obtain ⟨⟨⟨⟨⟨⟨hx0, hx1⟩, hx2⟩, hx3⟩, hx4⟩, hx5⟩, hx6⟩ := hx
  refine ⟨fn_all fns_ok KX G fk (hD cf) tab_bd hr0 gd ih, ?_, ?_, ?_, ?_, ?_, ?_, ?_, ?_, ?_⟩
  · intro i f np ks perm x h1 h2
    match i, h1 with
    | 0, h1 =>
      cases h1; cases h2
      obtain ⟨fd, F⟩ := hD cf 35 t35 rfl
      exact (ih 35 t35 fd rfl F).gK hr0 gd (by decide) (bindsK F fun _ _ _ _ _ _ us ws hu hw => match us, ws, hu, hw with | [], [_, _], _, _ => rfl) (He.glo_ok KX G (cf.fact 35 (f := .glo "terms_for") rfl)) F.kp
    | i + 1, h1 => have hh : i + 1 < 1 := (List.getElem?_eq_some_iff.mp h1).1; omega
  · intro i x C f h1
    match i, h1 with
    | 0, h1 =>
      cases h1
      obtain ⟨fd, F⟩ := hD cf 55 t55 rfl
      exact FnO.make (He.mkr_ok (cf.fact 98 (f := .mkr "Waves") rfl)) (ih 55 t55 fd rfl F) hr gd (tab_bd t55 (by simp [tab]) fd F) (He.glo_ok KX G (cf.fact 74 (f := .glo "Waves") rfl))
    | 1, h1 =>
      cases h1
      obtain ⟨fd, F⟩ := hD cf 56 t56 rfl
      exact FnO.make (He.mkr_ok (cf.fact 99 (f := .mkr "Plan") rfl)) (ih 56 t56 fd rfl F) hr gd (tab_bd t56 (by simp [tab]) fd F) (He.glo_ok KX G (cf.fact 82 (f := .glo "Plan") rfl))
    | 2, h1 =>
      cases h1
      obtain ⟨fd, F⟩ := hD cf 54 t54 rfl
      exact FnO.make (He.mkr_ok (cf.fact 100 (f := .mkr "Poly") rfl)) (ih 54 t54 fd rfl F) hr gd (tab_bd t54 (by simp [tab]) fd F) (He.glo_ok KX G (cf.fact 90 (f := .glo "Poly") rfl))
    | i + 3, h1 => have hh : i + 3 < 3 := (List.getElem?_eq_some_iff.mp h1).1; omega
  · intro i x v pos h1 h2
    match i, h1 with
    | 0, h1 =>
      cases h1
      obtain ⟨t, hm⟩ := He.int_ok KX G (cf.fact 66 (f := .int "MOST_DEGREE" 6) rfl)
      exact cst_int hm h2 (by decide)
    | 1, h1 =>
      cases h1
      obtain ⟨t, hm⟩ := He.int_ok KX G (cf.fact 67 (f := .int "MOST_SIZE" 6) rfl)
      exact cst_int hm h2 (by decide)
    | 2, h1 =>
      cases h1
      exact cst_nst (He.glo_ok KX G (cf.fact 68 (f := .glo "HALF") rfl)) hx0 h2 (by decide)
    | 3, h1 =>
      cases h1
      exact cst_nst (He.glo_ok KX G (cf.fact 69 (f := .glo "COSINE") rfl)) hx1 h2 (by decide)
    | 4, h1 =>
      cases h1
      exact cst_nst (He.glo_ok KX G (cf.fact 70 (f := .glo "LATER") rfl)) hx2 h2 (by decide)
    | 5, h1 =>
      cases h1
      exact cst_nst (He.glo_ok KX G (cf.fact 71 (f := .glo "NO_BEAT") rfl)) hx3 h2 (by decide)
    | 6, h1 =>
      cases h1
      exact cst_nst (He.glo_ok KX G (cf.fact 72 (f := .glo "FIRST_WORDS") rfl)) hx4 h2 (by decide)
    | 7, h1 =>
      cases h1
      exact cst_nst (He.glo_ok KX G (cf.fact 73 (f := .glo "ARM_WORDS") rfl)) hx5 h2 (by decide)
    | i + 8, h1 => have hh : i + 8 < 8 := (List.getElem?_eq_some_iff.mp h1).1; omega
  · intro i f cs h1 C hC
    match i, h1 with
    | 0, h1 =>
      cases h1
      simp only [List.mem_cons, List.not_mem_nil, or_false] at hC
      rcases hC with rfl | rfl | rfl
      · exact ⟨He.cls_ok (cf.fact 75 (f := .cls "Waves") rfl), He.noat_ok (cf.fact 76 (f := .noat "Waves" "rows") rfl)⟩
      · exact ⟨He.cls_ok (cf.fact 83 (f := .cls "Plan") rfl), He.noat_ok (cf.fact 84 (f := .noat "Plan" "rows") rfl)⟩
      · exact ⟨He.cls_ok (cf.fact 91 (f := .cls "Poly") rfl), He.noat_ok (cf.fact 92 (f := .noat "Poly" "rows") rfl)⟩
    | 1, h1 =>
      cases h1
      simp only [List.mem_cons, List.not_mem_nil, or_false] at hC
      rcases hC with rfl | rfl | rfl
      · exact ⟨He.cls_ok (cf.fact 75 (f := .cls "Waves") rfl), He.noat_ok (cf.fact 77 (f := .noat "Waves" "constant") rfl)⟩
      · exact ⟨He.cls_ok (cf.fact 83 (f := .cls "Plan") rfl), He.noat_ok (cf.fact 85 (f := .noat "Plan" "constant") rfl)⟩
      · exact ⟨He.cls_ok (cf.fact 91 (f := .cls "Poly") rfl), He.noat_ok (cf.fact 93 (f := .noat "Poly" "constant") rfl)⟩
    | 2, h1 =>
      cases h1
      simp only [List.mem_cons, List.not_mem_nil, or_false] at hC
      rcases hC with rfl | rfl | rfl
      · exact ⟨He.cls_ok (cf.fact 75 (f := .cls "Waves") rfl), He.noat_ok (cf.fact 78 (f := .noat "Waves" "terms") rfl)⟩
      · exact ⟨He.cls_ok (cf.fact 83 (f := .cls "Plan") rfl), He.noat_ok (cf.fact 86 (f := .noat "Plan" "terms") rfl)⟩
      · exact ⟨He.cls_ok (cf.fact 91 (f := .cls "Poly") rfl), He.noat_ok (cf.fact 94 (f := .noat "Poly" "terms") rfl)⟩
    | 3, h1 =>
      cases h1
      simp only [List.mem_cons, List.not_mem_nil, or_false] at hC
      rcases hC with rfl | rfl | rfl
      · exact ⟨He.cls_ok (cf.fact 75 (f := .cls "Waves") rfl), He.noat_ok (cf.fact 79 (f := .noat "Waves" "degree") rfl)⟩
      · exact ⟨He.cls_ok (cf.fact 83 (f := .cls "Plan") rfl), He.noat_ok (cf.fact 87 (f := .noat "Plan" "degree") rfl)⟩
      · exact ⟨He.cls_ok (cf.fact 91 (f := .cls "Poly") rfl), He.noat_ok (cf.fact 95 (f := .noat "Poly" "degree") rfl)⟩
    | 4, h1 =>
      cases h1
      simp only [List.mem_cons, List.not_mem_nil, or_false] at hC
      rcases hC with rfl | rfl | rfl
      · exact ⟨He.cls_ok (cf.fact 75 (f := .cls "Waves") rfl), He.noat_ok (cf.fact 80 (f := .noat "Waves" "size") rfl)⟩
      · exact ⟨He.cls_ok (cf.fact 83 (f := .cls "Plan") rfl), He.noat_ok (cf.fact 88 (f := .noat "Plan" "size") rfl)⟩
      · exact ⟨He.cls_ok (cf.fact 91 (f := .cls "Poly") rfl), He.noat_ok (cf.fact 96 (f := .noat "Poly" "size") rfl)⟩
    | 5, h1 =>
      cases h1
      simp only [List.mem_cons, List.not_mem_nil, or_false] at hC
      rcases hC with rfl | rfl | rfl
      · exact ⟨He.cls_ok (cf.fact 75 (f := .cls "Waves") rfl), He.noat_ok (cf.fact 81 (f := .noat "Waves" "words") rfl)⟩
      · exact ⟨He.cls_ok (cf.fact 83 (f := .cls "Plan") rfl), He.noat_ok (cf.fact 89 (f := .noat "Plan" "words") rfl)⟩
      · exact ⟨He.cls_ok (cf.fact 91 (f := .cls "Poly") rfl), He.noat_ok (cf.fact 97 (f := .noat "Poly" "words") rfl)⟩
    | i + 6, h1 => have hh : i + 6 < 6 := (List.getElem?_eq_some_iff.mp h1).1; omega
  · exact clsB_ok hx6
  · intro i x C pos h1 h2
    match i, h1 with
    | 0, h1 =>
      cases h1
      exact pe_glob h2 (He.glo_ok KX G (cf.fact 90 (f := .glo "Poly") rfl)) rfl (by decide)
    | 1, h1 =>
      cases h1
      exact pe_glob h2 (He.glo_ok KX G (cf.fact 74 (f := .glo "Waves") rfl)) rfl (by decide)
    | i + 2, h1 => have hh : i + 2 < 2 := (List.getElem?_eq_some_iff.mp h1).1; omega
  · intro x hx
    have hx : x ∈ (["abs", "all", "bool", "enumerate", "int", "isinstance", "len", "list", "max", "range", "sorted", "tuple"] : List Str) := hx
    simp only [List.mem_cons, List.not_mem_nil, or_false] at hx
    rcases hx with rfl | rfl | rfl | rfl | rfl | rfl | rfl | rfl | rfl | rfl | rfl | rfl
    · exact He.free_ok KX G (cf.fact 54 (f := .free "abs") rfl)
    · exact He.free_ok KX G (cf.fact 55 (f := .free "all") rfl)
    · exact He.free_ok KX G (cf.fact 56 (f := .free "bool") rfl)
    · exact He.free_ok KX G (cf.fact 57 (f := .free "enumerate") rfl)
    · exact He.free_ok KX G (cf.fact 58 (f := .free "int") rfl)
    · exact He.free_ok KX G (cf.fact 59 (f := .free "isinstance") rfl)
    · exact He.free_ok KX G (cf.fact 60 (f := .free "len") rfl)
    · exact He.free_ok KX G (cf.fact 61 (f := .free "list") rfl)
    · exact He.free_ok KX G (cf.fact 62 (f := .free "max") rfl)
    · exact He.free_ok KX G (cf.fact 63 (f := .free "range") rfl)
    · exact He.free_ok KX G (cf.fact 64 (f := .free "sorted") rfl)
    · exact He.free_ok KX G (cf.fact 65 (f := .free "tuple") rfl)
  · intro i x f dp h1
    match i, h1 with
    | 0, h1 =>
      cases h1
      obtain ⟨fd, F⟩ := hD cf 20 t20 rfl
      obtain ⟨ds, r, b⟩ := FunD.binds1 (ps := t20.ps) F 1 0 (by simp [He.DefD.dvs, t20]) (by simp [He.DefD.dvs, t20]) fun _ _ _ _ _ _ _ us its h1 h2 => match us, its, h1, h2 with | [_], [_], _, _ => ⟨_, rfl, rfl⟩
      exact (ih 20 t20 fd rfl F).gD hr0 gd r (fun H => .cons (RV.strI _) (.nil)) b (He.glo_ok KX G (cf.fact 20 (f := .glo "need_waves") rfl)) F.kp
    | i + 1, h1 => have hh : i + 1 < 1 := (List.getElem?_eq_some_iff.mp h1).1; omega
  · intro i x C f h1
    match i, h1 with
    | 0, h1 =>
      cases h1
      obtain ⟨fd, F⟩ := hD cf 57 t57 rfl
      exact (ih 57 t57 fd rfl F).mt hr0 gd (tab_bd t57 (by simp [tab]) fd F) (He.cls_ok (cf.fact 83 (f := .cls "Plan") rfl)) (He.meth_ok (cf.fact 101 (f := .meth "Plan" "reach") rfl))
    | i + 1, h1 => have hh : i + 1 < 1 := (List.getElem?_eq_some_iff.mp h1).1; omega
end
theorem ends {w : World} {mg : Str → Option Value} {fa : Addr} {h : Heap} {K : Frag} (KX : K.In h) (c : He.SaysX fas dfs [] [] ex w h K) (G : h.Ns mainGlobals mg) (hmg : mg ("law" : Str) = some (.ref fa)) :
    ∃ (K : Frag) (fd : FuncData) (sp : PSp), K.In h ∧ (∀ (s : Shared) (u : Value), BindsTo s fd ⟨[u], []⟩ [("_law_script", u)]) ∧ (∀ (ns : List Int), ns.length ≤ 63 → sp [.rl (ns.map .int)] (fun _ => none) fun v _ => v = .bl true) ∧
      ∀ base : Heap, K.In base → base.Ns mainGlobals mg → FnO PySem.Challenge.rw_typedcurve_k51_terms_make_the_curve.prog w K mg base (2 * 33) fa fd ["_law_script"] sp := by
  obtain ⟨fd, F⟩ := hD c.t.d 53 t53 rfl
  have e := hmg.symm.trans (He.glo_ok KX G (c.t.d.fact 53 (f := .glo "law") rfl))
  cases e
  have b := FunD.bindsA (ps := ["_law_script"]) F fun _ _ _ _ _ _ us hl => match us, hl with | [_], _ => rfl
  refine ⟨K, fd, S (Cs K) 33 53, KX, fun s v => b s [v] rfl, fun ns hl => show _ ∧ _ from ⟨by decide, ns, rfl, fun _ => rfl⟩, fun base hKb hns => ?_⟩
  exact all_ok2 (Γ (Cs K)) tab (S (Cs K)) tab_sc (tab_ck (Cs K)) (fun k => hlen) hS0 (fun k X a1 a2 a3 a4 a5 a6 a7 a8 ih => glob hKb hns c k X a1 a2 a3 a4 a5 a6 a7 a8 ih) (fun k => hw) 33 53 t53 fd rfl F
end K51
open PySem PySem.W PySem.Calls PyProof.Rows
theorem PySem.Challenge.cw_typedcurve_k51_terms_make_the_curve_holds : PySem.Challenge.rw_typedcurve_k51_terms_make_the_curve.Holds := by
  w_on; o_law
  refine HandSHeadRun.head_any (r := OpenLaw.row PySem.Challenge.rw_typedcurve_k51_terms_make_the_curve) (q := view (OpenLaw.row PySem.Challenge.rw_typedcurve_k51_terms_make_the_curve).prog [77]) (H := K51.hkH) (ob := K51.ob) (M := 20000) (loose := K51.loose) (d := HandSHeadRun.topDef (OpenLaw.row PySem.Challenge.rw_typedcurve_k51_terms_make_the_curve).prog 77) (kwd := []) K51.ob_eq
    (by kernel_rfl) (fun s => by kernel_rfl) K51.run (by kernel_rfl) (by kernel_rfl) (by kernel_rfl) (by rfl) (by first | assumption | decide +kernel) (by decide +kernel) ⟨rfl, rfl, rfl, rfl, rfl, by decide +kernel⟩ ?hw ?hc
  case hw => w_witness2
  case hc =>
    refine Cl.walk_C (l := PySem.Challenge.rw_typedcurve_k51_terms_make_the_curve) (n := 63) (k := 2 * 33) (x := "_law_script") rfl (by decide) (by kernel_rfl) ⟨rfl, by decide, by decide⟩ ?F
    intro w mg fa h Y G hmg0
    obtain ⟨K, KX, c⟩ := Y
    have hmg : mg ("law" : PySem.Str) = some (.ref fa) := by
      have e : (HandSHeadRun.topDef (OpenLaw.row PySem.Challenge.rw_typedcurve_k51_terms_make_the_curve).prog 77).name = ("law" : PySem.Str) := by kernel_rfl
      rw [← e]
      exact hmg0
    exact K51.ends KX c G hmg
