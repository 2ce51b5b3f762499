import PyProof.Rows.All
import Wide.All
import OpenK.AllK
import Wide.FinOn
import HandS.ForSpec
import HandS.ForMost
import HandS.Wide
import HandS.TupAny
import HandS.TupMul
import HandS.IsInst
import HandS.Flow
import HandS.TupLe
import HandS.Conv
import HandS.More
import HandS.CallLocal
import HandS.TryOnly
import HandS.Zip
import HandS.WordsExc
import HandS.Defaults
import PySem.Challenge.RW_soonfound_k03_whole_totals_and_sizes
set_option Elab.async false
set_option linter.all false
set_option maxRecDepth 100000
set_option maxHeartbeats 4000000
/-! TBase: tuples as trees; what a tree stands for in the abstract heap; readings lifted to trees. -/
namespace TL
open PySem PySem.Spec PyProof.Rows L2

/-- a value as a tree: tuples within, what may change by its address -/
inductive TV where
  | non | bl (b : Bool) | int (i : Int) | str (s : Str) | tup (l : List TV) | ref (a : Addr) | ty (n : String) | kl (l : List TV)
/-- what may change -/
inductive MO where
  | lst (xs : List TV)
  | rls (xs : List TV)
  | dic (kvs : List (TV × TV))
  | ins (C dx : Addr) (fs : List (Str × TV))
abbrev TM := Addr → Option MO
def updM (M : TM) (a : Addr) (o : MO) : TM := fun b => if b = a then some o else M b
theorem updM_same {M : TM} {a : Addr} {o : MO} : updM M a o a = some o := if_pos rfl
theorem updM_ne {M : TM} {a b : Addr} {o : MO} (h : b ≠ a) : updM M a o b = M b := if_neg h
theorem updM_updM {M : TM} {a : Addr} {o u : MO} : updM (updM M a o) a u = updM M a u := by
  funext b; unfold updM; split <;> rfl
theorem updM_none {M : TM} {a b : Addr} {o : MO} : updM M a o b = none ↔ b ≠ a ∧ M b = none := by
  unfold updM
  by_cases h : b = a
  · simp [h]
  · simp [h]

/-- a tuple that is read: told by the heap, or of the written part -/
def TqT (K : PySem.W.Frag) (H : Hp) (a : Addr) (xs : List V) : Prop :=
  H a = some (.tup xs) ∨ ∃ (o : Obj) (its : Array Value) (n : Nat), K.lookup a = some o ∧ o.cls = .type "tuple" ∧ o.data = .seq its n ∧ its.size ≤ sizeLine ∧ Vals xs its.toList
theorem TqT.sq {K : PySem.W.Frag} {H : Hp} {a : Addr} {xs : List V} (h : TqT K H a xs) : SqT K H a xs := h.elim (fun h => .inl (.inl h)) .inr
theorem TqT.of {K : PySem.W.Frag} {H : Hp} {a : Addr} {xs : List V} (h : H a = some (.tup xs)) : TqT K H a xs := .inl h
/-- a list of the written part -/
def KlT (K : PySem.W.Frag) (a : Addr) (xs : List V) : Prop := ∃ (o : Obj) (its : Array Value) (n : Nat), K.lookup a = some o ∧ o.cls = .type "list" ∧ o.dict = none ∧ o.data = .seq its n ∧ its.size ≤ sizeLine ∧ Vals xs its.toList
theorem KlT.sq {K : PySem.W.Frag} {H : Hp} {a : Addr} {xs : List V} (h : KlT K a xs) : SqL K H a xs := .inr h
mutual
inductive Rv (K : PySem.W.Frag) (H : Hp) : TV → V → Prop
  | non : Rv K H .non .non
  | bl (b : Bool) : Rv K H (.bl b) (.bl b)
  | int (i : Int) : Rv K H (.int i) (.int i)
  | str (s : Str) : Rv K H (.str s) (.str s)
  | ref (a : Addr) : Rv K H (.ref a) (.ref a)
  | ty (n : String) : Rv K H (.ty n) (.ty n)
  | tup {p : Addr} {xs : List TV} {vs : List V} : TqT K H p vs → Rvs K H xs vs → xs.length ≤ sizeLine → Rv K H (.tup xs) (.ref p)
  | kl {p : Addr} {xs : List TV} {vs : List V} : KlT K p vs → Rvs K H xs vs → xs.length ≤ sizeLine → Rv K H (.kl xs) (.ref p)
inductive Rvs (K : PySem.W.Frag) (H : Hp) : List TV → List V → Prop
  | nil : Rvs K H [] []
  | cons {x : TV} {v : V} {xs : List TV} {vs : List V} : Rv K H x v → Rvs K H xs vs → Rvs K H (x :: xs) (v :: vs)
end
def GrowT (K : PySem.W.Frag) (H H' : Hp) : Prop := ∀ p vs, TqT K H p vs → TqT K H' p vs
section
variable {K : PySem.W.Frag} {H H' : Hp}
mutual
theorem Rv.mono (g : GrowT K H H') : ∀ {x : TV} {v : V}, Rv K H x v → Rv K H' x v
  | _, _, .non => .non
  | _, _, .bl b => .bl b
  | _, _, .int i => .int i
  | _, _, .str s => .str s
  | _, _, .ref a => .ref a
  | _, _, .ty n => .ty n
  | _, _, .tup s r z => .tup (g _ _ s) (Rvs.mono g r) z
  | _, _, .kl s r z => .kl s (Rvs.mono g r) z
theorem Rvs.mono (g : GrowT K H H') : ∀ {xs : List TV} {vs : List V}, Rvs K H xs vs → Rvs K H' xs vs
  | _, _, .nil => .nil
  | _, _, .cons r t => .cons (Rv.mono g r) (Rvs.mono g t)
end
theorem Rvs.length : ∀ {xs : List TV} {vs : List V}, Rvs K H xs vs → xs.length = vs.length
  | _, _, .nil => rfl
  | _, _, .cons _ t => by simp [Rvs.length t]
theorem Rvs.append : ∀ {xs ys : List TV} {vs us : List V}, Rvs K H xs vs → Rvs K H ys us → Rvs K H (xs ++ ys) (vs ++ us)
  | _, _, _, _, .nil, h => h
  | _, _, _, _, .cons r t, h => .cons r (Rvs.append t h)
theorem Rvs.get : ∀ {xs : List TV} {vs : List V} {i : Nat} {x : TV}, Rvs K H xs vs → xs[i]? = some x → ∃ v, vs[i]? = some v ∧ Rv K H x v
  | _, _, _, _, .nil, e => by simp at e
  | _, _, 0, _, .cons r _, e => by simp at e; subst e; exact ⟨_, rfl, r⟩
  | _, _, i + 1, x, .cons _ t, e => by
    obtain ⟨v, h1, h2⟩ := Rvs.get (i := i) (x := x) t (by simpa using e)
    exact ⟨v, by simpa using h1, h2⟩
theorem Rvs.take : ∀ {xs : List TV} {vs : List V} (n : Nat), Rvs K H xs vs → Rvs K H (xs.take n) (vs.take n)
  | _, _, 0, _ => .nil
  | _, _, _ + 1, .nil => .nil
  | _, _, n + 1, .cons r t => .cons r (Rvs.take n t)
theorem Rvs.drop : ∀ {xs : List TV} {vs : List V} (n : Nat), Rvs K H xs vs → Rvs K H (xs.drop n) (vs.drop n)
  | _, _, 0, r => r
  | _, _, _ + 1, .nil => .nil
  | _, _, n + 1, .cons _ t => Rvs.drop n t
theorem Rvs.set : ∀ {xs : List TV} {vs : List V} {x : TV} {v : V} (i : Nat), Rv K H x v → Rvs K H xs vs → Rvs K H (xs.set i x) (vs.set i v)
  | _, _, _, _, _, _, .nil => .nil
  | _, _, _, _, 0, r, .cons _ t => .cons r t
  | _, _, _, _, i + 1, r, .cons q t => .cons q (Rvs.set i r t)
theorem Rvs.rep {x : TV} {v : V} (r : Rv K H x v) : ∀ n, Rvs K H (List.replicate n x) (List.replicate n v)
  | 0 => .nil
  | n + 1 => .cons r (Rvs.rep r n)
theorem Rvs.reverse : ∀ {xs : List TV} {vs : List V}, Rvs K H xs vs → Rvs K H xs.reverse vs.reverse
  | _, _, .nil => .nil
  | _, _, .cons r t => by
    simp only [List.reverse_cons]
    exact Rvs.append (Rvs.reverse t) (.cons r .nil)
theorem Rvs.flat_rep {xs : List TV} {vs : List V} (r : Rvs K H xs vs) : ∀ n, Rvs K H (List.replicate n xs).flatten (List.replicate n vs).flatten
  | 0 => .nil
  | n + 1 => by
    simp only [List.replicate_succ, List.flatten_cons]
    exact Rvs.append r (Rvs.flat_rep r n)
theorem Rvs.dropLast : ∀ {xs : List TV} {vs : List V}, Rvs K H xs vs → Rvs K H xs.dropLast vs.dropLast := fun {xs vs} r => by
  rw [List.dropLast_eq_take, List.dropLast_eq_take, r.length]
  exact r.take _
theorem Rvs.eraseIdx : ∀ {xs : List TV} {vs : List V} (i : Nat), Rvs K H xs vs → Rvs K H (xs.eraseIdx i) (vs.eraseIdx i)
  | _, _, _, .nil => .nil
  | _, _, 0, .cons _ t => t
  | _, _, i + 1, .cons r t => .cons r (Rvs.eraseIdx i t)
theorem Rvs.ints : ∀ {ns : List Int} {vs : List V}, Rvs K H (ns.map .int) vs → vs = ns.map .int
  | [], _, .nil => rfl
  | _ :: _, _, .cons (.int _) t => by rw [Rvs.ints t]; rfl
theorem Rvs.of_ints : ∀ (ns : List Int), Rvs K H (ns.map .int) (ns.map .int)
  | [] => .nil
  | _ :: r => .cons (.int _) (Rvs.of_ints r)
theorem Rvs.bls : ∀ {ns : List Bool} {vs : List V}, Rvs K H (ns.map .bl) vs → vs = ns.map .bl
  | [], _, .nil => rfl
  | _ :: _, _, .cons (.bl _) t => by rw [Rvs.bls t]; rfl
end

def kTV : Key → TV
  | .inl i => .int i
  | .inr s => .str s
def Ro (K : PySem.W.Frag) (H : Hp) (a : Addr) : MO → Prop
  | .lst xs => ∃ vs, H a = some (.lst vs) ∧ Rvs K H xs vs ∧ xs.length ≤ sizeLine
  | .rls xs => ∃ o vs, H a = some (.frz o (.lst vs)) ∧ Rvs K H xs vs ∧ xs.length ≤ sizeLine
  | .dic kvs => (∃ ks, H a = some (.dK ks) ∧ Paired (fun (p : TV × TV) (q : Key × V) => p.1 = kTV q.1 ∧ Rv K H p.2 q.2) kvs ks) ∨
      (∃ ks, H a = some (.dT ks) ∧ Paired (fun (p : TV × TV) (q : List Key × V) => p.1 = .tup (q.1.map kTV) ∧ Rv K H p.2 q.2) kvs ks)
  | .ins C dx fs => ∃ gs, H a = some (.ins C dx gs) ∧ Paired (fun (p : Str × TV) (q : Str × V) => p.1 = q.1 ∧ Rv K H p.2 q.2) fs gs
/-- M tells of H -/
def RepM (K : PySem.W.Frag) (H : Hp) (M : TM) : Prop := ∀ a o, M a = some o → Ro K H a o
section
variable {K : PySem.W.Frag} {H H' H1 H2 : Hp} {M M' M1 M2 : TM} {a p : Addr}
theorem Ro.mono {o : MO} (g : GrowT K H H') (e : H' a = H a) (r : Ro K H a o) : Ro K H' a o := by
  cases o with
  | lst xs => obtain ⟨vs, h, q, z⟩ := r; exact ⟨vs, e.trans h, q.mono g, z⟩
  | rls xs => obtain ⟨o, vs, h, q, z⟩ := r; exact ⟨o, vs, e.trans h, q.mono g, z⟩
  | dic kvs =>
    rcases r with ⟨ks, h, q⟩ | ⟨ks, h, q⟩
    · exact .inl ⟨ks, e.trans h, Paired.mapP q fun _ _ z => ⟨z.1, z.2.mono g⟩⟩
    · exact .inr ⟨ks, e.trans h, Paired.mapP q fun _ _ z => ⟨z.1, z.2.mono g⟩⟩
  | ins C dx fs => obtain ⟨gs, h, q⟩ := r; exact ⟨gs, e.trans h, Paired.mapP q fun _ _ z => ⟨z.1, z.2.mono g⟩⟩
theorem Ro.some {o : MO} (r : Ro K H a o) : H a ≠ none := by
  cases o with
  | lst xs => obtain ⟨vs, h, q⟩ := r; rw [h]; simp
  | rls xs => obtain ⟨o, vs, h, q⟩ := r; rw [h]; simp
  | dic kvs => rcases r with ⟨ks, h, q⟩ | ⟨ks, h, q⟩ <;> (rw [h]; simp)
  | ins C dx fs => obtain ⟨gs, h, q⟩ := r; rw [h]; simp
theorem Ro.notup {o : MO} {vs : List V} (r : Ro K H a o) : ¬ Rd H a (.tup vs) := by
  rintro (h | ⟨ob, h⟩)
  · cases o with
    | lst xs => obtain ⟨vs, h', q⟩ := r; rw [h] at h'; cases h'
    | rls xs => obtain ⟨o, vs, h', q⟩ := r; rw [h] at h'; cases h'
    | dic kvs => rcases r with ⟨ks, h', q⟩ | ⟨ks, h', q⟩ <;> (rw [h] at h'; cases h')
    | ins C dx fs => obtain ⟨gs, h', q⟩ := r; rw [h] at h'; cases h'
  · cases o with
    | lst xs => obtain ⟨vs, h', q⟩ := r; rw [h] at h'; cases h'
    | rls xs => obtain ⟨o, vs, h', q⟩ := r; rw [h] at h'; cases h'
    | dic kvs => rcases r with ⟨ks, h', q⟩ | ⟨ks, h', q⟩ <;> (rw [h] at h'; cases h')
    | ins C dx fs => obtain ⟨gs, h', q⟩ := r; rw [h] at h'; cases h'
theorem RepM.fresh (r : RepM K H M) (h : H a = none) : M a = none := by
  cases q : M a with
  | none => rfl
  | some o => exact absurd h (r a o q).some
/-- behind a step: what M doesn't tell of stays, nothing that stood is told of anew -/
structure Post (K : PySem.W.Frag) (H : Hp) (M : TM) (H' : Hp) (M' : TM) : Prop where
  fix : ∀ a o, H a = some o → M a = none → H' a = some o
  rep : RepM K H' M'
  nnw : ∀ a, H a ≠ none → M a = none → M' a = none
  kep : ∀ a, H a ≠ none → H' a ≠ none
theorem Post.refl (r : RepM K H M) : Post K H M H M := ⟨fun _ _ h _ => h, r, fun _ _ h => h, fun _ h => h⟩
theorem Post.trans (p : Post K H M H1 M1) (q : Post K H1 M1 H2 M2) : Post K H M H2 M2 where
  fix := fun a o h n => q.fix a o (p.fix a o h n) (p.nnw a (by rw [h]; simp) n)
  rep := q.rep
  nnw := fun a h n => q.nnw a (p.kep a h) (p.nnw a h n)
  kep := fun a h => q.kep a (p.kep a h)
theorem growT (r : RepM K H M) (f : ∀ a o, H a = some o → M a = none → H' a = some o) : GrowT K H H' := by
  intro p vs h
  rcases h with h | h
  · refine .inl (f _ _ h ?_)
    cases q : M p with
    | none => rfl
    | some o => exact absurd (.inl h) (r p o q).notup
  · exact .inr h
theorem Post.grow (p : Post K H M H' M') (r : RepM K H M) : GrowT K H H' := growT r p.fix
theorem Post.sub {M0 : TM} (p : Post K H M H' M') (s : ∀ a o, M0 a = some o → M' a = some o) : Post K H M H' M0 :=
  ⟨p.fix, fun a o h => p.rep a o (s a o h), fun a h n => (by
    cases q : M0 a with
    | none => rfl
    | some o => have := p.nnw a h n; rw [s a o q] at this; cases this), p.kep⟩
theorem ne_fresh {o : HO} (h : H p = none) (q : H a = some o) : a ≠ p := fun e => by rw [e, h] at q; cases q
theorem fix_new {o : HO} (h : H p = none) : ∀ a u, H a = some u → M a = none → upd H p o a = some u := fun a u q _ => by
  rw [upd_ne (ne_fresh h q)]; exact q
theorem kep_new {o : HO} : ∀ a, H a ≠ none → upd H p o a ≠ none := fun a h => by
  by_cases e : a = p
  · subst e; rw [upd_same]; simp
  · rw [upd_ne e]; exact h
/-- a new untold object -/
theorem RepM.new {o : HO} (r : RepM K H M) (h : H p = none) : RepM K (upd H p o) M := fun a u q => by
  have ra := r a u q
  refine ra.mono (growT r (fix_new h)) ?_
  rw [upd_ne]
  intro e; subst e
  exact ra.some h
theorem Post.new {o : HO} (r : RepM K H M) (h : H p = none) : Post K H M (upd H p o) M := ⟨fix_new h, r.new h, fun _ _ n => n, kep_new⟩
/-- a new told list -/
theorem Post.new_lst {xs : List TV} {vs : List V} (r : RepM K H M) (h : H p = none) (rv : Rvs K H xs vs) (hl : xs.length ≤ sizeLine) : Post K H M (upd H p (.lst vs)) (updM M p (.lst xs)) := by
  have g : GrowT K H (upd H p (.lst vs)) := growT r (fix_new h)
  refine ⟨fix_new h, fun a u q => ?_, fun a ha n => ?_, kep_new⟩
  · by_cases e : a = p
    · subst e
      rw [updM_same] at q; cases q
      exact ⟨vs, upd_same, rv.mono g, hl⟩
    · rw [updM_ne e] at q
      exact (r a u q).mono g (upd_ne e)
  · rw [updM_ne]
    · exact n
    · intro e; subst e; exact ha h
/-- a told list is written -/
theorem Post.set_lst {xs ys : List TV} {vs : List V} (r : RepM K H M) (h : M p = some (.lst ys)) (rv : Rvs K H xs vs) (hl : xs.length ≤ sizeLine) : Post K H M (upd H p (.lst vs)) (updM M p (.lst xs)) := by
  have fx : ∀ a u, H a = some u → M a = none → upd H p (.lst vs) a = some u := fun a u q n => by
    rw [upd_ne]
    · exact q
    · intro e; subst e; rw [h] at n; cases n
  have g : GrowT K H (upd H p (.lst vs)) := growT r fx
  refine ⟨fx, fun a u q => ?_, fun a ha n => ?_, kep_new⟩
  · by_cases e : a = p
    · subst e
      rw [updM_same] at q; cases q
      exact ⟨vs, upd_same, rv.mono g, hl⟩
    · rw [updM_ne e] at q
      exact (r a u q).mono g (upd_ne e)
  · rw [updM_ne]
    · exact n
    · intro e; subst e; rw [h] at n; cases n
/-- an untold list is written -/
theorem Post.hid {vs : List V} {o : HO} (r : RepM K H M) (h : H p = some (.lst vs)) (n : M p = none) : RepM K (upd H p o) M := fun a u q => by
  have e : a ≠ p := fun e => by subst e; rw [n] at q; cases q
  have ra := r a u q
  have g : GrowT K H (upd H p o) := fun b us hb => by
    rcases hb with hb | hb
    · refine .inl ?_
      have ne : b ≠ p := by
        intro e; subst e
        rw [h] at hb; cases hb
      rw [upd_ne ne]; exact hb
    · exact .inr hb
  exact ra.mono g (upd_ne e)
end

/-! ### slots -/
abbrev TSt := List (Option TV)
abbrev LSt := L2.St
def Ropt (K : PySem.W.Frag) (H : Hp) : Option TV → Option V → Prop
  | none, _ => True
  | some x, some v => Rv K H x v
  | some _, none => False
abbrev Rs (K : PySem.W.Frag) (H : Hp) : TSt → LSt → Prop := Paired (Ropt K H)
section
variable {K : PySem.W.Frag} {H H' : Hp}
theorem Ropt.mono (g : GrowT K H H') : ∀ {x : Option TV} {v : Option V}, Ropt K H x v → Ropt K H' x v
  | none, _, _ => True.intro
  | some x, some v, r => Rv.mono g r
  | some x, none, r => r.elim
theorem Rs.mono (g : GrowT K H H') {σ : TSt} {σ' : LSt} (r : Rs K H σ σ') : Rs K H' σ σ' := Paired.mapP r fun _ _ z => z.mono g
theorem Rs.get : ∀ {σ : TSt} {σ' : LSt} {i : Nat} {x : TV}, Rs K H σ σ' → σ[i]? = some (some x) → ∃ v, σ'[i]? = some (some v) ∧ Rv K H x v
  | _, _, _, _, .nil, e => by simp at e
  | _, _, 0, x, .cons (b := v) r _, e => by
    simp at e; subst e
    cases v with
    | none => exact r.elim
    | some v => exact ⟨v, rfl, r⟩
  | _, _, i + 1, x, .cons _ t, e => by
    obtain ⟨v, h1, h2⟩ := Rs.get (i := i) (x := x) t (by simpa using e)
    exact ⟨v, by simpa using h1, h2⟩
theorem Rs.set : ∀ {σ : TSt} {σ' : LSt} {x : Option TV} {v : Option V} (i : Nat), Ropt K H x v → Rs K H σ σ' → Rs K H (σ.set i x) (σ'.set i v)
  | _, _, _, _, _, _, .nil => .nil
  | _, _, _, _, 0, r, .cons _ t => .cons r t
  | _, _, _, _, i + 1, r, .cons q t => .cons q (Rs.set i r t)
def wipeT (σ : TSt) : List Nat → TSt
  | [] => σ
  | v :: vs => (wipeT σ vs).set v none
theorem Rs.wipe {σ : TSt} {σ' : LSt} (r : Rs K H σ σ') : ∀ vs : List Nat, Rs K H (wipeT σ vs) (wipe σ' vs)
  | [] => r
  | v :: vs => Rs.set v (show Ropt K H none none from True.intro) (Rs.wipe r vs)
theorem Rs.start : ∀ {xs : List TV} {vs : List V} (n : Nat), Rvs K H xs vs → Rs K H (xs.map some ++ List.replicate n none) (vs.map some ++ List.replicate n none)
  | _, _, 0, .nil => .nil
  | _, _, n + 1, .nil => .cons True.intro (Rs.start n .nil)
  | _, _, n, .cons r t => .cons r (Rs.start n t)
end

/-! ### exceptions -/
structure TX where
  cls : Value
  fs : List (Str × TV)
def Rx (K : PySem.W.Frag) (H : Hp) (x : TX) (cls : Value) (d : Option Addr) : Prop :=
  cls = x.cls ∧ match x.fs, d with
    | [], none => True
    | fs, some dx => ∃ gs, H dx = some (.xd gs) ∧ Paired (fun (p : Str × TV) (q : Str × V) => p.1 = q.1 ∧ Rv K H p.2 q.2) fs gs
    | _, _ => False

/-! ### lifted readings -/
abbrev TK := TV → TM → Prop
abbrev TR := TX → TM → Prop
abbrev WE := TSt → TM → TK → TR → Prop
abbrev WT := TSt → TM → (Bool → TM → Prop) → TR → Prop
abbrev WA := TSt → TM → (List TV → TM → Prop) → TR → Prop
structure TEnds where
  nx : TSt → TM → Prop
  rt : TV → TM → Prop
  bk : TSt → TM → Prop
  ct : TSt → TM → Prop
  ex : TX → TSt → TM → Prop
abbrev WS := TEnds → TSt → TM → Prop
section
variable (K : PySem.W.Frag) (W : WX)
def LX (σ' : LSt) (H : Hp) (M : TM) (R : TR) : Prop := ∀ x cls d H' M', Post K H M H' M' → Rx K H' x cls d → R x M' → W cls d σ' H'
def Cont (K : PySem.W.Frag) (H : Hp) (M : TM) (Q : TK) (Q' : VK) : Prop := ∀ z z' H' M', Post K H M H' M' → Rv K H' z z' → Q z M' → Q' z' H'
def LE (w : WE) : TE := fun σ' H Q' => ∃ σ M Q R, Rs K H σ σ' ∧ RepM K H M ∧ w σ M Q R ∧ Cont K H M Q Q' ∧ LX K W σ' H M R
def LT (w : WT) : TT := fun σ' H Q' => ∃ σ M Q R, Rs K H σ σ' ∧ RepM K H M ∧ w σ M Q R ∧ (∀ b H' M', Post K H M H' M' → Q b M' → Q' b H') ∧ LX K W σ' H M R
def LA (n : Nat) (w : WA) : TA := fun σ' H Q' => ∃ σ M Q R, Rs K H σ σ' ∧ RepM K H M ∧ w σ M Q R ∧ (∀ xs vs H' M', xs.length = n → Post K H M H' M' → Rvs K H' xs vs → Q xs M' → Q' vs H') ∧ LX K W σ' H M R
structure Below (H : Hp) (M : TM) (D : TEnds) (D' : Ends) : Prop where
  nx : ∀ σ σ' H' M', Post K H M H' M' → Rs K H' σ σ' → D.nx σ M' → D'.nx σ' H'
  rt : ∀ x v H' M', Post K H M H' M' → Rv K H' x v → D.rt x M' → D'.rt v H'
  bk : ∀ σ σ' H' M', Post K H M H' M' → Rs K H' σ σ' → D.bk σ M' → D'.bk σ' H'
  ct : ∀ σ σ' H' M', Post K H M H' M' → Rs K H' σ σ' → D.ct σ M' → D'.ct σ' H'
  ex : ∀ x cls d σ σ' H' M', Post K H M H' M' → Rs K H' σ σ' → Rx K H' x cls d → D.ex x σ M' → W cls d σ' H'
def LS (w : WS) : TS := fun D' σ' H => ∃ σ M D, Rs K H σ σ' ∧ RepM K H M ∧ w D σ M ∧ Below K W H M D D'
end
section
variable {K : PySem.W.Frag} {W : WX} {H H1 : Hp} {M M1 : TM}
theorem LX.on {σ' : LSt} {R : TR} (l : LX K W σ' H M R) (p : Post K H M H1 M1) : LX K W σ' H1 M1 R := fun x cls d H' M' q rx r => l x cls d H' M' (p.trans q) rx r
theorem Below.on {D : TEnds} {D' : Ends} (b : Below K W H M D D') (p : Post K H M H1 M1) : Below K W H1 M1 D D' :=
  ⟨fun σ σ' H' M' q => b.nx σ σ' H' M' (p.trans q), fun x v H' M' q => b.rt x v H' M' (p.trans q), fun σ σ' H' M' q => b.bk σ σ' H' M' (p.trans q), fun σ σ' H' M' q => b.ct σ σ' H' M' (p.trans q), fun x c d σ σ' H' M' q => b.ex x c d σ σ' H' M' (p.trans q)⟩
theorem Below.lx {D : TEnds} {D' : Ends} {σ : TSt} {σ' : LSt} (b : Below K W H M D D') (r : RepM K H M) (rs : Rs K H σ σ') : LX K W σ' H M (fun x M' => D.ex x σ M') :=
  fun x cls d H' M' q rx e => b.ex x cls d σ σ' H' M' q (rs.mono (q.grow r)) rx e
end

/-! ### judgements over trees -/
def EJ (X : Cx) (e : Expr) (w : WE) : Prop := ∀ W, Takes X W → PE X e (LE X.K W w)
def TJ (X : Cx) (e : Expr) (w : WT) : Prop := ∀ W, Takes X W → PT X e (LT X.K W w)
def UJ (X : Cx) (e : Expr) (w : WT) : Prop := ∀ W, Takes X W → PW X e (LT X.K W w)
def AJ (X : Cx) (es : List Expr) (w : WA) : Prop := ∀ W, Takes X W → PA X es (LA X.K W es.length w)
def SJ (X : Cx) (st : Stmt) (w : WS) : Prop := ∀ W, Takes X W → PS X st (LS X.K W w)
def SsJ (X : Cx) (st : List Stmt) (w : WS) : Prop := ∀ W, Takes X W → PSs X st (LS X.K W w)
section
variable {X : Cx}
theorem _root_.L2.PE.by {e : Expr} {t t' : TE} (h : PE X e t) (i : ∀ σ H Q, t' σ H Q → t σ H Q) : PE X e t' := ⟨fun pins s σ H Q I q => h.run pins s σ H Q I (i _ _ _ q)⟩
theorem _root_.L2.PT.by {e : Expr} {t t' : TT} (h : PT X e t) (i : ∀ σ H Q, t' σ H Q → t σ H Q) : PT X e t' := ⟨fun pins s σ H Q I q => h.run pins s σ H Q I (i _ _ _ q)⟩
theorem _root_.L2.PW.by {e : Expr} {t t' : TT} (h : PW X e t) (i : ∀ σ H Q, t' σ H Q → t σ H Q) : PW X e t' := ⟨fun wh pins s σ H Q I q => h.run wh pins s σ H Q I (i _ _ _ q)⟩
theorem _root_.L2.PA.by {es : List Expr} {t t' : TA} (h : PA X es t) (i : ∀ σ H Q, t' σ H Q → t σ H Q) : PA X es t' := ⟨fun pos pins s σ H Q I q => h.run pos pins s σ H Q I (i _ _ _ q)⟩
theorem _root_.L2.PS.by {st : Stmt} {t t' : TS} (h : PS X st t) (i : ∀ D σ H, t' D σ H → t D σ H) : PS X st t' := ⟨fun pins s σ H D I q => h.run pins s σ H D I (i _ _ _ q)⟩
theorem _root_.L2.PSs.by {st : List Stmt} {t t' : TS} (h : PSs X st t) (i : ∀ D σ H, t' D σ H → t D σ H) : PSs X st t' := ⟨fun pins s σ H D I q => h.run pins s σ H D I (i _ _ _ q)⟩
end
end TL

/-! TOps: operations on trees, by values. -/
namespace TL
open PySem PySem.Spec PyProof.Rows L2

/-! ### data -/
def optAll {α β : Type} (f : α → Option β) : List α → Option (List β)
  | [] => some []
  | x :: r => match f x with
    | none => none
    | some y => match optAll f r with
      | none => none
      | some ys => some (y :: ys)
/-- the list at a, told -/
def lsM (M : TM) (a : Addr) : Option (List TV) := match M a with
  | some (.lst xs) => some xs
  | some (.rls xs) => some xs
  | _ => none
def dat (M : TM) : Nat → TV → Option PyData
  | _, .non => some .none
  | _, .bl b => some (.bool b)
  | _, .int i => some (.int i)
  | _, .str s => some (.str s)
  | n + 1, .tup xs => match optAll (dat M n) xs with
    | some ds => some (.tuple ds)
    | none => none
  | n + 1, .ref a => match lsM M a with
    | some xs => match optAll (dat M n) xs with
      | some ds => some (.list ds)
      | none => none
    | none => none
  | _, _ => none
section
variable {K : PySem.W.Frag} {H H' : Hp} {M : TM} {a p : Addr}
theorem lsM_seq {xs : List TV} (r : RepM K H M) (h : lsM M a = some xs) : ∃ vs, SqL K H a vs ∧ Rvs K H xs vs ∧ xs.length ≤ sizeLine := by
  unfold lsM at h
  cases q : M a with
  | none => rw [q] at h; cases h
  | some o =>
    rw [q] at h
    cases o with
    | lst ys =>
      cases h
      obtain ⟨vs, e, rv, z⟩ := r a _ q
      exact ⟨vs, .inl (.inl e), rv, z⟩
    | rls ys =>
      cases h
      obtain ⟨o, vs, e, rv, z⟩ := r a _ q
      exact ⟨vs, .inl (.inr ⟨o, e⟩), rv, z⟩
    | dic _ => cases h
    | ins _ _ _ => cases h
theorem lsM_lst {xs : List TV} (h : M a = some (.lst xs)) : lsM M a = some xs := by unfold lsM; rw [h]
theorem dat_all {n : Nat} (ih : ∀ {x : TV} {v : V} {d : PyData}, Rv K H x v → dat M n x = some d → Dp K H v d) :
    ∀ {xs : List TV} {vs : List V} {ds : List PyData}, Rvs K H xs vs → optAll (dat M n) xs = some ds → DpAll K H vs ds
  | [], _, _, .nil, e => by cases e; exact .nil
  | x :: r, _, _, .cons rv t, e => by
    unfold optAll at e
    cases q : dat M n x with
    | none => rw [q] at e; cases e
    | some y =>
      rw [q] at e
      cases q2 : optAll (dat M n) r with
      | none => rw [q2] at e; cases e
      | some ys =>
        rw [q2] at e
        cases e
        exact .cons (ih rv q) (dat_all ih t q2)
theorem dat_ok (r : RepM K H M) : ∀ (n : Nat) {x : TV} {v : V} {d : PyData}, Rv K H x v → dat M n x = some d → Dp K H v d := by
  intro n
  induction n with
  | zero =>
    intro x v d rv e
    cases rv <;> simp [dat] at e <;> subst e <;> constructor
  | succ n ih =>
    intro x v d rv e
    cases rv with
    | non => simp [dat] at e; subst e; constructor
    | bl b => simp [dat] at e; subst e; constructor
    | int b => simp [dat] at e; subst e; constructor
    | str b => simp [dat] at e; subst e; constructor
    | ty b => simp [dat] at e
    | kl _ _ _ => simp [dat] at e
    | ref a =>
      simp only [dat] at e
      cases q : lsM M a with
      | none => rw [q] at e; cases e
      | some xs =>
        rw [q] at e
        dsimp only at e
        cases q2 : optAll (dat M n) xs with
        | none => rw [q2] at e; cases e
        | some ds =>
          rw [q2] at e
          cases e
          obtain ⟨vs, s, rvs, _⟩ := lsM_seq r q
          exact .lst s (dat_all ih rvs q2)
    | tup s rvs z =>
      simp only [dat] at e
      rename_i xs vs
      cases q2 : optAll (dat M n) xs with
      | none => rw [q2] at e; cases e
      | some ds =>
        rw [q2] at e
        cases e
        exact .tup s.sq (dat_all ih rvs q2)
end
/-- == where it is known -/
def eqF (M : TM) (x y : TV) : Option Bool := match dat M 65 x, dat M 65 y with
  | some d, some e => if SeqAt.shaped d && SeqAt.shaped e then some (PyData.eqv d e) else none
  | _, _ => none
/-- flat values, == of them, for in -/
def flT : TV → Bool
  | .non => true
  | .bl _ => true
  | .int _ => true
  | .str _ => true
  | _ => false
def eqT : TV → TV → Bool
  | .non, .non => true
  | .bl a, .bl b => a == b
  | .bl a, .int b => (if a then 1 else 0) == b
  | .int a, .bl b => a == (if b then 1 else 0)
  | .int a, .int b => a == b
  | .str a, .str b => a == b
  | _, _ => false
theorem flT_of {K : PySem.W.Frag} {H : Hp} {x : TV} {v : V} (r : Rv K H x v) (h : flT x = true) : flatV v = true := by
  cases r <;> first | rfl | cases h
theorem eqT_of {K : PySem.W.Frag} {H : Hp} {x y : TV} {v u : V} (r : Rv K H x v) (q : Rv K H y u) (h : flT x = true) (h' : flT y = true) : eqV v u = eqT x y := by
  cases r <;> cases q <;> first | rfl | cases h | cases h'
theorem flT_all {K : PySem.W.Frag} {H : Hp} : ∀ {xs : List TV} {vs : List V}, Rvs K H xs vs → xs.all flT = true → vs.all flatV = true
  | _, _, .nil, _ => rfl
  | _, _, .cons r t, h => by
    simp only [List.all_cons, Bool.and_eq_true] at h ⊢
    exact ⟨flT_of r h.1, flT_all t h.2⟩
theorem inT_of {K : PySem.W.Frag} {H : Hp} {x : TV} {v : V} (r : Rv K H x v) (hx : flT x = true) : ∀ {xs : List TV} {vs : List V}, Rvs K H xs vs → xs.all flT = true → inV v vs = xs.any fun y => eqT y x
  | _, _, .nil, _ => rfl
  | _, _, .cons q t, h => by
    simp only [List.all_cons, Bool.and_eq_true] at h
    have ih := inT_of r hx t h.2
    unfold inV at ih ⊢
    simp only [List.any_cons]
    rw [eqT_of q r h.1 hx, ih]
/-- x in y -/
def inF (M : TM) (x y : TV) : Option Bool := match x, y with
  | x, .tup ys => if flT x && ys.all flT then some (ys.any fun y => eqT y x) else none
  | x, .ref a => match lsM M a with
    | some ys => if flT x && ys.all flT then some (ys.any fun y => eqT y x) else none
    | none => none
  | .str s, .str z => match s.cps.toList with
    | [c] => some (decide (c ∈ z.cps.toList))
    | _ => none
  | _, _ => none

/-! ### comparisons -/
inductive COp where
  | lt | le | gt | ge | eq | ne | is | isn | in | nin
def COp.op : COp → CmpOp
  | .lt => .Lt | .le => .LtE | .gt => .Gt | .ge => .GtE | .eq => .Eq | .ne => .NotEq | .is => .Is | .isn => .IsNot | .in => .In | .nin => .NotIn
def isF (x y : TV) : Option Bool := match x, y with
  | .non, .non => some true
  | .bl a, .bl b => some (a == b)
  | .bl _, .non => some false
  | .int _, .non => some false
  | .str _, .non => some false
  | .tup _, .non => some false
  | .ref _, .non => some false
  | .ty _, .non => some false
  | _, _ => none
def cmpF : COp → TM → TV → TV → Option Bool
  | .lt, _, .int i, .int j => some (decide (i < j))
  | .le, _, .int i, .int j => some (decide (i ≤ j))
  | .gt, _, .int i, .int j => some (decide (j < i))
  | .ge, _, .int i, .int j => some (decide (j ≤ i))
  | .eq, M, x, y => eqF M x y
  | .ne, M, x, y => (eqF M x y).map not
  | .is, _, x, y => isF x y
  | .isn, _, x, y => (isF x y).map not
  | .in, M, x, y => inF M x y
  | .nin, M, x, y => (inF M x y).map not
  | _, _, _, _ => none

/-! ### the lifted value readings -/
abbrev W2 := TV → TV → TM → TK → Prop
abbrev W1 := TV → TM → TK → Prop
abbrev WC := List TV → TM → TK → Prop
section
variable (K : PySem.W.Frag)
def lift2 (w : W2) : R2 := fun v u H Q' => ∃ x y M Q, RepM K H M ∧ Rv K H x v ∧ Rv K H y u ∧ w x y M Q ∧ Cont K H M Q Q'
def lift1 (w : W1) : V → Hp → VK → Prop := fun v H Q' => ∃ x M Q, RepM K H M ∧ Rv K H x v ∧ w x M Q ∧ Cont K H M Q Q'
def liftC (w : WC) : List V → Hp → VK → Prop := fun vs H Q' => ∃ xs M Q, RepM K H M ∧ Rvs K H xs vs ∧ w xs M Q ∧ Cont K H M Q Q'
def liftB (w : TV → TM → (Bool → TM → Prop) → Prop) : V → Hp → (Bool → Hp → Prop) → Prop := fun v H Q' => ∃ x M Q, RepM K H M ∧ Rv K H x v ∧ w x M Q ∧ ∀ b H' M', Post K H M H' M' → Q b M' → Q' b H'
def liftM (w : TV → List TV → TM → TK → Prop) : V → List V → Hp → VK → Prop := fun v vs H Q' => ∃ x xs M Q, RepM K H M ∧ Rv K H x v ∧ Rvs K H xs vs ∧ w x xs M Q ∧ Cont K H M Q Q'
def liftSl (w : TV → Option Int → Option Int → TM → TK → Prop) : V → Option Int → Option Int → Hp → VK → Prop := fun v lo hi H Q' => ∃ x M Q, RepM K H M ∧ Rv K H x v ∧ w x lo hi M Q ∧ Cont K H M Q Q'
end
def OpJ (X : Cx) (f : Value → Value → Sem Value) (w : W2) : Prop := OpR X f (lift2 X.K w)
def UnJ (X : Cx) (f : Value → Sem Value) (w : W1) : Prop := UnR X f (lift1 X.K w)
def CaJ (X : Cx) (f : Value) (w : WC) : Prop := CallR X f (liftC X.K w)
def IxJ (X : Cx) (w : W2) : Prop := IxR X (lift2 X.K w)
def SlJ (X : Cx) (w : TV → Option Int → Option Int → TM → TK → Prop) : Prop := SlR X (liftSl X.K w)
def TrJ (X : Cx) (w : TV → TM → (Bool → TM → Prop) → Prop) : Prop := TruR X (liftB X.K w)
def MtJ (X : Cx) (id : String) (w : TV → List TV → TM → TK → Prop) : Prop := MtR X id (liftM X.K w)
section
variable {K : PySem.W.Frag} {H : Hp} {M : TM} {Q : TK} {Q' : VK}
theorem Cont.here (c : Cont K H M Q Q') (r : RepM K H M) {z : TV} {z' : V} (rv : Rv K H z z') (q : Q z M) : Q' z' H := c z z' H M (Post.refl r) rv q
theorem Cont.tup (c : Cont K H M Q Q') (r : RepM K H M) {xs : List TV} {vs : List V} (rv : Rvs K H xs vs) (z : xs.length ≤ sizeLine) (q : Q (.tup xs) M) {p : Addr} (h : H p = none) : Q' (.ref p) (upd H p (.tup vs)) :=
  c _ _ _ _ (Post.new r h) (.tup (.of upd_same) (rv.mono ((Post.new (o := .tup vs) r h).grow r)) z) q
theorem Cont.lst (c : Cont K H M Q Q') (r : RepM K H M) {xs : List TV} {vs : List V} (rv : Rvs K H xs vs) (z : xs.length ≤ sizeLine) (q : ∀ p, M p = none → Q (.ref p) (updM M p (.lst xs))) {p : Addr} (h : H p = none) : Q' (.ref p) (upd H p (.lst vs)) :=
  c _ _ _ _ (Post.new_lst r h rv z) (.ref p) (q p (r.fresh h))
end

def wCop (o : COp) : W2 := fun x y M Q => ∃ b, cmpF o M x y = some b ∧ Q (.bl b) M
section
variable {X : Cx}
theorem inF_ok {K : PySem.W.Frag} {H : Hp} {M : TM} {x y : TV} {v u : V} {b : Bool} (hM : RepM K H M) (hx : Rv K H x v) (hy : Rv K H y u) (h : inF M x y = some b) :
    (∃ p xs, u = .ref p ∧ (SqL K H p xs ∨ SqT K H p xs) ∧ flatV v = true ∧ xs.all flatV = true ∧ inV v xs = b) ∨ (∃ (c : Nat) (z : Str), v = .str ⟨#[c]⟩ ∧ u = .str z ∧ decide (c ∈ z.cps.toList) = b) := by
  cases hy with
  | @tup p ys us s rs _ =>
    simp only [inF] at h
    split at h
    · rename_i c
      simp only [Bool.and_eq_true] at c
      cases h
      exact .inl ⟨p, us, rfl, .inr s.sq, flT_of hx c.1, flT_all rs c.2, inT_of hx c.1 rs c.2⟩
    · cases h
  | ref a =>
    simp only [inF] at h
    cases q : lsM M a with
    | none => rw [q] at h; cases h
    | some ys =>
      rw [q] at h
      dsimp only at h
      obtain ⟨us, s, rs, _⟩ := lsM_seq hM q
      split at h
      · rename_i c
        simp only [Bool.and_eq_true] at c
        cases h
        exact .inl ⟨a, us, rfl, .inl s, flT_of hx c.1, flT_all rs c.2, inT_of hx c.1 rs c.2⟩
      · cases h
  | str z =>
    cases hx with
    | str s =>
      simp only [inF] at h
      split at h
      · rename_i c e
        cases h
        refine .inr ⟨c, z, ?_, rfl, rfl⟩
        congr 1
        cases s with
        | mk cps =>
          congr 1
          exact Array.toList_inj.mp (by rw [show cps.toList = [c] from e])
      · cases h
    | _ => simp only [inF] at h; cases h
  | _ => cases hx <;> simp only [inF] at h <;> cases h
theorem opj_cop (hu : X.A.units + 64 < cLine) : ∀ o : COp, OpJ X (compareOp o.op) (wCop o)
  | .lt => by
    intro pins s σ H v u vv uu Q' I rv ru ⟨x, y, M, Q, hM, hx, hy, ⟨b, e, hq⟩, hk⟩
    cases hx <;> cases hy <;> first | (simp only [cmpF] at e; cases e; done) | skip
    simp only [cmpF] at e; cases e
    exact op_lt pins s σ H _ _ _ _ Q' I rv ru ⟨_, _, rfl, rfl, hk.here hM (.bl _) hq⟩
  | .le => by
    intro pins s σ H v u vv uu Q' I rv ru ⟨x, y, M, Q, hM, hx, hy, ⟨b, e, hq⟩, hk⟩
    cases hx <;> cases hy <;> first | (simp only [cmpF] at e; cases e; done) | skip
    simp only [cmpF] at e; cases e
    exact op_le pins s σ H _ _ _ _ Q' I rv ru ⟨_, _, rfl, rfl, hk.here hM (.bl _) hq⟩
  | .gt => by
    intro pins s σ H v u vv uu Q' I rv ru ⟨x, y, M, Q, hM, hx, hy, ⟨b, e, hq⟩, hk⟩
    cases hx <;> cases hy <;> first | (simp only [cmpF] at e; cases e; done) | skip
    simp only [cmpF] at e; cases e
    exact op_gt pins s σ H _ _ _ _ Q' I rv ru ⟨_, _, rfl, rfl, hk.here hM (.bl _) hq⟩
  | .ge => by
    intro pins s σ H v u vv uu Q' I rv ru ⟨x, y, M, Q, hM, hx, hy, ⟨b, e, hq⟩, hk⟩
    cases hx <;> cases hy <;> first | (simp only [cmpF] at e; cases e; done) | skip
    simp only [cmpF] at e; cases e
    exact op_ge pins s σ H _ _ _ _ Q' I rv ru ⟨_, _, rfl, rfl, hk.here hM (.bl _) hq⟩
  | .eq => by
    intro pins s σ H v u vv uu Q' I rv ru ⟨x, y, M, Q, hM, hx, hy, ⟨b, e, hq⟩, hk⟩
    simp only [cmpF, eqF] at e
    split at e
    · rename_i d d' e1 e2
      split at e
      · rename_i c
        simp only [Bool.and_eq_true] at c
        cases e
        exact op_eqD hu pins s σ H _ _ _ _ Q' I rv ru ⟨d, d', dat_ok hM _ hx e1, dat_ok hM _ hy e2, c.1, c.2, hk.here hM (.bl _) hq⟩
      · cases e
    · cases e
  | .ne => by
    intro pins s σ H v u vv uu Q' I rv ru ⟨x, y, M, Q, hM, hx, hy, ⟨b, e, hq⟩, hk⟩
    simp only [cmpF, eqF] at e
    split at e
    · rename_i d d' e1 e2
      split at e
      · rename_i c
        simp only [Bool.and_eq_true] at c
        cases e
        exact op_neD hu pins s σ H _ _ _ _ Q' I rv ru ⟨d, d', dat_ok hM _ hx e1, dat_ok hM _ hy e2, c.1, c.2, hk.here hM (.bl _) hq⟩
      · cases e
    · cases e
  | .is => by
    intro pins s σ H v u vv uu Q' I rv ru ⟨x, y, M, Q, hM, hx, hy, ⟨b, e, hq⟩, hk⟩
    cases hx <;> cases hy <;> first | (simp only [cmpF, isF] at e; cases e; done) | skip
    all_goals (simp only [cmpF, isF] at e; cases e)
    all_goals first
      | exact op_isN pins s σ H _ _ _ _ Q' I rv ru ⟨rfl, hk.here hM (by simp; exact .bl _) hq⟩
      | exact op_is_bl pins s σ H _ _ _ _ Q' I rv ru ⟨_, _, rfl, rfl, hk.here hM (by rw [← Bool.beq_eq_decide_eq]; exact .bl _) hq⟩
  | .isn => by
    intro pins s σ H v u vv uu Q' I rv ru ⟨x, y, M, Q, hM, hx, hy, ⟨b, e, hq⟩, hk⟩
    cases hx <;> cases hy <;> first | (simp only [cmpF, isF] at e; cases e; done) | skip
    all_goals (simp only [cmpF, isF] at e; cases e)
    all_goals first
      | exact op_notN pins s σ H _ _ _ _ Q' I rv ru ⟨rfl, hk.here hM (by simp; exact .bl _) hq⟩
      | exact op_isnot_bl pins s σ H _ _ _ _ Q' I rv ru ⟨_, _, rfl, rfl, hk.here hM (by rw [← Bool.beq_eq_decide_eq]; exact .bl _) hq⟩
  | .in => by
    intro pins s σ H v u vv uu Q' I rv ru ⟨x, y, M, Q, hM, hx, hy, ⟨b, e, hq⟩, hk⟩
    rcases inF_ok hM hx hy (show inF M x y = some b from e) with ⟨p, xs, rfl, hs, h1, h2, rfl⟩ | ⟨c, z, rfl, rfl, rfl⟩
    · exact op_in_seq pins s σ H _ _ _ _ Q' I rv ru ⟨p, xs, rfl, hs, h1, h2, hk.here hM (.bl _) hq⟩
    · exact op_in_sign pins s σ H _ _ _ _ Q' I rv ru ⟨c, z, rfl, rfl, hk.here hM (.bl _) hq⟩
  | .nin => by
    intro pins s σ H v u vv uu Q' I rv ru ⟨x, y, M, Q, hM, hx, hy, ⟨b, e, hq⟩, hk⟩
    simp only [cmpF, Option.map_eq_some_iff] at e
    obtain ⟨b', e, rfl⟩ := e
    rcases inF_ok hM hx hy e with ⟨p, xs, rfl, hs, h1, h2, rfl⟩ | ⟨c, z, rfl, rfl, rfl⟩
    · exact op_notIn_seq pins s σ H _ _ _ _ Q' I rv ru ⟨p, xs, rfl, hs, h1, h2, hk.here hM (.bl _) hq⟩
    · exact op_notIn_sign pins s σ H _ _ _ _ Q' I rv ru ⟨c, z, rfl, rfl, hk.here hM (.bl _) hq⟩
end

/-! ### arithmetic -/
inductive BOp where
  | add | sub | mul | fdiv | mod | pow
def BOp.op : BOp → Operator
  | .add => .Add | .sub => .Sub | .mul => .Mult | .fdiv => .FloorDiv | .mod => .Mod | .pow => .Pow
def wBop : BOp → W2
  | .add, .int i, .int j, M, Q => Q (.int (i + j)) M
  | .add, .str a, .str b, M, Q => a.length + b.length ≤ sizeLine ∧ Q (.str (a ++ b)) M
  | .add, .tup a, .tup b, M, Q => a.length + b.length ≤ sizeLine ∧ Q (.tup (a ++ b)) M
  | .add, .ref a, .ref b, M, Q => ∃ xs ys, M a = some (.lst xs) ∧ M b = some (.lst ys) ∧ xs.length + ys.length ≤ sizeLine ∧ ∀ p, M p = none → Q (.ref p) (updM M p (.lst (xs ++ ys)))
  | .sub, .int i, .int j, M, Q => Q (.int (i - j)) M
  | .mul, .int i, .int j, M, Q => (((-(2 ^ 64) < i ∧ i < 2 ^ 64) ∨ (-(2 ^ 64) < j ∧ j < 2 ^ 64)) ∨ i.natAbs.log2 + j.natAbs.log2 < 1000000) ∧ Q (.int (i * j)) M
  | .mul, .tup a, .int k, M, Q => (a ≠ [] ∧ 2 ≤ k ∧ k ≤ 1000 ∧ a.length ≤ 1000) ∧ Q (.tup (List.replicate k.toNat a).flatten) M
  | .mul, .ref a, .int k, M, Q => ∃ xs, M a = some (.lst xs) ∧ -(2 ^ 63) ≤ k ∧ k < 2 ^ 63 ∧ xs.length * k.toNat ≤ sizeLine ∧ ∀ p, M p = none → Q (.ref p) (updM M p (.lst (List.replicate k.toNat xs).flatten))
  | .fdiv, .int i, .int j, M, Q => (0 < j ∧ j.natAbs.log2 < 9000) ∧ Q (.int (i / j)) M
  | .mod, .int i, .int j, M, Q => 0 < j ∧ Q (.int (i % j)) M
  | .pow, .int i, .int j, M, Q => (0 ≤ j ∧ j ≤ 1000000 ∧ i.natAbs < 2 ^ 64) ∧ Q (.int (i ^ j.toNat)) M
  | _, _, _, _, _ => False
section
variable {X : Cx}
theorem opj_bop : ∀ o : BOp, OpJ X (binaryOp o.op) (wBop o)
  | .add => by
    intro pins s σ H v u vv uu Q' I rv ru ⟨x, y, M, Q, hM, hx, hy, hw, hk⟩
    cases hx <;> cases hy <;> first | exact (show False from hw).elim | skip
    case int.int => exact op_add pins s σ H _ _ _ _ Q' I rv ru ⟨_, _, rfl, rfl, hk.here hM (.int _) hw⟩
    case str.str =>
      have hw : _ ∧ _ := hw
      exact op_add_str pins s σ H _ _ _ _ Q' I rv ru ⟨_, _, rfl, rfl, hw.1, hk.here hM (.str _) hw.2⟩
    case ref.ref a b =>
      obtain ⟨xs, ys, ha, hb, hl, hq⟩ := hw
      obtain ⟨vs, e1, r1, _⟩ := hM a _ ha
      obtain ⟨us, e2, r2, _⟩ := hM b _ hb
      refine op_cat pins s σ H _ _ _ _ Q' I rv ru ⟨a, b, vs, us, rfl, rfl, e1, e2, by rw [← r1.length, ← r2.length]; exact hl, fun p hp => hk.lst hM (r1.append r2) (by rw [List.length_append]; exact hl) hq hp⟩
    case tup.tup p xs vs s1 r1 z1 q ys us s2 r2 z2 =>
      have hw : _ ∧ _ := hw
      refine op_catA pins s σ H _ _ _ _ Q' I rv ru ⟨p, q, vs, us, rfl, rfl, s1.sq, s2.sq, by rw [← r1.length, ← r2.length]; exact hw.1, fun e => ?_, fun _ e => ?_, fun _ _ p' hp => hk.tup hM (r1.append r2) (by rw [List.length_append]; exact hw.1) hw.2 hp⟩
      · subst e
        cases r1
        exact hk.here hM (.tup s2 r2 z2) hw.2
      · subst e
        cases r2
        have q2 := hw.2
        rw [List.append_nil] at q2
        exact hk.here hM (.tup s1 r1 z1) q2
  | .sub => by
    intro pins s σ H v u vv uu Q' I rv ru ⟨x, y, M, Q, hM, hx, hy, hw, hk⟩
    cases hx <;> cases hy <;> first | exact (show False from hw).elim | skip
    exact op_sub pins s σ H _ _ _ _ Q' I rv ru ⟨_, _, rfl, rfl, hk.here hM (.int _) hw⟩
  | .mul => by
    intro pins s σ H v u vv uu Q' I rv ru ⟨x, y, M, Q, hM, hx, hy, hw, hk⟩
    cases hx <;> cases hy <;> first | exact (show False from hw).elim | skip
    case int.int =>
      have hw : _ ∧ _ := hw
      rcases hw.1 with h1 | h1
      · exact op_mul pins s σ H _ _ _ _ Q' I rv ru ⟨_, _, rfl, rfl, h1, hk.here hM (.int _) hw.2⟩
      · exact op_mulW pins s σ H _ _ _ _ Q' I rv ru ⟨_, _, rfl, rfl, h1, hk.here hM (.int _) hw.2⟩
    case ref.int a k =>
      obtain ⟨xs, ha, h1, h2, h3, hq⟩ := hw
      obtain ⟨vs, e1, r1, _⟩ := hM a _ ha
      exact op_rep pins s σ H _ _ _ _ Q' I rv ru ⟨a, k, vs, rfl, rfl, e1, h1, h2, by rw [← r1.length]; exact h3, fun p hp => hk.lst hM (r1.flat_rep _) (by rw [List.length_flatten, List.map_replicate, List.sum_replicate_nat, Nat.mul_comm]; exact h3) hq hp⟩
    case tup.int p xs vs s1 r1 z1 k =>
      obtain ⟨⟨h1, h2, h3, h4⟩, hq⟩ := hw
      refine op_repT pins s σ H _ _ _ _ Q' I rv ru ⟨p, k, vs, rfl, rfl, s1.sq, fun e => h1 ?_, h2, h3, by rw [← r1.length]; exact h4, fun p' hp => hk.tup hM (r1.flat_rep _) (by
        rw [List.length_flatten, List.map_replicate, List.sum_replicate_nat, sizeLine_eq]
        have a1 : k.toNat * xs.length ≤ 1000 * 1000 := Nat.mul_le_mul (by omega) h4
        omega) hq hp⟩
      subst e
      cases r1
      rfl
  | .fdiv => by
    intro pins s σ H v u vv uu Q' I rv ru ⟨x, y, M, Q, hM, hx, hy, hw, hk⟩
    cases hx <;> cases hy <;> first | exact (show False from hw).elim | skip
    have hw : _ ∧ _ := hw
    exact op_fdivW pins s σ H _ _ _ _ Q' I rv ru ⟨_, _, rfl, rfl, hw.1, hk.here hM (.int _) hw.2⟩
  | .mod => by
    intro pins s σ H v u vv uu Q' I rv ru ⟨x, y, M, Q, hM, hx, hy, hw, hk⟩
    cases hx <;> cases hy <;> first | exact (show False from hw).elim | skip
    have hw : _ ∧ _ := hw
    exact op_mod pins s σ H _ _ _ _ Q' I rv ru ⟨_, _, rfl, rfl, hw.1, hk.here hM (.int _) hw.2⟩
  | .pow => by
    intro pins s σ H v u vv uu Q' I rv ru ⟨x, y, M, Q, hM, hx, hy, hw, hk⟩
    cases hx <;> cases hy <;> first | exact (show False from hw).elim | skip
    have hw : _ ∧ _ := hw
    exact op_pow pins s σ H _ _ _ _ Q' I rv ru ⟨_, _, rfl, rfl, hw.1, hk.here hM (.int _) hw.2⟩
end

/-! ### truth -/
def truT (M : TM) : TV → Option Bool
  | .non => some false
  | .bl b => some b
  | .int i => some (i != 0)
  | .str y => if y.length ≤ sizeLine then some ((y.length : Int) != 0) else none
  | .tup xs => some (!xs.isEmpty)
  | .ref a => match lsM M a with
    | some xs => some (!xs.isEmpty)
    | none => none
  | .ty _ => none
  | .kl _ => none
theorem Rvs.isEmpty {K : PySem.W.Frag} {H : Hp} {xs : List TV} {vs : List V} (r : Rvs K H xs vs) : vs.isEmpty = xs.isEmpty := by cases r <;> rfl
theorem truT_ok {K : PySem.W.Frag} {H : Hp} {M : TM} {x : TV} {v : V} {b : Bool} (hM : RepM K H M) (hx : Rv K H x v) (h : truT M x = some b) : TruV K v H b := by
  cases hx with
  | non => simp [truT] at h; subst h; rfl
  | bl c => simp [truT] at h; exact h.symm
  | int i => simp only [truT, Option.some.injEq] at h; exact h.symm
  | str s =>
    simp only [truT] at h
    split at h
    · cases h
      exact ⟨by assumption, rfl⟩
    · cases h
  | ref a =>
    simp only [truT] at h
    split at h
    · rename_i xs e
      cases h
      obtain ⟨vs, s, r, _⟩ := lsM_seq hM e
      exact .inl ⟨vs, s, by rw [r.isEmpty]⟩
    · cases h
  | ty n => simp [truT] at h
  | kl _ _ _ => simp [truT] at h
  | tup s r _ =>
    simp only [truT, Option.some.injEq] at h
    cases h
    exact .inr (.inl ⟨_, s.sq, by rw [r.isEmpty]⟩)
def wTru : TV → TM → (Bool → TM → Prop) → Prop := fun x M Q => ∃ b, truT M x = some b ∧ Q b M
theorem trj {X : Cx} : TrJ X wTru := by
  intro pins s σ H v vv Q' I rv ⟨x, M, Q, hM, hx, ⟨b, e, hq⟩, hk⟩
  exact tru_ok pins s σ H _ _ Q' I rv ⟨b, truT_ok hM hx e, hk b H M (.refl hM) hq⟩
end TL

/-! TCalls: built-in functions, subscripts, slices, methods of lists, over trees. -/
namespace TL
open PySem PySem.Spec PyProof.Rows L2

def allI : List TV → Option (List Int)
  | [] => some []
  | .int i :: r => match allI r with
    | some ns => some (i :: ns)
    | none => none
  | _ :: _ => none
def allB : List TV → Option (List Bool)
  | [] => some []
  | .bl i :: r => match allB r with
    | some ns => some (i :: ns)
    | none => none
  | _ :: _ => none
theorem allI_eq : ∀ {xs : List TV} {ns : List Int}, allI xs = some ns → xs = ns.map .int
  | [], _, h => by cases h; rfl
  | x :: r, ns, h => by
    cases x with
    | int i =>
      simp only [allI] at h
      cases q : allI r with
      | none => rw [q] at h; cases h
      | some ms =>
        rw [q] at h
        cases h
        rw [allI_eq q]; rfl
    | _ => simp only [allI] at h; cases h
theorem allB_eq : ∀ {xs : List TV} {ns : List Bool}, allB xs = some ns → xs = ns.map .bl
  | [], _, h => by cases h; rfl
  | x :: r, ns, h => by
    cases x with
    | bl i =>
      simp only [allB] at h
      cases q : allB r with
      | none => rw [q] at h; cases h
      | some ms =>
        rw [q] at h
        cases h
        rw [allB_eq q]; rfl
    | _ => simp only [allB] at h; cases h
theorem allI_map : ∀ (ns : List Int), allI (ns.map .int) = some ns
  | [] => rfl
  | n :: r => by simp only [List.map_cons, allI, allI_map r]
theorem allB_map : ∀ (ns : List Bool), allB (ns.map .bl) = some ns
  | [] => rfl
  | n :: r => by simp only [List.map_cons, allB, allB_map r]
def maxL : List Int → Int
  | [] => 0
  | [a] => a
  | a :: b :: r => max a (maxL (b :: r))
def minL : List Int → Int
  | [] => 0
  | [a] => a
  | a :: b :: r => min a (minL (b :: r))
theorem maxL_mem : ∀ {ns : List Int}, 0 < ns.length → maxL ns ∈ ns
  | [], h => by simp at h
  | [a], _ => by simp [maxL]
  | a :: b :: r, _ => by
    have ih := maxL_mem (ns := b :: r) (by simp)
    unfold maxL
    by_cases h : a ≤ maxL (b :: r)
    · rw [Int.max_eq_right h]; exact List.mem_cons_of_mem _ ih
    · rw [Int.max_eq_left (by omega)]; exact List.mem_cons_self
theorem le_maxL : ∀ {ns : List Int} {y : Int}, y ∈ ns → y ≤ maxL ns
  | [a], y, h => by simp at h; simp [maxL, h]
  | a :: b :: r, y, h => by
    unfold maxL
    rcases List.mem_cons.mp h with h | h
    · subst h; omega
    · have := le_maxL h; omega
theorem minL_mem : ∀ {ns : List Int}, 0 < ns.length → minL ns ∈ ns
  | [], h => by simp at h
  | [a], _ => by simp [minL]
  | a :: b :: r, _ => by
    have ih := minL_mem (ns := b :: r) (by simp)
    unfold minL
    by_cases h : a ≤ minL (b :: r)
    · rw [Int.min_eq_left h]; exact List.mem_cons_self
    · rw [Int.min_eq_right (by omega)]; exact List.mem_cons_of_mem _ ih
theorem minL_le : ∀ {ns : List Int} {y : Int}, y ∈ ns → minL ns ≤ y
  | [a], y, h => by simp at h; simp [minL, h]
  | a :: b :: r, y, h => by
    unfold minL
    rcases List.mem_cons.mp h with h | h
    · subst h; omega
    · have := minL_le h; omega

/-! ### kinds -/
def tyN (M : TM) : TV → Option String
  | .non => some "NoneType"
  | .bl _ => some "bool"
  | .int _ => some "int"
  | .str _ => some "str"
  | .tup _ => some "tuple"
  | .ref a => match M a with
    | some (.lst _) => some "list"
    | some (.rls _) => some "list"
    | some (.dic _) => some "dict"
    | _ => none
  | .ty _ => none
  | .kl _ => none
theorem tyN_ok {K : PySem.W.Frag} {H : Hp} {M : TM} {x : TV} {v : V} {n : String} (hM : RepM K H M) (hx : Rv K H x v) (h : tyN M x = some n) : TyX K H v (.type n) := by
  cases hx with
  | non => cases h; exact .base .non
  | bl b => cases h; exact .base (.bl b)
  | int b => cases h; exact .base (.int b)
  | str b => cases h; exact .base (.str b)
  | ty b => cases h
  | kl _ _ _ => cases h
  | tup s r _ =>
    cases h
    rcases s with s | ⟨o, its, n, e, c, _⟩
    · exact .base (.tup s)
    · exact .kTuple e c
  | ref a =>
    simp only [tyN] at h
    cases q : M a with
    | none => rw [q] at h; cases h
    | some o =>
      rw [q] at h
      cases o with
      | lst xs => cases h; obtain ⟨vs, e, _⟩ := hM a _ q; exact .base (.lst e)
      | rls xs => cases h; obtain ⟨o, vs, e, _⟩ := hM a _ q; exact .base (.frz e)
      | dic xs =>
        cases h
        rcases hM a _ q with ⟨ks, e, _⟩ | ⟨ks, e, _⟩
        · exact .base (.dK e)
        · exact .base (.dT e)
      | ins _ _ _ => cases h
def isi1 (t : String) : TV → Option Bool
  | .ty n => kitB t n
  | _ => none
def isiL (t : String) : List TV → Option Bool
  | [] => some false
  | c :: r => match isi1 t c with
    | some true => some true
    | some false => isiL t r
    | none => none
def isiF (M : TM) (x c : TV) : Option Bool := match tyN M x with
  | none => none
  | some t => match c with
    | .tup cs => isiL t cs
    | c => isi1 t c
theorem isi1_ok {K : PySem.W.Frag} {H : Hp} {t : String} {c : TV} {v : V} {b : Bool} (hc : Rv K H c v) (h : isi1 t c = some b) : ∃ u, ClsV v u ∧ PySem.W.kitOne K (.type t) u = some b := by
  cases hc with
  | ty n => exact ⟨_, .ty n, kit_ty h⟩
  | _ => simp only [isi1] at h; cases h
theorem isi1_ty {t : String} {c : TV} {b : Bool} (h : isi1 t c = some b) : ∃ n, c = .ty n := by
  cases c with
  | ty n => exact ⟨n, rfl⟩
  | _ => simp only [isi1] at h; cases h
/-- all of them classes of the language -/
def tysL : List TV → Option (List String)
  | [] => some []
  | .ty n :: r => match tysL r with
    | some ns => some (n :: ns)
    | none => none
  | _ :: _ => none
def isiG (M : TM) (x c : TV) : Option Bool := match c with
  | .tup cs => if (tysL cs).isSome then isiF M x c else none
  | _ => isiF M x c
theorem tysL_ok {K : PySem.W.Frag} {H : Hp} : ∀ {cs : List TV} {vs : List V} {ns : List String}, Rvs K H cs vs → tysL cs = some ns → vs = ns.map .ty ∧ cs = ns.map .ty
  | [], _, _, .nil, h => by cases h; exact ⟨rfl, rfl⟩
  | c :: r, _, _, .cons rc t, h => by
    cases rc with
    | ty n =>
      simp only [tysL] at h
      cases q : tysL r with
      | none => rw [q] at h; cases h
      | some ns =>
        rw [q] at h
        cases h
        obtain ⟨e1, e2⟩ := tysL_ok t q
        rw [e1, e2]
        exact ⟨rfl, rfl⟩
    | _ => simp only [tysL] at h; cases h
theorem isiL_ok {K : PySem.W.Frag} {t : String} : ∀ {ns : List String} {b : Bool}, isiL t (ns.map .ty) = some b → PySem.W.kitAny K (.type t) (ns.map .type) = some b
  | [], b, h => by
    cases h
    exact kitAny_nil
  | n :: r, b, h => by
    simp only [List.map_cons, isiL, isi1] at h
    cases q : kitB t n with
    | none => rw [q] at h; cases h
    | some c =>
      rw [q] at h
      cases c with
      | true =>
        cases h
        exact kitAny_cons (kit_ty q) (fun z => nomatch z) (fun _ => rfl)
      | false => exact kitAny_cons (kit_ty q) (fun _ => isiL_ok h) (fun z => nomatch z)
theorem clsTy : ∀ ns : List String, Paired ClsV (ns.map V.ty) (ns.map Value.type)
  | [] => .nil
  | n :: r => .cons (.ty n) (clsTy r)

/-! ### built-in functions -/
inductive Bif where
  | len | abs | int | isi | tuple | list | sum | all | any | min2 | max2 | minl | maxl | str
def Bif.name : Bif → Str
  | .len => "len" | .abs => "abs" | .int => "int" | .isi => "isinstance" | .tuple => "tuple" | .list => "list" | .sum => "sum" | .all => "all" | .any => "any"
  | .min2 => "min" | .max2 => "max" | .minl => "min" | .maxl => "max" | .str => "str"
def Bif.val : Bif → Value
  | .len => .builtin "len" | .abs => .builtin "abs" | .int => .type "int" | .isi => .builtin "isinstance" | .tuple => .type "tuple" | .list => .type "list" | .sum => .builtin "sum" | .all => .builtin "all" | .any => .builtin "any"
  | .min2 => .builtin "min" | .max2 => .builtin "max" | .minl => .builtin "min" | .maxl => .builtin "max" | .str => .type "str"
def lenF (M : TM) : TV → Option Nat
  | .tup xs => some xs.length
  | .str s => if s.length ≤ sizeLine then some s.length else none
  | .ref a => match lsM M a with
    | some xs => some xs.length
    | none => none
  | _ => none
def intText : TV → Option Int
  | .int i => some i
  | .bl k => some (if k then 1 else 0)
  | .str a => if a.length ≤ 640 then PySem.intText? a else none
  | _ => none
def seqM (M : TM) : TV → Option (List TV)
  | .tup xs => some xs
  | .ref a => lsM M a
  | _ => none
def wBif : Bif → WC
  | .len, [x], M, Q => ∃ n, lenF M x = some n ∧ Q (.int n) M
  | .abs, [.int i], M, Q => Q (.int i.natAbs) M
  | .int, [x], M, Q => ∃ n, intText x = some n ∧ Q (.int n) M
  | .isi, [x, c], M, Q => ∃ b, isiG M x c = some b ∧ Q (.bl b) M
  | .tuple, [x], M, Q => ∃ xs, seqM M x = some xs ∧ Q (.tup xs) M
  | .list, [x], M, Q => ∃ xs, seqM M x = some xs ∧ ∀ p, M p = none → Q (.ref p) (updM M p (.lst xs))
  | .sum, [.ref a], M, Q => ∃ xs ns, lsM M a = some xs ∧ allI xs = some ns ∧ Q (.int ns.sum) M
  | .all, [.ref a], M, Q => ∃ xs ns, lsM M a = some xs ∧ allB xs = some ns ∧ Q (.bl (ns.all id)) M
  | .any, [.ref a], M, Q => ∃ xs ns, lsM M a = some xs ∧ allB xs = some ns ∧ Q (.bl (ns.any id)) M
  | .min2, [.int i, .int j], M, Q => Q (.int (min i j)) M
  | .max2, [.int i, .int j], M, Q => Q (.int (max i j)) M
  | .minl, [.ref a], M, Q => ∃ xs ns, lsM M a = some xs ∧ allI xs = some ns ∧ 0 < ns.length ∧ Q (.int (minL ns)) M
  | .maxl, [.ref a], M, Q => ∃ xs ns, lsM M a = some xs ∧ allI xs = some ns ∧ 0 < ns.length ∧ Q (.int (maxL ns)) M
  | .str, [.int i], M, Q => i.natAbs.log2 < 1920 ∧ Q (.str (toString i)) M
  | _, _, _, _ => False
section
variable {K : PySem.W.Frag} {H : Hp} {M : TM}
theorem seqM_ok {x : TV} {v : V} {xs : List TV} (hM : RepM K H M) (hx : Rv K H x v) (h : seqM M x = some xs) : ∃ p vs, v = .ref p ∧ Rvs K H xs vs ∧ xs.length ≤ sizeLine ∧ ((x = .ref p ∧ SqL K H p vs) ∨ (x = .tup xs ∧ TqT K H p vs)) := by
  cases hx with
  | ref a =>
    obtain ⟨vs, s, r, z⟩ := lsM_seq hM (show lsM M a = some xs from h)
    exact ⟨a, vs, rfl, r, z, .inl ⟨rfl, s⟩⟩
  | tup s r z => cases h; exact ⟨_, _, rfl, r, z, .inr ⟨rfl, s⟩⟩
  | _ => simp only [seqM] at h; cases h
theorem lenF_ok {x : TV} {v : V} {n : Nat} (hM : RepM K H M) (hx : Rv K H x v) (h : lenF M x = some n) : LenV K v H n := by
  cases hx with
  | ref a =>
    simp only [lenF] at h
    cases q : lsM M a with
    | none => rw [q] at h; cases h
    | some xs =>
      rw [q] at h
      cases h
      obtain ⟨vs, s, r, _⟩ := lsM_seq hM q
      exact .inl ⟨vs, s, r.length⟩
  | tup s r _ => cases h; exact .inr ⟨_, s.sq, r.length⟩
  | str s =>
    simp only [lenF] at h
    split at h
    · cases h; exact ⟨by assumption, rfl⟩
    · cases h
  | _ => simp only [lenF] at h; cases h
theorem ints_seq {a : Addr} {xs : List TV} {ns : List Int} (hM : RepM K H M) (h : lsM M a = some xs) (hi : allI xs = some ns) : SqL K H a (ns.map V.int) := by
  obtain ⟨vs, s, r, _⟩ := lsM_seq hM h
  rw [allI_eq hi] at r
  rw [r.ints] at s
  exact s
theorem bls_seq {a : Addr} {xs : List TV} {ns : List Bool} (hM : RepM K H M) (h : lsM M a = some xs) (hi : allB xs = some ns) : SqL K H a (ns.map V.bl) := by
  obtain ⟨vs, s, r, _⟩ := lsM_seq hM h
  rw [allB_eq hi] at r
  rw [r.bls] at s
  exact s
end
theorem Rvs.one {K : PySem.W.Frag} {H : Hp} {x : TV} {vs : List V} (r : Rvs K H [x] vs) : ∃ v, vs = [v] ∧ Rv K H x v := by
  cases r with
  | cons r t => cases t; exact ⟨_, rfl, r⟩
theorem Rvs.two {K : PySem.W.Frag} {H : Hp} {x y : TV} {vs : List V} (r : Rvs K H [x, y] vs) : ∃ v u, vs = [v, u] ∧ Rv K H x v ∧ Rv K H y u := by
  cases r with
  | cons r t =>
    obtain ⟨u, rfl, q⟩ := t.one
    exact ⟨_, _, rfl, r, q⟩
section
variable {X : Cx}
theorem caj_bif (hc : X.calm = true) : ∀ f : Bif, CaJ X f.val (wBif f)
  | .len => by
    intro pins s σ H vs us Q' I rv ⟨xs, M, Q, hM, hx, hw, hk⟩
    match xs, hw with
    | [x], ⟨n, e, hq⟩ =>
      obtain ⟨v, rfl, r⟩ := hx.one
      exact call_len pins s σ H _ us Q' I rv ⟨v, n, rfl, lenF_ok hM r e, hk.here hM (.int _) hq⟩
  | .abs => by
    intro pins s σ H vs us Q' I rv ⟨xs, M, Q, hM, hx, hw, hk⟩
    match xs, hw with
    | [.int i], hq =>
      obtain ⟨v, rfl, r⟩ := hx.one
      cases r
      refine call_abs pins s σ H _ us Q' I rv ⟨i, rfl, hk.here hM ?_ hq⟩
      have e : (i.natAbs : Int) = if i < 0 then -i else i := by split <;> omega
      rw [e]
      exact .int _
  | .int => by
    intro pins s σ H vs us Q' I rv ⟨xs, M, Q, hM, hx, hw, hk⟩
    match xs, hw with
    | [x], ⟨n, e, hq⟩ =>
      obtain ⟨v, rfl, r⟩ := hx.one
      cases r with
      | int i =>
        simp only [intText, Option.some.injEq] at e
        subst e
        exact call_int1 pins s σ H _ us Q' I rv (.inl ⟨i, rfl, hk.here hM (.int _) hq⟩)
      | bl k =>
        simp only [intText, Option.some.injEq] at e
        subst e
        exact call_int1 pins s σ H _ us Q' I rv (.inr ⟨k, rfl, hk.here hM (.int _) hq⟩)
      | str a =>
        simp only [intText] at e
        split at e
        · exact call_int_str pins s σ H _ us Q' I rv ⟨a, n, rfl, e, by assumption, hk.here hM (.int _) hq⟩
        · cases e
      | _ => simp only [intText] at e; cases e
  | .isi => by
    intro pins s σ H vs us Q' I rv ⟨xs, M, Q, hM, hx, hw, hk⟩
    match xs, hw with
    | [x, c], ⟨b, e, hq⟩ =>
      obtain ⟨v, u, rfl, r1, r2⟩ := hx.two
      cases r2 with
      | @tup p cs ws sq rs _ =>
        simp only [isiG] at e
        split at e
        · rename_i hs
          obtain ⟨ns, hns⟩ := Option.isSome_iff_exists.mp hs
          obtain ⟨e1, e2⟩ := tysL_ok rs hns
          subst e1 e2
          simp only [isiF] at e
          cases q : tyN M x with
          | none => rw [q] at e; cases e
          | some t =>
            rw [q] at e
            have k := isiL_ok (K := X.K) (show isiL t (ns.map .ty) = some b from e)
            rcases sq with sq | ⟨o, its, n, lk, c1, c2, c3, c4⟩
            · exact call_isiT pins s σ H _ us Q' I rv ⟨v, p, _, .type t, _, b, rfl, sq, clsTy ns, tyN_ok hM r1 q, k, hk.here hM (.bl _) hq⟩
            · obtain ⟨oc, od, odt, osl⟩ := o
              dsimp only at c1 c2
              subst c1 c2
              have ei : its = (ns.map Value.type).toArray := by
                have := ClsV.all (clsTy ns) c4
                rw [← this]
              exact call_isiK pins s σ H _ us Q' I rv ⟨v, p, od, ns.map Value.type, n, osl, .type t, b, rfl, by rw [← ei]; exact lk, tyN_ok hM r1 q, k, hk.here hM (.bl _) hq⟩
        · cases e
      | ty n =>
        simp only [isiG, isiF] at e
        cases q : tyN M x with
        | none => rw [q] at e; cases e
        | some t =>
          rw [q] at e
          exact call_isi pins s σ H _ us Q' I rv ⟨v, .ty n, .type t, .type n, b, rfl, .ty n, tyN_ok hM r1 q, kit_ty e, hk.here hM (.bl _) hq⟩
      | _ =>
        simp only [isiG, isiF] at e
        cases q : tyN M x with
        | none => rw [q] at e; cases e
        | some t => rw [q] at e; simp only [isi1] at e; cases e
  | .tuple => by
    intro pins s σ H vs us Q' I rv ⟨xs, M, Q, hM, hx, hw, hk⟩
    match xs, hw with
    | [x], ⟨ys, e, hq⟩ =>
      obtain ⟨v, rfl, r⟩ := hx.one
      obtain ⟨p, ws, rfl, rw', z1, ⟨rfl, s1⟩ | ⟨rfl, s1⟩⟩ := seqM_ok hM r e
      · exact call_tuple_of pins s σ H _ us Q' I rv ⟨p, ws, rfl, .inl ⟨s1, fun l hl => hk.tup hM rw' z1 hq hl⟩⟩
      · exact call_tuple_of pins s σ H _ us Q' I rv ⟨p, ws, rfl, .inr ⟨s1.sq, hk.here hM r hq⟩⟩
  | .list => by
    intro pins s σ H vs us Q' I rv ⟨xs, M, Q, hM, hx, hw, hk⟩
    match xs, hw with
    | [x], ⟨ys, e, hq⟩ =>
      obtain ⟨v, rfl, r⟩ := hx.one
      obtain ⟨p, ws, rfl, rw', z1, ⟨rfl, s1⟩ | ⟨rfl, s1⟩⟩ := seqM_ok hM r e
      · exact call_list_of pins s σ H _ us Q' I rv ⟨p, ws, rfl, .inl s1, fun l hl => hk.lst hM rw' z1 hq hl⟩
      · exact call_list_of pins s σ H _ us Q' I rv ⟨p, ws, rfl, .inr s1.sq, fun l hl => hk.lst hM rw' z1 hq hl⟩
  | .sum => by
    intro pins s σ H vs us Q' I rv ⟨xs, M, Q, hM, hx, hw, hk⟩
    match xs, hw with
    | [.ref a], ⟨ys, ns, e1, e2, hq⟩ =>
      obtain ⟨v, rfl, r⟩ := hx.one
      cases r
      exact cr_sum hc pins s σ H _ us Q' I rv ⟨a, ns, rfl, ints_seq hM e1 e2, hk.here hM (.int _) hq⟩
  | .all => by
    intro pins s σ H vs us Q' I rv ⟨xs, M, Q, hM, hx, hw, hk⟩
    match xs, hw with
    | [.ref a], ⟨ys, ns, e1, e2, hq⟩ =>
      obtain ⟨v, rfl, r⟩ := hx.one
      cases r
      exact cr_all hc pins s σ H _ us Q' I rv ⟨a, ns, rfl, bls_seq hM e1 e2, hk.here hM (.bl _) hq⟩
  | .any => by
    intro pins s σ H vs us Q' I rv ⟨xs, M, Q, hM, hx, hw, hk⟩
    match xs, hw with
    | [.ref a], ⟨ys, ns, e1, e2, hq⟩ =>
      obtain ⟨v, rfl, r⟩ := hx.one
      cases r
      exact cr_any hc pins s σ H _ us Q' I rv ⟨a, ns, rfl, bls_seq hM e1 e2, hk.here hM (.bl _) hq⟩
  | .min2 => by
    intro pins s σ H vs us Q' I rv ⟨xs, M, Q, hM, hx, hw, hk⟩
    match xs, hw with
    | [.int i, .int j], hq =>
      obtain ⟨v, u, rfl, r1, r2⟩ := hx.two
      cases r1; cases r2
      refine call_min2 hc pins s σ H _ us Q' I rv ⟨i, j, rfl, hk.here hM ?_ hq⟩
      have e : min i j = if j < i then j else i := by split <;> omega
      rw [e]
      exact .int _
  | .max2 => by
    intro pins s σ H vs us Q' I rv ⟨xs, M, Q, hM, hx, hw, hk⟩
    match xs, hw with
    | [.int i, .int j], hq =>
      obtain ⟨v, u, rfl, r1, r2⟩ := hx.two
      cases r1; cases r2
      refine call_max2 hc pins s σ H _ us Q' I rv ⟨i, j, rfl, hk.here hM ?_ hq⟩
      have e : max i j = if j > i then j else i := by split <;> omega
      rw [e]
      exact .int _
  | .minl => by
    intro pins s σ H vs us Q' I rv ⟨xs, M, Q, hM, hx, hw, hk⟩
    match xs, hw with
    | [.ref a], ⟨ys, ns, e1, e2, hl, hq⟩ =>
      obtain ⟨v, rfl, r⟩ := hx.one
      cases r
      refine cr_min hc pins s σ H _ us Q' I rv ⟨a, ns, rfl, ints_seq hM e1 e2, hl, fun m h1 h2 => hk.here hM ?_ hq⟩
      have := h2 _ (minL_mem hl)
      have := minL_le h1
      rw [show m = minL ns by omega]
      exact .int _
  | .maxl => by
    intro pins s σ H vs us Q' I rv ⟨xs, M, Q, hM, hx, hw, hk⟩
    match xs, hw with
    | [.ref a], ⟨ys, ns, e1, e2, hl, hq⟩ =>
      obtain ⟨v, rfl, r⟩ := hx.one
      cases r
      refine cr_max hc pins s σ H _ us Q' I rv ⟨a, ns, rfl, ints_seq hM e1 e2, hl, fun m h1 h2 => hk.here hM ?_ hq⟩
      have := h2 _ (maxL_mem hl)
      have := le_maxL h1
      rw [show m = maxL ns by omega]
      exact .int _
  | .str => by
    intro pins s σ H vs us Q' I rv ⟨xs, M, Q, hM, hx, hw, hk⟩
    match xs, hw with
    | [.int i], ⟨h1, hq⟩ =>
      obtain ⟨v, rfl, r⟩ := hx.one
      cases r
      exact call_str_int pins s σ H _ us Q' I rv ⟨i, rfl, h1, hk.here hM (.str _) hq⟩
theorem caj_none (f : Bif) : (f.val = .builtin "x" → False) := by cases f <;> decide
theorem bif_boot (f : Bif) : bootBuiltins f.name = some f.val := by cases f <;> decide +kernel

/-! ### subscripts and slices -/
def ixF (M : TM) : TV → TV → Option TV
  | .tup xs, .int i => atI xs i
  | .ref a, .int i => match lsM M a with
    | some xs => atI xs i
    | none => none
  | .str z, .int i => if z.length ≤ sizeLine then (match atI z.cps.toList i with
    | some c => some (.str ⟨#[c]⟩)
    | none => none) else none
  | _, _ => none
def wIx : W2 := fun x y M Q => ∃ z, ixF M x y = some z ∧ Q z M
theorem Rvs.atI {K : PySem.W.Frag} {H : Hp} {xs : List TV} {vs : List V} {i : Int} {x : TV} (r : Rvs K H xs vs) (h : L2.atI xs i = some x) : ∃ v, L2.atI vs i = some v ∧ Rv K H x v := by
  unfold L2.atI at h ⊢
  rw [← r.length]
  cases q : ixN xs.length i with
  | none => rw [q] at h; cases h
  | some j =>
    rw [q] at h
    exact r.get h
theorem ixj : IxJ X wIx := by
  intro value slice pins s σ H v u vv uu Q' I rv ru ⟨x, y, M, Q, hM, hx, hy, ⟨z, e, hq⟩, hk⟩ hsub
  cases hx with
  | tup sq r _ =>
    cases hy with
    | int i =>
      obtain ⟨w, e2, rw'⟩ := r.atI (show L2.atI _ i = some z from e)
      exact ix_tup value slice pins s σ H _ _ _ _ Q' I rv ru ⟨_, _, i, w, rfl, rfl, sq.sq, e2, hk.here hM rw' hq⟩ hsub
    | _ => simp only [ixF] at e; cases e
  | ref a =>
    cases hy with
    | int i =>
      simp only [ixF] at e
      cases q : lsM M a with
      | none => rw [q] at e; cases e
      | some xs =>
        rw [q] at e
        obtain ⟨vs, sq, r, _⟩ := lsM_seq hM q
        obtain ⟨w, e2, rw'⟩ := r.atI (show L2.atI _ i = some z from e)
        exact ix_list value slice pins s σ H _ _ _ _ Q' I rv ru ⟨_, _, i, w, rfl, rfl, sq, e2, hk.here hM rw' hq⟩ hsub
    | _ => simp only [ixF] at e; cases e
  | str t =>
    cases hy with
    | int i =>
      simp only [ixF] at e
      split at e
      · cases q : L2.atI t.cps.toList i with
        | none => rw [q] at e; cases e
        | some c =>
          rw [q] at e
          cases e
          exact ix_str value slice pins s σ H _ _ _ _ Q' I rv ru ⟨t, i, c, rfl, rfl, by assumption, q, hk.here hM (.str _) hq⟩ hsub
      · cases e
    | _ => simp only [ixF] at e; cases e
  | _ => simp only [ixF] at e; cases e
def cutT (xs : List TV) (lo hi : Option Int) : List TV := (xs.drop (HT.sIx xs.length 0 lo)).take (HT.sIx xs.length xs.length hi - HT.sIx xs.length 0 lo)
theorem Rvs.cut {K : PySem.W.Frag} {H : Hp} {xs : List TV} {vs : List V} (r : Rvs K H xs vs) (lo hi : Option Int) : Rvs K H (cutT xs lo hi) (cutV vs lo hi) := by
  unfold cutT cutV
  rw [← r.length]
  exact (r.drop _).take _
theorem cutT_len (xs : List TV) (lo hi : Option Int) : (cutT xs lo hi).length ≤ xs.length := by
  unfold cutT
  rw [List.length_take, List.length_drop]
  omega
def wSl : TV → Option Int → Option Int → TM → TK → Prop
  | .tup xs, lo, hi, M, Q => Q (.tup (cutT xs lo hi)) M
  | .ref a, lo, hi, M, Q => ∃ xs, lsM M a = some xs ∧ ∀ p, M p = none → Q (.ref p) (updM M p (.lst (cutT xs lo hi)))
  | .kl xs, lo, hi, M, Q => ∀ p, M p = none → Q (.ref p) (updM M p (.lst (cutT xs lo hi)))
  | .str z, lo, hi, M, Q => z.length ≤ sizeLine ∧ Q (.str (cutS z lo hi)) M
  | _, _, _, _, _ => False
theorem slj : SlJ X wSl := by
  intro pins s σ H v vv vl vu lo hi sl Q' I rv hs pl pu ⟨x, M, Q, hM, hx, hw, hk⟩
  cases hx with
  | tup sq r z =>
    have hq : Q _ M := hw
    refine sl_tupA pins s σ H _ vv vl vu lo hi sl Q' I rv hs pl pu ⟨_, _, rfl, sq.sq, fun e => ?_, fun _ p hp => hk.tup hM (r.cut lo hi) (Nat.le_trans (cutT_len _ _ _) z) hq hp⟩
    rename_i xs vs
    have ec : cutT xs lo hi = xs := by
      unfold cutT
      rw [r.length, e.1, e.2]
      simp [← r.length]
    rw [ec] at hq
    exact hk.here hM (.tup sq r z) hq
  | ref a =>
    obtain ⟨xs, e, hq⟩ := hw
    obtain ⟨vs, sq, r, z⟩ := lsM_seq hM e
    exact sl_list pins s σ H _ vv vl vu lo hi sl Q' I rv hs pl pu ⟨_, _, rfl, sq, fun p hp => hk.lst hM (r.cut lo hi) (Nat.le_trans (cutT_len _ _ _) z) hq hp⟩
  | kl sq r z =>
    have hq : ∀ p, M p = none → Q (.ref p) (updM M p (.lst (cutT _ lo hi))) := hw
    exact sl_list pins s σ H _ vv vl vu lo hi sl Q' I rv hs pl pu ⟨_, _, rfl, sq.sq, fun p hp => hk.lst hM (r.cut lo hi) (Nat.le_trans (cutT_len _ _ _) z) hq hp⟩
  | str z =>
    obtain ⟨h1, hq⟩ := hw
    exact sl_str pins s σ H _ vv vl vu lo hi sl Q' I rv hs pl pu ⟨_, rfl, h1, hk.here hM (.str _) hq⟩
  | _ => exact (show False from hw).elim
theorem unj_neg : UnJ X (unaryOp .USub) (fun x M Q => match x with | .int i => Q (.int (-i)) M | _ => False) := by
  intro pins s σ H v vv Q' I rv ⟨x, M, Q, hM, hx, hw, hk⟩
  cases hx with
  | int i => exact un_neg pins s σ H _ _ Q' I rv ⟨i, rfl, hk.here hM (.int _) hw⟩
  | _ => exact (show False from hw).elim

/-! ### methods of lists -/
inductive Mth where
  | append | pop0 | pop1 | extend | insert
def Mth.name : Mth → Str
  | .append => "append" | .pop0 => "pop" | .pop1 => "pop" | .extend => "extend" | .insert => "insert"
def Mth.id : Mth → String
  | .append => "list.append" | .pop0 => "list.pop" | .pop1 => "list.pop" | .extend => "list.extend" | .insert => "list.insert"
def wMth : Mth → TV → List TV → TM → TK → Prop
  | .append, .ref a, [y], M, Q => ∃ xs, M a = some (.lst xs) ∧ xs.length < sizeLine ∧ Q .non (updM M a (.lst (xs ++ [y])))
  | .pop0, .ref a, [], M, Q => ∃ xs y, M a = some (.lst xs) ∧ xs[xs.length - 1]? = some y ∧ Q y (updM M a (.lst xs.dropLast))
  | .pop1, .ref a, [.int i], M, Q => ∃ xs k y, M a = some (.lst xs) ∧ ixN xs.length i = some k ∧ xs[k]? = some y ∧ Q y (updM M a (.lst (xs.eraseIdx k)))
  | .extend, .ref a, [.ref b], M, Q => ∃ xs ys, M a = some (.lst xs) ∧ M b = some (.lst ys) ∧ xs.length + ys.length ≤ sizeLine ∧ Q .non (updM M a (.lst (xs ++ ys)))
  | .insert, .ref a, [.int i, y], M, Q => ∃ xs, M a = some (.lst xs) ∧ xs.length < sizeLine ∧ 0 ≤ i ∧ i < 2 ^ 63 ∧ Q .non (updM M a (.lst (xs.take i.toNat ++ [y] ++ xs.drop i.toNat)))
  | _, _, _, _, _ => False
theorem mtj : ∀ m : Mth, MtJ X m.id (wMth m)
  | .append => by
    intro pins s σ H v vs vv us Q' I rv rvs ⟨x, xs, M, Q, hM, hx, hxs, hw, hk⟩
    match x, xs, hx, hxs, hw with
    | .ref a, [y], hx, hxs, ⟨ys, e, hl, hq⟩ =>
      cases hx
      obtain ⟨w, rfl, r⟩ := hxs.one
      obtain ⟨ws, e1, r1, z1⟩ := hM a _ e
      exact mt_append pins s σ H _ _ vv us Q' I rv rvs ⟨a, ws, w, rfl, rfl, e1, by rw [← r1.length]; exact hl, hk _ _ _ _ (Post.set_lst hM e (r1.append (.cons r .nil)) (by rw [List.length_append]; exact hl)) .non hq⟩
  | .pop0 => by
    intro pins s σ H v vs vv us Q' I rv rvs ⟨x, xs, M, Q, hM, hx, hxs, hw, hk⟩
    match x, xs, hx, hxs, hw with
    | .ref a, [], hx, hxs, ⟨ys, y, e, hl, hq⟩ =>
      cases hx
      cases hxs
      obtain ⟨ws, e1, r1, z1⟩ := hM a _ e
      obtain ⟨w, e2, r⟩ := r1.get hl
      rw [r1.length] at e2
      have p := Post.set_lst hM e r1.dropLast (by rw [List.length_dropLast]; omega)
      exact mt_pop pins s σ H _ _ vv us Q' I rv rvs ⟨a, ws, w, rfl, rfl, e1, e2, hk _ _ _ _ p (r.mono (p.grow hM)) hq⟩
  | .pop1 => by
    intro pins s σ H v vs vv us Q' I rv rvs ⟨x, xs, M, Q, hM, hx, hxs, hw, hk⟩
    match x, xs, hx, hxs, hw with
    | .ref a, [.int i], hx, hxs, ⟨ys, k, y, e, hl, hy, hq⟩ =>
      cases hx
      obtain ⟨w0, rfl, r0⟩ := hxs.one
      cases r0
      obtain ⟨ws, e1, r1, z1⟩ := hM a _ e
      obtain ⟨w, e2, r⟩ := r1.get hy
      obtain ⟨h1, h2, h3, h4⟩ := ixN_seq hl
      obtain ⟨its, _, _, hz⟩ := I.list (SqL.of e1)
      have hs : sizeLine = 16777216 := sizeLine_eq
      rw [← r1.length] at hz
      have p := Post.set_lst hM e (r1.eraseIdx k) (Nat.le_trans (List.length_eraseIdx_le _ _) z1)
      exact mt_popAt pins s σ H _ _ vv us Q' I rv rvs ⟨a, ws, i, k, w, rfl, rfl, e1, by omega, by omega, by rw [← r1.length]; exact h1, e2, hk _ _ _ _ p (r.mono (p.grow hM)) hq⟩
  | .extend => by
    intro pins s σ H v vs vv us Q' I rv rvs ⟨x, xs, M, Q, hM, hx, hxs, hw, hk⟩
    match x, xs, hx, hxs, hw with
    | .ref a, [.ref b], hx, hxs, ⟨ys, zs, e, e', hl, hq⟩ =>
      cases hx
      obtain ⟨w, rfl, r⟩ := hxs.one
      cases r
      obtain ⟨ws, e1, r1, z1⟩ := hM a _ e
      obtain ⟨us', e2, r2, z2⟩ := hM b _ e'
      exact mt_extend pins s σ H _ _ vv us Q' I rv rvs ⟨a, b, ws, us', rfl, rfl, e1, e2, by rw [← r1.length, ← r2.length]; exact hl, hk _ _ _ _ (Post.set_lst hM e (r1.append r2) (by rw [List.length_append]; exact hl)) .non hq⟩
  | .insert => by
    intro pins s σ H v vs vv us Q' I rv rvs ⟨x, xs, M, Q, hM, hx, hxs, hw, hk⟩
    match x, xs, hx, hxs, hw with
    | .ref a, [.int i, y], hx, hxs, ⟨ys, e, hl, h0, h1, hq⟩ =>
      cases hx
      obtain ⟨w0, w, rfl, r0, r⟩ := hxs.two
      cases r0
      obtain ⟨ws, e1, r1, z1⟩ := hM a _ e
      exact mt_insert pins s σ H _ _ vv us Q' I rv rvs ⟨a, ws, i, w, rfl, rfl, e1, by rw [← r1.length]; exact hl, h0, h1, hk _ _ _ _ (Post.set_lst hM e (((r1.take _).append (.cons r .nil)).append (r1.drop _)) (by simp only [List.length_append, List.length_take, List.length_drop, List.length_cons, List.length_nil]; omega)) .non hq⟩
end
end TL

/-! TAst: bodies of defs as trees, and what must hold so that they end well. -/
namespace TL
open PySem PySem.Spec PyProof.Rows L2

abbrev TSp := List TV → TM → TK → TR → Prop
def gs : TSt → Nat → Option TV
  | [], _ => none
  | o :: _, 0 => o
  | _ :: r, i + 1 => gs r i
theorem gs_eq : ∀ {σ : TSt} {i : Nat} {x : TV}, gs σ i = some x → σ[i]? = some (some x)
  | [], _, _, h => by cases h
  | o :: _, 0, _, h => by simp only [gs] at h; simp [h]
  | _ :: r, i + 1, _, h => by simp only [gs] at h; simpa using gs_eq h
def setAll : TSt → List Nat → List TV → TSt
  | σ, i :: is, x :: xs => setAll (σ.set i (some x)) is xs
  | σ, _, _ => σ
/-- a target: a name, a tuple of names -/
inductive Tg where
  | name (i : Nat)
  | tup (is : List Nat)
def wTg : Tg → TV → TSt → TM → (TSt → TM → Prop) → Prop
  | .name i, v, σ, M, Q => Q (σ.set i (some v)) M
  | .tup is, v, σ, M, Q => ∃ xs, seqM M v = some xs ∧ xs.length = is.length ∧ Q (setAll σ is xs) M
/-- what is walked: the items, and what must stay -/
structure Itm where
  items : List TV
  chk : TM → Prop
mutual
inductive Ex where
  | loc (i : Nat)
  | cst (v : TV)
  | glb (x : Str) (v : TV)
  | bin (o : BOp) (a b : Ex)
  | cmp (o : COp) (a b : Ex)
  | chn (o p : COp) (a b c : Ex)
  | neg (a : Ex)
  | nt (a : Ex)
  | and (a b : Ex)
  | or (a b : Ex)
  | ite (c : Bx) (a b : Ex)
  | tup (es : Exs)
  | lst (es : Exs)
  | ix (a b : Ex)
  | sl (a : Ex) (lo hi : Exo)
  | bi (f : Bif) (es : Exs)
  | call (x : Str) (f : Addr) (sp : TSp) (es : Exs)
  | cav (i : Nat) (es : Exs)
  | mth (m : Mth) (o : Ex) (es : Exs)
  | lc (tg : Tg) (it : It) (c : Bo) (el : Ex) (own : List (Str × Nat))
  | lc2 (tg : Tg) (it : It) (c : Bo) (tg1 : Tg) (it1 : It) (c1 : Bo) (el : Ex) (own : List (Str × Nat)) (vs1 : List Nat)
inductive Exs where
  | nil
  | cons (e : Ex) (r : Exs)
inductive Exo where
  | no
  | so (e : Ex)
inductive Bx where
  | val (e : Ex)
  | and (a b : Bx)
  | or (a b : Bx)
  | nt (a : Bx)
inductive Bo where
  | no
  | so (b : Bx)
inductive It where
  | seq (e : Ex)
  | rng1 (a : Ex)
  | rng2 (a b : Ex)
  | zip (a b : Ex)
  | enum (a : Ex)
end
/-- a comprehension's loop: the items, what is made so far -/
def lcL (chk : TM → Prop) (step : List TV → TV → TM → (List TV → TM → Prop) → Prop) (fin : List TV → TM → Prop) : List TV → List TV → TM → Prop
  | [], acc, M => chk M ∧ fin acc M
  | x :: r, acc, M => chk M ∧ step acc x M fun acc' M' => lcL chk step fin r acc' M'
def rngT (lo : Int) (n : Nat) : List TV := (List.range n).map fun k => .int (lo + (k : Nat))
def zipT : List TV → List TV → List TV
  | x :: xs, y :: ys => .tup [x, y] :: zipT xs ys
  | _, _ => []
def enuT : Nat → List TV → List TV
  | _, [] => []
  | i, x :: r => .tup [.int (i : Nat), x] :: enuT (i + 1) r
def alikeT : TV → TV → Bool
  | .tup _, .tup _ => true
  | .ref _, .ref _ => true
  | _, _ => false
def isRefT : TV → Bool
  | .ref _ => true
  | _ => false
def chkS (M : TM) : TV → List TV → TM → Prop
  | .ref a, xs, M' => lsM M' a = some xs
  | _, _, _ => True
section
variable (F : Addr → TSp → Prop)
mutual
def wE : Ex → WE
  | .loc i => fun σ M Q R => ∃ x, gs σ i = some x ∧ Q x M
  | .cst v => fun _ M Q _ => Q v M
  | .glb _ v => fun _ M Q _ => Q v M
  | .bin o a b => fun σ M Q R => wE a σ M (fun x M1 => wE b σ M1 (fun y M2 => wBop o x y M2 Q) R) R
  | .cmp o a b => fun σ M Q R => wE a σ M (fun x M1 => wE b σ M1 (fun y M2 => wCop o x y M2 Q) R) R
  | .chn o p a b c => fun σ M Q R => wE a σ M (fun x M1 => wE b σ M1 (fun y M2 => ∃ k, cmpF o M2 x y = some k ∧
      (if k = true then wE c σ M2 (fun z M3 => wCop p y z M3 Q) R else Q (.bl false) M2)) R) R
  | .neg a => fun σ M Q R => wE a σ M (fun x M1 => ∃ i, x = .int i ∧ Q (.int (-i)) M1) R
  | .nt a => fun σ M Q R => wE a σ M (fun x M1 => ∃ k, truT M1 x = some k ∧ Q (.bl (!k)) M1) R
  | .and a b => fun σ M Q R => wE a σ M (fun x M1 => ∃ k, truT M1 x = some k ∧ (if k = true then wE b σ M1 Q R else Q x M1)) R
  | .or a b => fun σ M Q R => wE a σ M (fun x M1 => ∃ k, truT M1 x = some k ∧ (if k = true then Q x M1 else wE b σ M1 Q R)) R
  | .ite c a b => fun σ M Q R => wB c σ M (fun k M1 => if k = true then wE a σ M1 Q R else wE b σ M1 Q R) R
  | .tup es => fun σ M Q R => wEs es σ M (fun xs M1 => Q (.tup xs) M1) R
  | .lst es => fun σ M Q R => wEs es σ M (fun xs M1 => ∀ p, M1 p = none → Q (.ref p) (updM M1 p (.lst xs))) R
  | .ix a b => fun σ M Q R => wE a σ M (fun x M1 => wE b σ M1 (fun y M2 => wIx x y M2 Q) R) R
  | .sl a lo hi => fun σ M Q R => wE a σ M (fun x M1 => wO lo σ M1 (fun l M2 => wO hi σ M2 (fun h M3 => wSl x l h M3 Q) R) R) R
  | .bi f es => fun σ M Q R => wEs es σ M (fun xs M1 => wBif f xs M1 Q) R
  | .call _ _ sp es => fun σ M Q R => wEs es σ M (fun xs M1 => sp xs M1 Q R) R
  | .cav i es => fun σ M Q R => ∃ f sp, gs σ i = some (.ref f) ∧ F f sp ∧ wEs es σ M (fun xs M1 => sp xs M1 Q R) R
  | .mth m o es => fun σ M Q R => wE o σ M (fun x M1 => (∃ a xs, x = .ref a ∧ lsM M1 a = some xs) ∧ wEs es σ M1 (fun ys M2 => wMth m x ys M2 Q) R) R
  | .lc tg it c el own => fun σ M Q R => wI it σ M (fun J M1 =>
      lcL J.chk (fun acc x M2 k => wTg tg x (wipeT σ (own.map (·.2))) M2 (fun σ2 M3 => wBo c σ2 M3 (fun b M4 => if b = true then wE el σ2 M4 (fun y M5 => k (acc ++ [y]) M5) (fun _ _ => False) else k acc M4) (fun _ _ => False)))
        (fun acc M2 => ∀ p, M2 p = none → Q (.ref p) (updM M2 p (.lst acc))) J.items [] M1) R
  | .lc2 tg it c tg1 it1 c1 el own vs1 => fun σ M Q R => wI it σ M (fun J M1 =>
      lcL J.chk (fun acc x M2 k => wTg tg x (wipeT σ (own.map (·.2))) M2 (fun σ2 M3 => wBo c σ2 M3 (fun b M4 => if b = true then wI it1 σ2 M4 (fun J1 M5 =>
          lcL J1.chk (fun acc y M6 k1 => wTg tg1 y (wipeT σ2 vs1) M6 (fun σ3 M7 => wBo c1 σ3 M7 (fun b1 M8 => if b1 = true then wE el σ3 M8 (fun z M9 => acc.length < sizeLine ∧ k1 (acc ++ [z]) M9) (fun _ _ => False) else k1 acc M8) (fun _ _ => False)))
            k J1.items acc M5) (fun _ _ => False) else k acc M4) (fun _ _ => False)))
        (fun acc M2 => ∀ p, M2 p = none → Q (.ref p) (updM M2 p (.lst acc))) J.items [] M1) R
def wEs : Exs → WA
  | .nil => fun _ M Q _ => Q [] M
  | .cons e r => fun σ M Q R => wE e σ M (fun x M1 => wEs r σ M1 (fun xs M2 => Q (x :: xs) M2) R) R
def wO : Exo → TSt → TM → (Option Int → TM → Prop) → TR → Prop
  | .no => fun _ M Q _ => Q none M
  | .so e => fun σ M Q R => wE e σ M (fun x M1 => ∃ i, x = .int i ∧ Q (some i) M1) R
def wB : Bx → WT
  | .val e => fun σ M Q R => wE e σ M (fun x M1 => wTru x M1 Q) R
  | .and a b => fun σ M Q R => wB a σ M (fun k M1 => if k = true then wB b σ M1 Q R else Q false M1) R
  | .or a b => fun σ M Q R => wB a σ M (fun k M1 => if k = true then Q true M1 else wB b σ M1 Q R) R
  | .nt a => fun σ M Q R => wB a σ M (fun k M1 => Q (!k) M1) R
def wBo : Bo → WT
  | .no => fun _ M Q _ => Q true M
  | .so b => wB b
def wI : It → TSt → TM → (Itm → TM → Prop) → TR → Prop
  | .seq e => fun σ M Q R => wE e σ M (fun x M1 => ∃ xs, seqM M1 x = some xs ∧ Q ⟨xs, chkS M1 x xs⟩ M1) R
  | .rng1 a => fun σ M Q R => wE a σ M (fun x M1 => ∃ j : Int, x = .int j ∧ -(2 ^ 62) ≤ j ∧ j ≤ 16777216 ∧ Q ⟨rngT 0 j.toNat, fun _ => True⟩ M1) R
  | .rng2 a b => fun σ M Q R => wE a σ M (fun x M1 => wE b σ M1 (fun y M2 => ∃ i j : Int, x = .int i ∧ y = .int j ∧ -(2 ^ 61) ≤ i ∧ i < 2 ^ 61 ∧ -(2 ^ 61) ≤ j ∧ j < 2 ^ 61 ∧ j - i ≤ 16777216 ∧ Q ⟨rngT i (j - i).toNat, fun _ => True⟩ M2) R) R
  | .zip a b => fun σ M Q R => wE a σ M (fun x M1 => wE b σ M1 (fun y M2 => ∃ xs ys, seqM M2 x = some xs ∧ seqM M2 y = some ys ∧ alikeT x y = true ∧ Q ⟨zipT xs ys, fun M' => chkS M2 x xs M' ∧ chkS M2 y ys M'⟩ M2) R) R
  | .enum a => fun σ M Q R => wE a σ M (fun x M1 => ∃ xs, seqM M1 x = some xs ∧ isRefT x = true ∧ Q ⟨enuT 0 xs, chkS M1 x xs⟩ M1) R
end
end
/-! ### statements -/
mutual
inductive Sm where
  | set (i : Nat) (e : Ex)
  | asg (is : List Nat) (e : Ex)
  | par (is : List Nat) (es : Exs)
  | sti (o i e : Ex)
  | aug (i : Nat) (o : BOp) (e : Ex)
  | augx (o i : Ex) (p : BOp) (e : Ex)
  | exp (e : Ex)
  | ife (c : Bx) (a b : Sms)
  | whl (c : Bx) (b : Sms)
  | fr (tg : Tg) (it : It) (b : Sms)
  | ret (e : Ex)
  | retn
  | pass
  | brk
  | cnt
  | rais (c : Str) (C : Addr)
  | never
inductive Sms where
  | nil
  | cons (s : Sm) (r : Sms)
end
/-- o[i] = y -/
def wSti : TV → TV → TV → TM → (TM → Prop) → Prop
  | .ref a, .int i, y, M, Q => ∃ xs j, M a = some (.lst xs) ∧ ixN xs.length i = some j ∧ Q (updM M a (.lst (xs.set j y)))
  | _, _, _, _, _ => False
/-- x op= y -/
def wAug : BOp → W2
  | .add, .int i, .int j, M, Q => Q (.int (i + j)) M
  | .add, .str a, .str b, M, Q => a.length + b.length ≤ sizeLine ∧ Q (.str (a ++ b)) M
  | .sub, .int i, .int j, M, Q => Q (.int (i - j)) M
  | .mul, .int i, .int j, M, Q => ((-(2 ^ 64) < i ∧ i < 2 ^ 64) ∨ (-(2 ^ 64) < j ∧ j < 2 ^ 64)) ∧ Q (.int (i * j)) M
  | .fdiv, .int i, .int j, M, Q => (0 < j ∧ j < 1073741824) ∧ Q (.int (i / j)) M
  | .mod, .int i, .int j, M, Q => 0 < j ∧ Q (.int (i % j)) M
  | _, _, _, _, _ => False
/-- a list's item, for an item that is written anew -/
def wGet : TV → TV → TM → (TV → Prop) → Prop
  | .ref a, .int i, M, Q => ∃ xs z, lsM M a = some xs ∧ 0 ≤ i ∧ xs[i.toNat]? = some z ∧ Q z
  | _, _, _, _ => False
def whL (c : WT) (b : WS) : Nat → WS
  | 0 => fun _ _ _ => False
  | n + 1 => fun D σ M => c σ M (fun k M1 => if k = true then b { D with nx := whL c b n D, ct := whL c b n D, bk := D.nx } σ M1 else D.nx σ M1) (fun x M1 => D.ex x σ M1)
def foL (chk : TM → Prop) (step : TV → (TSt → TM → Prop) → TSt → TM → Prop) (fin : TSt → TM → Prop) : List TV → TSt → TM → Prop
  | [], σ, M => chk M ∧ fin σ M
  | x :: r, σ, M => chk M ∧ step x (foL chk step fin r) σ M
section
variable (F : Addr → TSp → Prop)
mutual
def wS : Sm → WS
  | .set i e => fun D σ M => wE F e σ M (fun x M1 => D.nx (σ.set i (some x)) M1) (fun x M1 => D.ex x σ M1)
  | .asg is e => fun D σ M => wE F e σ M (fun x M1 => wTg (.tup is) x σ M1 D.nx) (fun x M1 => D.ex x σ M1)
  | .par is es => fun D σ M => wEs F es σ M (fun xs M1 => D.nx (setAll σ is xs) M1) (fun x M1 => D.ex x σ M1)
  | .sti o i e => fun D σ M => wE F e σ M (fun y M1 => wE F o σ M1 (fun x M2 => wE F i σ M2 (fun k M3 => wSti x k y M3 (fun M4 => D.nx σ M4)) (fun x M3 => D.ex x σ M3)) (fun x M2 => D.ex x σ M2)) (fun x M1 => D.ex x σ M1)
  | .aug i o e => fun D σ M => ∃ x, gs σ i = some x ∧ wE F e σ M (fun y M1 => wAug o x y M1 (fun z M2 => D.nx (σ.set i (some z)) M2)) (fun x M1 => D.ex x σ M1)
  | .augx o i p e => fun D σ M => wE F o σ M (fun x M1 => wE F i σ M1 (fun k M2 => wGet x k M2 fun old => wE F e σ M2 (fun y M3 => wAug p old y M3 (fun z M4 => wSti x k z M4 (fun M5 => D.nx σ M5)))
      (fun x M3 => D.ex x σ M3)) (fun x M2 => D.ex x σ M2)) (fun x M1 => D.ex x σ M1)
  | .exp e => fun D σ M => wE F e σ M (fun _ M1 => D.nx σ M1) (fun x M1 => D.ex x σ M1)
  | .ife c a b => fun D σ M => wB F c σ M (fun k M1 => if k = true then wSs a D σ M1 else wSs b D σ M1) (fun x M1 => D.ex x σ M1)
  | .whl c b => fun D σ M => ∃ n, whL (wB F c) (wSs b) n D σ M
  | .fr tg it b => fun D σ M => wI F it σ M (fun J M1 => foL J.chk (fun x k σ1 M2 => wTg tg x σ1 M2 (fun σ2 M3 => wSs b { D with nx := k, ct := k, bk := D.nx } σ2 M3)) D.nx J.items σ M1) (fun x M1 => D.ex x σ M1)
  | .ret e => fun D σ M => wE F e σ M D.rt (fun x M1 => D.ex x σ M1)
  | .retn => fun D _ M => D.rt .non M
  | .pass => fun D σ M => D.nx σ M
  | .brk => fun D σ M => D.bk σ M
  | .cnt => fun D σ M => D.ct σ M
  | .rais _ C => fun D σ M => D.ex ⟨.ref C, []⟩ σ M
  | .never => fun _ _ _ => False
def wSs : Sms → WS
  | .nil => fun D σ M => D.nx σ M
  | .cons s r => fun D σ M => wS s { D with nx := fun σ' M' => wSs r D σ' M' } σ M
end
end
end TL

/-! TView: shapes of the text, and the check that a tree tells of it. -/
namespace TL
open PySem PySem.Spec PyProof.Rows L2

def vName : Expr → Option (Str × Pos)
  | .Name x p => some (x, p)
  | _ => none
theorem vName_eq {e : Expr} {r : Str × Pos} (h : vName e = some r) : e = .Name r.1 r.2 := by
  cases e <;> simp only [vName, reduceCtorEq, Option.some.injEq] at h; subst h; rfl
def vCst : Expr → Option (Const × Nat × Pos)
  | .Constant c k p => some (c, k, p)
  | _ => none
theorem vCst_eq {e : Expr} {r : Const × Nat × Pos} (h : vCst e = some r) : e = .Constant r.1 r.2.1 r.2.2 := by
  cases e <;> simp only [vCst, reduceCtorEq, Option.some.injEq] at h; subst h; rfl
def vBin : Expr → Option (Expr × Operator × Expr × Pos)
  | .BinOp a o b p => some (a, o, b, p)
  | _ => none
theorem vBin_eq {e : Expr} {r : Expr × Operator × Expr × Pos} (h : vBin e = some r) : e = .BinOp r.1 r.2.1 r.2.2.1 r.2.2.2 := by
  cases e <;> simp only [vBin, reduceCtorEq, Option.some.injEq] at h; subst h; rfl
def vUn : Expr → Option (UnaryOp × Expr × Pos)
  | .UnaryOp o a p => some (o, a, p)
  | _ => none
theorem vUn_eq {e : Expr} {r : UnaryOp × Expr × Pos} (h : vUn e = some r) : e = .UnaryOp r.1 r.2.1 r.2.2 := by
  cases e <;> simp only [vUn, reduceCtorEq, Option.some.injEq] at h; subst h; rfl
def vCmp : Expr → Option (Expr × List CmpOp × List Expr × Pos)
  | .Compare a o b p => some (a, o, b, p)
  | _ => none
theorem vCmp_eq {e : Expr} {r : Expr × List CmpOp × List Expr × Pos} (h : vCmp e = some r) : e = .Compare r.1 r.2.1 r.2.2.1 r.2.2.2 := by
  cases e <;> simp only [vCmp, reduceCtorEq, Option.some.injEq] at h; subst h; rfl
def vBool : Expr → Option (BoolOp × List Expr × Pos)
  | .BoolOp o a p => some (o, a, p)
  | _ => none
theorem vBool_eq {e : Expr} {r : BoolOp × List Expr × Pos} (h : vBool e = some r) : e = .BoolOp r.1 r.2.1 r.2.2 := by
  cases e <;> simp only [vBool, reduceCtorEq, Option.some.injEq] at h; subst h; rfl
def vIf : Expr → Option (Expr × Expr × Expr × Pos)
  | .IfExp a b c p => some (a, b, c, p)
  | _ => none
theorem vIf_eq {e : Expr} {r : Expr × Expr × Expr × Pos} (h : vIf e = some r) : e = .IfExp r.1 r.2.1 r.2.2.1 r.2.2.2 := by
  cases e <;> simp only [vIf, reduceCtorEq, Option.some.injEq] at h; subst h; rfl
def vTup : Expr → Option (List Expr × Nat × Pos)
  | .Tuple a b p => some (a, b, p)
  | _ => none
theorem vTup_eq {e : Expr} {r : List Expr × Nat × Pos} (h : vTup e = some r) : e = .Tuple r.1 r.2.1 r.2.2 := by
  cases e <;> simp only [vTup, reduceCtorEq, Option.some.injEq] at h; subst h; rfl
def vLst : Expr → Option (List Expr × Pos)
  | .List a p => some (a, p)
  | _ => none
theorem vLst_eq {e : Expr} {r : List Expr × Pos} (h : vLst e = some r) : e = .List r.1 r.2 := by
  cases e <;> simp only [vLst, reduceCtorEq, Option.some.injEq] at h; subst h; rfl
def vSub : Expr → Option (Expr × Expr × Pos)
  | .Subscript a b p => some (a, b, p)
  | _ => none
theorem vSub_eq {e : Expr} {r : Expr × Expr × Pos} (h : vSub e = some r) : e = .Subscript r.1 r.2.1 r.2.2 := by
  cases e <;> simp only [vSub, reduceCtorEq, Option.some.injEq] at h; subst h; rfl
def vSli : Expr → Option (Option Expr × Option Expr × Option Expr × Pos)
  | .Slice a b c p => some (a, b, c, p)
  | _ => none
theorem vSli_eq {e : Expr} {r : Option Expr × Option Expr × Option Expr × Pos} (h : vSli e = some r) : e = .Slice r.1 r.2.1 r.2.2.1 r.2.2.2 := by
  cases e <;> simp only [vSli, reduceCtorEq, Option.some.injEq] at h; subst h; rfl
def vCall : Expr → Option (Expr × List Expr × List Keyword × Pos)
  | .Call a b c p => some (a, b, c, p)
  | _ => none
theorem vCall_eq {e : Expr} {r : Expr × List Expr × List Keyword × Pos} (h : vCall e = some r) : e = .Call r.1 r.2.1 r.2.2.1 r.2.2.2 := by
  cases e <;> simp only [vCall, reduceCtorEq, Option.some.injEq] at h; subst h; rfl
def vAtt : Expr → Option (Expr × Str × Pos)
  | .Attribute a b p => some (a, b, p)
  | _ => none
theorem vAtt_eq {e : Expr} {r : Expr × Str × Pos} (h : vAtt e = some r) : e = .Attribute r.1 r.2.1 r.2.2 := by
  cases e <;> simp only [vAtt, reduceCtorEq, Option.some.injEq] at h; subst h; rfl
def vLC : Expr → Option (Expr × List Comprehension × Scope × Pos)
  | .ListComp a b c p => some (a, b, c, p)
  | _ => none
theorem vLC_eq {e : Expr} {r : Expr × List Comprehension × Scope × Pos} (h : vLC e = some r) : e = .ListComp r.1 r.2.1 r.2.2.1 r.2.2.2 := by
  cases e <;> simp only [vLC, reduceCtorEq, Option.some.injEq] at h; subst h; rfl

/-! ### what an expression is not -/
def noStar : Expr → Bool
  | .Starred .. => false
  | _ => true
def noComp : Expr → Bool
  | .ListComp .. => false
  | .SetComp .. => false
  | .DictComp .. => false
  | _ => true
def noSet : Expr → Bool
  | .Set .. => false
  | _ => true
def noSli : Expr → Bool
  | .Slice .. => false
  | _ => true
def noSup : Expr → Bool
  | .Call .. => false
  | _ => true
/-- its test is its value's truth -/
def plainT : Expr → Bool
  | .UnaryOp .. => false
  | .BoolOp .. => false
  | .IfExp .. => false
  | .Compare .. => false
  | _ => true
theorem starEach_cons {e : Expr} {es : List Expr} {env : Env} (h : noStar e = true) : starEach (e :: es) env = (false, eval e env) :: starEach es env := by
  cases e <;> first | rfl | cases h
theorem backTo_any {pos : Pos} {env : Env} : ∀ {es : List Expr}, es.all noStar = true → (backTo pos (starEach es env)).any (·.1) = false
  | [], _ => rfl
  | e :: es, h => by
    simp only [List.all_cons, Bool.and_eq_true] at h
    rw [starEach_cons h.1]
    have := backTo_any (pos := pos) (env := env) h.2
    show (false || (backTo pos (starEach es env)).any (·.1)) = false
    rw [this]; rfl
theorem backTo_all {pos : Pos} {env : Env} : ∀ {es : List Expr}, es.all noStar = true → (backTo pos (starEach es env)).all (fun x => !x.1) = true
  | [], _ => rfl
  | e :: es, h => by
    simp only [List.all_cons, Bool.and_eq_true] at h
    rw [starEach_cons h.1]
    have := backTo_all (pos := pos) (env := env) h.2
    show (!false && (backTo pos (starEach es env)).all (fun x => !x.1)) = true
    rw [this]; rfl
theorem swaps_no {e : Expr} {t : Option Expr} {l : Nat} {env : Env} (h : noComp e = true) : swapsWith e t l env = pure false := by
  cases e <;> first | rfl | cases h
theorem folded_no {e : Expr} {env : Env} (h : noSet e = true) (x : Value) : foldedSetIterable e env x = pure x := by
  cases e <;> first | rfl | cases h
theorem marks_no {op : CmpOp} {e : Expr} (h : noSet e = true) : behindInMarks op e = false := by
  cases e <;> first | rfl | cases h
theorem plainIx {e : Expr} (h : noSli e = true) : PlainIx e := fun o i => by
  cases e <;> first | rfl | cases h
theorem attBase {e : Expr} {n : Str} {env : Env} (h : noSup e = true) : attributeBase e n env (eval e env) = eval e env := by
  cases e <;> first | rfl | cases h
theorem plain_true {e : Expr} {env : Env} (h : plainT e = true) (whole : Sem Value) : isTrue e env whole = (do let v ← whole; standAt e.pos; holding [v] (truthy v)) := by
  cases e <;> first | rfl | cases h

/-! ### names -/
def okN (x : Str) : Bool := !(x == ("__debug__" : Str)) && !(x == ("__classdict__" : Str))
theorem okN_d {x : Str} (h : okN x = true) : (x == ("__debug__" : Str)) = false := by
  unfold okN at h
  simp only [Bool.and_eq_true, Bool.not_eq_true'] at h
  exact h.1
theorem okN_c {x : Str} (h : okN x = true) : (x == ("__classdict__" : Str)) = false := by
  unfold okN at h
  simp only [Bool.and_eq_true, Bool.not_eq_true'] at h
  exact h.2
def visB (sc : Scope) (x : Str) : Bool := match sc.names.lookup x with
  | some .local => true
  | some .cell => true
  | some .free => true
  | _ => false
theorem visB_ok {sc : Scope} {x : Str} (h : visB sc x = true) : Vis sc x := by
  unfold visB at h
  unfold Vis
  split at h <;> simp_all
def locB (blk : Bool) (sc : Scope) (x : Str) : Bool := match sc.names.lookup x with
  | some .local => true
  | some .cell => !blk
  | _ => false
theorem locB_ok {blk : Bool} {sc : Scope} {x : Str} (h : locB blk sc x = true) : L2.Loc sc x ∧ (blk = false ∨ sc.names.lookup x = some .local) := by
  unfold locB at h
  unfold L2.Loc
  split at h <;> simp_all
def glB (sc : Scope) (x : Str) : Bool := match sc.names.lookup x with
  | some .globalImplicit => true
  | _ => false
theorem glB_ok {sc : Scope} {x : Str} (h : glB sc x = true) : sc.names.lookup x = some .globalImplicit := by
  unfold glB at h
  split at h <;> simp_all

/-! ### the check -/
def cstB : TV → Const → Bool
  | .non, .none => true
  | .bl a, .bool b => a == b
  | .int i, .int j => decide (i = j)
  | .str s, .str t => decide (s = t)
  | _, _ => false
def ckTg (blk : Bool) (N : List Str) (sc : Scope) : Tg → Expr → Bool
  | .name i, e => match vName e with
    | some (x, _) => decide (N[i]? = some x) && locB blk sc x
    | none => false
  | .tup is, e => match vTup e with
    | some (es, _, _) => ckNs blk N sc is es
    | none => false
where
  ckNs (blk : Bool) (N : List Str) (sc : Scope) : List Nat → List Expr → Bool
    | [], [] => true
    | i :: is, e :: es => (match vName e with
      | some (x, _) => decide (N[i]? = some x) && locB blk sc x
      | none => false) && ckNs blk N sc is es
    | _, _ => false
def Tg.slots : Tg → List Nat
  | .name i => [i]
  | .tup is => is
mutual
def ckE (N : List Str) : Ex → Scope → Expr → Bool
  | .loc i, sc, e => match vName e with
    | some (x, _) => decide (N[i]? = some x) && visB sc x && okN x
    | none => false
  | .cst v, _, e => match vCst e with
    | some (c, _, _) => cstB v c
    | none => false
  | .glb x _, sc, e => match vName e with
    | some (y, _) => decide (y = x) && glB sc x && okN x && decide (x ≠ ("__name__" : Str))
    | none => false
  | .bin o a b, sc, e => match vBin e with
    | some (x, op, y, _) => decide (op = o.op) && ckE N a sc x && ckE N b sc y
    | none => false
  | .cmp o a b, sc, e => match vCmp e with
    | some (x, [op], [y], _) => decide (op = o.op) && noSet y && ckE N a sc x && ckE N b sc y
    | _ => false
  | .chn o p a b c, sc, e => match vCmp e with
    | some (x, [op, op'], [y, z], _) => decide (op = o.op) && decide (op' = p.op) && noSet z && ckE N a sc x && ckE N b sc y && ckE N c sc z
    | _ => false
  | .neg a, sc, e => match vUn e with
    | some (op, x, _) => decide (op = .USub) && ckE N a sc x
    | none => false
  | .nt a, sc, e => match vUn e with
    | some (op, x, _) => decide (op = .Not) && ckE N a sc x
    | none => false
  | .and a b, sc, e => match vBool e with
    | some (op, x :: y :: r, p) => decide (op = .And) && ckE N a sc x && (match r with
      | [] => ckE N b sc y
      | _ => ckE N b sc (.BoolOp .And (y :: r) p))
    | _ => false
  | .or a b, sc, e => match vBool e with
    | some (op, x :: y :: r, p) => decide (op = .Or) && ckE N a sc x && (match r with
      | [] => ckE N b sc y
      | _ => ckE N b sc (.BoolOp .Or (y :: r) p))
    | _ => false
  | .ite c a b, sc, e => match vIf e with
    | some (z, x, y, _) => ckB N c sc z && ckE N a sc x && ckE N b sc y
    | none => false
  | .tup es, sc, e => match vTup e with
    | some (xs, _, _) => decide (xs.length ≤ 1000) && xs.all noStar && ckEs N es sc xs
    | none => false
  | .lst es, sc, e => match vLst e with
    | some (xs, _) => decide (xs.length ≤ 1000) && xs.all noStar && ckEs N es sc xs
    | none => false
  | .ix a b, sc, e => match vSub e with
    | some (x, y, _) => noSli y && ckE N a sc x && ckE N b sc y
    | none => false
  | .sl a lo hi, sc, e => match vSub e with
    | some (x, y, _) => (match vSli y with
      | some (l, h, st, _) => st.isNone && ckE N a sc x && ckO N lo sc l && ckO N hi sc h
      | none => false)
    | none => false
  | .bi f es, sc, e => match vCall e with
    | some (g, x :: xs, [], _) => (match vName g with
      | some (y, _) => decide (y = f.name) && glB sc f.name && (x :: xs).all noStar && ckEs N es sc (x :: xs)
      | none => false)
    | _ => false
  | .call n _ _ es, sc, e => match vCall e with
    | some (g, x :: xs, [], _) => (match vName g with
      | some (y, _) => decide (y = n) && glB sc n && okN n && (x :: xs).all noStar && ckEs N es sc (x :: xs)
      | none => false)
    | _ => false
  | .cav i es, sc, e => match vCall e with
    | some (g, x :: xs, [], _) => (match vName g with
      | some (y, _) => decide (N[i]? = some y) && visB sc y && okN y && (x :: xs).all noStar && ckEs N es sc (x :: xs)
      | none => false)
    | _ => false
  | .mth m o es, sc, e => match vCall e with
    | some (g, xs, [], p) => (match vAtt g with
      | some (x, n, ap) => decide (n = m.name) && noSup x && (ap.endLine == p.line) && decide (xs.length < 25) && xs.all noStar && ckE N o sc x && ckEs N es sc xs
      | none => false)
    | _ => false
  | .lc tg it c el own, sc, e => match vLC e with
    | some (x, [⟨t, i, fs, a⟩], bs, _) => decide (a = 0) && noSet i && blkC N sc bs own && tg.slots.all (fun j => (own.map (·.2)).contains j) && ckTg true N (relS bs sc) tg t && ckI N it sc (vTup t).isSome i &&
        ckBo N c (relS bs sc) fs && ckE N el (relS bs sc) x
    | _ => false
  | .lc2 tg it c tg1 it1 c1 el own vs1, sc, e => match vLC e with
    | some (x, [⟨t, i, fs, a⟩, ⟨t1, i1, fs1, a1⟩], bs, _) => decide (a = 0) && decide (a1 = 0) && noSet i && noSet i1 && blkC N sc bs own && tg.slots.all (fun j => (own.map (·.2)).contains j) && tg1.slots.all (fun j => vs1.contains j) &&
        vs1.all (fun j => (own.map (·.2)).contains j) && ckTg true N (relS bs sc) tg t && ckTg true N (relS bs sc) tg1 t1 && ckI N it sc (vTup t).isSome i && ckI N it1 (relS bs sc) (vTup t1).isSome i1 && ckBo N c (relS bs sc) fs && ckBo N c1 (relS bs sc) fs1 && ckE N el (relS bs sc) x
    | _ => false
def ckEs (N : List Str) : Exs → Scope → List Expr → Bool
  | .nil, _, [] => true
  | .cons e r, sc, x :: xs => ckE N e sc x && ckEs N r sc xs
  | _, _, _ => false
def ckO (N : List Str) : Exo → Scope → Option Expr → Bool
  | .no, _, none => true
  | .so e, sc, some x => ckE N e sc x
  | _, _, _ => false
def ckB (N : List Str) : Bx → Scope → Expr → Bool
  | .val e, sc, x => ckE N e sc x && (plainT x || (vCmp x).isSome)
  | .and a b, sc, e => match vBool e with
    | some (op, x :: y :: r, p) => decide (op = .And) && ckB N a sc x && (match r with
      | [] => ckB N b sc y
      | _ => ckB N b sc (.BoolOp .And (y :: r) p))
    | _ => false
  | .or a b, sc, e => match vBool e with
    | some (op, x :: y :: r, p) => decide (op = .Or) && ckB N a sc x && (match r with
      | [] => ckB N b sc y
      | _ => ckB N b sc (.BoolOp .Or (y :: r) p))
    | _ => false
  | .nt a, sc, e => match vUn e with
    | some (op, x, _) => decide (op = .Not) && ckB N a sc x
    | none => false
def ckBo (N : List Str) : Bo → Scope → List Expr → Bool
  | .no, _, [] => true
  | .so b, sc, [x] => ckB N b sc x
  | _, _, _ => false
def ckI (N : List Str) : It → Scope → Bool → Expr → Bool
  | .seq e, sc, _, x => ckE N e sc x
  | .rng1 a, sc, _, e => match vCall e with
    | some (g, [x], [], _) => (match vName g with
      | some (y, _) => decide (y = ("range" : Str)) && glB sc "range" && noStar x && ckE N a sc x
      | none => false)
    | _ => false
  | .rng2 a b, sc, _, e => match vCall e with
    | some (g, [x, z], [], _) => (match vName g with
      | some (y, _) => decide (y = ("range" : Str)) && glB sc "range" && noStar x && noStar z && ckE N a sc x && ckE N b sc z
      | none => false)
    | _ => false
  | .zip a b, sc, tu, e => match vCall e with
    | some (g, [x, z], [], _) => (match vName g with
      | some (y, _) => tu && decide (y = ("zip" : Str)) && glB sc "zip" && noStar x && noStar z && ckE N a sc x && ckE N b sc z
      | none => false)
    | _ => false
  | .enum a, sc, tu, e => match vCall e with
    | some (g, [x], [], _) => (match vName g with
      | some (y, _) => tu && decide (y = ("enumerate" : Str)) && glB sc "enumerate" && noStar x && ckE N a sc x
      | none => false)
    | _ => false
end
end TL

/-! TSound1: contexts, calls, targets, what is walked. -/
namespace TL
open PySem PySem.Spec PyProof.Rows L2

/-- what stands through a whole law -/
structure Gx where
  prog : Program
  w : World
  K : PySem.W.Frag
  mg : Str → Option Value
  base : Heap
/-- a context of the check -/
structure Sta (G : Gx) (N : List Str) (k : Nat) (sc : Scope) (blk : Bool) (X : Cx) : Prop where
  hP : X.prog = G.prog
  hw : X.w = G.w
  hK : X.K = G.K
  hm : X.mg = G.mg
  hb : X.base = G.base
  hN : X.N = N
  nd : N.Nodup
  hsc : X.env.scope = sc
  calm : X.calm = true
  room : Room k X.A
  fn : blk = false → ∀ x, X.fn x = true
section
variable {G : Gx} {N : List Str} {k : Nat} {sc : Scope} {blk : Bool} {X : Cx}
theorem Sta.vis (S : Sta G N k sc blk X) {x : Str} (h : visB sc x = true) : Vis X.env.scope x := by rw [S.hsc]; exact visB_ok h
theorem Sta.gl (S : Sta G N k sc blk X) {x : Str} (h : glB sc x = true) : Gl X x := by
  show X.env.scope.names.lookup x = some .globalImplicit
  rw [S.hsc]; exact glB_ok h
theorem Sta.loc (S : Sta G N k sc blk X) {x : Str} (h : locB blk sc x = true) : L2.Loc X.env.scope x ∧ (X.fn x = true ∨ X.env.scope.names.lookup x = some .local) := by
  obtain ⟨h1, h2⟩ := locB_ok h
  rw [S.hsc]
  refine ⟨h1, ?_⟩
  rcases h2 with h2 | h2
  · exact .inl (S.fn h2 x)
  · exact .inr h2
theorem Sta.slot (S : Sta G N k sc blk X) {i : Nat} {x : Str} (h : decide (N[i]? = some x) = true) : X.N[i]? = some x := by rw [S.hN]; exact of_decide_eq_true h
theorem Sta.ndX (S : Sta G N k sc blk X) : X.N.Nodup := by rw [S.hN]; exact S.nd
/-- the context of a comprehension's block -/
theorem Sta.block (S : Sta G N k sc blk X) (s : Shared) (H : Hp) (scope : Scope) (C : Addr) (cl : List (Str × Addr)) (fp : List Addr) : Sta G N k (relS scope sc) true (X.blk s H scope (compEnvC scope cl C X.env) fp) :=
  ⟨S.hP, S.hw, S.hK, S.hm, S.hb, S.hN, S.nd, by rw [← S.hsc]; rfl, S.calm, S.room, fun h => by cases h⟩
end

/-! ### calls -/
def LSp (K : PySem.W.Frag) (sp : TSp) : Sp := fun vs H Q' E' => ∃ xs M Q R, Rvs K H xs vs ∧ RepM K H M ∧ sp xs M Q R ∧ Cont K H M Q Q' ∧ (∀ x cls d H' M', Post K H M H' M' → Rx K H' x cls d → R x M' → E' cls d H')
/-- the def at f keeps a promise over trees -/
def HeldT (G : Gx) (k : Nat) (f : Addr) (sp : TSp) : Prop := ∃ fd ps ds dvs dv sp0, PySem.W.keepIn G.K (.ref f) = true ∧ Binds G.K fd ps ds ∧ Vals dvs ds ∧ (∀ H, Rvs G.K H dv dvs) ∧ FnOk G.prog G.w G.K G.mg G.base (L2.CX G.prog G.w) k f fd ps (LSp G.K sp0) ∧ ∀ xs M Q R, sp xs M Q R → sp0 (xs ++ dv) M Q R
theorem HeldT.mono {G : Gx} {j k : Nat} {f : Addr} {sp : TSp} (h : HeldT G j f sp) (l : j ≤ k) : HeldT G k f sp := by
  obtain ⟨fd, ps, ds, dvs, dv, sp0, h1, h2, h3, h4, h5, h6⟩ := h
  exact ⟨fd, ps, ds, dvs, dv, sp0, h1, h2, h3, h4, h5.mono l, h6⟩
theorem HeldT.imp {G : Gx} {k : Nat} {f : Addr} {sp sp' : TSp} (h : HeldT G k f sp) (i : ∀ xs M Q R, sp' xs M Q R → sp xs M Q R) : HeldT G k f sp' := by
  obtain ⟨fd, ps, ds, dvs, dv, sp0, h1, h2, h3, h4, h5, h6⟩ := h
  exact ⟨fd, ps, ds, dvs, dv, sp0, h1, h2, h3, h4, h5, fun xs M Q R q => h6 _ _ _ _ (i _ _ _ _ q)⟩
/-- the callee runs, its defaults filled up -/
theorem run_T {X : Cx} {k : Nat} {f : Addr} {fd : FuncData} {ps : List Str} {sp : Sp} {E : L2.St → XK} {pins : List (Addr × Obj)} {σ : L2.St} {H : Hp} {s : Shared} {Q : VK} {us ds : List Value} {vs dvs : List V} (F : FnOk X.prog X.w X.K X.mg X.base (L2.CX X.prog X.w) k f fd ps sp) (hr : Room k X.A) (hb : Binds X.K fd ps ds) (hd : Vals dvs ds) (hx : PassesAt (L2.CX X.prog X.w) X σ (E σ))
    (I : Inv X pins σ H s) (r : Vals vs us) (h : sp (vs ++ dvs) H Q (E σ)) : wpAny (model X.prog X.w) X.A (call (.ref f) us) (EP X pins σ Q) X.xe s := by
  have r2 := r.append hd
  refine wpAny_call (codeAny_mono (F.run X.A X.stack s H ⟨us, []⟩ (us ++ ds) (vs ++ dvs) Q (E σ) hr I.env0 (hb s us I.kIn (by rw [← r2.length]; exact F.len _ _ _ _ h)) r2 h) fun r s' hq => ?_)
  match r, hq with
  | .error e, hq => exact hx pins H s e s' I hq
  | .ok (.ret u), hq => exact I.after hq
  | .ok .next, hq => exact hq.elim
  | .ok .brk, hq => exact hq.elim
  | .ok .cont, hq => exact hq.elim
/-- what a name of the module holds -/
def GlV (G : Gx) (x : Str) (v : TV) : Prop :=
  (∃ u, G.mg x = some u ∧ ∃ v', RelV v' u ∧ ∀ H, Rv G.K H v v') ∨ (∃ u, G.mg x = none ∧ bootBuiltins x = some u ∧ ∃ v', RelV v' u ∧ ∀ H, Rv G.K H v v')

section
variable {K : PySem.W.Frag} {W : WX} {H H1 : Hp} {M M1 : TM} {Q : TK} {Q' : VK}
theorem Cont.on (c : Cont K H M Q Q') (p : Post K H M H1 M1) : Cont K H1 M1 Q Q' := fun z z' H' M' q rv h => c z z' H' M' (p.trans q) rv h
end

section
variable {X : Cx}
theorem ej_var {i : Nat} {x : Str} {pos : Pos} (hN : X.N[i]? = some x) (hv : Vis X.env.scope x) (hd : (x == ("__debug__" : Str)) = false) (hcd : (x == ("__classdict__" : Str)) = false) :
    EJ X (.Name x pos) (fun σ M Q R => ∃ z, gs σ i = some z ∧ Q z M) := fun W tk => (pe_var hN hv hd hcd).by fun σ' H Q' ⟨σ, M, Q, R, hs, hM, ⟨z, e, q⟩, c, l⟩ => by
  obtain ⟨v, h1, h2⟩ := hs.get (gs_eq e)
  exact ⟨v, h1, c.here hM h2 q⟩
theorem ej_const {e : Expr} {v : TV} {v' : V} (h : PE X e (tC v')) (r : ∀ H, Rv X.K H v v') : EJ X e (fun _ M Q _ => Q v M) := fun W tk => h.by fun σ' H Q' ⟨σ, M, Q, R, hs, hM, q, c, l⟩ => c.here hM (r H) q
theorem ej_bin2 {a b e : Expr} {wa wb : WE} {f : Value → Value → Sem Value} {w : W2} (hf : OpJ X f w) (ha : EJ X a wa) (hb : EJ X b wb)
    (mk : ∀ {ta tb : TE} {r : R2}, OpR X f r → PE X a ta → PE X b tb → PE X e (tOp r ta tb)) :
    EJ X e (fun σ M Q R => wa σ M (fun x M1 => wb σ M1 (fun y M2 => w x y M2 Q) R) R) := fun W tk => (mk hf (ha W tk) (hb W tk)).by fun σ' H Q' ⟨σ, M, Q, R, hs, hM, q, c, l⟩ =>
  ⟨σ, M, _, R, hs, hM, q, fun x v H1 M1 p1 r1 q1 => ⟨σ, M1, _, R, hs.mono (p1.grow hM), p1.rep, q1, fun y u H2 M2 p2 r2 q2 =>
    ⟨x, y, M2, Q, p2.rep, r1.mono (p2.grow p1.rep), r2, q2, (c.on p1).on p2⟩, l.on p1⟩, l⟩
theorem ej_ix {a b : Expr} {wa wb : WE} {pos : Pos} (ha : EJ X a wa) (hb : EJ X b wb) (hs : PlainIx b) :
    EJ X (.Subscript a b pos) (fun σ M Q R => wa σ M (fun x M1 => wb σ M1 (fun y M2 => wIx x y M2 Q) R) R) := fun W tk => (pe_ix ixj (ha W tk) (hb W tk) hs).by fun σ' H Q' ⟨σ, M, Q, R, hs, hM, q, c, l⟩ =>
  ⟨σ, M, _, R, hs, hM, q, fun x v H1 M1 p1 r1 q1 => ⟨σ, M1, _, R, hs.mono (p1.grow hM), p1.rep, q1, fun y u H2 M2 p2 r2 q2 =>
    ⟨x, y, M2, Q, p2.rep, r1.mono (p2.grow p1.rep), r2, q2, (c.on p1).on p2⟩, l.on p1⟩, l⟩
theorem ej_neg {a : Expr} {wa : WE} {pos : Pos} (ha : EJ X a wa) : EJ X (.UnaryOp .USub a pos) (fun σ M Q R => wa σ M (fun x M1 => ∃ i, x = .int i ∧ Q (.int (-i)) M1) R) := fun W tk =>
  (pe_un unj_neg (ha W tk)).by fun σ' H Q' ⟨σ, M, Q, R, hs, hM, q, c, l⟩ =>
  ⟨σ, M, _, R, hs, hM, q, fun x v H1 M1 p1 r1 ⟨i, e, q1⟩ => ⟨x, M1, Q, p1.rep, r1, by subst e; exact q1, c.on p1⟩, l⟩
theorem ej_call {x : Str} {p pos : Pos} {e : Expr} {es : List Expr} {f : Addr} {sp : TSp} {w : WA} {G : Gx} {k : Nat} {N : List Str} {sc : Scope} {blk : Bool} (S : Sta G N k sc blk X) (hf : HeldT G k f sp) (hg : Gl X x) (hm : X.mg x = some (.ref f)) (hx : okN x = true)
    (ha : AJ X (e :: es) w) (he : (e :: es).all noStar = true) : EJ X (.Call (.Name x p) (e :: es) [] pos) (fun σ M Q R => w σ M (fun xs M1 => sp xs M1 Q R) R) := fun W tk => by
  obtain ⟨fd, ps, ds, dvs, dv, sp0, h1, h2, hv, hv2, h3, h4⟩ := hf
  rw [← S.hP, ← S.hw, ← S.hK, ← S.hm, ← S.hb] at h3
  rw [← S.hK] at h1 h2
  simp only [List.all_cons, Bool.and_eq_true] at he
  refine ⟨fun pins s σ' H Q' I h => ?_⟩
  obtain ⟨σ, M, Q, R, hs, hM, q, c, l⟩ := h
  refine wpAny_Call_Name_kw (ld_glob I hg hm ?_ (okN_d hx))
  refine PySem.W.callWith_K (h₀ := X.base) I.ok.mod.kin h1 (thn ((ha W tk).run pos pins s σ' _ (fun vs H2 => LSp X.K sp0 (vs ++ dvs) H2 Q' (L2.WE W σ')) I ?_) fun us s2 ⟨vs, H2, I2, r, q2⟩ => ⟨I2.kIn, ?_⟩) (starEach_cons he.1) (backTo_any he.2)
  · exact ⟨σ, M, _, R, hs, hM, q, fun xs vs H1 M1 hl p1 r1 q1 => ⟨xs ++ dv, M1, Q, R, Rvs.append r1 (by rw [S.hK]; exact hv2 H1), p1.rep, h4 _ _ _ _ q1, c.on p1, fun x cls d H' M' p2 rx hR => l x cls d H' M' (p1.trans p2) rx hR⟩, l⟩
  · exact run_T (E := L2.WE W) h3 S.room h2 hv (passAt tk σ') I2 r q2
theorem ej_bif {f : Bif} {p pos : Pos} {e : Expr} {es : List Expr} {w : WA} (hc : X.calm = true) (hg : Gl X f.name) (hm : X.mg f.name = none) (ha : AJ X (e :: es) w) (he : (e :: es).all noStar = true) :
    EJ X (.Call (.Name f.name p) (e :: es) [] pos) (fun σ M Q R => w σ M (fun xs M1 => wBif f xs M1 Q) R) := fun W tk => by
  simp only [List.all_cons, Bool.and_eq_true] at he
  have hv := bif_boot f
  have hn : f.name ≠ ("__name__" : Str) := by cases f <;> decide
  have hd : (f.name == ("__debug__" : Str)) = false := by cases f <;> decide
  have key : PE X (.Call (.Name f.name p) (e :: es) [] pos) (tCB (liftC X.K (wBif f)) (LA X.K W (e :: es).length w)) := by
    have cj := caj_bif hc f
    have st := starEach_cons (es := es) (env := X.env) he.1
    have bk := backTo_any (pos := pos) (env := X.env) he.2
    have hA := ha W tk
    unfold CaJ at cj
    cases hvv : f.val with
    | builtin id => rw [hvv] at hv cj; exact pe_callB cj hg hm hv hA hn hd st bk
    | type T => rw [hvv] at hv cj; exact pe_callTy cj hg hm hv hA hn hd st bk
    | _ => exfalso; cases f <;> cases hvv
  exact key.by fun σ' H Q' ⟨σ, M, Q, R, hs, hM, q, c, l⟩ => ⟨σ, M, _, R, hs, hM, q, fun xs vs H1 M1 hl p1 r1 q1 => ⟨xs, M1, Q, p1.rep, r1, q1, c.on p1⟩, l⟩
/-- a def that a slot holds -/
theorem ej_cav {F : Addr → TSp → Prop} {i : Nat} {x : Str} {p pos : Pos} {e : Expr} {es : List Expr} {w : WA} {G : Gx} {k : Nat} {N : List Str} {sc : Scope} {blk : Bool} (S : Sta G N k sc blk X) (hF : ∀ f sp, F f sp → HeldT G k f sp) (hN : X.N[i]? = some x) (hv : Vis X.env.scope x) (hx : okN x = true)
    (ha : AJ X (e :: es) w) (he : (e :: es).all noStar = true) : EJ X (.Call (.Name x p) (e :: es) [] pos) (fun σ M Q R => ∃ f sp, gs σ i = some (.ref f) ∧ F f sp ∧ w σ M (fun xs M1 => sp xs M1 Q R) R) := fun W tk => by
  simp only [List.all_cons, Bool.and_eq_true] at he
  refine ⟨fun pins s σ' H Q' I h => ?_⟩
  obtain ⟨σ, M, Q, R, hs, hM, ⟨f, sp, e1, hf, q⟩, c, l⟩ := h
  obtain ⟨v, h1, h2⟩ := hs.get (gs_eq e1)
  cases h2
  obtain ⟨fd, ps, ds, dvs, dv, sp0, g1, g2, gv, gv2, g3, g4⟩ := hF f sp hf
  rw [← S.hP, ← S.hw, ← S.hK, ← S.hm, ← S.hb] at g3
  rw [← S.hK] at g1 g2
  refine wpAny_Call_Name_kw (thn ((pe_var (pos := p) hN hv (okN_d hx) (okN_c hx)).run pins s σ' H (fun v H1 => v = .ref f ∧ H1 = H) I ⟨.ref f, h1, rfl, rfl⟩) fun u s1 ⟨v, H1, I1, r1, q1⟩ => ?_)
  obtain ⟨rfl, rfl⟩ := q1
  cases r1
  refine PySem.W.callWith_K (h₀ := X.base) I.ok.mod.kin g1 (thn ((ha W tk).run pos pins s1 σ' _ (fun vs H2 => LSp X.K sp0 (vs ++ dvs) H2 Q' (L2.WE W σ')) I1 ?_) fun us s2 ⟨vs, H2, I2, r, q2⟩ => ⟨I2.kIn, ?_⟩) (starEach_cons he.1) (backTo_any he.2)
  · exact ⟨σ, M, _, R, hs, hM, q, fun xs vs H1 M1 hl p1 r1 q1 => ⟨xs ++ dv, M1, Q, R, Rvs.append r1 (by rw [S.hK]; exact gv2 H1), p1.rep, g4 _ _ _ _ q1, c.on p1, fun x cls d H' M' p2 rx hR => l x cls d H' M' (p1.trans p2) rx hR⟩, l⟩
  · exact run_T (E := L2.WE W) g3 S.room g2 gv (passAt tk σ') I2 r q2
theorem aj_nil : AJ X [] (fun _ M Q _ => Q [] M) := fun W tk => pa_nil.by fun σ' H Q' ⟨σ, M, Q, R, hs, hM, q, c, l⟩ => c [] [] H M rfl (.refl hM) .nil q
theorem aj_cons {e : Expr} {es : List Expr} {we : WE} {wr : WA} (he : EJ X e we) (hr : AJ X es wr) (hs : noStar e = true) : AJ X (e :: es) (fun σ M Q R => we σ M (fun x M1 => wr σ M1 (fun xs M2 => Q (x :: xs) M2) R) R) := fun W tk =>
  (pa_cons (he W tk) (hr W tk) (starEach_cons hs)).by fun σ' H Q' ⟨σ, M, Q, R, hs, hM, q, c, l⟩ =>
  ⟨σ, M, _, R, hs, hM, q, fun x v H1 M1 p1 r1 q1 => ⟨σ, M1, _, R, hs.mono (p1.grow hM), p1.rep, q1, fun xs vs H2 M2 hl p2 r2 q2 =>
    c (x :: xs) (v :: vs) H2 M2 (by simp [hl]) (p1.trans p2) (.cons (r1.mono (p2.grow p1.rep)) r2) q2, l.on p1⟩, l⟩
theorem few_line {n : Nat} (h : n ≤ 1000) : n ≤ sizeLine := by
  have : (1000 : Nat) ≤ sizeLine := by decide
  omega
theorem ej_tup {es : List Expr} {w : WA} {n : Nat} {pos : Pos} (h : AJ X es w) (hz : es.length ≤ 1000) : EJ X (.Tuple es n pos) (fun σ M Q R => w σ M (fun xs M1 => Q (.tup xs) M1) R) := fun W tk =>
  (pe_tup (h W tk)).by fun σ' H Q' ⟨σ, M, Q, R, hs, hM, q, c, l⟩ =>
  ⟨σ, M, _, R, hs, hM, q, fun xs vs H1 M1 hl p1 r1 q1 => ⟨by rw [← r1.length, hl]; exact few_line hz, fun p hp => (c.on p1).tup p1.rep r1 (by rw [hl]; exact few_line hz) q1 hp⟩, l⟩
theorem ej_lst {es : List Expr} {w : WA} {pos : Pos} (h : AJ X es w) (hz : es.length ≤ 1000) : EJ X (.List es pos) (fun σ M Q R => w σ M (fun xs M1 => ∀ p, M1 p = none → Q (.ref p) (updM M1 p (.lst xs))) R) := fun W tk =>
  (pe_lst (h W tk)).by fun σ' H Q' ⟨σ, M, Q, R, hs, hM, q, c, l⟩ =>
  ⟨σ, M, _, R, hs, hM, q, fun xs vs H1 M1 hl p1 r1 q1 => ⟨by rw [← r1.length, hl]; exact few_line hz, fun p hp => (c.on p1).lst p1.rep r1 (by rw [hl]; exact few_line hz) q1 hp⟩, l⟩

/-! ### tests -/
theorem tj_val {e : Expr} {w : WE} (h : EJ X e w) (hp : plainT e = true) : TJ X e (fun σ M Q R => w σ M (fun x M1 => wTru x M1 Q) R) := fun W tk =>
  (pt_truth (h W tk) (plain_true hp)).by fun σ' H Q' ⟨σ, M, Q, R, hs, hM, q, c, l⟩ =>
  ⟨σ, M, _, R, hs, hM, q, fun x v H1 M1 p1 r1 ⟨b, e, q1⟩ => ⟨b, truT_ok p1.rep r1 e, c b H1 M1 p1 q1⟩, l⟩
theorem wCop_tru {o : COp} {x y : TV} {M : TM} {Q : Bool → TM → Prop} (h : wCop o x y M (fun z M3 => wTru z M3 Q)) : wCop o x y M (fun z M3 => ∃ b, z = .bl b ∧ Q b M3) := by
  obtain ⟨b, e, b', e', q⟩ := h
  cases e'
  exact ⟨b, e, b, rfl, q⟩
theorem tj_cmp {o : COp} {a b : Expr} {wa wb : WE} {pos : Pos} (hu : X.A.units + 64 < cLine) (ha : EJ X a wa) (hb : EJ X b wb) (hn : noSet b = true) :
    TJ X (.Compare a [o.op] [b] pos) (fun σ M Q R => wa σ M (fun x M1 => wb σ M1 (fun y M2 => wCop o x y M2 (fun z M3 => wTru z M3 Q)) R) R) := fun W tk =>
  (pt_cmpR (opj_cop hu o) (ha W tk) (hb W tk) (marks_no hn)).by fun σ' H Q' ⟨σ, M, Q, R, hs, hM, q, c, l⟩ =>
  ⟨σ, M, _, R, hs, hM, q, fun x v H1 M1 p1 r1 q1 => ⟨σ, M1, _, R, hs.mono (p1.grow hM), p1.rep, q1, fun y u H2 M2 p2 r2 q2 =>
    ⟨x, y, M2, _, p2.rep, r1.mono (p2.grow p1.rep), r2, wCop_tru q2, fun z z' H3 M3 p3 r3 ⟨b, e, q3⟩ => by
      subst e
      cases r3
      exact ⟨b, rfl, c b H3 M3 ((p1.trans p2).trans p3) q3⟩⟩, l.on p1⟩, l⟩
/-- a comparison's answer, chained -/
theorem ej_chn {o p : COp} {a b d : Expr} {wa wb wd : WE} {pos : Pos} (hu : X.A.units + 64 < cLine) (ha : EJ X a wa) (hb : EJ X b wb) (hd : EJ X d wd) (hn : noSet d = true) :
    EJ X (.Compare a [o.op, p.op] [b, d] pos) (fun σ M Q R => wa σ M (fun x M1 => wb σ M1 (fun y M2 => ∃ k, cmpF o M2 x y = some k ∧
      (if k = true then wd σ M2 (fun z M3 => wCop p y z M3 Q) R else Q (.bl false) M2)) R) R) := fun W tk =>
  (pe_chain (opj_cop hu o) (opj_cop hu p) (ha W tk) (hb W tk) (hd W tk) (marks_no (op := p.op) hn)).by fun σ' H Q' ⟨σ, M, Q, R, hs, hM, q, c, l⟩ =>
  ⟨σ, M, _, R, hs, hM, q, fun x v H1 M1 p1 r1 q1 => ⟨σ, M1, _, R, hs.mono (p1.grow hM), p1.rep, q1, fun y u H2 M2 p2 r2 ⟨kk, e, q2⟩ =>
    ⟨x, y, M2, fun z M3 => z = .bl kk ∧ (if kk = true then wd σ M3 (fun z M4 => wCop p y z M4 Q) R else Q (.bl false) M3), p2.rep, r1.mono (p2.grow p1.rep), r2, ⟨kk, e, rfl, q2⟩, fun z z' H3 M3 p3 r3 ⟨ez, q3⟩ => by
      subst ez
      cases r3
      refine ⟨kk, rfl, ?_⟩
      have p13 := (p1.trans p2).trans p3
      cases kk with
      | false => exact c _ _ H3 M3 p13 (.bl _) q3
      | true =>
        rw [if_pos rfl] at q3 ⊢
        exact ⟨σ, M3, _, R, hs.mono (p13.grow hM), p3.rep, q3, fun z u3 H4 M4 p4 r4 q4 => ⟨y, z, M4, Q, p4.rep, (r2.mono (p3.grow p2.rep)).mono (p4.grow p3.rep), r4, q4, (c.on p13).on p4⟩, l.on p13⟩⟩, l.on p1⟩, l⟩
theorem tj_chn {o p : COp} {a b d : Expr} {wa wb wd : WE} {pos : Pos} (hu : X.A.units + 64 < cLine) (ha : EJ X a wa) (hb : EJ X b wb) (hd : EJ X d wd) (hn : noSet d = true) :
    TJ X (.Compare a [o.op, p.op] [b, d] pos) (fun σ M Q R => wa σ M (fun x M1 => wb σ M1 (fun y M2 => ∃ k, cmpF o M2 x y = some k ∧
      (if k = true then wd σ M2 (fun z M3 => wCop p y z M3 (fun z M4 => wTru z M4 Q)) R else wTru (.bl false) M2 Q)) R) R) := fun W tk =>
  (pt_chain (opj_cop hu o) (opj_cop hu p) (ha W tk) (hb W tk) (hd W tk) (marks_no (op := p.op) hn)).by fun σ' H Q' ⟨σ, M, Q, R, hs, hM, q, c, l⟩ =>
  ⟨σ, M, _, R, hs, hM, q, fun x v H1 M1 p1 r1 q1 => ⟨σ, M1, _, R, hs.mono (p1.grow hM), p1.rep, q1, fun y u H2 M2 p2 r2 ⟨kk, e, q2⟩ =>
    ⟨x, y, M2, fun z M3 => z = .bl kk ∧ (if kk = true then wd σ M3 (fun z M4 => wCop p y z M4 (fun z M5 => wTru z M5 Q)) R else wTru (.bl false) M3 Q), p2.rep, r1.mono (p2.grow p1.rep), r2, ⟨kk, e, rfl, q2⟩, fun z z' H3 M3 p3 r3 ⟨ez, q3⟩ => by
      subst ez
      cases r3
      refine ⟨kk, rfl, ?_⟩
      have p13 := (p1.trans p2).trans p3
      cases kk with
      | false =>
        obtain ⟨b', e', q4⟩ := q3
        cases e'
        exact ⟨false, rfl, c _ H3 M3 p13 q4⟩
      | true =>
        rw [if_pos rfl] at q3 ⊢
        exact ⟨σ, M3, _, R, hs.mono (p13.grow hM), p3.rep, q3, fun z u3 H4 M4 p4 r4 q4 => ⟨y, z, M4, _, p4.rep, (r2.mono (p3.grow p2.rep)).mono (p4.grow p3.rep), r4, wCop_tru q4, fun z2 z2' H5 M5 p5 r5 ⟨b, e5, q5⟩ => by
          subst e5
          cases r5
          exact ⟨b, rfl, c b H5 M5 ((p13.trans p4).trans p5) q5⟩⟩, l.on p13⟩⟩, l.on p1⟩, l⟩
theorem tj_not {a : Expr} {w : WT} {pos : Pos} (h : TJ X a w) : TJ X (.UnaryOp .Not a pos) (fun σ M Q R => w σ M (fun k M1 => Q (!k) M1) R) := fun W tk =>
  (pt_not (h W tk)).by fun σ' H Q' ⟨σ, M, Q, R, hs, hM, q, c, l⟩ => ⟨σ, M, _, R, hs, hM, q, fun b H1 M1 p1 q1 => c (!b) H1 M1 p1 q1, l⟩
theorem uj_and1 {a : Expr} {w : WT} {pos : Pos} (h : TJ X a w) : UJ X (.BoolOp .And [a] pos) w := fun W tk => pw_and1 (h W tk)
theorem uj_or1 {a : Expr} {w : WT} {pos : Pos} (h : TJ X a w) : UJ X (.BoolOp .Or [a] pos) w := fun W tk => pw_or1 (h W tk)
theorem uj_and {a b : Expr} {r : List Expr} {w w' : WT} {pos : Pos} (h : TJ X a w) (h' : UJ X (.BoolOp .And (b :: r) pos) w') :
    UJ X (.BoolOp .And (a :: b :: r) pos) (fun σ M Q R => w σ M (fun k M1 => if k = true then w' σ M1 Q R else Q false M1) R) := fun W tk =>
  (pw_and (h W tk) (h' W tk)).by fun σ' H Q' ⟨σ, M, Q, R, hs, hM, q, c, l⟩ => ⟨σ, M, _, R, hs, hM, q, fun b H1 M1 p1 q1 => by
    cases b with
    | false => exact c false H1 M1 p1 q1
    | true => exact ⟨σ, M1, Q, R, hs.mono (p1.grow hM), p1.rep, q1, fun b H2 M2 p2 q2 => c b H2 M2 (p1.trans p2) q2, l.on p1⟩, l⟩
theorem uj_or {a b : Expr} {r : List Expr} {w w' : WT} {pos : Pos} (h : TJ X a w) (h' : UJ X (.BoolOp .Or (b :: r) pos) w') :
    UJ X (.BoolOp .Or (a :: b :: r) pos) (fun σ M Q R => w σ M (fun k M1 => if k = true then Q true M1 else w' σ M1 Q R) R) := fun W tk =>
  (pw_or (h W tk) (h' W tk)).by fun σ' H Q' ⟨σ, M, Q, R, hs, hM, q, c, l⟩ => ⟨σ, M, _, R, hs, hM, q, fun b H1 M1 p1 q1 => by
    cases b with
    | true => exact c true H1 M1 p1 q1
    | false => exact ⟨σ, M1, Q, R, hs.mono (p1.grow hM), p1.rep, q1, fun b H2 M2 p2 q2 => c b H2 M2 (p1.trans p2) q2, l.on p1⟩, l⟩
theorem UJ.tj {e : Expr} {w : WT} (h : UJ X e w) : TJ X e w := fun W tk => (h W tk).pt
theorem ej_ite {c a b : Expr} {wc : WT} {wa wb : WE} {pos : Pos} (hc : TJ X c wc) (ha : EJ X a wa) (hb : EJ X b wb) :
    EJ X (.IfExp c a b pos) (fun σ M Q R => wc σ M (fun k M1 => if k = true then wa σ M1 Q R else wb σ M1 Q R) R) := fun W tk =>
  (pe_ifExp (hc W tk) (ha W tk) (hb W tk)).by fun σ' H Q' ⟨σ, M, Q, R, hs, hM, q, c, l⟩ => ⟨σ, M, _, R, hs, hM, q, fun b H1 M1 p1 q1 => by
    cases b with
    | true => exact ⟨σ, M1, Q, R, hs.mono (p1.grow hM), p1.rep, q1, c.on p1, l.on p1⟩
    | false => exact ⟨σ, M1, Q, R, hs.mono (p1.grow hM), p1.rep, q1, c.on p1, l.on p1⟩, l⟩
/-! ### and, or, not as values -/
theorem ej_nt {a : Expr} {wa : WE} {pos : Pos} (ha : EJ X a wa) : EJ X (.UnaryOp .Not a pos) (fun σ M Q R => wa σ M (fun x M1 => ∃ k, truT M1 x = some k ∧ Q (.bl (!k)) M1) R) := fun W tk =>
  (pe_notT (ha W tk)).by fun σ' H Q' ⟨σ, M, Q, R, hs, hM, q, c, l⟩ =>
  ⟨σ, M, _, R, hs, hM, q, fun x v H1 M1 p1 r1 ⟨k, e, q1⟩ => ⟨k, truT_ok p1.rep r1 e, c _ _ H1 M1 p1 (.bl _) q1⟩, l⟩
theorem ej_one {op : BoolOp} {a : Expr} {wa : WE} {pos : Pos} (ha : EJ X a wa) : EJ X (.BoolOp op [a] pos) wa := fun W tk => pe_one (ha W tk)
theorem ej_and {a b : Expr} {r : List Expr} {wa wb : WE} {pos : Pos} (ha : EJ X a wa) (hb : EJ X (.BoolOp .And (b :: r) pos) wb) :
    EJ X (.BoolOp .And (a :: b :: r) pos) (fun σ M Q R => wa σ M (fun x M1 => ∃ k, truT M1 x = some k ∧ (if k = true then wb σ M1 Q R else Q x M1)) R) := fun W tk =>
  (pe_andT (ha W tk) (hb W tk)).by fun σ' H Q' ⟨σ, M, Q, R, hs, hM, q, c, l⟩ =>
  ⟨σ, M, _, R, hs, hM, q, fun x v H1 M1 p1 r1 ⟨k, e, q1⟩ => ⟨k, truT_ok p1.rep r1 e, by
    cases k with
    | true => exact ⟨σ, M1, Q, R, hs.mono (p1.grow hM), p1.rep, q1, c.on p1, l.on p1⟩
    | false => exact c x v H1 M1 p1 r1 q1⟩, l⟩
theorem ej_or {a b : Expr} {r : List Expr} {wa wb : WE} {pos : Pos} (ha : EJ X a wa) (hb : EJ X (.BoolOp .Or (b :: r) pos) wb) :
    EJ X (.BoolOp .Or (a :: b :: r) pos) (fun σ M Q R => wa σ M (fun x M1 => ∃ k, truT M1 x = some k ∧ (if k = true then Q x M1 else wb σ M1 Q R)) R) := fun W tk =>
  (pe_orT (ha W tk) (hb W tk)).by fun σ' H Q' ⟨σ, M, Q, R, hs, hM, q, c, l⟩ =>
  ⟨σ, M, _, R, hs, hM, q, fun x v H1 M1 p1 r1 ⟨k, e, q1⟩ => ⟨k, truT_ok p1.rep r1 e, by
    cases k with
    | false => exact ⟨σ, M1, Q, R, hs.mono (p1.grow hM), p1.rep, q1, c.on p1, l.on p1⟩
    | true => exact c x v H1 M1 p1 r1 q1⟩, l⟩
/-! ### slices -/
def OJ (X : Cx) (e : Option Expr) (w : TSt → TM → (Option Int → TM → Prop) → TR → Prop) : Prop := ∀ W, Takes X W → PO X e (fun σ' H Q' => ∃ σ M Q R, Rs X.K H σ σ' ∧ RepM X.K H M ∧ w σ M Q R ∧ (∀ o H' M', Post X.K H M H' M' → Q o M' → Q' o H') ∧ LX X.K W σ' H M R)
theorem _root_.L2.PO.by {e : Option Expr} {t t' : TO} (h : PO X e t) (i : ∀ σ H Q, t' σ H Q → t σ H Q) : PO X e t' := ⟨fun pins s σ H Q I q => h.run pins s σ H Q I (i _ _ _ q)⟩
theorem oj_no : OJ X none (fun _ M Q _ => Q none M) := fun W tk => po_none.by fun σ' H Q' ⟨σ, M, Q, R, hs, hM, q, c, l⟩ => c none H M (.refl hM) q
theorem oj_so {e : Expr} {w : WE} (h : EJ X e w) : OJ X (some e) (fun σ M Q R => w σ M (fun x M1 => ∃ i, x = .int i ∧ Q (some i) M1) R) := fun W tk => (po_some (h W tk)).by fun σ' H Q' ⟨σ, M, Q, R, hs, hM, q, c, l⟩ =>
  ⟨σ, M, _, R, hs, hM, q, fun x v H1 M1 p1 r1 ⟨i, e, q1⟩ => by
    subst e
    cases r1
    exact ⟨i, rfl, c _ H1 M1 p1 q1⟩, l⟩
theorem ej_sl {a : Expr} {lo hi : Option Expr} {wa : WE} {wl wh : TSt → TM → (Option Int → TM → Prop) → TR → Prop} {p2 pos : Pos} (ha : EJ X a wa) (hl : OJ X lo wl) (hh : OJ X hi wh) :
    EJ X (.Subscript a (.Slice lo hi none p2) pos) (fun σ M Q R => wa σ M (fun x M1 => wl σ M1 (fun l M2 => wh σ M2 (fun h M3 => wSl x l h M3 Q) R) R) R) := fun W tk =>
  (pe_slice slj (ha W tk) (hl W tk) (hh W tk)).by fun σ' H Q' ⟨σ, M, Q, R, hs, hM, q, c, l⟩ =>
  ⟨σ, M, _, R, hs, hM, q, fun x v H1 M1 p1 r1 q1 => ⟨σ, M1, _, R, hs.mono (p1.grow hM), p1.rep, q1, fun lo H2 M2 p2 q2 => ⟨σ, M2, _, R, hs.mono ((p1.trans p2).grow hM), p2.rep, q2, fun hi H3 M3 p3 q3 =>
    ⟨x, M3, Q, p3.rep, r1.mono ((p2.trans p3).grow p1.rep), q3, ((c.on p1).on p2).on p3⟩, (l.on p1).on p2⟩, l.on p1⟩, l⟩
/-! ### methods of lists -/
theorem Mth.slot (m : Mth) : Slot "list" m.name m.id := by
  cases m
  · exact PySem.F.slot_list_append
  · exact PySem.F.slot_list_pop
  · exact PySem.F.slot_list_pop
  · exact PySem.F.slot_list_extend
  · exact PySem.F.slot_list_insert
theorem Mth.hty (m : Mth) : typeOf (.builtin m.id) = pure (.type "method_descriptor") := by
  cases m
  · exact PySem.F.type_list_append
  · exact PySem.F.type_list_pop
  · exact PySem.F.type_list_pop
  · exact PySem.F.type_list_extend
  · exact PySem.F.type_list_insert
theorem mth_ty {x : TV} {v : V} {H : Hp} {M : TM} (hM : RepM X.K H M) (r : Rv X.K H x v) : (∃ a xs, x = .ref a ∧ lsM M a = some xs) → tyV X.K "list" v H := fun ⟨a, xs, e, h⟩ => by
  subst e
  cases r
  obtain ⟨vs, s, _⟩ := lsM_seq hM h
  exact .inl ⟨rfl, vs, s⟩
theorem ej_mth0 {m : Mth} {o : Expr} {wo : WE} {apos cpos : Pos} (ho : EJ X o wo) (hb : noSup o = true) (hl : (apos.endLine == cpos.line) = true) :
    EJ X (.Call (.Attribute o m.name apos) [] [] cpos) (fun σ M Q R => wo σ M (fun x M1 => (∃ a xs, x = .ref a ∧ lsM M1 a = some xs) ∧ wMth m x [] M1 Q) R) := fun W tk =>
  (pe_bm0 PySem.F.plainAttrs_list m.slot m.hty (mtj m) (ho W tk) (attBase hb) hl).by fun σ' H Q' ⟨σ, M, Q, R, hs, hM, q, c, l⟩ =>
    ⟨σ, M, _, R, hs, hM, q, fun x v H1 M1 p1 r1 ⟨t1, q1⟩ => ⟨mth_ty p1.rep r1 t1, x, [], M1, Q, p1.rep, r1, .nil, q1, c.on p1⟩, l⟩
theorem ej_mth {m : Mth} {o e : Expr} {es : List Expr} {wo : WE} {w : WA} {apos cpos : Pos} (ho : EJ X o wo) (ha : AJ X (e :: es) w) (hb : noSup o = true) (he' : (e :: es).all noStar = true) (hl : (apos.endLine == cpos.line) = true) (hn : (e :: es).length < 25) :
    EJ X (.Call (.Attribute o m.name apos) (e :: es) [] cpos) (fun σ M Q R => wo σ M (fun x M1 => (∃ a xs, x = .ref a ∧ lsM M1 a = some xs) ∧ w σ M1 (fun ys M2 => wMth m x ys M2 Q) R) R) := fun W tk => by
  have he := he'
  simp only [List.all_cons, Bool.and_eq_true] at he
  refine (pe_bm PySem.F.plainAttrs_list m.slot m.hty (mtj m) (ho W tk) (ha W tk) (attBase hb) ?_ hl (starEach_cons he.1) (backTo_any he.2)).by fun σ' H Q' ⟨σ, M, Q, R, hs, hM, q, c, l⟩ => ?_
  · rw [backTo_all he']
    show (true && true && decide ((e :: es).length + 0 + 0 < 30)) = true
    simp only [Bool.and_self, Bool.true_and, decide_eq_true_eq]
    omega
  · exact ⟨σ, M, _, R, hs, hM, q, fun x v H1 M1 p1 r1 ⟨t1, q1⟩ => ⟨mth_ty p1.rep r1 t1, σ, M1, _, R, hs.mono (p1.grow hM), p1.rep, q1, fun ys us H2 M2 hl p2 r2 q2 => ⟨x, ys, M2, Q, p2.rep, r1.mono (p2.grow p1.rep), r2, q2, (c.on p1).on p2⟩, l.on p1⟩, l⟩
end
end TL

/-! TIter: targets; what is walked; comprehensions. -/
namespace TL
open PySem PySem.Spec PyProof.Rows L2

theorem wipe_set {σ : LSt} {i : Nat} {o : Option V} : ∀ {vs : List Nat}, i ∈ vs → wipe (σ.set i o) vs = wipe σ vs
  | [], h => by cases h
  | v :: vs, h => by
    show (wipe (σ.set i o) vs).set v none = (wipe σ vs).set v none
    by_cases e : i ∈ vs
    · rw [wipe_set e]
    · have e2 : i = v := by
        rcases List.mem_cons.mp h with q | q
        · exact q
        · exact absurd q e
      subst e2
      have key : ∀ {us : List Nat} {τ : LSt}, i ∉ us → wipe (τ.set i o) us = (wipe τ us).set i o := by
        intro us
        induction us with
        | nil => intro τ _; rfl
        | cons u us ih =>
          intro τ hu
          have h1 : u ≠ i := fun e => hu (by rw [e]; exact List.mem_cons_self)
          show (wipe (τ.set i o) us).set u none = ((wipe τ us).set u none).set i o
          rw [ih fun m => hu (List.mem_cons_of_mem _ m), List.set_comm _ _ (Ne.symm h1)]
      rw [key e, List.set_set]

/-! ### targets -/
def LG (K : PySem.W.Frag) (T : Tg) : TG := fun v σ' H Q' => ∃ x σ M Q, Rv K H x v ∧ Rs K H σ σ' ∧ RepM K H M ∧ wTg T x σ M Q ∧
  ∀ σ2 σ2', Rs K H σ2 σ2' → (∀ vs : List Nat, (∀ j ∈ T.slots, j ∈ vs) → wipe σ2' vs = wipe σ' vs) → Q σ2 M → Q' σ2' H
def LGs (K : PySem.W.Frag) (is : List Nat) : TGs := fun vs σ' H Q' => ∃ (xs : List TV) (σ : TSt) (Q : TSt → Prop), Rvs K H xs vs ∧ Rs K H σ σ' ∧ xs.length = is.length ∧ Q (setAll σ is xs) ∧
  ∀ σ2 σ2', Rs K H σ2 σ2' → (∀ us : List Nat, (∀ j ∈ is, j ∈ us) → wipe σ2' us = wipe σ' us) → Q σ2 → Q' σ2' H
theorem _root_.L2.PG.by {X : Cx} {e : Expr} {t t' : TG} (h : PG X e t) (i : ∀ v σ H Q, t' v σ H Q → t v σ H Q) : PG X e t' := ⟨fun pins s σ H v u Q I r q => h.run pins s σ H v u Q I r (i _ _ _ _ q)⟩
theorem _root_.L2.PGs.by {X : Cx} {es : List Expr} {t t' : TGs} (h : PGs X es t) (i : ∀ v σ H Q, t' v σ H Q → t v σ H Q) : PGs X es t' := ⟨fun pins s σ H v u Q I r q => h.run pins s σ H v u Q I r (i _ _ _ _ q)⟩
section
variable {G : Gx} {N : List Str} {k : Nat} {sc : Scope} {blk : Bool} {X : Cx}
theorem ckN1 {blk : Bool} {N : List Str} {sc : Scope} {i : Nat} {e : Expr} (h : (match vName e with
    | some (x, _) => decide (N[i]? = some x) && locB blk sc x
    | none => false) = true) : ∃ x p, e = .Name x p ∧ N[i]? = some x ∧ locB blk sc x = true := by
  cases q : vName e with
  | none => rw [q] at h; cases h
  | some r =>
    obtain ⟨x, p⟩ := r
    rw [q] at h
    simp only [Bool.and_eq_true] at h
    exact ⟨x, p, vName_eq q, of_decide_eq_true h.1, h.2⟩
theorem pgs_ns (S : Sta G N k sc blk X) : ∀ {is : List Nat} {es : List Expr}, ckTg.ckNs blk N sc is es = true → PGs X es (LGs X.K is) ∧ (assignEach es X.env).length = is.length ∧ (assignEach es X.env).findIdx? (·.1) = none
  | [], [], _ => by
    refine ⟨pgs_nil.by fun vs σ' H Q' ⟨xs, σ, Q, rv, hs, hl, q, c⟩ => ?_, rfl, rfl⟩
    cases rv with
    | nil => exact ⟨rfl, c σ σ' hs (fun _ _ => rfl) q⟩
    | cons _ _ => cases hl
  | i :: is, e :: es, h => by
    unfold ckTg.ckNs at h
    simp only [Bool.and_eq_true] at h
    obtain ⟨x, p, e1, hN, hl⟩ := ckN1 h.1
    subst e1
    obtain ⟨ih, il, ii⟩ := pgs_ns S h.2
    have hL := S.loc hl
    have hn : X.N[i]? = some x := by rw [S.hN]; exact hN
    refine ⟨(pgs_cons (pg_name S.ndX hn hL.1 hL.2) ih rfl).by fun vs σ' H Q' ⟨xs, σ, Q, rv, hs, hl, q, c⟩ => ?_, ?_, ?_⟩
    · cases rv with
      | nil => cases hl
      | @cons y v ys us r rr =>
        refine ⟨v, us, rfl, ys, σ.set i (some y), Q, rr, hs.set i (show Ropt X.K H (some y) (some v) from r), by simpa using hl, q, fun σ2 σ2' h2 hw q2 => c σ2 σ2' h2 (fun us hu => ?_) q2⟩
        rw [hw us fun j hj => hu j (List.mem_cons_of_mem _ hj)]
        exact wipe_set (hu i List.mem_cons_self)
    · show (assignEach es X.env).length + 1 = is.length + 1
      rw [il]
    · show List.findIdx? (·.1) ((false, _) :: assignEach es X.env) = none
      rw [List.findIdx?_cons]
      simp [ii]
  | [], _ :: _, h => by cases h
  | _ :: _, [], h => by cases h
theorem pg_tg (S : Sta G N k sc blk X) {T : Tg} {e : Expr} (h : ckTg blk N sc T e = true) : PG X e (LG X.K T) := by
  cases T with
  | name i =>
    obtain ⟨x, p, e1, hN, hl⟩ := ckN1 h
    subst e1
    have hL := S.loc hl
    have hn : X.N[i]? = some x := by rw [S.hN]; exact hN
    exact (pg_name S.ndX hn hL.1 hL.2).by fun v σ' H Q' ⟨x, σ, M, Q, rv, hs, hM, q, c⟩ => c _ _ (hs.set i (show Ropt X.K H (some x) (some v) from rv)) (fun vs hv => wipe_set (hv i (by simp [Tg.slots]))) q
  | tup is =>
    unfold ckTg at h
    cases qv : vTup e with
    | none => simp only [qv] at h; cases h
    | some r =>
      obtain ⟨es, n, p⟩ := r
      simp only [qv] at h
      have e1 := vTup_eq qv
      subst e1
      obtain ⟨hg, hn, hi⟩ := pgs_ns S h
      refine ⟨fun pins s σ' H v u Q' I r q => ?_⟩
      obtain ⟨x, σ, M, Q, rv, hs, hM, ⟨xs, e2, hl, q⟩, c⟩ := q
      obtain ⟨p', vs, ev, rvs, hz, kind⟩ := seqM_ok hM rv e2
      subst ev
      have body : LGs X.K is vs σ' H Q' := ⟨xs, σ, (fun σ => Q σ M), rvs, hs, hl, q, c⟩
      have hlv : vs.length = is.length := by rw [← rvs.length]; exact hl
      rcases kind with ⟨_, s⟩ | ⟨_, s⟩
      · exact (pg_lst S.calm hg hn hi).run pins _ σ' H _ u Q' I r ⟨p', vs, rfl, s, hlv, body⟩
      · exact (pg_tup S.calm hg hn hi).run pins _ σ' H _ u Q' I r ⟨p', vs, rfl, s.sq, hlv, body⟩
end

/-! ### what is walked -/
structure Aft (K : PySem.W.Frag) (H0 H : Hp) (M : TM) : Prop where
  grow : GrowT K H0 H
  rep : RepM K H M
structure IOk (K : PySem.W.Frag) (H0 : Hp) (J : Itm) (I : L2.It) : Prop where
  len : J.items.length ≤ sizeLine
  go : ∀ i x H M, J.items[i]? = some x → Aft K H0 H M → J.chk M → I.go i H
  yld : ∀ i x H M v H', J.items[i]? = some x → Aft K H0 H M → J.chk M → I.yld i H v H' → Post K H M H' M ∧ Rv K H' x v
  stop : ∀ i H M, J.items.length ≤ i → Aft K H0 H M → J.chk M → I.stop i H
theorem Post.aft {K : PySem.W.Frag} {H0 H : Hp} {M0 M : TM} (r : RepM K H0 M0) (p : Post K H0 M0 H M) : Aft K H0 H M := ⟨p.grow r, p.rep⟩
def LI (K : PySem.W.Frag) (W : WX) (w : TSt → TM → (Itm → TM → Prop) → TR → Prop) : TI := fun σ' H Q' => ∃ σ M Q R, Rs K H σ σ' ∧ RepM K H M ∧ w σ M Q R ∧ (∀ J I H' M', Post K H M H' M' → IOk K H' J I → Q J M' → Q' I H') ∧ LX K W σ' H M R
def IJ (X : Cx) (tg it : Expr) (w : TSt → TM → (Itm → TM → Prop) → TR → Prop) : Prop := ∀ W, Takes X W → PI X tg it (LI X.K W w)
theorem _root_.L2.PI.by {X : Cx} {tg it : Expr} {t t' : TI} (h : PI X tg it t) (i : ∀ σ H Q, t' σ H Q → t σ H Q) : PI X tg it t' := ⟨fun pins s σ H R I q => h.run pins s σ H R I (i _ _ _ q)⟩
section
variable {K : PySem.W.Frag} {H : Hp} {M : TM} {a b : Addr} {xs ys : List TV}
theorem Rvs.getI {i : Nat} {x : TV} {vs : List V} (r : Rvs K H xs vs) (h : xs[i]? = some x) : ∃ v, vs[i]? = some v ∧ Rv K H x v := by
  induction xs generalizing i vs with
  | nil => simp at h
  | cons y ys ih =>
    cases r with
    | cons r rr =>
      cases i with
      | zero => simp at h; subst h; exact ⟨_, rfl, r⟩
      | succ i =>
        obtain ⟨v, h1, h2⟩ := ih rr (by simpa using h)
        exact ⟨v, by simpa using h1, h2⟩
theorem iok_list (hz : xs.length ≤ sizeLine) (h : lsM M a = some xs) : IOk K H ⟨xs, chkS M (.ref a) xs⟩ (Itl K a) where
  len := hz
  go := fun i x H M e p c => by
    obtain ⟨vs, s, r, _⟩ := lsM_seq p.rep (show lsM M a = some xs from c)
    obtain ⟨v, h1, _⟩ := r.getI e
    exact ⟨vs, v, s, h1⟩
  yld := fun i x H M v H' e p c y => by
    obtain ⟨vs, s, r, _⟩ := lsM_seq p.rep (show lsM M a = some xs from c)
    obtain ⟨rfl, y⟩ := y
    obtain ⟨v', h1, h2⟩ := r.getI e
    have := y vs s
    rw [h1] at this
    cases this
    exact ⟨Post.refl p.rep, h2⟩
  stop := fun i H M e p c => by
    obtain ⟨vs, s, r, _⟩ := lsM_seq p.rep (show lsM M a = some xs from c)
    exact ⟨vs, s, by rw [← r.length]; exact e⟩
theorem iok_tup {p : Addr} {vs : List V} (hM : RepM K H M) (h : TqT K H p vs) (r : Rvs K H xs vs) (hz : xs.length ≤ sizeLine) : IOk K H ⟨xs, chkS M (.tup xs) xs⟩ (Itt K p) where
  len := hz
  go := fun i x H' M' e q c => by
    obtain ⟨v, h1, _⟩ := r.getI e
    exact ⟨vs, v, (q.grow _ _ h).sq, h1⟩
  yld := fun i x H' M' v H'' e q c y => by
    obtain ⟨rfl, y⟩ := y
    obtain ⟨v', h1, h2⟩ := r.getI e
    have := y vs (q.grow _ _ h).sq
    rw [h1] at this
    cases this
    exact ⟨Post.refl q.rep, h2.mono (q.grow)⟩
  stop := fun i H' M' e q c => ⟨vs, (q.grow _ _ h).sq, by rw [← r.length]; exact e⟩
theorem rngT_get {lo : Int} {n i : Nat} {x : TV} (h : (rngT lo n)[i]? = some x) : i < n ∧ x = .int (lo + (i : Nat)) := by
  unfold rngT at h
  rw [List.getElem?_map] at h
  by_cases c : i < n
  · rw [List.getElem?_range c] at h
    simp at h
    exact ⟨c, h.symm⟩
  · rw [List.getElem?_eq_none (by simp; omega)] at h
    cases h
theorem rngT_len {lo : Int} {n : Nat} : (rngT lo n).length = n := by simp [rngT]
theorem iok_rng {lo : Int} {n : Nat} (hz : n ≤ 16777216) : IOk K H ⟨rngT lo n, fun _ => True⟩ (Itr lo n) where
  len := by rw [show (rngT lo n).length = n from rngT_len]; exact hz
  go := fun i x H M e _ _ => (rngT_get e).1
  yld := fun i x H M v H' e p _ y => by
    obtain ⟨rfl, rfl⟩ := y
    rw [(rngT_get e).2]
    exact ⟨Post.refl p.rep, .int _⟩
  stop := fun i H M e _ _ => by
    show n ≤ i
    rw [show (rngT lo n).length = n from rngT_len] at e
    exact e
theorem zipT_get : ∀ {xs ys : List TV} {i : Nat} {z : TV}, (zipT xs ys)[i]? = some z → ∃ x y, xs[i]? = some x ∧ ys[i]? = some y ∧ z = .tup [x, y]
  | [], _, _, _, h => by simp [zipT] at h
  | _ :: _, [], _, _, h => by simp [zipT] at h
  | x :: xs, y :: ys, 0, z, h => by simp [zipT] at h; exact ⟨x, y, rfl, rfl, h.symm⟩
  | x :: xs, y :: ys, i + 1, z, h => by
    obtain ⟨a, b, h1, h2, h3⟩ := zipT_get (xs := xs) (ys := ys) (i := i) (z := z) (by simpa [zipT] using h)
    exact ⟨a, b, by simpa using h1, by simpa using h2, h3⟩
theorem zipT_len : ∀ (xs ys : List TV), (zipT xs ys).length = min xs.length ys.length
  | [], _ => by simp [zipT]
  | _ :: _, [] => by simp [zipT]
  | x :: xs, y :: ys => by simp only [zipT, List.length_cons, zipT_len xs ys]; omega
theorem enuT_get : ∀ {xs : List TV} {k i : Nat} {z : TV}, (enuT k xs)[i]? = some z → ∃ x, xs[i]? = some x ∧ z = .tup [.int ((k + i : Nat) : Int), x]
  | [], _, _, _, h => by simp [enuT] at h
  | x :: xs, k, 0, z, h => by simp [enuT] at h; exact ⟨x, rfl, h.symm⟩
  | x :: xs, k, i + 1, z, h => by
    obtain ⟨a, h1, h2⟩ := enuT_get (xs := xs) (k := k + 1) (i := i) (z := z) (by simpa [enuT] using h)
    exact ⟨a, by simpa using h1, by rw [h2]; congr 4; omega⟩
theorem enuT_len : ∀ (xs : List TV) (k : Nat), (enuT k xs).length = xs.length
  | [], _ => rfl
  | x :: xs, k => by simp [enuT, enuT_len xs]
theorem pair_new {x y : TV} {v u : V} {p : Addr} (hM : RepM K H M) (h : H p = none) (hx : Rv K H x v) (hy : Rv K H y u) : Post K H M (upd H p (.tup [v, u])) M ∧ Rv K (upd H p (.tup [v, u])) (.tup [x, y]) (.ref p) := by
  have q := Post.new (o := .tup [v, u]) hM h
  exact ⟨q, .tup (.of upd_same) (.cons (hx.mono (q.grow hM)) (.cons (hy.mono (q.grow hM)) .nil)) (show 2 ≤ sizeLine by decide)⟩
theorem iok_enum (hz : xs.length ≤ sizeLine) (h : lsM M a = some xs) : IOk K H ⟨enuT 0 xs, chkS M (.ref a) xs⟩ (Ite K a) where
  len := by rw [show (enuT 0 xs).length = xs.length from enuT_len xs 0]; exact hz
  go := fun i x H M e p c => by
    obtain ⟨vs, s, r, _⟩ := lsM_seq p.rep (show lsM M a = some xs from c)
    obtain ⟨z, e', _⟩ := enuT_get e
    obtain ⟨v, h1, _⟩ := r.getI e'
    exact ⟨vs, v, s, h1⟩
  yld := fun i x H M v H' e p c y => by
    obtain ⟨vs, s, r, _⟩ := lsM_seq p.rep (show lsM M a = some xs from c)
    obtain ⟨z, e', e2⟩ := enuT_get e
    obtain ⟨T, u, rfl, hn, rfl, y⟩ := y
    obtain ⟨v', h1, h2⟩ := r.getI e'
    have := y vs s
    rw [h1] at this
    cases this
    subst e2
    rw [Nat.zero_add]
    exact pair_new p.rep hn (.int _) h2
  stop := fun i H M e p c => by
    obtain ⟨vs, s, r, _⟩ := lsM_seq p.rep (show lsM M a = some xs from c)
    exact ⟨vs, s, by rw [← r.length]; rw [show (enuT 0 xs).length = xs.length from enuT_len xs 0] at e; exact e⟩
theorem iok_zip (hz : xs.length ≤ sizeLine) (h : lsM M a = some xs) (h' : lsM M b = some ys) : IOk K H ⟨zipT xs ys, fun M' => chkS M (.ref a) xs M' ∧ chkS M (.ref b) ys M'⟩ (Itz K a b) where
  len := by rw [show (zipT xs ys).length = _ from zipT_len xs ys]; omega
  go := fun i x H M e p c => by
    obtain ⟨vs, s, r, _⟩ := lsM_seq p.rep (show lsM M a = some xs from c.1)
    obtain ⟨us, s', r', _⟩ := lsM_seq p.rep (show lsM M b = some ys from c.2)
    obtain ⟨x1, y1, e1, e2, _⟩ := zipT_get e
    obtain ⟨v, h1, _⟩ := r.getI e1
    obtain ⟨u, h2, _⟩ := r'.getI e2
    exact ⟨vs, us, v, u, s, s', h1, h2⟩
  yld := fun i x H M v H' e p c y => by
    obtain ⟨vs, s, r, _⟩ := lsM_seq p.rep (show lsM M a = some xs from c.1)
    obtain ⟨us, s', r', _⟩ := lsM_seq p.rep (show lsM M b = some ys from c.2)
    obtain ⟨x1, y1, e1, e2, e3⟩ := zipT_get e
    obtain ⟨T, v1, v2, rfl, hn, rfl, ya, yb⟩ := y
    obtain ⟨w1, h1, r1⟩ := r.getI e1
    obtain ⟨w2, h2, r2⟩ := r'.getI e2
    have t1 := ya vs s
    have t2 := yb us s'
    rw [h1] at t1
    rw [h2] at t2
    cases t1
    cases t2
    subst e3
    exact pair_new p.rep hn r1 r2
  stop := fun i H M e p c => by
    obtain ⟨vs, s, r, _⟩ := lsM_seq p.rep (show lsM M a = some xs from c.1)
    obtain ⟨us, s', r', _⟩ := lsM_seq p.rep (show lsM M b = some ys from c.2)
    rw [show (zipT xs ys).length = _ from zipT_len xs ys] at e
    exact ⟨vs, us, s, s', by rw [← r.length, ← r'.length]; omega⟩
theorem iok_zipT (hz : xs.length ≤ sizeLine) {p q : Addr} {vs us : List V} (hM : RepM K H M) (h : TqT K H p vs) (r : Rvs K H xs vs) (h' : TqT K H q us) (r' : Rvs K H ys us) : IOk K H ⟨zipT xs ys, fun M' => chkS M (.tup xs) xs M' ∧ chkS M (.tup ys) ys M'⟩ (RZ.ItzT K p q) where
  len := by rw [show (zipT xs ys).length = _ from zipT_len xs ys]; omega
  go := fun i x H M e p c => by
    obtain ⟨x1, y1, e1, e2, _⟩ := zipT_get e
    obtain ⟨v, h1, _⟩ := r.getI e1
    obtain ⟨u, h2, _⟩ := r'.getI e2
    exact ⟨vs, us, v, u, (p.grow _ _ h).sq, (p.grow _ _ h').sq, h1, h2⟩
  yld := fun i x H M v H' e p c y => by
    obtain ⟨x1, y1, e1, e2, e3⟩ := zipT_get e
    obtain ⟨T, v1, v2, rfl, hn, rfl, ya, yb⟩ := y
    obtain ⟨w1, h1, r1⟩ := r.getI e1
    obtain ⟨w2, h2, r2⟩ := r'.getI e2
    have t1 := ya vs (p.grow _ _ h).sq
    have t2 := yb us (p.grow _ _ h').sq
    rw [h1] at t1
    rw [h2] at t2
    cases t1
    cases t2
    subst e3
    exact pair_new p.rep hn (r1.mono (p.grow)) (r2.mono (p.grow))
  stop := fun i H M e p c => by
    rw [show (zipT xs ys).length = _ from zipT_len xs ys] at e
    exact ⟨vs, us, (p.grow _ _ h).sq, (p.grow _ _ h').sq, by rw [← r.length, ← r'.length]; omega⟩
end
section
variable {X : Cx} {tg : Expr}
/-- a list or a tuple, as it comes -/
theorem pi_any {l : Expr} {tl : TE} (hl : PE X l tl) : PI X tg l (fun σ H R => tl σ H fun x H1 => ∃ a, x = .ref a ∧ (((∃ xs, SqL X.K H1 a xs) ∧ R (Itl X.K a) H1) ∨ ((∃ xs, SqT X.K H1 a xs) ∧ R (Itt X.K a) H1))) := by
  refine ⟨fun pins s σ H R I h => thn (hl.run pins s σ H _ I h) fun v s1 ⟨x, H1, I1, r1, a, e, q⟩ => ?_⟩
  subst e
  cases r1
  have new : ∀ b ∈ [s1.heap.objs.size], FpOk X pins H1 b := fun b hb => by
    have e := List.mem_singleton.mp hb
    subst e
    exact I1.fpOk (Nat.le_refl _) (I1.hok.fresh (Nat.le_refl _))
  have old : ∀ (o : Obj), Inv X pins σ H1 { s1 with heap := s1.heap.push o } := fun ob => I1.kept (t' := s1.toks) fun b o e => Heap.get?_push_of_some _ e
  rcases q with ⟨⟨xs, hq⟩, q⟩ | ⟨⟨xs, hq⟩, q⟩
  · obtain ⟨its, rv, p, hz⟩ := I1.list hq
    exact wpAny_pyIter_list p.isList ⟨_, [s1.heap.objs.size], _, _, H1, rfl, old _, turn_list a s1.heap.objs.size, ⟨_, Heap.get?_push_size _ rfl, rfl, rfl⟩, new, q⟩
  · obtain ⟨its, rv, p, hz⟩ := I1.tuple hq
    exact wpAny_pyIter_tuple (show s1.heap.IsTuple a its.toArray from p) ⟨_, [s1.heap.objs.size], _, _, H1, rfl, old _, turn_tuple a s1.heap.objs.size, ⟨_, Heap.get?_push_size _ rfl, rfl, rfl⟩, new, q⟩
theorem ij_seq {e : Expr} {w : WE} (h : EJ X e w) : IJ X tg e (fun σ M Q R => w σ M (fun x M1 => ∃ xs, seqM M1 x = some xs ∧ Q ⟨xs, chkS M1 x xs⟩ M1) R) := fun W tk =>
  (pi_any (h W tk)).by fun σ' H Q' ⟨σ, M, Q, R, hs, hM, q, c, l⟩ =>
  ⟨σ, M, _, R, hs, hM, q, fun x v H1 M1 p1 r1 ⟨xs, e, q1⟩ => by
    obtain ⟨p, vs, ev, rvs, hz, kind⟩ := seqM_ok p1.rep r1 e
    subst ev
    rcases kind with ⟨rfl, s⟩ | ⟨rfl, s⟩
    · exact ⟨p, rfl, .inl ⟨⟨vs, s⟩, c _ _ _ _ p1 (iok_list hz e) q1⟩⟩
    · exact ⟨p, rfl, .inr ⟨⟨vs, s.sq⟩, c _ _ _ _ p1 (iok_tup p1.rep s rvs hz) q1⟩⟩, l⟩
theorem aj_one {e : Expr} {w : WE} (h : EJ X e w) (hs : noStar e = true) : AJ X [e] (fun σ M Q R => w σ M (fun x M1 => Q [x] M1) R) := aj_cons h aj_nil hs
theorem aj_two {e e2 : Expr} {w w2 : WE} (h : EJ X e w) (h2 : EJ X e2 w2) (hs : noStar e = true) (hs2 : noStar e2 = true) : AJ X [e, e2] (fun σ M Q R => w σ M (fun x M1 => w2 σ M1 (fun y M2 => Q [x, y] M2) R) R) := aj_cons h (aj_one h2 hs2) hs
theorem ij_rng1 {e : Expr} {w : WE} {p pos : Pos} (hg : Gl X "range") (hm : X.mg "range" = none) (h : EJ X e w) (hs : noStar e = true) :
    IJ X tg (.Call (.Name "range" p) [e] [] pos) (fun σ M Q R => w σ M (fun x M1 => ∃ j : Int, x = .int j ∧ -(2 ^ 62) ≤ j ∧ j ≤ 16777216 ∧ Q ⟨rngT 0 j.toNat, fun _ => True⟩ M1) R) := fun W tk =>
  (pi_range1 hg hm (aj_one h hs W tk) (by rw [starEach_cons hs]; rfl)).by fun σ' H Q' ⟨σ, M, Q, R, hs, hM, q, c, l⟩ =>
  ⟨σ, M, (fun xs M1 => match xs with
    | [x] => ∃ j : Int, x = .int j ∧ -(2 ^ 62) ≤ j ∧ j ≤ 16777216 ∧ Q ⟨rngT 0 j.toNat, fun _ => True⟩ M1
    | _ => False), R, hs, hM, q, fun xs vs H1 M1 hl p1 r1 q0 => by
    match xs, q0 with
    | [x], ⟨j, e2, j1, j2, q1⟩ =>
      subst e2
      obtain ⟨v, rfl, r⟩ := r1.one
      cases r
      exact ⟨j, rfl, j1, by omega, c _ _ _ _ p1 (iok_rng (by omega)) q1⟩, l⟩
theorem ij_rng2 {a b : Expr} {wa wb : WE} {p pos : Pos} (hg : Gl X "range") (hm : X.mg "range" = none) (h : EJ X a wa) (h2 : EJ X b wb) (hs : noStar a = true) (hs2 : noStar b = true) :
    IJ X tg (.Call (.Name "range" p) [a, b] [] pos) (fun σ M Q R => wa σ M (fun x M1 => wb σ M1 (fun y M2 => ∃ i j : Int, x = .int i ∧ y = .int j ∧ -(2 ^ 61) ≤ i ∧ i < 2 ^ 61 ∧ -(2 ^ 61) ≤ j ∧ j < 2 ^ 61 ∧ j - i ≤ 16777216 ∧ Q ⟨rngT i (j - i).toNat, fun _ => True⟩ M2) R) R) := fun W tk =>
  (pi_range2 hg hm (aj_two h h2 hs hs2 W tk) (by rw [starEach_cons hs, starEach_cons hs2]; rfl) (by rw [starEach_cons hs2]; rfl)).by fun σ' H Q' ⟨σ, M, Q, R, hs, hM, q, c, l⟩ =>
  ⟨σ, M, (fun xs M2 => match xs with
    | [x, y] => ∃ i j : Int, x = .int i ∧ y = .int j ∧ -(2 ^ 61) ≤ i ∧ i < 2 ^ 61 ∧ -(2 ^ 61) ≤ j ∧ j < 2 ^ 61 ∧ j - i ≤ 16777216 ∧ Q ⟨rngT i (j - i).toNat, fun _ => True⟩ M2
    | _ => False), R, hs, hM, q, fun xs vs H1 M1 hl p1 r1 q0 => by
    match xs, q0 with
    | [x, y], ⟨i, j, e1, e2, i1, i2, j1, j2, j3, q1⟩ =>
      subst e1 e2
      obtain ⟨v, u, rfl, r, r2⟩ := r1.two
      cases r
      cases r2
      exact ⟨i, j, rfl, ⟨by omega, by omega, by omega, by omega⟩, c _ _ _ _ p1 (iok_rng (by omega)) q1⟩, l⟩
theorem ij_enum {a : Expr} {wa : WE} {p pos tpos : Pos} {elts : List Expr} {kk : Nat} (hg : Gl X "enumerate") (hm : X.mg "enumerate" = none) (h : EJ X a wa) (hs : noStar a = true) :
    IJ X (.Tuple elts kk tpos) (.Call (.Name "enumerate" p) [a] [] pos) (fun σ M Q R => wa σ M (fun x M1 => ∃ xs, seqM M1 x = some xs ∧ isRefT x = true ∧ Q ⟨enuT 0 xs, chkS M1 x xs⟩ M1) R) := fun W tk =>
  (pi_enum hg hm (aj_one h hs W tk) (by rw [starEach_cons hs]; rfl)).by fun σ' H Q' ⟨σ, M, Q, R, hs, hM, q, c, l⟩ =>
  ⟨σ, M, (fun xs M1 => match xs with
    | [x] => ∃ xs, seqM M1 x = some xs ∧ isRefT x = true ∧ Q ⟨enuT 0 xs, chkS M1 x xs⟩ M1
    | _ => False), R, hs, hM, q, fun xs vs H1 M1 hl p1 r1 q0 => by
    match xs, q0 with
    | [x], ⟨ys, e, i, q1⟩ =>
      obtain ⟨v, rfl, r⟩ := r1.one
      cases r with
      | ref a =>
        obtain ⟨us, s, _, hz⟩ := lsM_seq p1.rep (show lsM M1 a = some ys from e)
        exact ⟨a, us, rfl, s, c _ _ _ _ p1 (iok_enum hz e) q1⟩
      | _ => exact (Bool.false_ne_true i).elim, l⟩
theorem ij_zip {a b : Expr} {wa wb : WE} {p pos tpos : Pos} {elts : List Expr} {kk : Nat} (hg : Gl X "zip") (hm : X.mg "zip" = none) (h : EJ X a wa) (h2 : EJ X b wb) (hs : noStar a = true) (hs2 : noStar b = true) :
    IJ X (.Tuple elts kk tpos) (.Call (.Name "zip" p) [a, b] [] pos) (fun σ M Q R => wa σ M (fun x M1 => wb σ M1 (fun y M2 => ∃ xs ys, seqM M2 x = some xs ∧ seqM M2 y = some ys ∧ alikeT x y = true ∧ Q ⟨zipT xs ys, fun M' => chkS M2 x xs M' ∧ chkS M2 y ys M'⟩ M2) R) R) := fun W tk =>
  (RZ.pi_zipA hg hm (aj_two h h2 hs hs2 W tk) (starEach_cons hs) (backTo_any (es := [b]) (by simp [hs2]))).by fun σ' H Q' ⟨σ, M, Q, R, hs, hM, q, c, l⟩ =>
  ⟨σ, M, (fun xs M2 => match xs with
    | [x, y] => ∃ xs ys, seqM M2 x = some xs ∧ seqM M2 y = some ys ∧ alikeT x y = true ∧ Q ⟨zipT xs ys, fun M' => chkS M2 x xs M' ∧ chkS M2 y ys M'⟩ M2
    | _ => False), R, hs, hM, q, fun xs vs H1 M1 hl p1 r1 q0 => by
    match xs, q0 with
    | [x, y], ⟨ys, zs, e1, e2, al, q1⟩ =>
      obtain ⟨v, u, rfl, r, r2⟩ := r1.two
      obtain ⟨pa, vs, rfl, rvs, hz, k1⟩ := seqM_ok p1.rep r e1
      obtain ⟨pb, us, rfl, rus, _, k2⟩ := seqM_ok p1.rep r2 e2
      rcases k1 with ⟨rfl, s⟩ | ⟨rfl, s⟩ <;> rcases k2 with ⟨rfl, s'⟩ | ⟨rfl, s'⟩
      · exact ⟨pa, pb, vs, us, rfl, .inl ⟨s, s', c _ _ _ _ p1 (iok_zip hz e1 e2) q1⟩⟩
      · cases al
      · cases al
      · exact ⟨pa, pb, vs, us, rfl, .inr ⟨s.sq, s'.sq, c _ _ _ _ p1 (iok_zipT hz p1.rep s rvs s' rus) q1⟩⟩, l⟩
end
end TL

/-! TComp: comprehensions. -/
namespace TL
open PySem PySem.Spec PyProof.Rows L2

abbrev F0 : WX := fun _ _ _ _ => False
theorem takes0 {X : Cx} : Takes X F0 := fun u s' ⟨a, B, sI, pins, σ, H, cls, d, e, I, nb, up, sky, na, os, ag, w⟩ => w.elim
theorem lx0 {K : PySem.W.Frag} {σ' : LSt} {H : Hp} {M : TM} : LX K F0 σ' H M (fun _ _ => False) := fun _ _ _ _ _ _ _ r => r
section
variable {K : PySem.W.Frag} {H H1 : Hp} {M M1 : TM} {D : Addr}
theorem Post.wr {vs : List V} {o : HO} (p : Post K H1 M1 H M) (hD : H1 D = none) (h : H D = some (.lst vs)) (n : M D = none) : Post K H1 M1 (upd H D o) M ∧ GrowT K H (upd H D o) := by
  refine ⟨⟨fun a u q e => ?_, Post.hid p.rep h n, p.nnw, fun a q => ?_⟩, fun b us hb => ?_⟩
  · have ne : a ≠ D := fun e => by subst e; rw [hD] at q; cases q
    rw [upd_ne ne]
    exact p.fix a u q e
  · exact kep_new a (p.kep a q)
  · rcases hb with hb | hb
    · refine .inl ?_
      have ne : b ≠ D := by
        intro e; subst e
        rw [h] at hb; cases hb
      rw [upd_ne ne]; exact hb
    · exact .inr hb
theorem Post.tell {vs : List V} {xs : List TV} (p : Post K H1 M1 H M) (hD : H1 D = none) (h : H D = some (.lst vs)) (n : M D = none) (r : Rvs K H xs vs) (hz : xs.length ≤ sizeLine) : Post K H1 M1 H (updM M D (.lst xs)) := by
  refine ⟨p.fix, fun a o q => ?_, fun a q e => ?_, p.kep⟩
  · by_cases e : a = D
    · subst e
      rw [updM_same] at q; cases q
      exact ⟨vs, h, r, hz⟩
    · rw [updM_ne e] at q
      exact p.rep a o q
  · have ne : a ≠ D := fun e => by subst e; exact q hD
    rw [updM_ne ne]
    exact p.nnw a q e
/-- a new untold list -/
theorem Post.open (p : RepM K H1 M1) (hD : H1 D = none) : Post K H1 M1 (upd H1 D (.lst [])) M1 := Post.new p hD
end
/-- a comprehension's tree condition -/
def wLc (wi : TSt → TM → (Itm → TM → Prop) → TR → Prop) (T : Tg) (vs : List Nat) (wt : WT) (we : WE) : WE := fun σ M Q R => wi σ M (fun J M1 =>
  lcL J.chk (fun acc x M2 k => wTg T x (wipeT σ vs) M2 (fun σ2 M3 => wt σ2 M3 (fun b M4 => if b = true then we σ2 M4 (fun y M5 => k (acc ++ [y]) M5) (fun _ _ => False) else k acc M4) (fun _ _ => False)))
    (fun acc M2 => ∀ p, M2 p = none → Q (.ref p) (updM M2 p (.lst acc))) J.items [] M1) R
section
variable {K : PySem.W.Frag}
theorem drop_cons {α : Type} {l : List α} {i : Nat} (h : i < l.length) : ∃ x, l[i]? = some x ∧ l.drop i = x :: l.drop (i + 1) := ⟨l[i], by simp [h], List.drop_eq_getElem_cons h⟩
theorem wipe_wipe (σ' : LSt) (vs : List Nat) : wipe (wipe σ' vs) vs = wipe σ' vs := by
  have idem : ∀ us : List Nat, (∀ u ∈ us, u ∈ vs) → wipe (wipe σ' vs) us = wipe σ' vs := by
    intro us
    induction us with
    | nil => intro _; rfl
    | cons u us ih =>
      intro hu
      show (wipe (wipe σ' vs) us).set u none = wipe σ' vs
      rw [ih fun w hw => hu w (List.mem_cons_of_mem _ hw)]
      have : ∀ {us : List Nat} {τ : LSt}, u ∈ us → (wipe τ us).set u none = wipe τ us := by
        intro us
        induction us with
        | nil => intro _ h; cases h
        | cons w ws ih2 =>
          intro τ h
          show ((wipe τ ws).set w none).set u none = (wipe τ ws).set w none
          by_cases e : u = w
          · subst e; rw [List.set_set]
          · rw [List.set_comm _ _ (Ne.symm e), ih2 (by rcases List.mem_cons.mp h with q | q; exact absurd q e; exact q)]
      exact this (hu u List.mem_cons_self)
  exact idem vs fun _ h => h
theorem lc_red {W : WX} {wi : TSt → TM → (Itm → TM → Prop) → TR → Prop} {T : Tg} {vs : List Nat} {wt : WT} {we : WE} {σ' : LSt} {H : Hp} {Q' : VK} (hv : ∀ j ∈ T.slots, j ∈ vs) (h : LE K W (wLc wi T vs wt we) σ' H Q') :
    tLc (LI K W wi) (LG K T) (LT K F0 wt) (LE K F0 we) vs σ' H Q' := by
  obtain ⟨σ, M, Q, R, hs, hM, q, c, l⟩ := h
  refine ⟨σ, M, _, R, hs, hM, q, fun J I H1 M1 p1 io q1 => ?_, l⟩
  intro D hD
  have inv0 : Post K H1 M1 (upd H1 D (.lst [])) M1 := Post.open p1.rep hD
  have hD1 : M1 D = none := p1.rep.fresh hD
  have hsW : Rs K H1 (wipeT σ vs) (wipe σ' vs) := (hs.mono (p1.grow hM)).wipe vs
  refine ⟨fun i m H2 => m = J.items.length - i ∧ i ≤ J.items.length ∧ ∃ M2 acc us, H2 D = some (.lst us) ∧ M2 D = none ∧ Rvs K H2 acc us ∧ acc.length ≤ i ∧ Post K H1 M1 H2 M2 ∧
    lcL J.chk (fun acc x M2 k => wTg T x (wipeT σ vs) M2 (fun σ2 M3 => wt σ2 M3 (fun b M4 => if b = true then we σ2 M4 (fun y M5 => k (acc ++ [y]) M5) (fun _ _ => False) else k acc M4) (fun _ _ => False)))
    (fun acc M2 => ∀ p, M2 p = none → Q (.ref p) (updM M2 p (.lst acc))) (J.items.drop i) acc M2, ⟨_, rfl, Nat.zero_le _, M1, [], [], upd_same, hD1, .nil, Nat.le_refl _, inv0, q1⟩, ?_⟩
  rintro i m H2 ⟨rfl, hi, M2, acc, us, hus, hn, ra, hl, p2, q2⟩
  by_cases hlt : i < J.items.length
  · obtain ⟨x, e1, e2⟩ := drop_cons hlt
    rw [e2] at q2
    obtain ⟨ck, q2⟩ := q2
    refine .inr ⟨io.go i x H2 M2 e1 (p2.aft p1.rep) ck, fun H4 => ∃ M4 acc us, H4 D = some (.lst us) ∧ M4 D = none ∧ Rvs K H4 acc us ∧ acc.length ≤ i + 1 ∧ Post K H1 M1 H4 M4 ∧ lcL J.chk _ _ (J.items.drop (i + 1)) acc M4, fun H4 ⟨M4, acc, us, a1, a2, a3, a4, a5, a6⟩ => ⟨_, by omega, rfl, hlt, M4, acc, us, a1, a2, a3, a4, a5, a6⟩, fun v H3 y => ?_⟩
    obtain ⟨p3, rx⟩ := io.yld i x H2 M2 v H3 e1 (p2.aft p1.rep) ck y
    have g23 := p3.grow p2.rep
    have hus3 : H3 D = some (.lst us) := p3.fix D _ hus hn
    refine ⟨x, wipeT σ vs, M2, _, rx, (hsW.mono (p2.grow p1.rep)).mono g23, p3.rep, q2, fun σ2 σ2' r2 hw q3 => ⟨?_, ?_⟩⟩
    · rw [hw vs hv]
      exact wipe_wipe σ' vs
    · refine ⟨σ2, M2, _, _, r2, p3.rep, q3, fun b H4 M4 p4 q4 => ?_, lx0⟩
      have p24 := p3.trans p4
      cases b with
      | false =>
        dsimp only at q4 ⊢
        rw [if_neg Bool.false_ne_true] at q4 ⊢
        exact ⟨M4, acc, us, p24.fix D _ hus hn, p24.nnw D (by rw [hus]; simp) hn, ra.mono (p24.grow p2.rep), by omega, p2.trans p24, q4⟩
      | true =>
        dsimp only at q4 ⊢
        rw [if_pos rfl] at q4 ⊢
        refine ⟨σ2, M4, _, _, r2.mono (p4.grow p3.rep), p4.rep, q4, fun y v5 H5 M5 p5 r5 q5 => ?_, lx0⟩
        have p25 := p24.trans p5
        have hus5 : H5 D = some (.lst us) := p25.fix D _ hus hn
        have hn5 : M5 D = none := p25.nnw D (by rw [hus]; simp) hn
        have ra5 := ra.mono (p25.grow p2.rep)
        have hle := io.len
        refine ⟨us, hus5, by rw [← ra5.length]; omega, ?_⟩
        obtain ⟨w1, w2⟩ := Post.wr (o := .lst (us ++ [v5])) (p2.trans p25) hD hus5 hn5
        refine ⟨M5, acc ++ [y], us ++ [v5], upd_same, hn5, (Rvs.append ra5 (.cons r5 .nil)).mono w2, by simp; omega, w1, q5⟩
  · have e : i = J.items.length := by omega
    subst e
    rw [List.drop_eq_nil_of_le (Nat.le_refl _)] at q2
    obtain ⟨ck, q2⟩ := q2
    have hle := io.len
    exact .inl ⟨io.stop _ H2 M2 (Nat.le_refl _) (p2.aft p1.rep) ck, c _ _ _ _ (p1.trans (Post.tell p2 hD hus hn ra (by omega))) (.ref D) (q2 D hn)⟩
/-- .. with two sources -/
def wLc2 (wi : TSt → TM → (Itm → TM → Prop) → TR → Prop) (T : Tg) (vs : List Nat) (wt : WT) (wi1 : TSt → TM → (Itm → TM → Prop) → TR → Prop) (T1 : Tg) (vs1 : List Nat) (wt1 : WT) (we : WE) : WE := fun σ M Q R => wi σ M (fun J M1 =>
  lcL J.chk (fun acc x M2 k => wTg T x (wipeT σ vs) M2 (fun σ2 M3 => wt σ2 M3 (fun b M4 => if b = true then wi1 σ2 M4 (fun J1 M5 =>
      lcL J1.chk (fun acc y M6 k1 => wTg T1 y (wipeT σ2 vs1) M6 (fun σ3 M7 => wt1 σ3 M7 (fun b1 M8 => if b1 = true then we σ3 M8 (fun z M9 => acc.length < sizeLine ∧ k1 (acc ++ [z]) M9) (fun _ _ => False) else k1 acc M8) (fun _ _ => False)))
        k J1.items acc M5) (fun _ _ => False) else k acc M4) (fun _ _ => False)))
    (fun acc M2 => ∀ p, M2 p = none → Q (.ref p) (updM M2 p (.lst acc))) J.items [] M1) R
theorem lc2_red {W : WX} {wi wi1 : TSt → TM → (Itm → TM → Prop) → TR → Prop} {T T1 : Tg} {vs vs1 : List Nat} {wt wt1 : WT} {we : WE} {σ' : LSt} {H : Hp} {Q' : VK} (hv : ∀ j ∈ T.slots, j ∈ vs) (hv1 : ∀ j ∈ T1.slots, j ∈ vs1) (h : LE K W (wLc2 wi T vs wt wi1 T1 vs1 wt1 we) σ' H Q') :
    tLc2 (LI K W wi) (LG K T) (LT K F0 wt) (LI K F0 wi1) (LG K T1) (LT K F0 wt1) (LE K F0 we) vs vs1 σ' H Q' := by
  obtain ⟨σ, M, Q, R, hs, hM, q, c, l⟩ := h
  refine ⟨σ, M, _, R, hs, hM, q, fun J I H1 M1 p1 io q1 => ?_, l⟩
  intro D hD
  have inv0 : Post K H1 M1 (upd H1 D (.lst [])) M1 := Post.open p1.rep hD
  have hD1 : M1 D = none := p1.rep.fresh hD
  have hsW : Rs K H1 (wipeT σ vs) (wipe σ' vs) := (hs.mono (p1.grow hM)).wipe vs
  generalize hfin : (fun (acc : List TV) (M2 : TM) => ∀ p, M2 p = none → Q (.ref p) (updM M2 p (.lst acc))) = fin at q1
  generalize hst : (fun (acc : List TV) (x : TV) (M2 : TM) (k : List TV → TM → Prop) => wTg T x (wipeT σ vs) M2 (fun σ2 M3 => wt σ2 M3 (fun b M4 => if b = true then wi1 σ2 M4 (fun J1 M5 =>
      lcL J1.chk (fun acc y M6 k1 => wTg T1 y (wipeT σ2 vs1) M6 (fun σ3 M7 => wt1 σ3 M7 (fun b1 M8 => if b1 = true then we σ3 M8 (fun z M9 => acc.length < sizeLine ∧ k1 (acc ++ [z]) M9) (fun _ _ => False) else k1 acc M8) (fun _ _ => False)))
        k J1.items acc M5) (fun _ _ => False) else k acc M4) (fun _ _ => False))) = step at q1
  -- what stands between the turns
  let St (H2 : Hp) (P : List TV → TM → Prop) : Prop := ∃ M2 acc us, H2 D = some (.lst us) ∧ M2 D = none ∧ Rvs K H2 acc us ∧ Post K H1 M1 H2 M2 ∧ P acc M2
  refine ⟨fun i m H2 => m = J.items.length - i ∧ i ≤ J.items.length ∧ ∃ M2 acc us, H2 D = some (.lst us) ∧ M2 D = none ∧ Rvs K H2 acc us ∧ acc.length ≤ sizeLine ∧ Post K H1 M1 H2 M2 ∧
    lcL J.chk step fin (J.items.drop i) acc M2, ⟨_, rfl, Nat.zero_le _, M1, [], [], upd_same, hD1, .nil, Nat.zero_le _, inv0, q1⟩, ?_⟩
  rintro i m H2 ⟨rfl, hi, M2, acc, us, hus, hn, ra, hz, p2, q2⟩
  by_cases hlt : i < J.items.length
  · obtain ⟨x, e1, e2⟩ := drop_cons hlt
    rw [e2] at q2
    obtain ⟨ck, q2⟩ := q2
    refine .inr ⟨io.go i x H2 M2 e1 (p2.aft p1.rep) ck, fun H4 => ∃ M4 acc us, H4 D = some (.lst us) ∧ M4 D = none ∧ Rvs K H4 acc us ∧ acc.length ≤ sizeLine ∧ Post K H1 M1 H4 M4 ∧ lcL J.chk step fin (J.items.drop (i + 1)) acc M4, fun H4 ⟨M4, acc, us, a1, a2, a3, a4, a5, a6⟩ => ⟨_, by omega, rfl, hlt, M4, acc, us, a1, a2, a3, a4, a5, a6⟩, fun v H3 y => ?_⟩
    generalize hk : (fun acc' M' => lcL J.chk step fin (List.drop (i + 1) J.items) acc' M') = kk at q2 ⊢
    have hk' : ∀ acc' M', kk acc' M' → lcL J.chk step fin (List.drop (i + 1) J.items) acc' M' := fun acc' M' z => by rw [← hk] at z; exact z
    subst hst
    obtain ⟨p3, rx⟩ := io.yld i x H2 M2 v H3 e1 (p2.aft p1.rep) ck y
    have g23 := p3.grow p2.rep
    refine ⟨x, wipeT σ vs, M2, _, rx, (hsW.mono (p2.grow p1.rep)).mono g23, p3.rep, q2, fun σ2 σ2' r2 hw q3 => ⟨?_, ?_⟩⟩
    · rw [hw vs hv]
      exact wipe_wipe σ' vs
    · refine ⟨σ2, M2, _, _, r2, p3.rep, q3, fun b H4 M4 p4 q4 => ?_, lx0⟩
      have p24 := p3.trans p4
      have hus4 := p24.fix D _ hus hn
      have hn4 := p24.nnw D (by rw [hus]; simp) hn
      have ra4 := ra.mono (p24.grow p2.rep)
      cases b with
      | false =>
        dsimp only at q4 ⊢
        rw [if_neg Bool.false_ne_true] at q4 ⊢
        exact ⟨M4, acc, us, hus4, hn4, ra4, hz, p2.trans p24, hk' _ _ q4⟩
      | true =>
        dsimp only at q4 ⊢
        rw [if_pos rfl] at q4 ⊢
        have r24 := r2.mono (p4.grow p3.rep)
        refine ⟨σ2, M4, _, _, r24, p4.rep, q4, fun J1 I1 H5 M5 p5 io1 q5 => ?_, lx0⟩
        have p25 := p24.trans p5
        have hus5 := p25.fix D _ hus hn
        have hn5 := p25.nnw D (by rw [hus]; simp) hn
        have ra5 := ra.mono (p25.grow p2.rep)
        have r25 := (r24.mono (p5.grow p4.rep)).wipe vs1
        have p15 := p2.trans p25
        generalize hst1 : (fun (acc : List TV) (y : TV) (M6 : TM) (k1 : List TV → TM → Prop) => wTg T1 y (wipeT σ2 vs1) M6 (fun σ3 M7 => wt1 σ3 M7 (fun b1 M8 => if b1 = true then we σ3 M8 (fun z M9 => acc.length < sizeLine ∧ k1 (acc ++ [z]) M9) (fun _ _ => False) else k1 acc M8) (fun _ _ => False))) = step1 at q5
        refine ⟨fun j m H6 => m = J1.items.length - j ∧ j ≤ J1.items.length ∧ ∃ M6 acc us, H6 D = some (.lst us) ∧ M6 D = none ∧ Rvs K H6 acc us ∧ acc.length ≤ sizeLine ∧ Post K H1 M1 H6 M6 ∧ GrowT K H5 H6 ∧
          lcL J1.chk step1 kk (J1.items.drop j) acc M6, ⟨_, rfl, Nat.zero_le _, M5, acc, us, hus5, hn5, ra5, hz, p15, fun _ _ h => h, q5⟩, ?_⟩
        rintro j m H6 ⟨rfl, hj, M6, acc, us, hus, hn, ra, hz, p6, g6, q6⟩
        have af : Aft K H5 H6 M6 := ⟨g6, p6.rep⟩
        by_cases hlt : j < J1.items.length
        · obtain ⟨x1, e1, e2⟩ := drop_cons hlt
          rw [e2] at q6
          obtain ⟨ck, q6⟩ := q6
          refine .inr ⟨io1.go j x1 H6 M6 e1 af ck, fun H4 => ∃ M4 acc us, H4 D = some (.lst us) ∧ M4 D = none ∧ Rvs K H4 acc us ∧ acc.length ≤ sizeLine ∧ Post K H1 M1 H4 M4 ∧ GrowT K H5 H4 ∧ lcL J1.chk step1 kk (J1.items.drop (j + 1)) acc M4, fun H4 ⟨M4, acc, us, a1, a2, a3, a4, a5, a6, a7⟩ => ⟨_, by omega, rfl, hlt, M4, acc, us, a1, a2, a3, a4, a5, a6, a7⟩, fun v1 H7 y => ?_⟩
          generalize hk2 : (fun acc' M' => lcL J1.chk step1 kk (List.drop (j + 1) J1.items) acc' M') = kk2 at q6 ⊢
          have hk3 : ∀ acc' M', kk2 acc' M' → lcL J1.chk step1 kk (List.drop (j + 1) J1.items) acc' M' := fun acc' M' z => by rw [← hk2] at z; exact z
          subst hst1
          obtain ⟨p7, rx⟩ := io1.yld j x1 H6 M6 v1 H7 e1 af ck y
          have g67 := p7.grow p6.rep
          refine ⟨x1, wipeT σ2 vs1, M6, _, rx, (r25.mono g6).mono g67, p7.rep, q6, fun σ3 σ3' r3 hw1 q7 => ⟨?_, ?_⟩⟩
          · rw [hw1 vs1 hv1]
            exact wipe_wipe σ2' vs1
          · refine ⟨σ3, M6, _, _, r3, p7.rep, q7, fun b H8 M8 p8 q8 => ?_, lx0⟩
            have p68 := p7.trans p8
            have hus8 := p68.fix D _ hus hn
            have hn8 := p68.nnw D (by rw [hus]; simp) hn
            have ra8 := ra.mono (p68.grow p6.rep)
            have g58 : GrowT K H5 H8 := fun _ _ h => p68.grow p6.rep _ _ (g6 _ _ h)
            cases b with
            | false =>
              dsimp only at q8 ⊢
              rw [if_neg Bool.false_ne_true] at q8 ⊢
              exact ⟨M8, acc, us, hus8, hn8, ra8, hz, p6.trans p68, g58, hk3 _ _ q8⟩
            | true =>
              dsimp only at q8 ⊢
              rw [if_pos rfl] at q8 ⊢
              refine ⟨σ3, M8, _, _, r3.mono (p8.grow p7.rep), p8.rep, q8, fun z v9 H9 M9 p9 r9 ⟨hlen, q9⟩ => ?_, lx0⟩
              have p69 := p68.trans p9
              have hus9 := p69.fix D _ hus hn
              have hn9 := p69.nnw D (by rw [hus]; simp) hn
              have ra9 := ra.mono (p69.grow p6.rep)
              refine ⟨us, hus9, by rw [← ra9.length]; exact hlen, ?_⟩
              obtain ⟨w1, w2⟩ := Post.wr (o := .lst (us ++ [v9])) (p6.trans p69) hD hus9 hn9
              exact ⟨M9, acc ++ [z], us ++ [v9], upd_same, hn9, (Rvs.append ra9 (.cons r9 .nil)).mono w2, by simp; omega, w1, fun _ _ h => w2 _ _ (p69.grow p6.rep _ _ (g6 _ _ h)), hk3 _ _ q9⟩
        · have e : j = J1.items.length := by omega
          subst e
          rw [List.drop_eq_nil_of_le (Nat.le_refl _)] at q6
          obtain ⟨ck, q6⟩ := q6
          exact .inl ⟨io1.stop _ H6 M6 (Nat.le_refl _) af ck, M6, acc, us, hus, hn, ra, hz, p6, hk' _ _ q6⟩
  · have e : i = J.items.length := by omega
    subst e
    rw [List.drop_eq_nil_of_le (Nat.le_refl _)] at q2
    obtain ⟨ck, q2⟩ := q2
    subst hfin
    exact .inl ⟨io.stop _ H2 M2 (Nat.le_refl _) (p2.aft p1.rep) ck, c _ _ _ _ (p1.trans (Post.tell p2 hD hus hn ra hz)) (.ref D) (q2 D hn)⟩
end
end TL

/-! TSnd: what the check tells. -/
namespace TL
open PySem PySem.Spec PyProof.Rows L2

section
variable (G : Gx) (k : Nat)
mutual
def okE : Ex → Prop
  | .loc _ => True
  | .cst _ => True
  | .glb x v => GlV G x v
  | .bin _ a b => okE a ∧ okE b
  | .cmp _ a b => okE a ∧ okE b
  | .chn _ _ a b c => okE a ∧ okE b ∧ okE c
  | .neg a => okE a
  | .nt a => okE a
  | .and a b => okE a ∧ okE b
  | .or a b => okE a ∧ okE b
  | .ite c a b => okB c ∧ okE a ∧ okE b
  | .tup es => okEs es
  | .lst es => okEs es
  | .ix a b => okE a ∧ okE b
  | .sl a lo hi => okE a ∧ okO lo ∧ okO hi
  | .bi f es => G.mg f.name = none ∧ okEs es
  | .call x f sp es => (G.mg x = some (.ref f) ∧ HeldT G k f sp) ∧ okEs es
  | .cav _ es => okEs es
  | .mth _ o es => okE o ∧ okEs es
  | .lc _ it c el _ => okI it ∧ okBo c ∧ okE el
  | .lc2 _ it c _ it1 c1 el _ _ => okI it ∧ okBo c ∧ okI it1 ∧ okBo c1 ∧ okE el
def okEs : Exs → Prop
  | .nil => True
  | .cons e r => okE e ∧ okEs r
def okO : Exo → Prop
  | .no => True
  | .so e => okE e
def okB : Bx → Prop
  | .val e => okE e
  | .and a b => okB a ∧ okB b
  | .or a b => okB a ∧ okB b
  | .nt a => okB a
def okBo : Bo → Prop
  | .no => True
  | .so b => okB b
def okI : It → Prop
  | .seq e => okE e
  | .rng1 a => G.mg "range" = none ∧ okE a
  | .rng2 a b => G.mg "range" = none ∧ okE a ∧ okE b
  | .zip a b => G.mg "zip" = none ∧ okE a ∧ okE b
  | .enum a => G.mg "enumerate" = none ∧ okE a
end
end
theorem cst_ok {X : Cx} {v : TV} {c : Const} {j : Nat} {p : Pos} (h : cstB v c = true) : EJ X (.Constant c j p) (fun _ M Q _ => Q v M) := by
  cases v <;> cases c <;> simp only [cstB, decide_eq_true_eq, beq_iff_eq, Bool.false_eq_true] at h
  · exact ej_const pe_non fun _ => .non
  · subst h; exact ej_const pe_bl fun _ => .bl _
  · subst h; exact ej_const pe_int fun _ => .int _
  · subst h; exact ej_const pe_str fun _ => .str _
theorem glv_ok {G : Gx} {k : Nat} {N : List Str} {sc : Scope} {blk : Bool} {X : Cx} (S : Sta G N k sc blk X) {x : Str} {v : TV} {p : Pos} (h : GlV G x v) (hg : glB sc x = true) (hx : okN x = true) (hn : x ≠ "__name__") : EJ X (.Name x p) (fun _ M Q _ => Q v M) := by
  rcases h with ⟨u, h1, v', r, rv⟩ | ⟨u, h1, h2, v', r, rv⟩
  · exact ej_const (pe_glob (S.gl hg) (by rw [S.hm]; exact h1) r (okN_d hx)) fun H => by rw [S.hK]; exact rv H
  · exact ej_const (pe_bltn (S.gl hg) (by rw [S.hm]; exact h1) h2 r hn (okN_d hx)) fun H => by rw [S.hK]; exact rv H

section
variable {G : Gx} {N : List Str} {k : Nat} {F : Addr → TSp → Prop}
def TestOk (X : Cx) (x : Expr) (w : WE) : Prop := EJ X x w ∧ ((vCmp x).isSome = true → TJ X x (fun σ M Q R => w σ M (fun z M1 => wTru z M1 Q) R))
theorem TestOk.of {X : Cx} {x : Expr} {w : WE} (h : EJ X x w) (n : (vCmp x).isSome = false) : TestOk X x w := ⟨h, fun c => by rw [n] at c; cases c⟩
theorem tj_chn' {X : Cx} {o p : COp} {a b d : Expr} {wa wb wd : WE} {pos : Pos} (hu : X.A.units + 64 < cLine) (ha : EJ X a wa) (hb : EJ X b wb) (hd : EJ X d wd) (hn : noSet d = true) :
    TJ X (.Compare a [o.op, p.op] [b, d] pos) (fun σ M Q R => wa σ M (fun x M1 => wb σ M1 (fun y M2 => ∃ k, cmpF o M2 x y = some k ∧
      (if k = true then wd σ M2 (fun z M3 => wCop p y z M3 (fun z M4 => wTru z M4 Q)) R else wTru (.bl false) M2 Q)) R) R) := tj_chn hu ha hb hd hn
theorem tests_no {X : Cx} : PTs X [] (LT X.K F0 (fun _ M Q _ => Q true M)) := ⟨fun pins s σ' H Q' I ⟨σ, M, Q, R, hs, hM, q, c, l⟩ => pts_nil.run pins s σ' H Q' I (c true H M (.refl hM) q)⟩
/-- a comprehension's clause's tests -/
def BoJ (X : Cx) (fs : List Expr) (w : WT) : Prop := PTs X fs (LT X.K F0 w)
/-- the contexts of a block -/
def InBlk (X : Cx) (bs : Scope) (P : Cx → Prop) : Prop := ∀ (s : Shared) (H : Hp) (C : Addr) (cl : List (Str × Addr)) (fp : List Addr), P (X.blk s H bs (compEnvC bs cl C X.env) fp)
theorem ej_lc {X : Cx} {tg it elt : Expr} {fs : List Expr} {bs : Scope} {own : List (Str × Nat)} {pos : Pos} {T : Tg} {wi} {wt : WT} {we : WE} (hc : X.calm = true) (nd : X.N.Nodup) (hi : IJ X tg it wi) (ok : BlkOk X.N X.env.scope bs own) (hv : ∀ j ∈ T.slots, j ∈ own.map (·.2))
    (hg : InBlk X bs fun Y => PG Y tg (LG X.K T)) (ht : InBlk X bs fun Y => PTs Y fs (LT X.K F0 wt)) (he : InBlk X bs fun Y => PE Y elt (LE X.K F0 we)) (hs : ∀ x, foldedSetIterable it X.env x = pure x) :
    EJ X (.ListComp elt [⟨tg, it, fs, 0⟩] bs pos) (wLc wi T (own.map (·.2)) wt we) := fun W tk => (pe_lc hc nd (hi W tk) ok hg ht he hs).by fun σ' H Q' h => lc_red hv h
theorem ej_lc2 {X : Cx} {tg it tg1 it1 elt : Expr} {fs fs1 : List Expr} {bs : Scope} {own : List (Str × Nat)} {vs1 : List Nat} {pos : Pos} {T T1 : Tg} {wi wi1} {wt wt1 : WT} {we : WE} (hc : X.calm = true) (nd : X.N.Nodup) (hi : IJ X tg it wi) (ok : BlkOk X.N X.env.scope bs own) (hv : ∀ j ∈ T.slots, j ∈ own.map (·.2)) (hv1 : ∀ j ∈ T1.slots, j ∈ vs1) (hvs : ∀ i ∈ vs1, i ∈ own.map (·.2))
    (hg : InBlk X bs fun Y => PG Y tg (LG X.K T)) (ht : InBlk X bs fun Y => PTs Y fs (LT X.K F0 wt)) (hi1 : InBlk X bs fun Y => PI Y tg1 it1 (LI X.K F0 wi1)) (hg1 : InBlk X bs fun Y => PG Y tg1 (LG X.K T1)) (ht1 : InBlk X bs fun Y => PTs Y fs1 (LT X.K F0 wt1)) (he : InBlk X bs fun Y => PE Y elt (LE X.K F0 we))
    (hs : ∀ x, foldedSetIterable it X.env x = pure x) (hs1 : ∀ env x, foldedSetIterable it1 env x = pure x) :
    EJ X (.ListComp elt [⟨tg, it, fs, 0⟩, ⟨tg1, it1, fs1, 0⟩] bs pos) (wLc2 wi T (own.map (·.2)) wt wi1 T1 vs1 wt1 we) := fun W tk => (pe_lc2 hc nd (hi W tk) ok hvs hg ht hi1 hg1 ht1 he hs hs1).by fun σ' H Q' h => lc2_red hv hv1 h
theorem hasA {vs : List Nat} {own : List (Str × Nat)} (h : (vs.all fun j => (own.map (·.2)).contains j) = true) : ∀ j ∈ vs, j ∈ own.map (·.2) := fun j hj => by
  have := List.all_eq_true.mp h j hj
  simpa using this
theorem hasB {vs us : List Nat} (h : (vs.all fun j => us.contains j) = true) : ∀ j ∈ vs, j ∈ us := fun j hj => by
  have := List.all_eq_true.mp h j hj
  simpa using this
variable (hF : ∀ f sp, F f sp → HeldT G k f sp)
include hF
mutual
theorem sndE : ∀ (e : Ex) {sc : Scope} {blk : Bool} {X : Cx} {x : Expr}, Sta G N k sc blk X → okE G k e → ckE N e sc x = true → TestOk X x (wE F e)
  | .loc i, sc, blk, X, x, S, ok, h => by
    unfold ckE at h
    cases q : vName x with
    | none => simp only [q] at h; cases h
    | some r =>
      obtain ⟨y, p⟩ := r
      obtain rfl : x = Expr.Name y p := vName_eq q
      simp only [vName, Bool.and_eq_true] at h
      exact .of (ej_var (S.slot h.1.1) (S.vis h.1.2) (okN_d h.2) (okN_c h.2)) rfl
  | .cst v, sc, blk, X, x, S, ok, h => by
    unfold ckE at h
    cases q : vCst x with
    | none => simp only [q] at h; cases h
    | some r =>
      obtain ⟨c, j, p⟩ := r
      obtain rfl : x = Expr.Constant c j p := vCst_eq q
      exact .of (cst_ok h) rfl
  | .glb y v, sc, blk, X, x, S, ok, h => by
    unfold ckE at h
    cases q : vName x with
    | none => simp only [q] at h; cases h
    | some r =>
      obtain ⟨z, p⟩ := r
      obtain rfl : x = Expr.Name z p := vName_eq q
      simp only [vName, Bool.and_eq_true, decide_eq_true_eq] at h
      obtain ⟨⟨⟨rfl, h2⟩, h3⟩, h4⟩ := h
      exact .of (glv_ok S ok h2 h3 h4) rfl
  | .bin o a b, sc, blk, X, x, S, ok, h => by
    unfold ckE at h
    cases q : vBin x with
    | none => simp only [q] at h; cases h
    | some r =>
      obtain ⟨y, op, z, p⟩ := r
      obtain rfl : x = Expr.BinOp y op z p := vBin_eq q
      simp only [vBin, Bool.and_eq_true, decide_eq_true_eq] at h
      obtain ⟨⟨rfl, h2⟩, h3⟩ := h
      exact .of (ej_bin2 (opj_bop o) (sndE a S ok.1 h2).1 (sndE b S ok.2 h3).1 fun hr ha hb => pe_op hr ha hb) rfl
  | .cmp o a b, sc, blk, X, x, S, ok, h => by
    unfold ckE at h
    cases q : vCmp x with
    | none => simp only [q] at h; cases h
    | some r =>
      obtain ⟨y, ops, zs, p⟩ := r
      obtain rfl : x = Expr.Compare y ops zs p := vCmp_eq q
      simp only [vCmp] at h
      match ops, zs, h with
      | [op], [z], h =>
        simp only [Bool.and_eq_true, decide_eq_true_eq] at h
        obtain ⟨⟨⟨rfl, h2⟩, h3⟩, h4⟩ := h
        have ha := (sndE a S ok.1 h3).1
        have hb := (sndE b S ok.2 h4).1
        exact ⟨ej_bin2 (opj_cop S.room.units o) ha hb fun hr ha hb => pe_cmpR hr ha hb (marks_no h2), fun _ => tj_cmp S.room.units ha hb h2⟩
      | [], _, h => cases h
      | [_], [], h => cases h
      | [_], _ :: _ :: _, h => cases h
      | _ :: _ :: _, _, h => cases h
  | .chn o o' a b c, sc, blk, X, x, S, ok, h => by
    unfold ckE at h
    cases q : vCmp x with
    | none => simp only [q] at h; cases h
    | some r =>
      obtain ⟨y, ops, zs, p⟩ := r
      obtain rfl : x = Expr.Compare y ops zs p := vCmp_eq q
      simp only [vCmp] at h
      match ops, zs, h with
      | [op, op'], [z, z'], h =>
        simp only [Bool.and_eq_true, decide_eq_true_eq] at h
        obtain ⟨⟨⟨⟨⟨rfl, rfl⟩, h2⟩, h3⟩, h4⟩, h5⟩ := h
        have ha := (sndE a S ok.1 h3).1
        have hb := (sndE b S ok.2.1 h4).1
        have hc := (sndE c S ok.2.2 h5).1
        exact ⟨ej_chn S.room.units ha hb hc h2, fun _ => tj_chn' S.room.units ha hb hc h2⟩
      | [], _, h => cases h
      | [_], _, h => cases h
      | [_, _], [], h => cases h
      | [_, _], [_], h => cases h
      | [_, _], _ :: _ :: _ :: _, h => cases h
      | _ :: _ :: _ :: _, _, h => cases h
  | .neg a, sc, blk, X, x, S, ok, h => by
    unfold ckE at h
    cases q : vUn x with
    | none => simp only [q] at h; cases h
    | some r =>
      obtain ⟨op, y, p⟩ := r
      obtain rfl : x = Expr.UnaryOp op y p := vUn_eq q
      simp only [vUn, Bool.and_eq_true, decide_eq_true_eq] at h
      obtain ⟨rfl, h2⟩ := h
      exact .of (ej_neg (sndE a S ok h2).1) rfl
  | .nt a, sc, blk, X, x, S, ok, h => by
    unfold ckE at h
    cases q : vUn x with
    | none => simp only [q] at h; cases h
    | some r =>
      obtain ⟨op, y, p⟩ := r
      obtain rfl : x = Expr.UnaryOp op y p := vUn_eq q
      simp only [vUn, Bool.and_eq_true, decide_eq_true_eq] at h
      obtain ⟨rfl, h2⟩ := h
      exact .of (ej_nt (sndE a S ok h2).1) rfl
  | .and a b, sc, blk, X, x, S, ok, h => by
    unfold ckE at h
    cases q : vBool x with
    | none => simp only [q] at h; cases h
    | some r =>
      obtain ⟨op, ys, p⟩ := r
      obtain rfl : x = Expr.BoolOp op ys p := vBool_eq q
      simp only [vBool] at h
      match ys, h with
      | [y, z], h =>
        simp only [Bool.and_eq_true, decide_eq_true_eq] at h
        obtain ⟨⟨rfl, h2⟩, h3⟩ := h
        exact .of (ej_and (sndE a S ok.1 h2).1 (ej_one (sndE b S ok.2 h3).1)) rfl
      | y :: z :: w :: r, h =>
        simp only [Bool.and_eq_true, decide_eq_true_eq] at h
        obtain ⟨⟨rfl, h2⟩, h3⟩ := h
        exact .of (ej_and (sndE a S ok.1 h2).1 (sndE b S ok.2 h3).1) rfl
      | [], h => cases h
      | [_], h => cases h
  | .or a b, sc, blk, X, x, S, ok, h => by
    unfold ckE at h
    cases q : vBool x with
    | none => simp only [q] at h; cases h
    | some r =>
      obtain ⟨op, ys, p⟩ := r
      obtain rfl : x = Expr.BoolOp op ys p := vBool_eq q
      simp only [vBool] at h
      match ys, h with
      | [y, z], h =>
        simp only [Bool.and_eq_true, decide_eq_true_eq] at h
        obtain ⟨⟨rfl, h2⟩, h3⟩ := h
        exact .of (ej_or (sndE a S ok.1 h2).1 (ej_one (sndE b S ok.2 h3).1)) rfl
      | y :: z :: w :: r, h =>
        simp only [Bool.and_eq_true, decide_eq_true_eq] at h
        obtain ⟨⟨rfl, h2⟩, h3⟩ := h
        exact .of (ej_or (sndE a S ok.1 h2).1 (sndE b S ok.2 h3).1) rfl
      | [], h => cases h
      | [_], h => cases h
  | .ite c a b, sc, blk, X, x, S, ok, h => by
    unfold ckE at h
    cases q : vIf x with
    | none => simp only [q] at h; cases h
    | some r =>
      obtain ⟨z, y, w, p⟩ := r
      obtain rfl : x = Expr.IfExp z y w p := vIf_eq q
      simp only [vIf, Bool.and_eq_true] at h
      exact .of (ej_ite (sndB c S ok.1 h.1.1) (sndE a S ok.2.1 h.1.2).1 (sndE b S ok.2.2 h.2).1) rfl
  | .tup es, sc, blk, X, x, S, ok, h => by
    unfold ckE at h
    cases q : vTup x with
    | none => simp only [q] at h; cases h
    | some r =>
      obtain ⟨xs, n, p⟩ := r
      obtain rfl : x = Expr.Tuple xs n p := vTup_eq q
      simp only [vTup, Bool.and_eq_true, decide_eq_true_eq] at h
      exact .of (ej_tup (sndEs es S ok h.2 h.1.2) h.1.1) rfl
  | .lst es, sc, blk, X, x, S, ok, h => by
    unfold ckE at h
    cases q : vLst x with
    | none => simp only [q] at h; cases h
    | some r =>
      obtain ⟨xs, p⟩ := r
      obtain rfl : x = Expr.List xs p := vLst_eq q
      simp only [vLst, Bool.and_eq_true, decide_eq_true_eq] at h
      exact .of (ej_lst (sndEs es S ok h.2 h.1.2) h.1.1) rfl
  | .ix a b, sc, blk, X, x, S, ok, h => by
    unfold ckE at h
    cases q : vSub x with
    | none => simp only [q] at h; cases h
    | some r =>
      obtain ⟨y, z, p⟩ := r
      obtain rfl : x = Expr.Subscript y z p := vSub_eq q
      simp only [vSub, Bool.and_eq_true] at h
      exact .of (ej_ix (sndE a S ok.1 h.1.2).1 (sndE b S ok.2 h.2).1 (plainIx h.1.1)) rfl
  | .sl a lo hi, sc, blk, X, x, S, ok, h => by
    unfold ckE at h
    cases q : vSub x with
    | none => simp only [q] at h; cases h
    | some r =>
      obtain ⟨y, z, p⟩ := r
      obtain rfl : x = Expr.Subscript y z p := vSub_eq q
      simp only [vSub] at h
      cases q2 : vSli z with
      | none => simp only [q2] at h; cases h
      | some r2 =>
        obtain ⟨l, hh, st, p2⟩ := r2
        obtain rfl : z = Expr.Slice l hh st p2 := vSli_eq q2
        simp only [vSli, Bool.and_eq_true, Option.isNone_iff_eq_none] at h
        obtain ⟨⟨⟨rfl, h2⟩, h3⟩, h4⟩ := h
        exact .of (ej_sl (sndE a S ok.1 h2).1 (sndO lo S ok.2.1 h3) (sndO hi S ok.2.2 h4)) rfl
  | .bi f es, sc, blk, X, x, S, ok, h => by
    unfold ckE at h
    cases q : vCall x with
    | none => simp only [q] at h; cases h
    | some r =>
      obtain ⟨g, ys, ks, p⟩ := r
      obtain rfl : x = Expr.Call g ys ks p := vCall_eq q
      simp only [vCall] at h
      match ys, ks, h with
      | y :: ys, [], h =>
        cases q2 : vName g with
        | none => simp only [q2] at h; cases h
        | some r2 =>
          obtain ⟨n, p2⟩ := r2
          obtain rfl : g = Expr.Name n p2 := vName_eq q2
          simp only [vName, Bool.and_eq_true, decide_eq_true_eq] at h
          obtain ⟨⟨⟨rfl, h2⟩, h3⟩, h4⟩ := h
          exact .of (ej_bif S.calm (S.gl h2) (by rw [S.hm]; exact ok.1) (sndEs es S ok.2 h4 h3) h3) rfl
      | [], _, h => cases h
      | _ :: _, _ :: _, h => cases h
  | .call n f sp es, sc, blk, X, x, S, ok, h => by
    unfold ckE at h
    cases q : vCall x with
    | none => simp only [q] at h; cases h
    | some r =>
      obtain ⟨g, ys, ks, p⟩ := r
      obtain rfl : x = Expr.Call g ys ks p := vCall_eq q
      simp only [vCall] at h
      match ys, ks, h with
      | y :: ys, [], h =>
        cases q2 : vName g with
        | none => simp only [q2] at h; cases h
        | some r2 =>
          obtain ⟨n', p2⟩ := r2
          obtain rfl : g = Expr.Name n' p2 := vName_eq q2
          simp only [vName, Bool.and_eq_true, decide_eq_true_eq] at h
          obtain ⟨⟨⟨⟨rfl, h2⟩, h0⟩, h3⟩, h4⟩ := h
          exact .of (ej_call S ok.1.2 (S.gl h2) (by rw [S.hm]; exact ok.1.1) h0 (sndEs es S ok.2 h4 h3) h3) rfl
      | [], _, h => cases h
      | _ :: _, _ :: _, h => cases h
  | .cav i es, sc, blk, X, x, S, ok, h => by
    unfold ckE at h
    cases q : vCall x with
    | none => simp only [q] at h; cases h
    | some r =>
      obtain ⟨g, ys, ks, p⟩ := r
      obtain rfl : x = Expr.Call g ys ks p := vCall_eq q
      simp only [vCall] at h
      match ys, ks, h with
      | y :: ys, [], h =>
        cases q2 : vName g with
        | none => simp only [q2] at h; cases h
        | some r2 =>
          obtain ⟨n', p2⟩ := r2
          obtain rfl : g = Expr.Name n' p2 := vName_eq q2
          simp only [vName, Bool.and_eq_true] at h
          obtain ⟨⟨⟨⟨h1, h2⟩, h0⟩, h3⟩, h4⟩ := h
          exact .of (ej_cav S hF (S.slot h1) (S.vis h2) h0 (sndEs es S ok h4 h3) h3) rfl
      | [], _, h => cases h
      | _ :: _, _ :: _, h => cases h
  | .mth m o es, sc, blk, X, x, S, ok, h => by
    unfold ckE at h
    cases q : vCall x with
    | none => simp only [q] at h; cases h
    | some r =>
      obtain ⟨g, ys, ks, p⟩ := r
      obtain rfl : x = Expr.Call g ys ks p := vCall_eq q
      simp only [vCall] at h
      match ks, h with
      | [], h =>
        cases q2 : vAtt g with
        | none => simp only [q2] at h; cases h
        | some r2 =>
          obtain ⟨y, n, ap⟩ := r2
          obtain rfl : g = Expr.Attribute y n ap := vAtt_eq q2
          simp only [vAtt, Bool.and_eq_true, decide_eq_true_eq] at h
          obtain ⟨⟨⟨⟨⟨⟨rfl, h2⟩, h3⟩, h4⟩, h5⟩, h6⟩, h7⟩ := h
          have ho := (sndE o S ok.1 h6).1
          match ys, es, ok, h4, h5, h7 with
          | [], .nil, ok, h4, h5, h7 => exact .of (ej_mth0 ho h2 h3) rfl
          | y :: ys, es, ok, h4, h5, h7 => exact .of (ej_mth ho (sndEs es S ok.2 h7 h5) h2 h5 h3 h4) rfl
      | _ :: _, h => cases h
  | .lc T it c el own, sc, blk, X, x, S, ok, h => by
    unfold ckE at h
    cases q : vLC x with
    | none => simp only [q] at h; cases h
    | some r =>
      obtain ⟨y, gens, bs, p⟩ := r
      obtain rfl : x = Expr.ListComp y gens bs p := vLC_eq q
      simp only [vLC] at h
      match gens, h with
      | [⟨t, i, fs, a⟩], h =>
        simp only [Bool.and_eq_true, decide_eq_true_eq] at h
        obtain ⟨⟨⟨⟨⟨⟨⟨rfl, h2⟩, h3⟩, h4⟩, h5⟩, h6⟩, h7⟩, h8⟩ := h
        have B : InBlk X bs fun Y => Sta G N k (relS bs sc) true Y := fun s H C cl fp => S.block s H bs C cl fp
        refine .of (ej_lc S.calm S.ndX (sndI it S ok.1 h6 rfl) (by rw [S.hN, S.hsc]; exact blkOk_by h3) (hasA h4) (fun s H C cl fp => pg_tg (B s H C cl fp) h5) (fun s H C cl fp => sndBo c (B s H C cl fp) ok.2.1 h7) (fun s H C cl fp => (sndE el (B s H C cl fp) ok.2.2 h8).1 _ takes0) (fun x => folded_no h2 x)) rfl
      | [], h => cases h
      | _ :: _ :: _, h => exact absurd h (by simp)
  | .lc2 T it c T1 it1 c1 el own vs1, sc, blk, X, x, S, ok, h => by
    unfold ckE at h
    cases q : vLC x with
    | none => simp only [q] at h; cases h
    | some r =>
      obtain ⟨y, gens, bs, p⟩ := r
      obtain rfl : x = Expr.ListComp y gens bs p := vLC_eq q
      simp only [vLC] at h
      match gens, h with
      | [⟨t, i, fs, a⟩, ⟨t1, i1, fs1, a1⟩], h =>
        simp only [Bool.and_eq_true, decide_eq_true_eq] at h
        obtain ⟨⟨⟨⟨⟨⟨⟨⟨⟨⟨⟨⟨⟨⟨rfl, rfl⟩, n1⟩, n2⟩, h3⟩, h4⟩, h5⟩, h6⟩, g1⟩, g2⟩, i1'⟩, i2'⟩, c1'⟩, c2'⟩, h8⟩ := h
        have B : InBlk X bs fun Y => Sta G N k (relS bs sc) true Y := fun s H C cl fp => S.block s H bs C cl fp
        refine .of (ej_lc2 S.calm S.ndX (sndI it S ok.1 i1' rfl) (by rw [S.hN, S.hsc]; exact blkOk_by h3) (hasA h4) (hasB h5) (hasA h6) (fun s H C cl fp => pg_tg (B s H C cl fp) g1) (fun s H C cl fp => sndBo c (B s H C cl fp) ok.2.1 c1') (fun s H C cl fp => sndI it1 (B s H C cl fp) ok.2.2.1 i2' rfl _ takes0) (fun s H C cl fp => pg_tg (B s H C cl fp) g2) (fun s H C cl fp => sndBo c1 (B s H C cl fp) ok.2.2.2.1 c2') (fun s H C cl fp => (sndE el (B s H C cl fp) ok.2.2.2.2 h8).1 _ takes0) (fun x => folded_no n1 x) (fun env x => folded_no n2 x)) rfl
      | [], h => cases h
      | [_], h => exact absurd h (by simp)
      | _ :: _ :: _ :: _, h => exact absurd h (by simp)
theorem sndEs : ∀ (es : Exs) {sc : Scope} {blk : Bool} {X : Cx} {xs : List Expr}, Sta G N k sc blk X → okEs G k es → ckEs N es sc xs = true → xs.all noStar = true → AJ X xs (wEs F es)
  | .nil, sc, blk, X, [], S, ok, h, hs => aj_nil
  | .cons e r, sc, blk, X, x :: xs, S, ok, h, hs => by
    simp only [ckEs, Bool.and_eq_true] at h
    simp only [List.all_cons, Bool.and_eq_true] at hs
    exact aj_cons (sndE e S ok.1 h.1).1 (sndEs r S ok.2 h.2 hs.2) hs.1
  | .nil, sc, blk, X, _ :: _, S, ok, h, hs => by cases h
  | .cons _ _, sc, blk, X, [], S, ok, h, hs => by cases h
theorem sndO : ∀ (o : Exo) {sc : Scope} {blk : Bool} {X : Cx} {x : Option Expr}, Sta G N k sc blk X → okO G k o → ckO N o sc x = true → OJ X x (wO F o)
  | .no, sc, blk, X, none, S, ok, h => oj_no
  | .so e, sc, blk, X, some x, S, ok, h => oj_so (sndE e S ok h).1
  | .no, sc, blk, X, some _, S, ok, h => by cases h
  | .so _, sc, blk, X, none, S, ok, h => by cases h
theorem sndB : ∀ (b : Bx) {sc : Scope} {blk : Bool} {X : Cx} {x : Expr}, Sta G N k sc blk X → okB G k b → ckB N b sc x = true → TJ X x (wB F b)
  | .val e, sc, blk, X, x, S, ok, h => by
    unfold ckB at h
    simp only [Bool.and_eq_true, Bool.or_eq_true] at h
    obtain ⟨h1, h2⟩ := h
    have t := sndE e S ok h1
    rcases h2 with h2 | h2
    · exact tj_val t.1 h2
    · exact t.2 h2
  | .and a b, sc, blk, X, x, S, ok, h => by
    unfold ckB at h
    cases q : vBool x with
    | none => simp only [q] at h; cases h
    | some r =>
      obtain ⟨op, ys, p⟩ := r
      obtain rfl : x = Expr.BoolOp op ys p := vBool_eq q
      simp only [vBool] at h
      match ys, h with
      | [y, z], h =>
        simp only [Bool.and_eq_true, decide_eq_true_eq] at h
        obtain ⟨⟨rfl, h2⟩, h3⟩ := h
        exact (uj_and (sndB a S ok.1 h2) (uj_and1 (sndB b S ok.2 h3))).tj
      | y :: z :: w :: r, h =>
        simp only [Bool.and_eq_true, decide_eq_true_eq] at h
        obtain ⟨⟨rfl, h2⟩, h3⟩ := h
        exact (uj_and (sndB a S ok.1 h2) (sndU b S ok.2 h3)).tj
      | [], h => cases h
      | [_], h => cases h
  | .or a b, sc, blk, X, x, S, ok, h => by
    unfold ckB at h
    cases q : vBool x with
    | none => simp only [q] at h; cases h
    | some r =>
      obtain ⟨op, ys, p⟩ := r
      obtain rfl : x = Expr.BoolOp op ys p := vBool_eq q
      simp only [vBool] at h
      match ys, h with
      | [y, z], h =>
        simp only [Bool.and_eq_true, decide_eq_true_eq] at h
        obtain ⟨⟨rfl, h2⟩, h3⟩ := h
        exact (uj_or (sndB a S ok.1 h2) (uj_or1 (sndB b S ok.2 h3))).tj
      | y :: z :: w :: r, h =>
        simp only [Bool.and_eq_true, decide_eq_true_eq] at h
        obtain ⟨⟨rfl, h2⟩, h3⟩ := h
        exact (uj_or (sndB a S ok.1 h2) (sndU b S ok.2 h3)).tj
      | [], h => cases h
      | [_], h => cases h
  | .nt a, sc, blk, X, x, S, ok, h => by
    unfold ckB at h
    cases q : vUn x with
    | none => simp only [q] at h; cases h
    | some r =>
      obtain ⟨op, y, p⟩ := r
      obtain rfl : x = Expr.UnaryOp op y p := vUn_eq q
      simp only [vUn, Bool.and_eq_true, decide_eq_true_eq] at h
      obtain ⟨rfl, h2⟩ := h
      exact tj_not (sndB a S ok h2)
theorem sndU : ∀ (b : Bx) {sc : Scope} {blk : Bool} {X : Cx} {op : BoolOp} {ys : List Expr} {p : Pos}, Sta G N k sc blk X → okB G k b → ckB N b sc (.BoolOp op ys p) = true → UJ X (.BoolOp op ys p) (wB F b)
  | .val e, sc, blk, X, op, ys, p, S, ok, h => by
    unfold ckB at h
    simp only [plainT, vCmp, Bool.and_eq_true, Bool.or_eq_true, Option.isSome, Bool.false_eq_true, or_self, and_false] at h
  | .and a b, sc, blk, X, op, ys, p, S, ok, h => by
    unfold ckB at h
    simp only [vBool] at h
    match ys, h with
    | [y, z], h =>
      simp only [Bool.and_eq_true, decide_eq_true_eq] at h
      obtain ⟨⟨rfl, h2⟩, h3⟩ := h
      exact uj_and (sndB a S ok.1 h2) (uj_and1 (sndB b S ok.2 h3))
    | y :: z :: w :: r, h =>
      simp only [Bool.and_eq_true, decide_eq_true_eq] at h
      obtain ⟨⟨rfl, h2⟩, h3⟩ := h
      exact uj_and (sndB a S ok.1 h2) (sndU b S ok.2 h3)
    | [], h => cases h
    | [_], h => cases h
  | .or a b, sc, blk, X, op, ys, p, S, ok, h => by
    unfold ckB at h
    simp only [vBool] at h
    match ys, h with
    | [y, z], h =>
      simp only [Bool.and_eq_true, decide_eq_true_eq] at h
      obtain ⟨⟨rfl, h2⟩, h3⟩ := h
      exact uj_or (sndB a S ok.1 h2) (uj_or1 (sndB b S ok.2 h3))
    | y :: z :: w :: r, h =>
      simp only [Bool.and_eq_true, decide_eq_true_eq] at h
      obtain ⟨⟨rfl, h2⟩, h3⟩ := h
      exact uj_or (sndB a S ok.1 h2) (sndU b S ok.2 h3)
    | [], h => cases h
    | [_], h => cases h
  | .nt a, sc, blk, X, op, ys, p, S, ok, h => by
    unfold ckB at h
    simp only [vUn] at h
    cases h
theorem sndBo : ∀ (b : Bo) {sc : Scope} {blk : Bool} {X : Cx} {fs : List Expr}, Sta G N k sc blk X → okBo G k b → ckBo N b sc fs = true → PTs X fs (LT X.K F0 (wBo F b))
  | .no, sc, blk, X, [], S, ok, h => tests_no
  | .so b, sc, blk, X, [x], S, ok, h => pts_one (sndB b S ok h F0 takes0)
  | .no, sc, blk, X, _ :: _, S, ok, h => by cases h
  | .so _, sc, blk, X, [], S, ok, h => by cases h
  | .so _, sc, blk, X, _ :: _ :: _, S, ok, h => by cases h
theorem sndI : ∀ (i : It) {sc : Scope} {blk : Bool} {X : Cx} {tg x : Expr} {b : Bool}, Sta G N k sc blk X → okI G k i → ckI N i sc b x = true → (vTup tg).isSome = b → IJ X tg x (wI F i)
  | .seq e, sc, blk, X, tg, x, b, S, ok, h, hb => ij_seq (sndE e S ok h).1
  | .rng1 a, sc, blk, X, tg, x, b, S, ok, h, hb => by
    unfold ckI at h
    cases q : vCall x with
    | none => simp only [q] at h; cases h
    | some r =>
      obtain ⟨g, ys, ks, p⟩ := r
      obtain rfl : x = Expr.Call g ys ks p := vCall_eq q
      simp only [vCall] at h
      match ys, ks, h with
      | [y], [], h =>
        cases q2 : vName g with
        | none => simp only [q2] at h; cases h
        | some r2 =>
          obtain ⟨n', p2⟩ := r2
          obtain rfl : g = Expr.Name n' p2 := vName_eq q2
          simp only [vName, Bool.and_eq_true, decide_eq_true_eq] at h
          obtain ⟨⟨⟨rfl, h2⟩, h3⟩, h4⟩ := h
          exact ij_rng1 (S.gl h2) (by rw [S.hm]; exact ok.1) (sndE a S ok.2 h4).1 h3
      | [], _, h => cases h
      | [_], _ :: _, h => cases h
      | _ :: _ :: _, _, h => cases h
  | .rng2 a c, sc, blk, X, tg, x, b, S, ok, h, hb => by
    unfold ckI at h
    cases q : vCall x with
    | none => simp only [q] at h; cases h
    | some r =>
      obtain ⟨g, ys, ks, p⟩ := r
      obtain rfl : x = Expr.Call g ys ks p := vCall_eq q
      simp only [vCall] at h
      match ys, ks, h with
      | [y, z], [], h =>
        cases q2 : vName g with
        | none => simp only [q2] at h; cases h
        | some r2 =>
          obtain ⟨n', p2⟩ := r2
          obtain rfl : g = Expr.Name n' p2 := vName_eq q2
          simp only [vName, Bool.and_eq_true, decide_eq_true_eq] at h
          obtain ⟨⟨⟨⟨⟨rfl, h2⟩, h3⟩, h3'⟩, h4⟩, h5⟩ := h
          exact ij_rng2 (S.gl h2) (by rw [S.hm]; exact ok.1) (sndE a S ok.2.1 h4).1 (sndE c S ok.2.2 h5).1 h3 h3'
      | [], _, h => cases h
      | [_], _, h => cases h
      | [_, _], _ :: _, h => cases h
      | _ :: _ :: _ :: _, _, h => cases h
  | .zip a c, sc, blk, X, tg, x, b, S, ok, h, hb => by
    unfold ckI at h
    cases q : vCall x with
    | none => simp only [q] at h; cases h
    | some r =>
      obtain ⟨g, ys, ks, p⟩ := r
      obtain rfl : x = Expr.Call g ys ks p := vCall_eq q
      simp only [vCall] at h
      match ys, ks, h with
      | [y, z], [], h =>
        cases q2 : vName g with
        | none => simp only [q2] at h; cases h
        | some r2 =>
          obtain ⟨n', p2⟩ := r2
          obtain rfl : g = Expr.Name n' p2 := vName_eq q2
          simp only [vName, Bool.and_eq_true, decide_eq_true_eq] at h
          obtain ⟨⟨⟨⟨⟨⟨h0, rfl⟩, h2⟩, h3⟩, h3'⟩, h4⟩, h5⟩ := h
          rw [h0] at hb
          cases q3 : vTup tg with
          | none => rw [q3] at hb; cases hb
          | some r3 =>
            obtain rfl : tg = Expr.Tuple r3.1 r3.2.1 r3.2.2 := vTup_eq q3
            exact ij_zip (S.gl h2) (by rw [S.hm]; exact ok.1) (sndE a S ok.2.1 h4).1 (sndE c S ok.2.2 h5).1 h3 h3'
      | [], _, h => cases h
      | [_], _, h => cases h
      | [_, _], _ :: _, h => cases h
      | _ :: _ :: _ :: _, _, h => cases h
  | .enum a, sc, blk, X, tg, x, b, S, ok, h, hb => by
    unfold ckI at h
    cases q : vCall x with
    | none => simp only [q] at h; cases h
    | some r =>
      obtain ⟨g, ys, ks, p⟩ := r
      obtain rfl : x = Expr.Call g ys ks p := vCall_eq q
      simp only [vCall] at h
      match ys, ks, h with
      | [y], [], h =>
        cases q2 : vName g with
        | none => simp only [q2] at h; cases h
        | some r2 =>
          obtain ⟨n', p2⟩ := r2
          obtain rfl : g = Expr.Name n' p2 := vName_eq q2
          simp only [vName, Bool.and_eq_true, decide_eq_true_eq] at h
          obtain ⟨⟨⟨⟨h0, rfl⟩, h2⟩, h3⟩, h4⟩ := h
          rw [h0] at hb
          cases q3 : vTup tg with
          | none => rw [q3] at hb; cases hb
          | some r3 =>
            obtain rfl : tg = Expr.Tuple r3.1 r3.2.1 r3.2.2 := vTup_eq q3
            exact ij_enum (S.gl h2) (by rw [S.hm]; exact ok.1) (sndE a S ok.2 h4).1 h3
      | [], _, h => cases h
      | [_], _ :: _, h => cases h
      | _ :: _ :: _, _, h => cases h
end
end
end TL

/-! TStm: statements. -/
namespace TL
open PySem PySem.Spec PyProof.Rows L2

section
variable {G : Gx} {N : List Str} {k : Nat} {sc : Scope} {X : Cx}
/-! ### names and other targets -/
theorem sj_set {i : Nat} {y : Str} {py pos : Pos} {e : Expr} {w : WE} (S : Sta G N k sc false X) (hN : X.N[i]? = some y) (hl : locB false sc y = true) (h : EJ X e w) (hs : swapsWith e (some (.Name y py)) pos.line X.env = pure false) :
    SJ X (.Assign [.Name y py] e pos) (fun D σ M => w σ M (fun x M1 => D.nx (σ.set i (some x)) M1) (fun x M1 => D.ex x σ M1)) := fun W tk =>
  (ps_set S.ndX hN (S.loc hl).1 (h W tk) hs (S.loc hl).2).by fun D' σ' H ⟨σ, M, D, hs, hM, q, b⟩ =>
  ⟨σ, M, _, _, hs, hM, q, fun x v H1 M1 p1 r1 q1 => b.nx _ _ _ _ p1 ((hs.mono (p1.grow hM)).set i (show Ropt X.K H1 (some x) (some v) from r1)) q1, b.lx hM hs⟩
theorem sj_asg {T : Tg} {tg e : Expr} {pos : Pos} {w : WE} (S : Sta G N k sc false X) (ht : ckTg false N sc T tg = true) (h : EJ X e w) (hs : swapsWithSole [tg] e pos.line X.env = pure false) (hw : swappedStores [tg] e X.env = pure none) (h1 : (assignEach [tg] X.env).map (·.2) = [assign tg X.env]) :
    SJ X (.Assign [tg] e pos) (fun D σ M => w σ M (fun x M1 => wTg T x σ M1 D.nx) (fun x M1 => D.ex x σ M1)) := fun W tk =>
  (ps_asg (h W tk) (pg_tg S ht) hs hw h1).by fun D' σ' H ⟨σ, M, D, hs, hM, q, b⟩ =>
  ⟨σ, M, _, _, hs, hM, q, fun x v H1 M1 p1 r1 q1 => ⟨x, σ, M1, D.nx, r1, hs.mono (p1.grow hM), p1.rep, q1, fun σ2 σ2' r2 _ q2 => b.nx _ _ _ _ p1 r2 q2⟩, b.lx hM hs⟩
theorem sj_par {i j : Nat} {x y : Str} {a b : Expr} {px py pt pos : Pos} {kt k2 pt2} {w : WA} (S : Sta G N k sc false X) (hi : X.N[i]? = some x) (hj : X.N[j]? = some y) (hij : i ≠ j) (hx : X.env.scope.names.lookup x = some .local) (hy : X.env.scope.names.lookup y = some .local) (ha : AJ X [a, b] w)
    (hw : swappedStores [.Tuple [.Name x px, .Name y py] kt pt] (.Tuple [a, b] k2 pt2) X.env = pure (some [x, y])) :
    SJ X (.Assign [.Tuple [.Name x px, .Name y py] kt pt] (.Tuple [a, b] k2 pt2) pos) (fun D σ M => w σ M (fun xs M1 => D.nx (setAll σ [i, j] xs) M1) (fun x M1 => D.ex x σ M1)) := fun W tk =>
  (ps_par S.calm S.ndX hi hj hij hx hy (ha W tk) hw).by fun D' σ' H ⟨σ, M, D, hs, hM, q, b⟩ =>
  ⟨σ, M, _, _, hs, hM, q, fun xs vs H1 M1 hl p1 r1 q1 => by
    match xs, hl, r1, q1 with
    | [z1, z2], _, r1, q1 =>
      obtain ⟨v, u, rfl, r, r2⟩ := r1.two
      exact ⟨v, u, rfl, b.nx _ _ _ _ p1 (((hs.mono (p1.grow hM)).set i (show Ropt X.K H1 (some z1) (some v) from r)).set j (show Ropt X.K H1 (some z2) (some u) from r2)) q1⟩, b.lx hM hs⟩
/-! ### o[i] = e -/
def LSet (K : PySem.W.Frag) : TSet := fun o i v H Q' => ∃ x n y M Q, RepM K H M ∧ Rv K H x o ∧ Rv K H n i ∧ Rv K H y v ∧ wSti x n y M Q ∧ ∀ H' M', Post K H M H' M' → Q M' → Q' H'
theorem set_t : PSet X (LSet X.K) := fun pins s σ H o i v ov iv u Q' I ro ri rv ⟨x, n, y, M, Q, hM, hx, hn, hy, h, c⟩ => by
  cases hx with
  | ref a => ?_
  | _ => exact h.elim
  cases hn with
  | int j => ?_
  | _ => exact h.elim
  obtain ⟨xs, jj, e, hj, q⟩ := h
  obtain ⟨vs, e1, r1, hz⟩ := hM a _ e
  have r2 : Rvs X.K H (xs.set jj y) (vs.set jj v) := Rvs.set jj hy r1
  exact set_list pins s σ H _ _ _ ov iv u Q' I ro ri rv ⟨a, vs, j, jj, rfl, rfl, e1, by rw [← r1.length]; exact hj, c _ _ (Post.set_lst hM e r2 (by rw [List.length_set]; exact hz)) q⟩
theorem sj_sti {o i e : Expr} {wo wi we : WE} {tpos pos : Pos} (ho : EJ X o wo) (hi : EJ X i wi) (he : EJ X e we) (hn : noSli i = true) (hs : swapsWithSole [.Subscript o i tpos] e pos.line X.env = pure false) (hw : swappedStores [.Subscript o i tpos] e X.env = pure none) :
    SJ X (.Assign [.Subscript o i tpos] e pos) (fun D σ M => we σ M (fun y M1 => wo σ M1 (fun x M2 => wi σ M2 (fun n M3 => wSti x n y M3 (fun M4 => D.nx σ M4)) (fun x M3 => D.ex x σ M3)) (fun x M2 => D.ex x σ M2)) (fun x M1 => D.ex x σ M1)) := fun W tk =>
  (ps_asg (he W tk) (pg_sub (ho W tk) (hi W tk) set_t (fun v => by cases i <;> first | rfl | cases hn)) hs hw rfl).by fun D' σ' H ⟨σ, M, D, hs, hM, q, b⟩ =>
  ⟨σ, M, _, _, hs, hM, q, fun y v H1 M1 p1 r1 q1 => ⟨σ, M1, _, _, hs.mono (p1.grow hM), p1.rep, q1, fun x u H2 M2 p2 r2 q2 => ⟨σ, M2, _, _, hs.mono ((p1.trans p2).grow hM), p2.rep, q2, fun n w H3 M3 p3 r3 q3 =>
    ⟨x, n, y, M3, _, p3.rep, r2.mono (p3.grow p2.rep), r3, r1.mono ((p2.trans p3).grow p1.rep), q3, fun H4 M4 p4 q4 => b.nx _ _ _ _ (((p1.trans p2).trans p3).trans p4) (hs.mono ((((p1.trans p2).trans p3).trans p4).grow hM)) q4⟩,
    (b.lx hM hs).on (p1.trans p2)⟩, (b.lx hM hs).on p1⟩, b.lx hM hs⟩
/-! ### op= -/
theorem ip_t : ∀ o : BOp, PIp X o.op (lift2 X.K (wAug o))
  | .add => fun pins s σ H v u vv uu Q' I rv ru ⟨x, y, M, Q, hM, hx, hy, h, c⟩ => by
    cases hx <;> cases hy <;> try exact h.elim
    · exact iop_add pins s σ H _ _ _ _ Q' I rv ru ⟨_, _, rfl, rfl, c.here hM (.int _) h⟩
    · exact iop_add_str pins s σ H _ _ _ _ Q' I rv ru ⟨_, _, rfl, rfl, h.1, c.here hM (.str _) h.2⟩
  | .sub => fun pins s σ H v u vv uu Q' I rv ru ⟨x, y, M, Q, hM, hx, hy, h, c⟩ => by
    cases hx <;> cases hy <;> try exact h.elim
    exact iop_sub pins s σ H _ _ _ _ Q' I rv ru ⟨_, _, rfl, rfl, c.here hM (.int _) h⟩
  | .mul => fun pins s σ H v u vv uu Q' I rv ru ⟨x, y, M, Q, hM, hx, hy, h, c⟩ => by
    cases hx <;> cases hy <;> try exact h.elim
    exact iop_mul pins s σ H _ _ _ _ Q' I rv ru ⟨_, _, rfl, rfl, h.1, c.here hM (.int _) h.2⟩
  | .fdiv => fun pins s σ H v u vv uu Q' I rv ru ⟨x, y, M, Q, hM, hx, hy, h, c⟩ => by
    cases hx <;> cases hy <;> try exact h.elim
    exact iop_fdiv pins s σ H _ _ _ _ Q' I rv ru ⟨_, _, rfl, rfl, h.1, c.here hM (.int _) h.2⟩
  | .mod => fun pins s σ H v u vv uu Q' I rv ru ⟨x, y, M, Q, hM, hx, hy, h, c⟩ => by
    cases hx <;> cases hy <;> try exact h.elim
    exact iop_mod pins s σ H _ _ _ _ Q' I rv ru ⟨_, _, rfl, rfl, h.1, c.here hM (.int _) h.2⟩
  | .pow => fun pins s σ H v u vv uu Q' I rv ru ⟨x, y, M, Q, hM, hx, hy, h, c⟩ => by
    cases hx <;> cases hy <;> exact h.elim
theorem sj_aug {i : Nat} {y : Str} {py pos : Pos} {o : BOp} {e : Expr} {w : WE} (S : Sta G N k sc false X) (hN : X.N[i]? = some y) (hl : locB false sc y = true) (h : EJ X e w) :
    SJ X (.AugAssign (.Name y py) o.op e pos) (fun D σ M => ∃ x, gs σ i = some x ∧ w σ M (fun y M1 => wAug o x y M1 (fun z M2 => D.nx (σ.set i (some z)) M2)) (fun x M1 => D.ex x σ M1)) := fun W tk =>
  (ps_aug S.ndX hN (S.loc hl).1 (h W tk) (ip_t o) (S.loc hl).2).by fun D' σ' H ⟨σ, M, D, hs, hM, ⟨x, e1, q⟩, b⟩ => by
    obtain ⟨v, h1, h2⟩ := hs.get (gs_eq e1)
    exact ⟨v, h1, σ, M, _, _, hs, hM, q, fun y u H1 M1 p1 r1 q1 => ⟨x, y, M1, _, p1.rep, h2.mono (p1.grow hM), r1, q1, fun z w H2 M2 p2 r2 q2 =>
      b.nx _ _ _ _ (p1.trans p2) ((hs.mono ((p1.trans p2).grow hM)).set i (show Ropt X.K H2 (some z) (some w) from r2)) q2⟩, b.lx hM hs⟩
def LGet (K : PySem.W.Frag) : V → V → Hp → VK → Prop := fun o i H Q' => ∃ x n M Q, RepM K H M ∧ Rv K H x o ∧ Rv K H n i ∧ wGet x n M Q ∧ ∀ z z', Rv K H z z' → Q z → Q' z' H
theorem get_t : PGet X (LGet X.K) := fun pins s σ H o i ov iv Q' I ro ri ⟨x, n, M, Q, hM, hx, hn, h, c⟩ => by
  cases hx with
  | ref a => ?_
  | _ => exact h.elim
  cases hn with
  | int j => ?_
  | _ => exact h.elim
  obtain ⟨xs, z, e, h0, hz, q⟩ := h
  obtain ⟨vs, s1, r1, hl⟩ := lsM_seq hM e
  obtain ⟨v, h1, h2⟩ := r1.getI hz
  cases ro
  obtain ⟨t, rfl⟩ := ri
  obtain ⟨its, rv, p, _⟩ := I.list s1
  obtain ⟨u, hu, ru⟩ := rv.get h1
  refine getItem_listL p.isList h0 ?_ hu ⟨v, H, I, ru, c z v h2 q⟩
  have : j.toNat < xs.length := by
    by_cases q : j.toNat < xs.length
    · exact q
    · rw [List.getElem?_eq_none (by omega)] at hz; cases hz
  rw [sizeLine_eq] at hl
  omega
theorem sj_augx {o i e : Expr} {wo wi we : WE} {p : BOp} {tpos pos : Pos} (ho : EJ X o wo) (hi : EJ X i wi) (he : EJ X e we) (hn : noSli i = true) :
    SJ X (.AugAssign (.Subscript o i tpos) p.op e pos) (fun D σ M => wo σ M (fun x M1 => wi σ M1 (fun n M2 => wGet x n M2 fun old => we σ M2 (fun y M3 => wAug p old y M3 (fun z M4 => wSti x n z M4 (fun M5 => D.nx σ M5)))
      (fun x M3 => D.ex x σ M3)) (fun x M2 => D.ex x σ M2)) (fun x M1 => D.ex x σ M1)) := fun W tk =>
  (ps_augS (ho W tk) (hi W tk) get_t (he W tk) (ip_t p) set_t (fun ov iv new => by cases i <;> first | rfl | cases hn)).by fun D' σ' H ⟨σ, M, D, hs, hM, q, b⟩ =>
  ⟨σ, M, _, _, hs, hM, q, fun x v H1 M1 p1 r1 q1 => ⟨σ, M1, _, _, hs.mono (p1.grow hM), p1.rep, q1, fun n u H2 M2 p2 r2 q2 => ⟨x, n, M2, _, p2.rep, r1.mono (p2.grow p1.rep), r2, q2, fun old old' r3 q3 =>
    ⟨σ, M2, _, _, hs.mono ((p1.trans p2).grow hM), p2.rep, q3, fun y w H4 M4 p4 r4 q4 => ⟨old, y, M4, _, p4.rep, r3.mono (p4.grow p2.rep), r4, q4, fun z zz H5 M5 p5 r5 q5 =>
      ⟨x, n, z, M5, _, p5.rep, r1.mono (((p2.trans p4).trans p5).grow p1.rep), r2.mono ((p4.trans p5).grow p2.rep), r5, q5, fun H6 M6 p6 q6 => by
        have p16 := (((p1.trans p2).trans p4).trans p5).trans p6
        exact b.nx _ _ _ _ p16 (hs.mono (p16.grow hM)) q6⟩⟩, (b.lx hM hs).on (p1.trans p2)⟩⟩, (b.lx hM hs).on p1⟩, b.lx hM hs⟩
/-! ### small statements -/
theorem sj_exp {e : Expr} {w : WE} {pos : Pos} (h : EJ X e w) (hs : noComp e = true) : SJ X (.Expr e pos) (fun D σ M => w σ M (fun _ M1 => D.nx σ M1) (fun x M1 => D.ex x σ M1)) := fun W tk =>
  (ps_expr (h W tk) (swaps_no hs)).by fun D' σ' H ⟨σ, M, D, hs, hM, q, b⟩ => ⟨σ, M, _, _, hs, hM, q, fun x v H1 M1 p1 r1 q1 => b.nx _ _ _ _ p1 (hs.mono (p1.grow hM)) q1, b.lx hM hs⟩
theorem sj_ret {e : Expr} {w : WE} {pos : Pos} (h : EJ X e w) : SJ X (.Return (some e) pos) (fun D σ M => w σ M D.rt (fun x M1 => D.ex x σ M1)) := fun W tk =>
  (ps_ret (h W tk)).by fun D' σ' H ⟨σ, M, D, hs, hM, q, b⟩ => ⟨σ, M, _, _, hs, hM, q, fun x v H1 M1 p1 r1 q1 => b.rt _ _ _ _ p1 r1 q1, b.lx hM hs⟩
theorem sj_retn {pos : Pos} : SJ X (.Return none pos) (fun D σ M => D.rt .non M) := fun W tk =>
  ps_retN.by fun D' σ' H ⟨σ, M, D, hs, hM, q, b⟩ => b.rt .non .non _ _ (.refl hM) .non q
theorem sj_pass {pos : Pos} : SJ X (.Pass pos) (fun D σ M => D.nx σ M) := fun W tk => ps_pass.by fun D' σ' H ⟨σ, M, D, hs, hM, q, b⟩ => b.nx _ _ _ _ (.refl hM) hs q
theorem sj_brk {pos : Pos} : SJ X (.Break pos) (fun D σ M => D.bk σ M) := fun W tk => ps_break.by fun D' σ' H ⟨σ, M, D, hs, hM, q, b⟩ => b.bk _ _ _ _ (.refl hM) hs q
theorem sj_cnt {pos : Pos} : SJ X (.Continue pos) (fun D σ M => D.ct σ M) := fun W tk => ps_continue.by fun D' σ' H ⟨σ, M, D, hs, hM, q, b⟩ => b.ct _ _ _ _ (.refl hM) hs q
theorem sj_never {st : Stmt} : SJ X st (fun _ _ _ => False) := fun W tk => ps_never.by fun D' σ' H ⟨σ, M, D, hs, hM, q, b⟩ => q.elim
theorem sj_ife {c : Expr} {a b : List Stmt} {wc : WT} {wa wb : WS} {pos : Pos} (hc : TJ X c wc) (ha : SsJ X a wa) (hb : SsJ X b wb) : SJ X (.If c a b pos) (fun D σ M => wc σ M (fun k M1 => if k = true then wa D σ M1 else wb D σ M1) (fun x M1 => D.ex x σ M1)) := fun W tk =>
  (ps_if (hc W tk) (ha W tk) (hb W tk)).by fun D' σ' H ⟨σ, M, D, hs, hM, q, b⟩ => ⟨σ, M, _, _, hs, hM, q, fun k H1 M1 p1 q1 => by
    cases k with
    | true => exact ⟨σ, M1, D, hs.mono (p1.grow hM), p1.rep, q1, b.on p1⟩
    | false => exact ⟨σ, M1, D, hs.mono (p1.grow hM), p1.rep, q1, b.on p1⟩, b.lx hM hs⟩
theorem ssj_nil : SsJ X [] (fun D σ M => D.nx σ M) := fun W tk => pss_nil.by fun D' σ' H ⟨σ, M, D, hs, hM, q, b⟩ => b.nx _ _ _ _ (.refl hM) hs q
theorem ssj_cons {st : Stmt} {r : List Stmt} {w wr : WS} (h : SJ X st w) (hr : SsJ X r wr) : SsJ X (st :: r) (fun D σ M => w { D with nx := fun σ' M' => wr D σ' M' } σ M) := fun W tk =>
  (pss_cons (h W tk) (hr W tk)).by fun D' σ' H ⟨σ, M, D, hs, hM, q, b⟩ =>
  ⟨σ, M, { D with nx := fun σ' M' => wr D σ' M' }, hs, hM, q, ⟨fun σ2 σ2' H2 M2 p r q2 => ⟨σ2, M2, D, r, p.rep, q2, b.on p⟩, b.rt, b.bk, b.ct, b.ex⟩⟩
/-! ### loops -/
theorem sj_whl {c : Expr} {body : List Stmt} {wc : WT} {wb : WS} {pos : Pos} (hp : PassesOwn (model X.prog X.w) X.A X.env X.xe) (hc : TJ X c wc) (hb : SsJ X body wb) : SJ X (.While c body [] pos) (fun D σ M => ∃ n, whL wc wb n D σ M) := fun W tk =>
  (ps_while hp (hc W tk) (hb W tk)).by fun D' σ' H ⟨σ, M, D, hs, hM, ⟨n, q⟩, b⟩ => by
  refine ⟨fun m σ' H1 => ∃ σ M1, Rs X.K H1 σ σ' ∧ Post X.K H M H1 M1 ∧ whL wc wb m D σ M1, ⟨n, σ, M, hs, .refl hM, q⟩, ?_⟩
  rintro m σ' H1 ⟨σ, M1, hs, p1, q⟩
  cases m with
  | zero => exact q.elim
  | succ m =>
    refine ⟨σ, M1, _, _, hs, p1.rep, q, fun k H2 M2 p2 q2 => ?_, (b.on p1).lx p1.rep hs⟩
    have hs2 := hs.mono (p2.grow p1.rep)
    cases k with
    | false => exact b.nx _ _ _ _ (p1.trans p2) hs2 q2
    | true =>
      refine ⟨fun σ' H3 => ∃ σ M3, Rs X.K H3 σ σ' ∧ Post X.K H M H3 M3 ∧ whL wc wb m D σ M3, fun σ' H' z => ⟨m, Nat.lt_succ_self _, z⟩, ?_⟩
      refine ⟨σ, M2, _, hs2, p2.rep, q2, ?_⟩
      have b2 := b.on (p1.trans p2)
      exact ⟨fun σ3 σ3' H3 M3 p3 r3 q3 => ⟨σ3, M3, r3, (p1.trans p2).trans p3, q3⟩, b2.rt, fun σ3 σ3' H3 M3 p3 r3 q3 => b2.nx _ _ _ _ p3 r3 q3, fun σ3 σ3' H3 M3 p3 r3 q3 => ⟨σ3, M3, r3, (p1.trans p2).trans p3, q3⟩, b2.ex⟩
theorem sj_for {tg it : Expr} {body : List Stmt} {T : Tg} {wi : TSt → TM → (Itm → TM → Prop) → TR → Prop} {wb : WS} {pos : Pos} (S : Sta G N k sc false X) (hp : PassesOwn (model X.prog X.w) X.A X.env X.xe) (hi : IJ X tg it wi) (ht : ckTg false N sc T tg = true) (hb : SsJ X body wb) (hf : ∀ x, foldedSetIterable it X.env x = pure x) :
    SJ X (.For tg it body [] pos) (fun D σ M => wi σ M (fun J M1 => foL J.chk (fun x k σ1 M2 => wTg T x σ1 M2 (fun σ2 M3 => wb { D with nx := k, ct := k, bk := D.nx } σ2 M3)) D.nx J.items σ M1) (fun x M1 => D.ex x σ M1)) := fun W tk =>
  (ps_for hp S.calm (hi W tk) (pg_tg S ht) (hb W tk) hf).by fun D' σ' H ⟨σ, M, D, hs, hM, q, b⟩ =>
  ⟨σ, M, _, _, hs, hM, q, fun J I H1 M1 p1 io q1 => by
    refine ⟨fun i m σ' H2 => m = J.items.length - i ∧ i ≤ J.items.length ∧ ∃ σ M2, Rs X.K H2 σ σ' ∧ Post X.K H1 M1 H2 M2 ∧ foL J.chk (fun x k σ1 M2 => wTg T x σ1 M2 (fun σ2 M3 => wb { D with nx := k, ct := k, bk := D.nx } σ2 M3)) D.nx (J.items.drop i) σ M2,
      ⟨_, rfl, Nat.zero_le _, σ, M1, hs.mono (p1.grow hM), .refl p1.rep, q1⟩, ?_⟩
    rintro i m σ' H2 ⟨rfl, hi, σ, M2, hs, p2, q2⟩
    by_cases hlt : i < J.items.length
    · obtain ⟨x, e1, e2⟩ := drop_cons hlt
      rw [e2] at q2
      obtain ⟨ck, q2⟩ := q2
      refine .inr ⟨io.go i x H2 M2 e1 (p2.aft p1.rep) ck, fun σ' H3 => ∃ σ M3, Rs X.K H3 σ σ' ∧ Post X.K H1 M1 H3 M3 ∧ foL J.chk (fun x k σ1 M2 => wTg T x σ1 M2 (fun σ2 M3 => wb { D with nx := k, ct := k, bk := D.nx } σ2 M3)) D.nx (J.items.drop (i + 1)) σ M3, fun σ' H' ⟨σ, M3, a1, a2, a3⟩ => ⟨_, by omega, rfl, hlt, σ, M3, a1, a2, a3⟩, fun v H3 y => ?_⟩
      obtain ⟨p3, rx⟩ := io.yld i x H2 M2 v H3 e1 (p2.aft p1.rep) ck y
      refine ⟨x, σ, M2, _, rx, hs.mono (p3.grow p2.rep), p3.rep, q2, fun σ2 σ2' r2 _ q3 => ⟨σ2, M2, _, r2, p3.rep, q3, ?_⟩⟩
      have p13 := p2.trans p3
      have b3 := b.on (p1.trans p13)
      exact ⟨fun σ3 σ3' H4 M4 p4 r4 q4 => ⟨σ3, M4, r4, p13.trans p4, q4⟩, b3.rt, fun σ3 σ3' H4 M4 p4 r4 q4 => b3.nx _ _ _ _ p4 r4 q4, fun σ3 σ3' H4 M4 p4 r4 q4 => ⟨σ3, M4, r4, p13.trans p4, q4⟩, b3.ex⟩
    · have e : i = J.items.length := by omega
      subst e
      rw [List.drop_eq_nil_of_le (Nat.le_refl _)] at q2
      obtain ⟨ck, q2⟩ := q2
      exact .inl ⟨io.stop _ H2 M2 (Nat.le_refl _) (p2.aft p1.rep) ck, b.nx _ _ _ _ (p1.trans p2) hs q2⟩, b.lx hM hs⟩
end
end TL

/-! TDef: bodies of defs, checked; the rule for a def. -/
namespace TL
open PySem PySem.Spec PyProof.Rows L2

def vAsg : Stmt → Option (Expr × Expr × Pos)
  | .Assign [t] e p => some (t, e, p)
  | _ => none
theorem vAsg_eq {s : Stmt} {t e : Expr} {p : Pos} (h : vAsg s = some (t, e, p)) : s = .Assign [t] e p := by
  unfold vAsg at h
  split at h
  · cases h; rfl
  · cases h
def vAug : Stmt → Option (Expr × Operator × Expr × Pos)
  | .AugAssign t o e p => some (t, o, e, p)
  | _ => none
theorem vAug_eq {s : Stmt} {t e : Expr} {o : Operator} {p : Pos} (h : vAug s = some (t, o, e, p)) : s = .AugAssign t o e p := by
  unfold vAug at h
  split at h
  · cases h; rfl
  · cases h
def vExp : Stmt → Option (Expr × Pos)
  | .Expr e p => some (e, p)
  | _ => none
theorem vExp_eq {s : Stmt} {e : Expr} {p : Pos} (h : vExp s = some (e, p)) : s = .Expr e p := by
  unfold vExp at h
  split at h
  · cases h; rfl
  · cases h
def vIfS : Stmt → Option (Expr × List Stmt × List Stmt × Pos)
  | .If c a b p => some (c, a, b, p)
  | _ => none
theorem vIfS_eq {s : Stmt} {c : Expr} {a b : List Stmt} {p : Pos} (h : vIfS s = some (c, a, b, p)) : s = .If c a b p := by
  unfold vIfS at h
  split at h
  · cases h; rfl
  · cases h
def vWhl : Stmt → Option (Expr × List Stmt × Pos)
  | .While c a [] p => some (c, a, p)
  | _ => none
theorem vWhl_eq {s : Stmt} {c : Expr} {a : List Stmt} {p : Pos} (h : vWhl s = some (c, a, p)) : s = .While c a [] p := by
  unfold vWhl at h
  split at h
  · cases h; rfl
  · cases h
def vFor : Stmt → Option (Expr × Expr × List Stmt × Pos)
  | .For t i a [] p => some (t, i, a, p)
  | _ => none
theorem vFor_eq {s : Stmt} {t i : Expr} {a : List Stmt} {p : Pos} (h : vFor s = some (t, i, a, p)) : s = .For t i a [] p := by
  unfold vFor at h
  split at h
  · cases h; rfl
  · cases h
def vRet : Stmt → Option (Option Expr × Pos)
  | .Return e p => some (e, p)
  | _ => none
theorem vRet_eq {s : Stmt} {e : Option Expr} {p : Pos} (h : vRet s = some (e, p)) : s = .Return e p := by
  unfold vRet at h
  split at h
  · cases h; rfl
  · cases h
def noTup : Expr → Bool
  | .Tuple .. => false
  | _ => true
/-- a comprehension that is kept in a name on its own line -/
def swL (sc : Scope) (y : Str) (py : Pos) : Expr → Bool
  | .ListComp _ _ bs p => (match sc.names.lookup y with
    | some .local => true
    | _ => false) && (py.line == p.line) && !(bs.names.any fun nk => nk.1 == y && (nk.2 == .local || nk.2 == .cell))
  | _ => false
/-- two local names of one row, kept from the right -/
def swP (sc : Scope) : List Expr → List Expr → Bool
  | [.Name x px, .Name y py], [a, b] => (match sc.names.lookup x, sc.names.lookup y with
    | some .local, some .local => true
    | _, _ => false) && decide (x ≠ y) && (py.line == px.line) && noStar a && noStar b && !([a, b].all (foldedForSure 8)) && !([a, b].all (constantsAlone 8))
  | _, _ => false
section
variable (N : List Str) (sc : Scope)
def nmB (i : Nat) (e : Expr) : Bool := match vName e with
  | some (x, _) => decide (N[i]? = some x) && locB false sc x
  | none => false
mutual
def ckS : Sm → Stmt → Bool
  | .set i e, st => match vAsg st with
    | some (t, x, _) => (match vName t with
      | some (y, py) => decide (N[i]? = some y) && locB false sc y && ckE N e sc x && (noComp x || swL sc y py x)
      | none => false)
    | none => false
  | .asg is e, st => match vAsg st with
    | some (t, x, _) => (vTup t).isSome && ckTg false N sc (.tup is) t && ckE N e sc x && (noTup x || (match vTup t, vTup x with
      | some (ts, _, _), some (xs, _, _) => xs.all (foldedForSure 8) && !(xs.any fun e => !noStar e)
      | _, _ => false))
    | none => false
  | .par is es, st => match vAsg st with
    | some (t, x, _) => (match vTup t, vTup x with
      | some (ts, _, _), some (xs, _, _) => swP sc ts xs && (match is, ts with
        | [i, j], [a, b] => nmB N sc i a && nmB N sc j b
        | _, _ => false) && ckEs N es sc xs
      | _, _ => false)
    | none => false
  | .sti o i e, st => match vAsg st with
    | some (t, x, _) => (match vSub t with
      | some (a, b, _) => noSli b && ckE N o sc a && ckE N i sc b && ckE N e sc x
      | none => false)
    | none => false
  | .aug i o e, st => match vAug st with
    | some (t, op, x, _) => (match vName t with
      | some (y, _) => decide (op = o.op) && decide (N[i]? = some y) && locB false sc y && ckE N e sc x
      | none => false)
    | none => false
  | .augx o i p e, st => match vAug st with
    | some (t, op, x, _) => (match vSub t with
      | some (a, b, _) => decide (op = p.op) && noSli b && ckE N o sc a && ckE N i sc b && ckE N e sc x
      | none => false)
    | none => false
  | .exp e, st => match vExp st with
    | some (x, _) => noComp x && ckE N e sc x
    | none => false
  | .ife c a b, st => match vIfS st with
    | some (x, y, z, _) => ckB N c sc x && ckSs a y && ckSs b z
    | none => false
  | .whl c b, st => match vWhl st with
    | some (x, y, _) => ckB N c sc x && ckSs b y
    | none => false
  | .fr tg it b, st => match vFor st with
    | some (t, i, y, _) => noSet i && ckTg false N sc tg t && ckI N it sc (vTup t).isSome i && ckSs b y
    | none => false
  | .ret e, st => match vRet st with
    | some (some x, _) => ckE N e sc x
    | _ => false
  | .retn, st => match vRet st with
    | some (none, _) => true
    | _ => false
  | .pass, st => match st with
    | .Pass _ => true
    | _ => false
  | .brk, st => match st with
    | .Break _ => true
    | _ => false
  | .cnt, st => match st with
    | .Continue _ => true
    | _ => false
  | .rais _ _, _ => false
  | .never, _ => true
def ckSs : Sms → List Stmt → Bool
  | .nil, [] => true
  | .cons s r, x :: xs => ckS s x && ckSs r xs
  | _, _ => false
end
end
section
variable (G : Gx) (k : Nat)
mutual
def okS : Sm → Prop
  | .set _ e => okE G k e
  | .asg _ e => okE G k e
  | .par _ es => okEs G k es
  | .sti o i e => okE G k o ∧ okE G k i ∧ okE G k e
  | .aug _ _ e => okE G k e
  | .augx o i _ e => okE G k o ∧ okE G k i ∧ okE G k e
  | .exp e => okE G k e
  | .ife c a b => okB G k c ∧ okSs a ∧ okSs b
  | .whl c b => okB G k c ∧ okSs b
  | .fr _ it b => okI G k it ∧ okSs b
  | .ret e => okE G k e
  | .retn => True
  | .pass => True
  | .brk => True
  | .cnt => True
  | .rais _ _ => True
  | .never => True
def okSs : Sms → Prop
  | .nil => True
  | .cons s r => okS s ∧ okSs r
end
end
/-- a context of a body -/
structure StaB (G : Gx) (N : List Str) (k : Nat) (sc : Scope) (X : Cx) : Prop where
  st : Sta G N k sc false X
  own : PassesOwn (model X.prog X.w) X.A X.env X.xe
  kind : X.env.blockKind = .function
section
variable {G : Gx} {N : List Str} {k : Nat} {sc : Scope} {X : Cx} {F : Addr → TSp → Prop}
theorem sole_tup {x : Expr} {es : List Expr} {n l : Nat} {p : Pos} : swapsWithSole [.Tuple es n p] x l X.env = pure false := by cases x <;> rfl
theorem sole_sub {x a b : Expr} {l : Nat} {p : Pos} : swapsWithSole [.Subscript a b p] x l X.env = pure false := by cases x <;> rfl
theorem stores_no {x : Expr} {ts : List Expr} (h : noTup x = true) : swappedStores ts x X.env = pure none := by
  cases x <;> first | (cases h; done) | skip
  all_goals (unfold swappedStores; rcases ts with _ | ⟨t, _ | ⟨_, _⟩⟩ <;> first | rfl | (cases t <;> rfl))
theorem stores_sub {x a b : Expr} {p : Pos} : swappedStores [.Subscript a b p] x X.env = pure none := by cases x <;> rfl
theorem stores_fold {ts xs : List Expr} {n m : Nat} {p q : Pos} (h : xs.all (foldedForSure 8) = true) (h2 : (xs.any fun e => !noStar e) = false) : swappedStores [.Tuple ts n p] (.Tuple xs m q) X.env = pure none := by
  unfold swappedStores
  dsimp only
  split
  · rfl
  · split
    · rfl
    · split
      · rfl
      · first | rfl | rw [if_pos h]
theorem stores_two {x y : Str} {px py pt q : Pos} {a b : Expr} {n m : Nat} (B : X.env.blockKind = .function) (hx : X.env.kindOf x = some .local) (hy : X.env.kindOf y = some .local) (hne : x ≠ y) (hl : (py.line == px.line) = true)
    (ha : noStar a = true) (hb : noStar b = true) (h1 : ([a, b].all (foldedForSure 8)) = false) (h2 : ([a, b].all (constantsAlone 8)) = false) :
    swappedStores [.Tuple [.Name x px, .Name y py] n pt] (.Tuple [a, b] m q) X.env = pure (some [x, y]) := by
  have hl2 : (px.line == px.line) = true := beq_self_eq_true _
  have st : ∀ e : Expr, noStar e = true → (match e with | .Starred .. => true | _ => false) = false := fun e h => by cases e <;> first | rfl | cases h
  have k1 : (X.env.kindOf x == some NameKind.local) = true := by rw [hx]; rfl
  have k2 : (X.env.kindOf y == some NameKind.local) = true := by rw [hy]; rfl
  have bk : (X.env.blockKind != ScopeKind.function) = false := by rw [B]; rfl
  have sb : ([a, b].any fun | .Starred .. => true | _ => false) = false := by
    simp only [List.any_cons, List.any_nil, Bool.or_false, Bool.or_eq_false_iff]
    exact ⟨st a ha, st b hb⟩
  have e2 : (x == y) = false := by simpa using hne
  have e3 : (y == x) = false := by simpa using hne.symm
  have dd : (([x, y] : List Str).eraseDups).length = 2 := by simp [List.eraseDups_cons, e3]
  unfold swappedStores
  dsimp only
  simp only [List.length_cons, List.length_nil, Nat.zero_add, Nat.reduceAdd, beq_self_eq_true, Bool.true_or, Bool.not_true, bne_self_eq_false, Bool.false_or, bk, Bool.false_eq_true, if_false, sb, List.filterMap_cons, List.filterMap_nil, List.head?_cons, Option.map_some, Option.getD_some, k1, k2, Expr.pos, hl, hl2, Bool.and_self, if_true, dd, h1, h2]
  exact if_neg fun h => Bool.false_ne_true (sb.symm.trans h)
theorem swaps_yes {elt : Expr} {gs : List Comprehension} {bs : Scope} {p py : Pos} {y : Str} {l : Nat} (B : X.env.blockKind = .function) (h : swL X.env.scope y py (.ListComp elt gs bs p) = true) : swapsWith (.ListComp elt gs bs p) (some (.Name y py)) l X.env = pure true ∧ X.env.scope.names.lookup y = some .local := by
  unfold swL at h
  simp only [Bool.and_eq_true] at h
  obtain ⟨⟨h1, h2⟩, h3⟩ := h
  have hk : X.env.scope.names.lookup y = some .local := by
    split at h1
    · assumption
    · cases h1
  refine ⟨?_, hk⟩
  have hk2 : (X.env.kindOf y == some NameKind.local) = true := by rw [show X.env.kindOf y = some .local from hk]; rfl
  unfold swapsWith
  dsimp only
  rw [B, hk2, show (Expr.ListComp elt gs bs p).pos = p from rfl, h2, h3]
  rfl
theorem nmB_ok {i : Nat} {e : Expr} (S : Sta G N k sc false X) (h : nmB N sc i e = true) : ∃ x p, e = .Name x p ∧ X.N[i]? = some x := by
  obtain ⟨x, p, e1, h1, h2⟩ := ckN1 h
  exact ⟨x, p, e1, by rw [S.hN]; exact h1⟩
theorem iteL {l : Option NameKind} (h : (match l with
    | some .local => true
    | _ => false) = true) : l = some .local := by
  split at h
  · rfl
  · cases h
/-- a comprehension that goes into a name of its row -/
theorem sj_setLc (B : StaB G N k sc X) (hF : ∀ f sp, F f sp → HeldT G k f sp) {i : Nat} {y : Str} {py pos : Pos} {e : Ex} {x : Expr} (hN : X.N[i]? = some y) (ok : okE G k e) (h : ckE N e sc x = true) (hs : swL sc y py x = true) :
    SJ X (.Assign [.Name y py] x pos) (fun D σ M => wE F e σ M (fun x M1 => D.nx (σ.set i (some x)) M1) (fun x M1 => D.ex x σ M1)) := by
  have S := B.st
  cases qx : vLC x with
  | none =>
    exfalso
    cases x <;> first | (cases hs; done) | (cases qx; done)
  | some r =>
    obtain ⟨el', gens, bs, p⟩ := r
    obtain rfl : x = Expr.ListComp el' gens bs p := vLC_eq qx
    rw [← S.hsc] at hs
    have sw := fun l => swaps_yes (l := l) B.kind hs
    have InB : InBlk X bs fun Y => Sta G N k (relS bs sc) true Y := fun s H C cl fp => S.block s H bs C cl fp
    have go : ∀ {w : WE} {D : TEnds} {D' : Ends} {σ : TSt} {σ' : LSt} {H : Hp} {M : TM} {W : WX}, Rs X.K H σ σ' → RepM X.K H M → w σ M (fun x M1 => D.nx (σ.set i (some x)) M1) (fun x M1 => D.ex x σ M1) → Below X.K W H M D D' → LE X.K W w σ' H (fun x H1 => D'.nx (σ'.set i (some x)) H1) := fun {w D D' σ σ' H M W} hs hM q b =>
      ⟨σ, M, _, _, hs, hM, q, fun x v H1 M1 p1 r1 q1 => b.nx _ _ _ _ p1 ((hs.mono (p1.grow hM)).set i (show Ropt X.K H1 (some x) (some v) from r1)) q1, b.lx hM hs⟩
    cases e <;> first | (exfalso; simp [ckE, vName, vCst, vBin, vUn, vCmp, vBool, vIf, vTup, vLst, vSub, vCall] at h; done) | skip
    case lc T it c el own =>
      unfold ckE at h
      simp only [vLC] at h
      match gens, h with
      | [⟨t, i', fs, a⟩], h =>
        simp only [Bool.and_eq_true, decide_eq_true_eq] at h
        obtain ⟨⟨⟨⟨⟨⟨⟨rfl, h2⟩, h3⟩, h4⟩, h5⟩, h6⟩, h7⟩, h8⟩ := h
        exact fun W tk => (ps_setLc S.calm S.ndX hN (sw pos.line).2 (sw _).1 (sndI hF it S ok.1 h6 rfl W tk) (by rw [S.hN, S.hsc]; exact blkOk_by h3) (fun s H C cl fp => pg_tg (InB s H C cl fp) h5) (fun s H C cl fp => sndBo hF c (InB s H C cl fp) ok.2.1 h7) (fun s H C cl fp => (sndE hF el (InB s H C cl fp) ok.2.2 h8).1 _ TL.takes0) (fun x => folded_no h2 x)).by
          fun D' σ' H ⟨σ, M, D, hs, hM, q, b⟩ => lc_red (hasA h4) (go hs hM q b)
      | [], h => cases h
      | ⟨_, _, _, _⟩ :: _ :: _, h => exact absurd h (by simp)
    case lc2 T it c T1 it1 c1 el own vs1 =>
      unfold ckE at h
      simp only [vLC] at h
      match gens, h with
      | [⟨t, i', fs, a⟩, ⟨t1, i1, fs1, a1⟩], h =>
        simp only [Bool.and_eq_true, decide_eq_true_eq] at h
        obtain ⟨⟨⟨⟨⟨⟨⟨⟨⟨⟨⟨⟨⟨⟨rfl, rfl⟩, n1⟩, n2⟩, h3⟩, h4⟩, h5⟩, h6⟩, g1⟩, g2⟩, i1'⟩, i2'⟩, c1'⟩, c2'⟩, h8⟩ := h
        exact fun W tk => (ps_setLc2 S.calm S.ndX hN (sw pos.line).2 (sw _).1 (sndI hF it S ok.1 i1' rfl W tk) (by rw [S.hN, S.hsc]; exact blkOk_by h3) (hasA h6) (fun s H C cl fp => pg_tg (InB s H C cl fp) g1) (fun s H C cl fp => sndBo hF c (InB s H C cl fp) ok.2.1 c1') (fun s H C cl fp => sndI hF it1 (InB s H C cl fp) ok.2.2.1 i2' rfl _ TL.takes0) (fun s H C cl fp => pg_tg (InB s H C cl fp) g2) (fun s H C cl fp => sndBo hF c1 (InB s H C cl fp) ok.2.2.2.1 c2') (fun s H C cl fp => (sndE hF el (InB s H C cl fp) ok.2.2.2.2 h8).1 _ TL.takes0) (fun x => folded_no n1 x) (fun env x => folded_no n2 x)).by
          fun D' σ' H ⟨σ, M, D, hs, hM, q, b⟩ => lc2_red (hasA h4) (hasB h5) (go hs hM q b)
      | [], h => cases h
      | [⟨_, _, _, _⟩], h => exact absurd h (by simp)
      | ⟨_, _, _, _⟩ :: ⟨_, _, _, _⟩ :: _ :: _, h => exact absurd h (by simp)
variable (hF : ∀ f sp, F f sp → HeldT G k f sp)
include hF
mutual
theorem sndS : ∀ (b : Sm) {st : Stmt}, StaB G N k sc X → okS G k b → ckS N sc b st = true → SJ X st (wS F b)
  | .set i e, st, B, ok, h => by
    unfold ckS at h
    cases q : vAsg st with
    | none => simp only [q] at h; cases h
    | some r =>
      obtain ⟨t, x, p⟩ := r
      obtain rfl := vAsg_eq q
      simp only [vAsg] at h
      cases q2 : vName t with
      | none => simp only [q2] at h; cases h
      | some r2 =>
        obtain ⟨y, py⟩ := r2
        obtain rfl : t = Expr.Name y py := vName_eq q2
        simp only [vName, Bool.and_eq_true, Bool.or_eq_true] at h
        obtain ⟨⟨⟨h1, h2⟩, h3⟩, h4⟩ := h
        rcases h4 with h4 | h4
        · exact sj_set B.st (B.st.slot h1) h2 (sndE hF e B.st ok h3).1 (swaps_no h4)
        · exact sj_setLc B hF (B.st.slot h1) ok h3 h4
  | .asg is e, st, B, ok, h => by
    unfold ckS at h
    cases q : vAsg st with
    | none => simp only [q] at h; cases h
    | some r =>
      obtain ⟨t, x, p⟩ := r
      obtain rfl := vAsg_eq q
      simp only [vAsg, Bool.and_eq_true, Bool.or_eq_true] at h
      obtain ⟨⟨⟨h1, h2⟩, h3⟩, h4⟩ := h
      cases q2 : vTup t with
      | none => rw [q2] at h1; cases h1
      | some r2 =>
        obtain ⟨ts, n, pt⟩ := r2
        obtain rfl : t = Expr.Tuple ts n pt := vTup_eq q2
        refine sj_asg B.st h2 (sndE hF e B.st ok h3).1 sole_tup ?_ rfl
        rcases h4 with h4 | h4
        · exact stores_no h4
        · cases q3 : vTup x with
          | none => simp only [q2, q3] at h4; cases h4
          | some r3 =>
            obtain ⟨xs, m, px⟩ := r3
            obtain rfl : x = Expr.Tuple xs m px := vTup_eq q3
            simp only [vTup, Bool.and_eq_true, Bool.not_eq_true'] at h4
            exact stores_fold h4.1 h4.2
  | .par is es, st, B, ok, h => by
    unfold ckS at h
    cases q : vAsg st with
    | none => simp only [q] at h; cases h
    | some r =>
      obtain ⟨t, x, p⟩ := r
      obtain rfl := vAsg_eq q
      simp only [vAsg] at h
      cases q2 : vTup t with
      | none => simp only [q2] at h; cases h
      | some r2 =>
        obtain ⟨ts, n, pt⟩ := r2
        obtain rfl : t = Expr.Tuple ts n pt := vTup_eq q2
        cases q3 : vTup x with
        | none => simp only [q2, q3] at h; cases h
        | some r3 =>
          obtain ⟨xs, m, px⟩ := r3
          obtain rfl : x = Expr.Tuple xs m px := vTup_eq q3
          simp only [vTup, Bool.and_eq_true] at h
          obtain ⟨⟨h1, h2⟩, h3⟩ := h
          match is, ts, h2, h1 with
          | [i, j], [a, b], h2, h1 =>
            simp only [Bool.and_eq_true] at h2
            obtain ⟨x, p1, rfl, hi⟩ := nmB_ok B.st h2.1
            obtain ⟨y, p2, rfl, hj⟩ := nmB_ok B.st h2.2
            match xs, h1, h3 with
            | [e1, e2], h1, h3 =>
              unfold swP at h1
              simp only [Bool.and_eq_true, Bool.not_eq_true', decide_eq_true_eq] at h1
              obtain ⟨⟨⟨⟨⟨⟨a1, a2⟩, a3⟩, a4⟩, a5⟩, a6⟩, a7⟩ := h1
              have lk : sc.names.lookup x = some .local ∧ sc.names.lookup y = some .local := by
                split at a1
                · rename_i e1 e2; exact ⟨e1, e2⟩
                · cases a1
              have lx : X.env.scope.names.lookup x = some .local := by rw [B.st.hsc]; exact lk.1
              have ly : X.env.scope.names.lookup y = some .local := by rw [B.st.hsc]; exact lk.2
              have hij : i ≠ j := fun e => a2 (by rw [e, hj] at hi; exact (Option.some.inj hi).symm)
              exact sj_par B.st hi hj hij lx ly (sndEs hF es B.st ok h3 (by simp [a4, a5])) (stores_two B.kind lx ly a2 a3 a4 a5 a6 a7)
            | [], h1, h3 => cases h1
            | [_], h1, h3 => cases h1
            | _ :: _ :: _ :: _, h1, h3 => cases h1
          | [], _, h2, _ => cases h2
          | [_], _, h2, _ => cases h2
          | _ :: _ :: _ :: _, _, h2, _ => cases h2
          | [_, _], [], h2, _ => cases h2
          | [_, _], [_], h2, _ => cases h2
          | [_, _], _ :: _ :: _ :: _, h2, _ => cases h2
  | .sti o i e, st, B, ok, h => by
    unfold ckS at h
    cases q : vAsg st with
    | none => simp only [q] at h; cases h
    | some r =>
      obtain ⟨t, x, p⟩ := r
      obtain rfl := vAsg_eq q
      simp only [vAsg] at h
      cases q2 : vSub t with
      | none => simp only [q2] at h; cases h
      | some r2 =>
        obtain ⟨a, b, pt⟩ := r2
        obtain rfl : t = Expr.Subscript a b pt := vSub_eq q2
        simp only [vSub, Bool.and_eq_true] at h
        obtain ⟨⟨⟨h1, h2⟩, h3⟩, h4⟩ := h
        exact sj_sti (sndE hF o B.st ok.1 h2).1 (sndE hF i B.st ok.2.1 h3).1 (sndE hF e B.st ok.2.2 h4).1 h1 sole_sub stores_sub
  | .aug i o e, st, B, ok, h => by
    unfold ckS at h
    cases q : vAug st with
    | none => simp only [q] at h; cases h
    | some r =>
      obtain ⟨t, op, x, p⟩ := r
      obtain rfl := vAug_eq q
      simp only [vAug] at h
      cases q2 : vName t with
      | none => simp only [q2] at h; cases h
      | some r2 =>
        obtain ⟨y, py⟩ := r2
        obtain rfl : t = Expr.Name y py := vName_eq q2
        simp only [vName, Bool.and_eq_true] at h
        obtain ⟨⟨⟨h0, h1⟩, h2⟩, h3⟩ := h
        obtain rfl := of_decide_eq_true h0
        exact sj_aug B.st (B.st.slot h1) h2 (sndE hF e B.st ok h3).1
  | .augx o i pp e, st, B, ok, h => by
    unfold ckS at h
    cases q : vAug st with
    | none => simp only [q] at h; cases h
    | some r =>
      obtain ⟨t, op, x, p⟩ := r
      obtain rfl := vAug_eq q
      simp only [vAug] at h
      cases q2 : vSub t with
      | none => simp only [q2] at h; cases h
      | some r2 =>
        obtain ⟨a, b, pt⟩ := r2
        obtain rfl : t = Expr.Subscript a b pt := vSub_eq q2
        simp only [vSub, Bool.and_eq_true] at h
        obtain ⟨⟨⟨⟨h0, h1⟩, h2⟩, h3⟩, h4⟩ := h
        obtain rfl := of_decide_eq_true h0
        exact sj_augx (sndE hF o B.st ok.1 h2).1 (sndE hF i B.st ok.2.1 h3).1 (sndE hF e B.st ok.2.2 h4).1 h1
  | .exp e, st, B, ok, h => by
    unfold ckS at h
    cases q : vExp st with
    | none => simp only [q] at h; cases h
    | some r =>
      obtain ⟨x, p⟩ := r
      obtain rfl := vExp_eq q
      simp only [vExp, Bool.and_eq_true] at h
      exact sj_exp (sndE hF e B.st ok h.2).1 h.1
  | .ife c a b, st, B, ok, h => by
    unfold ckS at h
    cases q : vIfS st with
    | none => simp only [q] at h; cases h
    | some r =>
      obtain ⟨x, y, z, p⟩ := r
      obtain rfl := vIfS_eq q
      simp only [vIfS, Bool.and_eq_true] at h
      exact sj_ife (sndB hF c B.st ok.1 h.1.1) (sndSs a B ok.2.1 h.1.2) (sndSs b B ok.2.2 h.2)
  | .whl c b, st, B, ok, h => by
    unfold ckS at h
    cases q : vWhl st with
    | none => simp only [q] at h; cases h
    | some r =>
      obtain ⟨x, y, p⟩ := r
      obtain rfl := vWhl_eq q
      simp only [vWhl, Bool.and_eq_true] at h
      exact sj_whl B.own (sndB hF c B.st ok.1 h.1) (sndSs b B ok.2 h.2)
  | .fr tg it b, st, B, ok, h => by
    unfold ckS at h
    cases q : vFor st with
    | none => simp only [q] at h; cases h
    | some r =>
      obtain ⟨t, i, y, p⟩ := r
      obtain rfl := vFor_eq q
      simp only [vFor, Bool.and_eq_true] at h
      obtain ⟨⟨⟨h1, h2⟩, h3⟩, h4⟩ := h
      exact sj_for B.st B.own (sndI hF it B.st ok.1 h3 rfl) h2 (sndSs b B ok.2 h4) (fun x => folded_no h1 x)
  | .ret e, st, B, ok, h => by
    unfold ckS at h
    cases q : vRet st with
    | none => simp only [q] at h; cases h
    | some r =>
      obtain ⟨x, p⟩ := r
      obtain rfl := vRet_eq q
      simp only [vRet] at h
      cases x with
      | none => cases h
      | some x => exact sj_ret (sndE hF e B.st ok h).1
  | .retn, st, B, ok, h => by
    unfold ckS at h
    cases q : vRet st with
    | none => simp only [q] at h; cases h
    | some r =>
      obtain ⟨x, p⟩ := r
      obtain rfl := vRet_eq q
      simp only [vRet] at h
      cases x with
      | none => exact sj_retn
      | some x => cases h
  | .pass, st, B, ok, h => by
    unfold ckS at h
    split at h
    · exact sj_pass
    · cases h
  | .brk, st, B, ok, h => by
    unfold ckS at h
    split at h
    · exact sj_brk
    · cases h
  | .cnt, st, B, ok, h => by
    unfold ckS at h
    split at h
    · exact sj_cnt
    · cases h
  | .rais _ _, st, B, ok, h => by cases h
  | .never, st, B, ok, h => sj_never
theorem sndSs : ∀ (b : Sms) {st : List Stmt}, StaB G N k sc X → okSs G k b → ckSs N sc b st = true → SsJ X st (wSs F b)
  | .nil, [], B, ok, h => ssj_nil
  | .cons s r, x :: xs, B, ok, h => by
    simp only [ckSs, Bool.and_eq_true] at h
    exact ssj_cons (w := wS F s) (wr := wSs F r) (sndS s B ok.1 h.1) (sndSs r B ok.2 h.2)
  | .nil, _ :: _, B, ok, h => by cases h
  | .cons _ _, [], B, ok, h => by cases h
end
end
/-! ### the rule for a def -/
/-- what is told may be less -/
def Subm (M0 M : TM) : Prop := ∀ a o, M0 a = some o → M a = some o
theorem Subm.refl (M : TM) : Subm M M := fun _ _ h => h
def endsT (Q : TK) (R : TR) : TEnds where
  nx := fun _ M' => ∃ M0, Subm M0 M' ∧ Q .non M0
  rt := fun v M' => ∃ M0, Subm M0 M' ∧ Q v M0
  bk := fun _ _ => False
  ct := fun _ _ => False
  ex := fun x _ M' => R x M'
def startT (N : List Str) (xs : List TV) : TSt := xs.map some ++ List.replicate (N.length - xs.length) none
theorem held_fn {G : Gx} {F : Addr → TSp → Prop} {x qual : Str} {st : Stmt} {f : Addr} {fd : FuncData} {N ps : List Str} {k : Nat} {sp : TSp} {b : Sms} (Fu : Fun G.K x qual st f fd) (S : FnScope N ps (defScope st))
    (ck : ckSs N (defScope st) b (defBody st) = true) (ok : okSs G k b) (hF : ∀ f sp, F f sp → HeldT G k f sp) (len : ∀ xs M Q R, sp xs M Q R → xs.length = ps.length)
    (vc : ∀ xs M Q R, sp xs M Q R → wSs F b (endsT Q R) (startT N xs) M) : FnOk G.prog G.w G.K G.mg G.base (L2.CX G.prog G.w) (k + 1) f fd ps (LSp G.K sp) := by
  refine Fu.okX S (fun vs H Q E h => ?_) fun cdv A outer s H vs Q' E' hr h => ?_
  · obtain ⟨xs, M, Q, R, rv, hM, q, _⟩ := h
    rw [← rv.length]
    exact len _ _ _ _ q
  · obtain ⟨xs, M, Q, R, rv, hM, q, c, l⟩ := h
    let X := cxOf (L2.CX G.prog G.w) G.prog G.w G.K G.mg G.base N qual (defScope st) f cdv A outer s H E'
    have tk : Takes X (fun cls d _ H' => E' cls d H') := takes_of rfl rfl rfl rfl
    have B : StaB G N k (defScope st) X := ⟨⟨rfl, rfl, rfl, rfl, rfl, rfl, S.nd, rfl, rfl, hr, fun _ _ => rfl⟩, passes_of rfl, by
      show (if (defScope st).kind.isAnnotationScope then ScopeKind.function else (defScope st).kind) = .function
      rw [S.kind]; rfl⟩
    refine ⟨_, sndSs hF b B ok ck _ tk, startT N xs, M, endsT Q R, ?_, hM, vc _ _ _ _ q, ?_⟩
    · have e := rv.length
      show Rs G.K H (xs.map some ++ List.replicate (N.length - xs.length) none) (vs.map some ++ List.replicate (N.length - vs.length) none)
      rw [← e]
      exact Rs.start _ rv
    · exact ⟨fun σ σ' H' M' p _ ⟨M0, s0, q0⟩ => c .non .non H' M0 (p.sub s0) .non q0, fun v v' H' M' p r ⟨M0, s0, q0⟩ => c v v' H' M0 (p.sub s0) r q0, fun _ _ _ _ _ _ z => z.elim, fun _ _ _ _ _ _ z => z.elim, fun x cls d σ σ' H' M' p _ rx r => l x cls d H' M' p rx r⟩
theorem held {G : Gx} {F : Addr → TSp → Prop} {x qual : Str} {st : Stmt} {f : Addr} {fd : FuncData} {N ps : List Str} {k : Nat} {sp : TSp} {b : Sms} (Fu : Fun G.K x qual st f fd) (S : FnScope N ps (defScope st)) (Bi : Binds G.K fd ps [])
    (ck : ckSs N (defScope st) b (defBody st) = true) (ok : okSs G k b) (hF : ∀ f sp, F f sp → HeldT G k f sp) (len : ∀ xs M Q R, sp xs M Q R → xs.length = ps.length)
    (vc : ∀ xs M Q R, sp xs M Q R → wSs F b (endsT Q R) (startT N xs) M) : HeldT G (k + 1) f sp :=
  ⟨fd, ps, [], [], [], sp, Fu.kp, Bi, .nil, fun _ => .nil, held_fn Fu S ck ok hF len vc, fun xs M Q R q => by rw [List.append_nil]; exact q⟩
end TL

/-! TFun: the defs of a law, by name; the law's own end. -/
namespace TL
open PySem PySem.Spec PyProof.Rows L2

/-- where a name of the module leads -/
def adr (G : Gx) (x : Str) : Addr := match G.mg x with
  | some (.ref a) => a
  | _ => 0
theorem adr_of {G : Gx} {x : Str} {a : Addr} (h : G.mg x = some (.ref a)) : adr G x = a := by unfold adr; rw [h]
/-- a def that stands -/
structure Df (G : Gx) (x : Str) (st : Stmt) (ps : List Str) : Prop where
  has : G.mg x = some (.ref (adr G x))
  fn : ∃ fd, Fun G.K x x st (adr G x) fd ∧ Binds G.K fd ps []
theorem Df.of {G : Gx} {x : Str} {st : Stmt} {ps : List Str} {f : Addr} {fd : FuncData} (h : G.mg x = some (.ref f)) (F : Fun G.K x x st f fd) (b : Binds G.K fd ps []) : Df G x st ps := by
  have e := adr_of h
  refine ⟨by rw [e]; exact h, fd, by rw [e]; exact F, b⟩
theorem Df.held {G : Gx} {F : Addr → TSp → Prop} {x : Str} {st : Stmt} {N ps : List Str} {k : Nat} {sp : TSp} {b : Sms} (D : Df G x st ps) (S : FnScope N ps (defScope st)) (ck : ckSs N (defScope st) b (defBody st) = true) (ok : okSs G k b) (hF : ∀ f sp, F f sp → HeldT G k f sp)
    (len : ∀ xs M Q R, sp xs M Q R → xs.length = ps.length) (vc : ∀ xs M Q R, sp xs M Q R → wSs F b (endsT Q R) (startT N xs) M) : HeldT G (k + 1) (adr G x) sp := by
  obtain ⟨fd, Fu, Bi⟩ := D.fn
  exact TL.held Fu S Bi ck ok hF len vc
theorem df_mk {P : Program} {w : World} {K : PySem.W.Frag} {h base : Heap} {mg : Str → Option Value} {x : Str} {st : Stmt} {ps : List Str} {f : Addr} {od an : Option Addr} {sl : Array (Option Value)} {oc kV dc pm cd ct : Value} (X : K.In h) (Gs : h.Ns mainGlobals mg)
    (b : ∀ {fd : FuncData}, Fun K x x st f fd → Binds K fd ps [])
    (a : PySem.W.nsIn K mainGlobals x = some (some (.ref f))) (l : K.lookup f = some ⟨oc, od, .func (PySem.W.fnOf x x (defArgs st) (defBody st) (defScope st) .none kV dc pm an cd ct), sl⟩) (c : PySem.W.codeIn K cd x = true) (k : PySem.W.keepIn K (.ref f) = true) : Df ⟨P, w, K, mg, base⟩ x st ps :=
  let F := fun_mk (st := st) l c k
  Df.of (PySem.W.mg_of X Gs a) F (b F)
/-- a def with defaults -/
structure DfD (G : Gx) (x : Str) (st : Stmt) (ps : List Str) (dv : List TV) : Prop where
  has : G.mg x = some (.ref (adr G x))
  fn : ∃ fd ds dvs, Fun G.K x x st (adr G x) fd ∧ Binds G.K fd ps ds ∧ Vals dvs ds ∧ ∀ H, Rvs G.K H dv dvs
theorem DfD.held {G : Gx} {F : Addr → TSp → Prop} {x : Str} {st : Stmt} {N ps : List Str} {dv : List TV} {k : Nat} {sp sp' : TSp} {b : Sms} (D : DfD G x st ps dv) (S : FnScope N ps (defScope st)) (ck : ckSs N (defScope st) b (defBody st) = true) (ok : okSs G k b) (hF : ∀ f sp, F f sp → HeldT G k f sp)
    (len : ∀ xs M Q R, sp xs M Q R → xs.length = ps.length) (vc : ∀ xs M Q R, sp xs M Q R → wSs F b (endsT Q R) (startT N xs) M) (i : ∀ xs M Q R, sp' xs M Q R → sp (xs ++ dv) M Q R) : HeldT G (k + 1) (adr G x) sp' := by
  obtain ⟨fd, ds, dvs, Fu, Bi, v1, v2⟩ := D.fn
  exact ⟨fd, ps, ds, dvs, dv, sp, Fu.kp, Bi, v1, v2, held_fn Fu S ck ok hF len vc, i⟩
/-- one keyword-only parameter with an int for default -/
theorem dfd_mk {P : Program} {w : World} {K : PySem.W.Frag} {h base : Heap} {mg : Str → Option Value} {x y : Str} {st : Stmt} {ps : List Str} {f D : Addr} {od an : Option Addr} {sl : Array (Option Value)} {oc dc pm cd ct : Value} {i : Int} {t : Tok} (X : K.In h) (Gs : h.Ns mainGlobals mg) (n : Nat)
    (hn : n + 1 = ps.length)
    (b : ∀ (D : Addr) (doc pm : Value) (an : Option Addr) (cdv ct : Value) (us ks : List Value), us.length = n → ks.length = 1 → KwChain D ([y].zip ks) (bindArgs (PySem.W.fnOf x x (defArgs st) (defBody st) (defScope st) .none (.ref D) doc pm an cdv ct) ⟨us, []⟩) (ps.zip (us ++ ks)))
    (a : PySem.W.nsIn K mainGlobals x = some (some (.ref f))) (l : K.lookup f = some ⟨oc, od, .func (PySem.W.fnOf x x (defArgs st) (defBody st) (defScope st) .none (.ref D) dc pm an cd ct), sl⟩) (c : PySem.W.codeIn K cd x = true) (k : PySem.W.keepIn K (.ref f) = true)
    (d : PySem.W.nsIn K D y = some (some (.int i t))) : DfD ⟨P, w, K, mg, base⟩ x st ps [.int i] := by
  have hm := PySem.W.mg_of X Gs a
  have e : adr ⟨P, w, K, mg, base⟩ x = f := adr_of hm
  have F := fun_mk (st := st) l c k
  have FD : FunD K x x (defArgs st) (defBody st) (defScope st) [] [(y, .int i)] f _ := ⟨⟨oc, od, .none, .ref D, dc, pm, an, cd, ct, sl, rfl, l, c, .inl ⟨rfl, rfl⟩, .inr ⟨D, rfl, fun q hq => by
    rw [List.mem_singleton.mp hq]
    exact ⟨_, d, ⟨t, rfl⟩⟩⟩⟩, k⟩
  obtain ⟨ds, v, B⟩ := FD.binds0 (ps := ps) n (by simp) (by simpa using hn) b
  exact ⟨by rw [e]; exact hm, _, ds, [.int i], by rw [e]; exact F, B, v, fun H => .cons (.int i) .nil⟩
/-- no def in a slot -/
abbrev noF : Addr → TSp → Prop := fun _ _ => False
/-- the names of the module that are not there -/
structure NoG (G : Gx) (x : Str) : Prop where
  no : G.mg x = none
theorem glv_int {G : Gx} {x : Str} {i : Int} {t : Tok} (h : G.mg x = some (.int i t)) : GlV G x (.int i) := .inl ⟨_, h, .int i, ⟨t, rfl⟩, fun _ => .int i⟩
theorem glv_str {G : Gx} {x : Str} {s : Str} {t : Tok} (h : G.mg x = some (.str s t)) : GlV G x (.str s) := .inl ⟨_, h, .str s, ⟨t, rfl⟩, fun _ => .str s⟩
theorem glv_ref {G : Gx} {x : Str} {a : Addr} (h : G.mg x = some (.ref a)) : GlV G x (.ref a) := .inl ⟨_, h, .ref a, rfl, fun _ => .ref a⟩
theorem glv_ty {G : Gx} {x : Str} {n : String} (h : G.mg x = none) (b : bootBuiltins x = some (.type n)) : GlV G x (.ty n) := .inr ⟨_, h, b, .ty n, rfl, fun _ => .ty n⟩
theorem rvs_str {K : PySem.W.Frag} {H : Hp} : ∀ ss : List Str, Rvs K H (ss.map .str) (ss.map .str)
  | [] => .nil
  | s :: r => .cons (.str s) (rvs_str r)
theorem glv_two {P : Program} {w : World} {K : PySem.W.Frag} {base : Heap} {mg : Str → Option Value} {x : Str} {a : Addr} {s1 s2 : Str} {t1 t2 : Tok} {o : Obj} {n : Nat} (h : mg x = some (.ref a)) (l : K.lookup a = some o) (c : o.cls = .type "tuple") (d : o.data = .seq #[.str s1 t1, .str s2 t2] n) : GlV ⟨P, w, K, mg, base⟩ x (.tup [.str s1, .str s2]) :=
  .inl ⟨_, h, .ref a, rfl, fun _ => .tup (.inr ⟨o, _, n, l, c, d, (show 2 ≤ sizeLine by decide), (.cons (⟨t1, rfl⟩ : RelV (.str s1) (.str s1 t1)) (.cons (⟨t2, rfl⟩ : RelV (.str s2) (.str s2 t2)) .nil) : Vals [.str s1, .str s2] [.str s1 t1, .str s2 t2])⟩) (rvs_str [s1, s2]) (show 2 ≤ sizeLine by decide)⟩
/-! ### the law itself -/
/-- only the script is told -/
def onlyM (a : Addr) (xs : List TV) : TM := fun b => if b = a then some (.rls xs) else none
/-- a law: over every list of at most 63 ints it ends with True, and no exception -/
def lawS : TSp := fun xs M Q _ => ∃ (x : TV) (ns : List Int), xs = [x] ∧ ns.length ≤ 63 ∧ ((∃ a, x = .ref a ∧ M = onlyM a (ns.map .int)) ∨ (x = .kl (ns.map .int) ∧ M = fun _ => none)) ∧ ∀ M', Q (.bl true) M'
theorem law_start {K : PySem.W.Frag} {H : Hp} {a : Addr} {ns : List Int} (h : Only H) (s : SqL K H a (ns.map V.int)) (hn : ns.length ≤ 63) : LSp K lawS [.ref a] H (fun v _ => v = .bl true) (fun _ _ _ => False) := by
  have l63 : (ns.map TV.int).length ≤ sizeLine := by
    rw [List.length_map]
    exact Nat.le_trans hn (show 63 ≤ sizeLine by decide)
  rcases s with s | s
  · have hf : ∃ o, H a = some (.frz o (.lst (ns.map V.int))) := by
      rcases s with s | s
      · rcases h a with z | ⟨o, xs, z⟩ <;> rw [z] at s <;> cases s
      · exact s
    obtain ⟨o, hf⟩ := hf
    refine ⟨[.ref a], onlyM a (ns.map .int), (fun v _ => v = .bl true), (fun _ _ => False), .cons (.ref a) .nil, fun b ob e => ?_, ⟨.ref a, ns, rfl, hn, .inl ⟨a, rfl, rfl⟩, fun _ => rfl⟩, fun z z' H' M' _ r e => ?_, fun _ _ _ _ _ _ _ r => r⟩
    · unfold onlyM at e
      split at e
      · rename_i eb
        subst eb
        cases e
        exact ⟨o, _, hf, Rvs.of_ints ns, l63⟩
      · cases e
    · subst e
      cases r
      rfl
  · refine ⟨[.kl (ns.map .int)], fun _ => none, (fun v _ => v = .bl true), (fun _ _ => False), .cons (.kl s (Rvs.of_ints ns) l63) .nil, (fun b ob e => by cases e), ⟨_, ns, rfl, hn, .inr ⟨rfl, rfl⟩, fun _ => rfl⟩, fun z z' H' M' _ r e => ?_, fun _ _ _ _ _ _ _ r => r⟩
    subst e
    cases r
    rfl
theorem law_end {P : Program} {w : World} {H : Hp} {s s' : Shared} {e : Value} (h : L2.CX P w [] H s (fun _ _ _ => False) e s') : False := by
  obtain ⟨_, _, _, _, _, _, _, _, _, _, _, _, z⟩ := h
  exact z.elim
end TL

/-! TWp: the conditions, worked out. -/
namespace TL
open PySem PySem.Spec PyProof.Rows L2

/-! ### kinds -/
theorem kit_NoneType_int : kitB "NoneType" "int" = some false := by decide +kernel
theorem kit_NoneType_bool : kitB "NoneType" "bool" = some false := by decide +kernel
theorem kit_NoneType_tuple : kitB "NoneType" "tuple" = some false := by decide +kernel
theorem kit_NoneType_list : kitB "NoneType" "list" = some false := by decide +kernel
theorem kit_NoneType_str : kitB "NoneType" "str" = some false := by decide +kernel
theorem kit_NoneType_dict : kitB "NoneType" "dict" = some false := by decide +kernel
theorem kit_bool_int : kitB "bool" "int" = some true := by decide +kernel
theorem kit_bool_bool : kitB "bool" "bool" = some true := by decide +kernel
theorem kit_bool_tuple : kitB "bool" "tuple" = some false := by decide +kernel
theorem kit_bool_list : kitB "bool" "list" = some false := by decide +kernel
theorem kit_bool_str : kitB "bool" "str" = some false := by decide +kernel
theorem kit_bool_dict : kitB "bool" "dict" = some false := by decide +kernel
theorem kit_int_int : kitB "int" "int" = some true := by decide +kernel
theorem kit_int_bool : kitB "int" "bool" = some false := by decide +kernel
theorem kit_int_tuple : kitB "int" "tuple" = some false := by decide +kernel
theorem kit_int_list : kitB "int" "list" = some false := by decide +kernel
theorem kit_int_str : kitB "int" "str" = some false := by decide +kernel
theorem kit_int_dict : kitB "int" "dict" = some false := by decide +kernel
theorem kit_str_int : kitB "str" "int" = some false := by decide +kernel
theorem kit_str_bool : kitB "str" "bool" = some false := by decide +kernel
theorem kit_str_tuple : kitB "str" "tuple" = some false := by decide +kernel
theorem kit_str_list : kitB "str" "list" = some false := by decide +kernel
theorem kit_str_str : kitB "str" "str" = some true := by decide +kernel
theorem kit_str_dict : kitB "str" "dict" = some false := by decide +kernel
theorem kit_tuple_int : kitB "tuple" "int" = some false := by decide +kernel
theorem kit_tuple_bool : kitB "tuple" "bool" = some false := by decide +kernel
theorem kit_tuple_tuple : kitB "tuple" "tuple" = some true := by decide +kernel
theorem kit_tuple_list : kitB "tuple" "list" = some false := by decide +kernel
theorem kit_tuple_str : kitB "tuple" "str" = some false := by decide +kernel
theorem kit_tuple_dict : kitB "tuple" "dict" = some false := by decide +kernel
theorem kit_list_int : kitB "list" "int" = some false := by decide +kernel
theorem kit_list_bool : kitB "list" "bool" = some false := by decide +kernel
theorem kit_list_tuple : kitB "list" "tuple" = some false := by decide +kernel
theorem kit_list_list : kitB "list" "list" = some true := by decide +kernel
theorem kit_list_str : kitB "list" "str" = some false := by decide +kernel
theorem kit_list_dict : kitB "list" "dict" = some false := by decide +kernel
theorem kit_dict_int : kitB "dict" "int" = some false := by decide +kernel
theorem kit_dict_bool : kitB "dict" "bool" = some false := by decide +kernel
theorem kit_dict_tuple : kitB "dict" "tuple" = some false := by decide +kernel
theorem kit_dict_list : kitB "dict" "list" = some false := by decide +kernel
theorem kit_dict_str : kitB "dict" "str" = some false := by decide +kernel
theorem kit_dict_dict : kitB "dict" "dict" = some true := by decide +kernel
section
variable {M : TM}
theorem isi_non (t : String) : isiG M .non (.ty t) = kitB "NoneType" t := rfl
theorem isi_bl (b : Bool) (t : String) : isiG M (.bl b) (.ty t) = kitB "bool" t := rfl
theorem isi_int (b : Int) (t : String) : isiG M (.int b) (.ty t) = kitB "int" t := rfl
theorem isi_str (b : Str) (t : String) : isiG M (.str b) (.ty t) = kitB "str" t := rfl
theorem isi_tup (b : List TV) (t : String) : isiG M (.tup b) (.ty t) = kitB "tuple" t := rfl
theorem isi_lst {a : Addr} {xs : List TV} (h : lsM M a = some xs) (t : String) : isiG M (.ref a) (.ty t) = kitB "list" t := by
  have e : tyN M (.ref a) = some "list" := by
    unfold lsM at h
    unfold tyN
    split at h <;> rename_i q <;> first | (cases h; done) | (simp only [q]; done)
  show isiF M (.ref a) (.ty t) = _
  unfold isiF
  rw [e]
  rfl
theorem isiG_two {x : TV} {s t : String} : isiG M x (.tup [.ty s, .ty t]) = match tyN M x with
    | none => none
    | some n => (match kitB n s with
      | some true => some true
      | some false => (match kitB n t with
        | some true => some true
        | some false => some false
        | none => none)
      | none => none) := by
  show (if (tysL [.ty s, .ty t]).isSome then isiF M x (.tup [.ty s, .ty t]) else none) = _
  refine (if_pos (by rfl)).trans ?_
  unfold isiF
  cases tyN M x with
  | none => rfl
  | some n => rfl
/-! ### == -/
theorem eq_int (i j : Int) : eqF M (.int i) (.int j) = some (i == j) := rfl
theorem eq_bl (i j : Bool) : eqF M (.bl i) (.bl j) = some (i == j) := rfl
theorem eq_pair (a b c d : Int) : eqF M (.tup [.int a, .int b]) (.tup [.int c, .int d]) = some (a == c && (b == d && true)) := rfl
end
theorem exEq {α : Type} {a : α} {P : α → Prop} : (∃ x, some a = some x ∧ P x) ↔ P a := ⟨fun ⟨x, e, h⟩ => by cases e; exact h, fun h => ⟨a, rfl, h⟩⟩
theorem rtE {Q : TK} {R : TR} {v : TV} {M : TM} (h : Q v M) : (endsT Q R).rt v M := ⟨M, .refl M, h⟩
end TL

/-! TLem: loops, the hand. -/
namespace TL
open PySem PySem.Spec PyProof.Rows L2

/-- no promise at all -/
theorem Df.never {G : Gx} {x : Str} {st : Stmt} {ps : List Str} (D : Df G x st ps) (k : Nat) : HeldT G k (adr G x) (fun _ _ _ _ => False) := by
  obtain ⟨fd, Fu, Bi⟩ := D.fn
  refine ⟨fd, ps, [], [], [], fun _ _ _ _ => False, Fu.kp, Bi, .nil, fun _ => .nil, ⟨fun vs H Q E ⟨_, _, _, _, _, _, z, _⟩ => z.elim, fun _ _ _ _ _ _ _ _ _ _ _ _ _ ⟨_, _, _, _, _, _, z, _⟩ => z.elim⟩, fun _ _ _ _ z => z⟩
def prevS (sp : Nat → TSp) : Nat → TSp
  | 0 => fun _ _ _ _ => False
  | d + 1 => sp d
/-- a def that calls itself -/
theorem Df.recH {G : Gx} {F : Addr → TSp → Prop} {x : Str} {st : Stmt} {N ps : List Str} {k0 : Nat} (D : Df G x st ps) (S : FnScope N ps (defScope st)) (b : TSp → Sms) (ck : ∀ s, ckSs N (defScope st) (b s) (defBody st) = true) (ok : ∀ k s, k0 ≤ k → HeldT G k (adr G x) s → okSs G k (b s)) (hF : ∀ f sp, F f sp → HeldT G k0 f sp) (sp : Nat → TSp)
    (len : ∀ d xs M Q R, sp d xs M Q R → xs.length = ps.length) (vc : ∀ d xs M Q R, sp d xs M Q R → wSs F (b (prevS sp d)) (endsT Q R) (startT N xs) M) : ∀ d, HeldT G (k0 + d + 1) (adr G x) (sp d)
  | 0 => D.held (k := k0) S (ck _) (ok k0 (prevS sp 0) (Nat.le_refl _) (D.never _)) hF (len 0) (vc 0)
  | d + 1 => D.held (k := k0 + d + 1) S (ck _) (ok _ (prevS sp (d + 1)) (by omega) (Df.recH D S b ck ok hF sp len vc d)) (fun f s h => (hF f s h).mono (by omega)) (len (d + 1)) (vc (d + 1))
theorem tru_bl {M : TM} (b : Bool) : truT M (.bl b) = some b := rfl
theorem tru_non {M : TM} : truT M .non = some false := rfl
theorem tru_int {M : TM} (i : Int) : truT M (.int i) = some (i != 0) := rfl
theorem tru_tup {M : TM} (l : List TV) : truT M (.tup l) = some (!l.isEmpty) := rfl
section
variable {M : TM}
theorem bif_len {x : TV} {Q : TK} : wBif .len [x] M Q = ∃ n, lenF M x = some n ∧ Q (.int n) M := rfl
theorem bif_abs {i : Int} {Q : TK} : wBif .abs [.int i] M Q = Q (.int i.natAbs) M := rfl
theorem bif_int {i : Int} {Q : TK} : wBif .int [.int i] M Q = Q (.int i) M := propext ⟨fun ⟨_, e, h⟩ => by cases e; exact h, fun h => ⟨i, rfl, h⟩⟩
theorem bif_isi {x c : TV} {Q : TK} : wBif .isi [x, c] M Q = ∃ b, isiG M x c = some b ∧ Q (.bl b) M := rfl
theorem bif_tuple {x : TV} {Q : TK} : wBif .tuple [x] M Q = ∃ xs, seqM M x = some xs ∧ Q (.tup xs) M := rfl
theorem bif_list {x : TV} {Q : TK} : wBif .list [x] M Q = ∃ xs, seqM M x = some xs ∧ ∀ p, M p = none → Q (.ref p) (updM M p (.lst xs)) := rfl
theorem bif_sum {a : Addr} {Q : TK} : wBif .sum [.ref a] M Q = ∃ xs ns, lsM M a = some xs ∧ allI xs = some ns ∧ Q (.int ns.sum) M := rfl
theorem bif_all {a : Addr} {Q : TK} : wBif .all [.ref a] M Q = ∃ xs ns, lsM M a = some xs ∧ allB xs = some ns ∧ Q (.bl (ns.all id)) M := rfl
theorem bif_any {a : Addr} {Q : TK} : wBif .any [.ref a] M Q = ∃ xs ns, lsM M a = some xs ∧ allB xs = some ns ∧ Q (.bl (ns.any id)) M := rfl
theorem bif_min2 {i j : Int} {Q : TK} : wBif .min2 [.int i, .int j] M Q = Q (.int (min i j)) M := rfl
theorem bif_max2 {i j : Int} {Q : TK} : wBif .max2 [.int i, .int j] M Q = Q (.int (max i j)) M := rfl
theorem bif_minl {a : Addr} {Q : TK} : wBif .minl [.ref a] M Q = ∃ xs ns, lsM M a = some xs ∧ allI xs = some ns ∧ 0 < ns.length ∧ Q (.int (minL ns)) M := rfl
theorem bif_maxl {a : Addr} {Q : TK} : wBif .maxl [.ref a] M Q = ∃ xs ns, lsM M a = some xs ∧ allI xs = some ns ∧ 0 < ns.length ∧ Q (.int (maxL ns)) M := rfl
theorem bop_add_i {i j : Int} {Q : TK} : wBop .add (.int i) (.int j) M Q = Q (.int (i + j)) M := rfl
theorem bop_add_t {i j : List TV} {Q : TK} : wBop .add (.tup i) (.tup j) M Q = (i.length + j.length ≤ sizeLine ∧ Q (.tup (i ++ j)) M) := rfl
theorem bop_add_l {a b : Addr} {Q : TK} : wBop .add (.ref a) (.ref b) M Q = ∃ xs ys, M a = some (.lst xs) ∧ M b = some (.lst ys) ∧ xs.length + ys.length ≤ sizeLine ∧ ∀ p, M p = none → Q (.ref p) (updM M p (.lst (xs ++ ys))) := rfl
theorem bop_sub {i j : Int} {Q : TK} : wBop .sub (.int i) (.int j) M Q = Q (.int (i - j)) M := rfl
theorem bop_mul_i {i j : Int} {Q : TK} : wBop .mul (.int i) (.int j) M Q = ((((-(2 ^ 64) < i ∧ i < 2 ^ 64) ∨ (-(2 ^ 64) < j ∧ j < 2 ^ 64)) ∨ i.natAbs.log2 + j.natAbs.log2 < 1000000) ∧ Q (.int (i * j)) M) := rfl
theorem bop_fdiv {i j : Int} {Q : TK} : wBop .fdiv (.int i) (.int j) M Q = ((0 < j ∧ j.natAbs.log2 < 9000) ∧ Q (.int (i / j)) M) := rfl
theorem bop_mod {i j : Int} {Q : TK} : wBop .mod (.int i) (.int j) M Q = (0 < j ∧ Q (.int (i % j)) M) := rfl
theorem bop_pow {i j : Int} {Q : TK} : wBop .pow (.int i) (.int j) M Q = ((0 ≤ j ∧ j ≤ 1000000 ∧ i.natAbs < 2 ^ 64) ∧ Q (.int (i ^ j.toNat)) M) := rfl
theorem aug_add {i j : Int} {Q : TK} : wAug .add (.int i) (.int j) M Q = Q (.int (i + j)) M := rfl
theorem aug_sub {i j : Int} {Q : TK} : wAug .sub (.int i) (.int j) M Q = Q (.int (i - j)) M := rfl
theorem aug_mul {i j : Int} {Q : TK} : wAug .mul (.int i) (.int j) M Q = (((-(2 ^ 64) < i ∧ i < 2 ^ 64) ∨ (-(2 ^ 64) < j ∧ j < 2 ^ 64)) ∧ Q (.int (i * j)) M) := rfl
theorem seqM_tup (l : List TV) : seqM M (.tup l) = some l := rfl
theorem ix_tup (l : List TV) (i : Int) : ixF M (.tup l) (.int i) = atI l i := rfl
theorem ix_lst {a : Addr} {l : List TV} (h : lsM M a = some l) (i : Int) : ixF M (.ref a) (.int i) = atI l i := by
  show (match lsM M a with | some xs => atI xs i | none => none) = _
  rw [h]
theorem len_tup (l : List TV) : lenF M (.tup l) = some l.length := rfl
theorem len_lst {a : Addr} {l : List TV} (h : lsM M a = some l) : lenF M (.ref a) = some l.length := by
  show (match lsM M a with | some xs => some xs.length | none => none) = _
  rw [h]
theorem cmp_lt (i j : Int) : cmpF .lt M (.int i) (.int j) = some (decide (i < j)) := rfl
theorem cmp_le (i j : Int) : cmpF .le M (.int i) (.int j) = some (decide (i ≤ j)) := rfl
theorem cmp_gt (i j : Int) : cmpF .gt M (.int i) (.int j) = some (decide (j < i)) := rfl
theorem cmp_ge (i j : Int) : cmpF .ge M (.int i) (.int j) = some (decide (j ≤ i)) := rfl
theorem cmp_eq (x y : TV) : cmpF .eq M x y = eqF M x y := rfl
theorem cmp_ne (x y : TV) : cmpF .ne M x y = (eqF M x y).map not := rfl
theorem cmp_is (x y : TV) : cmpF .is M x y = isF x y := rfl
theorem cmp_isn (x y : TV) : cmpF .isn M x y = (isF x y).map not := rfl
theorem cmp_in (x y : TV) : cmpF .in M x y = inF M x y := rfl
theorem cmp_nin (x y : TV) : cmpF .nin M x y = (inF M x y).map not := rfl
theorem is_nn : isF .non .non = some true := rfl
theorem is_in (i : Int) : isF (.int i) .non = some false := rfl
theorem is_tn (l : List TV) : isF (.tup l) .non = some false := rfl
theorem tyn_int (i : Int) : tyN M (.int i) = some "int" := rfl
theorem tyn_str (i : Str) : tyN M (.str i) = some "str" := rfl
theorem tyn_tup (i : List TV) : tyN M (.tup i) = some "tuple" := rfl
end
theorem atI_0 {α : Type} {x : α} {l : List α} : atI (x :: l) 0 = some x := atI_nat (j := 0) rfl
theorem atI_1 {α : Type} {x y : α} {l : List α} : atI (x :: y :: l) 1 = some y := atI_nat (j := 1) rfl
theorem atI_2 {α : Type} {x y z : α} {l : List α} : atI (x :: y :: z :: l) 2 = some z := atI_nat (j := 2) rfl
theorem atI_3 {α : Type} {x y z w : α} {l : List α} : atI (x :: y :: z :: w :: l) 3 = some w := atI_nat (j := 3) rfl
theorem atI_4 {α : Type} {x y z w u : α} {l : List α} : atI (x :: y :: z :: w :: u :: l) 4 = some u := atI_nat (j := 4) rfl
theorem Subm.trans {A B C : TM} (h : Subm A B) (g : Subm B C) : Subm A C := fun a o e => g a o (h a o e)
theorem Subm.new {A B : TM} {p : Addr} {o : MO} (h : Subm A B) (n : B p = none) : Subm A (updM B p o) := fun a u e => by
  have ne : a ≠ p := fun z => by subst z; rw [h a u e] at n; cases n
  rw [updM_ne ne]
  exact h a u e
theorem Subm.fresh {A B : TM} {p : Addr} (h : Subm A B) (n : B p = none) : A p = none := by
  cases q : A p with
  | none => rfl
  | some o => rw [h p o q] at n; cases n
theorem Subm.upd {A B : TM} {p : Addr} {o : MO} (h : Subm A B) : Subm (updM A p o) (updM B p o) := fun a u e => by
  by_cases z : a = p
  · subst z; rw [updM_same] at e ⊢; exact e
  · rw [updM_ne z] at e ⊢; exact h a u e
theorem Subm.lsM {A B : TM} {a : Addr} {xs : List TV} (h : Subm A B) (e : lsM A a = some xs) : lsM B a = some xs := by
  unfold TL.lsM at e ⊢
  cases q : A a with
  | none => rw [q] at e; cases e
  | some o => rw [q] at e; rw [h a o q]; exact e
theorem lsM_upd {M : TM} {p : Addr} {xs : List TV} : lsM (updM M p (.lst xs)) p = some xs := by unfold TL.lsM; rw [updM_same]
theorem Subm.chk {A B : TM} {x : TV} {xs : List TV} (h : Subm A B) (e : seqM A x = some xs) : chkS A x xs B := by
  cases x <;> first | trivial | skip
  exact h.lsM e
/-- a result and what is forgotten -/
theorem rtF {Q : TK} {R : TR} {v : TV} {M M0 : TM} (s : Subm M0 M) (h : Q v M0) : (endsT Q R).rt v M := ⟨M0, s, h⟩
theorem nxF {Q : TK} {R : TR} {σ : TSt} {M M0 : TM} (s : Subm M0 M) (h : Q .non M0) : (endsT Q R).nx σ M := ⟨M0, s, h⟩
/-! ### comprehensions -/
theorem lcL_map {chk : TM → Prop} {step : List TV → TV → TM → (List TV → TM → Prop) → Prop} {fin : List TV → TM → Prop} (f : TV → TV) : ∀ {items : List TV} {acc : List TV} {M0 M : TM}, Subm M0 M → (∀ M, Subm M0 M → chk M) →
    (∀ x ∈ items, ∀ acc M k, Subm M0 M → (∀ M', Subm M M' → k (acc ++ [f x]) M') → step acc x M k) → (∀ M', Subm M0 M' → fin (acc ++ items.map f) M') → lcL chk step fin items acc M
  | [], acc, M0, M, h, hc, hs, hf => ⟨hc M h, by simpa using hf M h⟩
  | x :: r, acc, M0, M, h, hc, hs, hf => ⟨hc M h, hs x List.mem_cons_self acc M _ h fun M' h' => lcL_map f (items := r) (h.trans h') hc (fun y hy => hs y (List.mem_cons_of_mem _ hy)) (by simpa using hf)⟩
theorem lcL_inv {chk : TM → Prop} {step : List TV → TV → TM → (List TV → TM → Prop) → Prop} {fin : List TV → TM → Prop} (I : List TV → List TV → TM → Prop) : ∀ {items : List TV} {done acc : List TV} {M : TM}, I done acc M → (∀ d acc M, I d acc M → chk M) →
    (∀ d x acc M k, I d acc M → (∀ acc' M', I (d ++ [x]) acc' M' → k acc' M') → step acc x M k) → (∀ acc M, I (done ++ items) acc M → fin acc M) → lcL chk step fin items acc M
  | [], d, acc, M, h, hc, hs, hf => ⟨hc _ _ _ h, hf _ _ (by simpa using h)⟩
  | x :: r, d, acc, M, h, hc, hs, hf => ⟨hc _ _ _ h, hs d x acc M _ h fun acc' M' h' => lcL_inv I (items := r) h' hc hs (by simpa using hf)⟩
theorem foL_inv {chk : TM → Prop} {step : TV → (TSt → TM → Prop) → TSt → TM → Prop} {fin : TSt → TM → Prop} (I : List TV → TSt → TM → Prop) : ∀ {items d : List TV} {σ : TSt} {M : TM}, I d σ M → (∀ d σ M, I d σ M → chk M) →
    (∀ d x r k σ M, d ++ x :: r = d ++ x :: r → I d σ M → (∀ σ' M', I (d ++ [x]) σ' M' → k σ' M') → step x k σ M) → (∀ σ M, I (d ++ items) σ M → fin σ M) → foL chk step fin items σ M
  | [], d, σ, M, h, hc, hs, hf => ⟨hc _ _ _ h, hf _ _ (by simpa using h)⟩
  | x :: r, d, σ, M, h, hc, hs, hf => ⟨hc _ _ _ h, hs d x r _ σ M rfl h fun σ' M' h' => foL_inv I (items := r) h' hc hs (by simpa using hf)⟩
/-- the same, the items' own places known -/
theorem foL_at {chk : TM → Prop} {step : TV → (TSt → TM → Prop) → TSt → TM → Prop} {fin : TSt → TM → Prop} (I : List TV → List TV → TSt → TM → Prop) : ∀ {items d : List TV} {σ : TSt} {M : TM}, I d items σ M → (∀ d r σ M, I d r σ M → chk M) →
    (∀ d x r k σ M, I d (x :: r) σ M → (∀ σ' M', I (d ++ [x]) r σ' M' → k σ' M') → step x k σ M) → (∀ d σ M, I d [] σ M → fin σ M) → foL chk step fin items σ M
  | [], d, σ, M, h, hc, hs, hf => ⟨hc _ _ _ _ h, hf _ _ _ h⟩
  | x :: r, d, σ, M, h, hc, hs, hf => ⟨hc _ _ _ _ h, hs d x r _ σ M h fun σ' M' h' => foL_at I (items := r) h' hc hs hf⟩
/-! ### the hand -/
/-- a hand: its list, that of its cells, these -/
structure Hn where
  a : Addr
  c : Addr
  cells : List Int
  ne : c ≠ a
  pos : ∀ z ∈ cells, 0 ≤ z
def HandOk (M : TM) (h : Hn) : Prop := ∃ (i h2 h3 h4 : Int), M h.a = some (.lst [.ref h.c, .int i, .int h2, .int h3, .int h4]) ∧ M h.c = some (.lst (h.cells.map .int)) ∧ 0 ≤ i ∧ 0 ≤ h2
/-- the hand has gone on, all else is as it was -/
def Hd (h : Hn) (M M' : TM) : Prop := HandOk M' h ∧ ∀ b, b ≠ h.a → M' b = M b
/-- the hand has gone on, there is more -/
def Xt (h : Hn) (M M' : TM) : Prop := HandOk M h ∧ HandOk M' h ∧ ∀ b o, b ≠ h.a → M b = some o → M' b = some o
section
variable {h : Hn} {M M' M1 M2 : TM}
theorem HandOk.some (k : HandOk M h) : M h.a ≠ none := by
  obtain ⟨i, h2, h3, h4, e, _⟩ := k
  rw [e]; simp
theorem HandOk.ne {p : Addr} (k : HandOk M h) (n : M p = none) : p ≠ h.a := fun e => by subst e; exact k.some n
theorem Xt.refl (k : HandOk M h) : Xt h M M := ⟨k, k, fun _ _ _ e => e⟩
theorem Xt.hd (x : Xt h M M1) (k : Hd h M1 M2) : Xt h M M2 := ⟨x.1, k.1, fun b o n e => by rw [k.2 b n]; exact x.2.2 b o n e⟩
theorem Hd.refl (k : HandOk M h) : Hd h M M := ⟨k, fun _ _ => rfl⟩
theorem Hd.trans (x : Hd h M M1) (k : Hd h M1 M2) : Hd h M M2 := ⟨k.1, fun b n => by rw [k.2 b n, x.2 b n]⟩
theorem HandOk.sub (k : HandOk M h) (s : Subm M M') : HandOk M' h := by
  obtain ⟨i, h2, h3, h4, e, f, r⟩ := k
  exact ⟨i, h2, h3, h4, s _ _ e, s _ _ f, r⟩
theorem Xt.sub (x : Xt h M M1) (k : Subm M1 M2) : Xt h M M2 := ⟨x.1, x.2.1.sub k, fun b o n e => k _ _ (x.2.2 b o n e)⟩
theorem Xt.new {p : Addr} {o : MO} (x : Xt h M M1) (n : M1 p = none) : Xt h M (updM M1 p o) := x.sub (Subm.new (.refl _) n)
/-- a hand's def ends -/
theorem rtH {Q : TK} {R : TR} {v : TV} (x : Xt h M M1) (k : ∀ M', Hd h M M' → Q v M') : (endsT Q R).rt v M1 := by
  obtain ⟨i, h2, h3, h4, e, f, r⟩ := x.2.1
  obtain ⟨_, _, _, _, _, f0, _⟩ := x.1
  refine ⟨fun b => if b = h.a then M1 h.a else M b, fun b o e => ?_, k _ ⟨⟨i, h2, h3, h4, ?_, ?_, r⟩, fun b n => if_neg n⟩⟩
  · dsimp only at e
    split at e
    · rename_i z; subst z; exact e
    · rename_i z; exact x.2.2 b o z e
  · exact (if_pos rfl).trans e
  · exact (if_neg h.ne).trans f0
end
end TL

/-! TPlan: plans. -/
namespace TL
open PySem PySem.Spec PyProof.Rows L2

mutual
inductive Pl where
  | place (l w : Int)
  | rep (c : Bool) (n : Int) (p : Pl)
  | join (r : Bool) (ps : Pls)
inductive Pls where
  | nil
  | cons (p : Pl) (r : Pls)
end
def wRep (c : Bool) : Str := if c then "copies" else "times"
def wJoin (r : Bool) : Str := if r then "row" else "beside"
mutual
def Pl.tv : Pl → TV
  | .place l w => .tup [.int l, .int w]
  | .rep c n p => .tup [.str (wRep c), .int n, p.tv]
  | .join r ps => .tup [.str (wJoin r), .tup ps.tvs]
def Pls.tvs : Pls → List TV
  | .nil => []
  | .cons p r => p.tv :: r.tvs
end
def Pls.len : Pls → Nat
  | .nil => 0
  | .cons _ r => r.len + 1
mutual
def Pl.dep : Pl → Nat
  | .place _ _ => 0
  | .rep _ _ p => p.dep + 1
  | .join _ ps => ps.dep + 1
def Pls.dep : Pls → Nat
  | .nil => 0
  | .cons p r => max p.dep r.dep
end
mutual
def Pl.size : Pl → Nat
  | .place _ _ => 1
  | .rep _ _ p => p.size + 1
  | .join _ ps => ps.size + 1
def Pls.size : Pls → Nat
  | .nil => 0
  | .cons p r => p.size + r.size
end
mutual
/-- sums over the places written out, each copy by itself -/
def Pl.val (f : Int → Int → Int) : Pl → Int
  | .place l w => f l w
  | .rep _ n p => n * p.val f
  | .join _ ps => ps.val f
def Pls.val (f : Int → Int → Int) : Pls → Int
  | .nil => 0
  | .cons p r => p.val f + r.val f
end
abbrev Pl.cnt (p : Pl) : Int := p.val fun _ _ => 1
abbrev Pl.tl (p : Pl) : Int := p.val fun l _ => l
abbrev Pl.tw (p : Pl) : Int := p.val fun _ w => w
mutual
/-- numbers and parts as they may be -/
def Pl.ok : Pl → Prop
  | .place l w => 0 ≤ l ∧ l < 1000000000000 ∧ 0 ≤ w ∧ w < 1000000000000 ∧ ¬ (l = 0 ∧ w = 0)
  | .rep _ n p => 1 ≤ n ∧ n ≤ 1000000000000000000000000000000 ∧ p.ok
  | .join _ ps => 1 ≤ ps.len ∧ ps.len ≤ 12 ∧ ps.ok
def Pls.ok : Pls → Prop
  | .nil => True
  | .cons p r => p.ok ∧ r.ok
end
def Pl.isP : Pl → Bool
  | .place _ _ => true
  | _ => false
theorem Pls.tvs_len : ∀ ps : Pls, ps.tvs.length = ps.len
  | .nil => rfl
  | .cons _ r => by simp only [Pls.tvs, Pls.len, List.length_cons, Pls.tvs_len r]
mutual
theorem Pl.size_pos : ∀ p : Pl, 1 ≤ p.size
  | .place _ _ => Nat.le_refl _
  | .rep _ _ p => Nat.le_add_left _ _
  | .join _ ps => Nat.le_add_left _ _
end
theorem Pls.mem_tvs : ∀ {ps : Pls} {x : TV}, x ∈ ps.tvs → ∃ p : Pl, x = p.tv ∧ p.dep ≤ ps.dep ∧ p.size ≤ ps.size ∧ (ps.ok → p.ok)
  | .nil, _, h => by cases h
  | .cons p r, x, h => by
    rcases List.mem_cons.mp h with e | h
    · exact ⟨p, e, Nat.le_max_left _ _, Nat.le_add_right _ _, fun o => o.1⟩
    · obtain ⟨q, e, d, z, o⟩ := Pls.mem_tvs h
      exact ⟨q, e, Nat.le_trans d (Nat.le_max_right _ _), Nat.le_trans z (Nat.le_add_left _ _), fun k => o k.2⟩
theorem add_le_mul {a b : Int} (ha : 2 ≤ a) (hb : 2 ≤ b) : a + b ≤ a * b := by
  rcases Int.le_total a b with h | h
  · have := Int.mul_le_mul_of_nonneg_right ha (show 0 ≤ b by omega)
    omega
  · have := Int.mul_le_mul_of_nonneg_left hb (show 0 ≤ a by omega)
    omega
theorem two_pow_ge {k : Nat} (h : 1 ≤ k) : (2 : Int) ≤ 2 ^ (128 * k) := by
  have e : 128 * k = (128 * k - 1) + 1 := by omega
  rw [e, Int.pow_succ]
  have : (0 : Int) < 2 ^ (128 * k - 1) := Int.pow_pos (by decide)
  omega
mutual
theorem Pl.val_le {f : Int → Int → Int} (hf : ∀ l w, (Pl.place l w).ok → 0 ≤ f l w ∧ f l w ≤ 2 ^ 128) : ∀ p : Pl, p.ok → 0 ≤ p.val f ∧ p.val f ≤ 2 ^ (128 * p.size)
  | .place l w, ok => hf l w ok
  | .rep _ n p, ok => by
    obtain ⟨h1, h2, h3⟩ := ok
    obtain ⟨a, b⟩ := Pl.val_le hf p h3
    simp only [Pl.val, Pl.size]
    refine ⟨Int.mul_nonneg (by omega) a, ?_⟩
    have e : 128 * (p.size + 1) = 128 + 128 * p.size := by omega
    rw [e, Int.pow_add]
    exact Int.mul_le_mul (by omega) b a (by decide)
  | .join _ ps, ok => by
    obtain ⟨h1, h2, h3⟩ := ok
    obtain ⟨a, b, _⟩ := Pls.val_le hf ps h3
    simp only [Pl.val, Pl.size]
    refine ⟨a, Int.le_trans b ?_⟩
    have e : 128 * (ps.size + 1) = 128 + 128 * ps.size := by omega
    rw [e, Int.pow_add]
    have : (0 : Int) < 2 ^ (128 * ps.size) := Int.pow_pos (by decide)
    have := Int.mul_le_mul_of_nonneg_right (show (1 : Int) ≤ 2 ^ 128 by decide) (Int.le_of_lt this)
    omega
theorem Pls.val_le {f : Int → Int → Int} (hf : ∀ l w, (Pl.place l w).ok → 0 ≤ f l w ∧ f l w ≤ 2 ^ 128) : ∀ ps : Pls, ps.ok → 0 ≤ ps.val f ∧ ps.val f ≤ 2 ^ (128 * ps.size) ∧ (ps.size = 0 → ps.val f = 0)
  | .nil, _ => ⟨Int.le_refl 0, Int.le_of_lt (Int.pow_pos (by decide)), fun _ => rfl⟩
  | .cons p r, ok => by
    obtain ⟨a, b⟩ := Pl.val_le hf p ok.1
    obtain ⟨c, d, e⟩ := Pls.val_le hf r ok.2
    have hp := p.size_pos
    simp only [Pls.val, Pls.size]
    refine ⟨by omega, ?_, by omega⟩
    by_cases z : r.size = 0
    · rw [e z, z]
      simpa using b
    · have e1 : 128 * (p.size + r.size) = 128 * p.size + 128 * r.size := by omega
      rw [e1, Int.pow_add]
      have := add_le_mul (two_pow_ge hp) (two_pow_ge (show 1 ≤ r.size by omega))
      omega
end
theorem log_le {v : Int} {k : Nat} (h0 : 0 ≤ v) (h : v ≤ 2 ^ k) : v.natAbs.log2 ≤ k := by
  have h1 : v.natAbs ≤ 2 ^ k := by
    have : ((v.natAbs : Nat) : Int) ≤ ((2 ^ k : Nat) : Int) := by
      rw [Int.natCast_pow]
      have e : ((v.natAbs : Nat) : Int) = v := by omega
      rw [e]; exact h
    exact Int.ofNat_le.mp this
  by_cases z : v.natAbs = 0
  · rw [z]; simp
  · have h2 : v.natAbs < 2 ^ (k + 1) := by rw [Nat.pow_succ]; have : 0 < 2 ^ k := Nat.pow_pos (by decide); omega
    have := (Nat.log2_lt z).mpr h2
    omega
/-- a product that the model lets -/
theorem mul_fits {f : Int → Int → Int} (hf : ∀ l w, (Pl.place l w).ok → 0 ≤ f l w ∧ f l w ≤ 2 ^ 128) {p : Pl} {n : Int} (ok : p.ok) (hz : p.size ≤ 1000) (h1 : 1 ≤ n) (h2 : n ≤ 1000000000000000000000000000000) : n.natAbs.log2 + (p.val f).natAbs.log2 < 1000000 := by
  obtain ⟨a, b⟩ := Pl.val_le hf p ok
  have l1 := log_le a b
  have l2 := log_le (k := 128) (show 0 ≤ n by omega) (by omega)
  omega
theorem f_cnt : ∀ l w, (Pl.place l w).ok → 0 ≤ (fun _ _ => 1 : Int → Int → Int) l w ∧ (fun _ _ => 1 : Int → Int → Int) l w ≤ 2 ^ 128 := fun _ _ _ => ⟨(by decide : (0 : Int) ≤ 1), (by decide : (1 : Int) ≤ 2 ^ 128)⟩
theorem f_tl : ∀ l w, (Pl.place l w).ok → 0 ≤ (fun l _ => l : Int → Int → Int) l w ∧ (fun l _ => l : Int → Int → Int) l w ≤ 2 ^ 128 := fun l w ok => by
  obtain ⟨a, b, c, d, e⟩ := ok
  dsimp only
  omega
theorem f_tw : ∀ l w, (Pl.place l w).ok → 0 ≤ (fun _ w => w : Int → Int → Int) l w ∧ (fun _ w => w : Int → Int → Int) l w ≤ 2 ^ 128 := fun l w ok => by
  obtain ⟨a, b, c, d, e⟩ := ok
  dsimp only
  omega
def Pls.map (g : Pl → TV) : Pls → List TV
  | .nil => []
  | .cons p r => g p :: r.map g
def Pls.ints (f : Pl → Int) : Pls → List Int
  | .nil => []
  | .cons p r => f p :: r.ints f
def Pls.all (P : Pl → Prop) : Pls → Prop
  | .nil => True
  | .cons p r => P p ∧ r.all P
theorem Pls.all_imp {P Q : Pl → Prop} (h : ∀ p, P p → Q p) : ∀ {ps : Pls}, ps.all P → ps.all Q
  | .nil, _ => trivial
  | .cons p r, a => ⟨h p a.1, Pls.all_imp h a.2⟩
theorem Pls.all_of (ps : Pls) : ∀ {P : Pl → Prop}, (∀ p : Pl, p.dep ≤ ps.dep → p.size ≤ ps.size → True → (ps.ok → p.ok) → P p) → ps.all P := by
  induction ps using Pls.rec (motive_1 := fun _ => True) with
  | place => trivial
  | rep => trivial
  | join => trivial
  | nil => intro P h; trivial
  | cons p r _ ih =>
    intro P h
    refine ⟨h p (Nat.le_max_left _ _) (Nat.le_add_right _ _) trivial fun o => o.1, ih fun q a b _ c => h q (Nat.le_trans a (Nat.le_max_right _ _)) (Nat.le_trans b (Nat.le_add_left _ _)) trivial fun o => c o.2⟩
theorem Pls.ints_sum (f : Int → Int → Int) : ∀ ps : Pls, (ps.ints (·.val f)).sum = ps.val f
  | .nil => rfl
  | .cons p r => by simp only [Pls.ints, List.sum_cons, Pls.val, Pls.ints_sum f r]
def Pl.pair (p : Pl) : TV := .tup [.int p.tl, .int p.tw]
theorem allI_map' (f : Pl → Int) : ∀ ps : Pls, allI (ps.map fun p => .int (f p)) = some (ps.ints f)
  | .nil => rfl
  | .cons p r => by simp only [Pls.map, Pls.ints, allI, allI_map' f r]
theorem lcL_pls {chk : TM → Prop} {step : List TV → TV → TM → (List TV → TM → Prop) → Prop} {fin : List TV → TM → Prop} (g : Pl → TV) (P : Pl → Prop) : ∀ {ps : Pls} {acc : List TV} {M0 M : TM}, Subm M0 M → (∀ M, Subm M0 M → chk M) →
    (∀ p, P p → ∀ acc M k, Subm M0 M → (∀ M', Subm M M' → k (acc ++ [g p]) M') → step acc p.tv M k) → ps.all P → (∀ M', Subm M0 M' → fin (acc ++ ps.map g) M') → lcL chk step fin ps.tvs acc M
  | .nil, acc, M0, M, h, hc, hs, _, hf => ⟨hc M h, by simpa [Pls.map] using hf M h⟩
  | .cons p r, acc, M0, M, h, hc, hs, ha, hf => ⟨hc M h, hs p ha.1 acc M _ h fun M' h' => lcL_pls g P (ps := r) (h.trans h') hc hs ha.2 (by simpa [Pls.map] using hf)⟩
theorem Pls.mem_map {g : Pl → TV} : ∀ {ps : Pls} {x : TV}, x ∈ ps.map g → ∃ p, x = g p
  | .cons p r, x, h => by
    rcases List.mem_cons.mp h with e | h
    · exact ⟨p, e⟩
    · exact Pls.mem_map h
  | .nil, x, h => by cases h
/-- a pair's first, its second -/
def fst : TV → TV
  | .tup [a, _] => a
  | x => x
def snd : TV → TV
  | .tup [_, b] => b
  | x => x
theorem allI_fst : ∀ ps : Pls, allI ((ps.map Pl.pair).map fst) = some (ps.ints fun p => p.tl)
  | .nil => rfl
  | .cons p r => by simp only [Pls.map, List.map_cons, Pls.ints, Pl.pair, fst, allI, allI_fst r]
theorem allI_snd : ∀ ps : Pls, allI ((ps.map Pl.pair).map snd) = some (ps.ints fun p => p.tw)
  | .nil => rfl
  | .cons p r => by simp only [Pls.map, List.map_cons, Pls.ints, Pl.pair, snd, allI, allI_snd r]
end TL

namespace TL
open PySem PySem.Spec PyProof.Rows L2
def topS (i : Nat) : Stmt := PySem.Challenge.pw_soonfound_k03_whole_totals_and_sizes.main.body.getD i (.Pass ⟨0, 0, 0, 0⟩)
abbrev n_is_int : List Str := ["thing"]
abbrev p_is_int : List Str := ["thing"]
def b_is_int (G : Gx) : Sms :=
  (.cons (.ret (.and (.bi .isi (.cons (.loc 0) (.cons (.glb "int" (.ty "int")) .nil))) (.nt (.bi .isi (.cons (.loc 0) (.cons (.glb "bool" (.ty "bool")) .nil))))))
    .nil)
abbrev t_is_int : Stmt := topS 8
theorem sc_is_int : FnScope n_is_int p_is_int (defScope t_is_int) := ⟨rfl, rfl, rfl, by decide +kernel, rfl, by decide +kernel, by decide +kernel⟩
theorem ck_is_int {G : Gx} : ckSs n_is_int (defScope t_is_int) (b_is_int G) (defBody t_is_int) = true := by rfl
theorem bi_is_int {K : PySem.W.Frag} {f : Addr} {fd : FuncData} (F : Fun K "is_int" "is_int" t_is_int f fd) : Binds K fd p_is_int [] := F.binds fun _ _ _ _ _ _ us hl => match us, hl with | [_], _ => rfl
abbrev n_is_within : List Str := ["thing", "least", "greatest"]
abbrev p_is_within : List Str := ["thing", "least", "greatest"]
def b_is_within (G : Gx) (s_is_int : TSp) : Sms :=
  (.cons (.ret (.and (.call "is_int" (adr G "is_int") s_is_int (.cons (.loc 0) .nil)) (.chn .le .le (.loc 1) (.loc 0) (.loc 2))))
    .nil)
abbrev t_is_within : Stmt := topS 9
theorem sc_is_within : FnScope n_is_within p_is_within (defScope t_is_within) := ⟨rfl, rfl, rfl, by decide +kernel, rfl, by decide +kernel, by decide +kernel⟩
theorem ck_is_within {G : Gx} {s_is_int : TSp} : ckSs n_is_within (defScope t_is_within) (b_is_within G s_is_int) (defBody t_is_within) = true := by rfl
theorem bi_is_within {K : PySem.W.Frag} {f : Addr} {fd : FuncData} (F : Fun K "is_within" "is_within" t_is_within f fd) : Binds K fd p_is_within [] := F.binds fun _ _ _ _ _ _ us hl => match us, hl with | [_, _, _], _ => rfl
abbrev n_is_pair : List Str := ["thing"]
abbrev p_is_pair : List Str := ["thing"]
def b_is_pair (G : Gx) (s_is_int : TSp) : Sms :=
  (.cons (.ret (.and (.bi .isi (.cons (.loc 0) (.cons (.glb "tuple" (.ty "tuple")) .nil))) (.and (.cmp .eq (.bi .len (.cons (.loc 0) .nil)) (.cst (.int 2))) (.and (.call "is_int" (adr G "is_int") s_is_int (.cons (.ix (.loc 0) (.cst (.int 0))) .nil)) (.call "is_int" (adr G "is_int") s_is_int (.cons (.ix (.loc 0) (.cst (.int 1))) .nil))))))
    .nil)
abbrev t_is_pair : Stmt := topS 10
theorem sc_is_pair : FnScope n_is_pair p_is_pair (defScope t_is_pair) := ⟨rfl, rfl, rfl, by decide +kernel, rfl, by decide +kernel, by decide +kernel⟩
theorem ck_is_pair {G : Gx} {s_is_int : TSp} : ckSs n_is_pair (defScope t_is_pair) (b_is_pair G s_is_int) (defBody t_is_pair) = true := by rfl
theorem bi_is_pair {K : PySem.W.Frag} {f : Addr} {fd : FuncData} (F : Fun K "is_pair" "is_pair" t_is_pair f fd) : Binds K fd p_is_pair [] := F.binds fun _ _ _ _ _ _ us hl => match us, hl with | [_], _ => rfl
abbrev n_is_step : List Str := ["thing"]
abbrev p_is_step : List Str := ["thing"]
def b_is_step (G : Gx) (s_is_pair : TSp) : Sms :=
  (.cons (.ret (.and (.call "is_pair" (adr G "is_pair") s_is_pair (.cons (.loc 0) .nil)) (.and (.cmp .ge (.ix (.loc 0) (.cst (.int 0))) (.cst (.int 0))) (.and (.cmp .ge (.ix (.loc 0) (.cst (.int 1))) (.cst (.int 0))) (.cmp .ne (.loc 0) (.tup (.cons (.cst (.int 0)) (.cons (.cst (.int 0)) .nil))))))))
    .nil)
abbrev t_is_step : Stmt := topS 11
theorem sc_is_step : FnScope n_is_step p_is_step (defScope t_is_step) := ⟨rfl, rfl, rfl, by decide +kernel, rfl, by decide +kernel, by decide +kernel⟩
theorem ck_is_step {G : Gx} {s_is_pair : TSp} : ckSs n_is_step (defScope t_is_step) (b_is_step G s_is_pair) (defBody t_is_step) = true := by rfl
theorem bi_is_step {K : PySem.W.Frag} {f : Addr} {fd : FuncData} (F : Fun K "is_step" "is_step" t_is_step f fd) : Binds K fd p_is_step [] := F.binds fun _ _ _ _ _ _ us hl => match us, hl with | [_], _ => rfl
abbrev n_is_place : List Str := ["thing"]
abbrev p_is_place : List Str := ["thing"]
def b_is_place (G : Gx) (s_is_step : TSp) : Sms :=
  (.cons (.ret (.and (.call "is_step" (adr G "is_step") s_is_step (.cons (.loc 0) .nil)) (.and (.cmp .lt (.ix (.loc 0) (.cst (.int 0))) (.glb "MOST_NUMBER" (.int 1000000000000))) (.cmp .lt (.ix (.loc 0) (.cst (.int 1))) (.glb "MOST_NUMBER" (.int 1000000000000))))))
    .nil)
abbrev t_is_place : Stmt := topS 12
theorem sc_is_place : FnScope n_is_place p_is_place (defScope t_is_place) := ⟨rfl, rfl, rfl, by decide +kernel, rfl, by decide +kernel, by decide +kernel⟩
theorem ck_is_place {G : Gx} {s_is_step : TSp} : ckSs n_is_place (defScope t_is_place) (b_is_place G s_is_step) (defBody t_is_place) = true := by rfl
theorem bi_is_place {K : PySem.W.Frag} {f : Addr} {fd : FuncData} (F : Fun K "is_place" "is_place" t_is_place f fd) : Binds K fd p_is_place [] := F.binds fun _ _ _ _ _ _ us hl => match us, hl with | [_], _ => rfl
abbrev n_check_most : List Str := ["most", "greatest"]
abbrev p_check_most : List Str := ["most", "greatest"]
def b_check_most (G : Gx) (s_is_within : TSp) : Sms :=
  (.cons (.ife (.nt (.val (.call "is_within" (adr G "is_within") s_is_within (.cons (.loc 0) (.cons (.cst (.int 1)) (.cons (.loc 1) .nil)))))) (.cons .never
    .nil) .nil)
    .nil)
abbrev t_check_most : Stmt := topS 13
theorem sc_check_most : FnScope n_check_most p_check_most (defScope t_check_most) := ⟨rfl, rfl, rfl, by decide +kernel, rfl, by decide +kernel, by decide +kernel⟩
theorem ck_check_most {G : Gx} {s_is_within : TSp} : ckSs n_check_most (defScope t_check_most) (b_check_most G s_is_within) (defBody t_check_most) = true := by rfl
theorem bi_check_most {K : PySem.W.Frag} {f : Addr} {fd : FuncData} (F : Fun K "check_most" "check_most" t_check_most f fd) : Binds K fd p_check_most [] := F.binds fun _ _ _ _ _ _ us hl => match us, hl with | [_, _], _ => rfl
abbrev n_counted : List Str := ["thing", "left", "is_leaf", "words", "found", "part", "below"]
abbrev p_counted : List Str := ["thing", "left", "is_leaf", "words"]
def b_counted (G : Gx) (s_counted s_is_within : TSp) : Sms :=
  (.cons (.ife (.val (.cav 2 (.cons (.loc 0) .nil))) (.cons (.ret (.cst (.int 1)))
    .nil) .nil)
    (.cons (.ife (.or (.val (.cmp .eq (.loc 1) (.cst (.int 0)))) (.or (.nt (.val (.bi .isi (.cons (.loc 0) (.cons (.glb "tuple" (.ty "tuple")) .nil))))) (.or (.val (.cmp .lt (.bi .len (.cons (.loc 0) .nil)) (.cst (.int 2)))) (.nt (.val (.bi .isi (.cons (.ix (.loc 0) (.cst (.int 0))) (.cons (.glb "str" (.ty "str")) .nil)))))))) (.cons (.ret (.cst .non))
    .nil) .nil)
    (.cons (.ife (.val (.cmp .in (.ix (.loc 0) (.cst (.int 0))) (.glb "REPEATS" (.tup [(.str "times"), (.str "copies")])))) (.cons (.ife (.or (.val (.cmp .ne (.bi .len (.cons (.loc 0) .nil)) (.cst (.int 3)))) (.nt (.val (.call "is_within" (adr G "is_within") s_is_within (.cons (.ix (.loc 0) (.cst (.int 1))) (.cons (.cst (.int 1)) (.cons (.glb "MOST_TIMES" (.int 1000000000000000000000000000000)) .nil))))))) (.cons (.ret (.cst .non))
    .nil) .nil)
    (.cons (.set 6 (.call "counted" (adr G "counted") s_counted (.cons (.ix (.loc 0) (.cst (.int 2))) (.cons (.bin .sub (.loc 1) (.cst (.int 1))) (.cons (.loc 2) (.cons (.loc 3) .nil))))))
    (.cons (.ret (.ite (.val (.cmp .is (.loc 6) (.cst .non))) (.cst .non) (.bin .add (.loc 6) (.cst (.int 1)))))
    .nil))) .nil)
    (.cons (.ife (.or (.val (.cmp .nin (.ix (.loc 0) (.cst (.int 0))) (.loc 3))) (.val (.cmp .ne (.bi .len (.cons (.loc 0) .nil)) (.cst (.int 2))))) (.cons (.ret (.cst .non))
    .nil) .nil)
    (.cons (.ife (.or (.nt (.val (.bi .isi (.cons (.ix (.loc 0) (.cst (.int 1))) (.cons (.glb "tuple" (.ty "tuple")) .nil))))) (.nt (.val (.chn .le .le (.cst (.int 1)) (.bi .len (.cons (.ix (.loc 0) (.cst (.int 1))) .nil)) (.glb "MOST_PARTS" (.int 12)))))) (.cons (.ret (.cst .non))
    .nil) .nil)
    (.cons (.set 4 (.cst (.int 1)))
    (.cons (.fr (.name 5) (.seq (.ix (.loc 0) (.cst (.int 1)))) (.cons (.set 6 (.call "counted" (adr G "counted") s_counted (.cons (.loc 5) (.cons (.bin .sub (.loc 1) (.cst (.int 1))) (.cons (.loc 2) (.cons (.loc 3) .nil))))))
    (.cons (.ife (.or (.val (.cmp .is (.loc 6) (.cst .non))) (.val (.cmp .gt (.bin .add (.loc 4) (.loc 6)) (.glb "MOST_SIZE" (.int 150))))) (.cons (.ret (.cst .non))
    .nil) .nil)
    (.cons (.aug 4 .add (.loc 6))
    .nil))))
    (.cons (.ret (.loc 4))
    .nil))))))))
abbrev t_counted : Stmt := topS 26
theorem sc_counted : FnScope n_counted p_counted (defScope t_counted) := ⟨rfl, rfl, rfl, by decide +kernel, rfl, by decide +kernel, by decide +kernel⟩
theorem ck_counted {G : Gx} {s_counted s_is_within : TSp} : ckSs n_counted (defScope t_counted) (b_counted G s_counted s_is_within) (defBody t_counted) = true := by rfl
theorem bi_counted {K : PySem.W.Frag} {f : Addr} {fd : FuncData} (F : Fun K "counted" "counted" t_counted f fd) : Binds K fd p_counted [] := F.binds fun _ _ _ _ _ _ us hl => match us, hl with | [_, _, _, _], _ => rfl
abbrev n_has_form : List Str := ["thing", "is_leaf", "words", "found"]
abbrev p_has_form : List Str := ["thing", "is_leaf", "words"]
def b_has_form (G : Gx) (s_counted : TSp) : Sms :=
  (.cons (.set 3 (.call "counted" (adr G "counted") s_counted (.cons (.loc 0) (.cons (.glb "MOST_DEPTH" (.int 16)) (.cons (.loc 1) (.cons (.loc 2) .nil))))))
    (.cons (.ret (.and (.cmp .isn (.loc 3) (.cst .non)) (.cmp .le (.loc 3) (.glb "MOST_SIZE" (.int 150)))))
    .nil))
abbrev t_has_form : Stmt := topS 27
theorem sc_has_form : FnScope n_has_form p_has_form (defScope t_has_form) := ⟨rfl, rfl, rfl, by decide +kernel, rfl, by decide +kernel, by decide +kernel⟩
theorem ck_has_form {G : Gx} {s_counted : TSp} : ckSs n_has_form (defScope t_has_form) (b_has_form G s_counted) (defBody t_has_form) = true := by rfl
theorem bi_has_form {K : PySem.W.Frag} {f : Addr} {fd : FuncData} (F : Fun K "has_form" "has_form" t_has_form f fd) : Binds K fd p_has_form [] := F.binds fun _ _ _ _ _ _ us hl => match us, hl with | [_, _, _], _ => rfl
abbrev n_is_plan : List Str := ["thing"]
abbrev p_is_plan : List Str := ["thing"]
def b_is_plan (G : Gx) (s_has_form : TSp) : Sms :=
  (.cons (.ret (.call "has_form" (adr G "has_form") s_has_form (.cons (.loc 0) (.cons (.glb "is_place" (.ref (adr G "is_place"))) (.cons (.glb "JOINS" (.tup [(.str "row"), (.str "beside")])) .nil)))))
    .nil)
abbrev t_is_plan : Stmt := topS 28
theorem sc_is_plan : FnScope n_is_plan p_is_plan (defScope t_is_plan) := ⟨rfl, rfl, rfl, by decide +kernel, rfl, by decide +kernel, by decide +kernel⟩
theorem ck_is_plan {G : Gx} {s_has_form : TSp} : ckSs n_is_plan (defScope t_is_plan) (b_is_plan G s_has_form) (defBody t_is_plan) = true := by rfl
theorem bi_is_plan {K : PySem.W.Frag} {f : Addr} {fd : FuncData} (F : Fun K "is_plan" "is_plan" t_is_plan f fd) : Binds K fd p_is_plan [] := F.binds fun _ _ _ _ _ _ us hl => match us, hl with | [_], _ => rfl
abbrev n_check_plan : List Str := ["thing"]
abbrev p_check_plan : List Str := ["thing"]
def b_check_plan (G : Gx) (s_is_plan : TSp) : Sms :=
  (.cons (.ife (.nt (.val (.call "is_plan" (adr G "is_plan") s_is_plan (.cons (.loc 0) .nil)))) (.cons .never
    .nil) .nil)
    .nil)
abbrev t_check_plan : Stmt := topS 29
theorem sc_check_plan : FnScope n_check_plan p_check_plan (defScope t_check_plan) := ⟨rfl, rfl, rfl, by decide +kernel, rfl, by decide +kernel, by decide +kernel⟩
theorem ck_check_plan {G : Gx} {s_is_plan : TSp} : ckSs n_check_plan (defScope t_check_plan) (b_check_plan G s_is_plan) (defBody t_check_plan) = true := by rfl
theorem bi_check_plan {K : PySem.W.Frag} {f : Addr} {fd : FuncData} (F : Fun K "check_plan" "check_plan" t_check_plan f fd) : Binds K fd p_check_plan [] := F.binds fun _ _ _ _ _ _ us hl => match us, hl with | [_], _ => rfl
abbrev n_size : List Str := ["plan"]
abbrev p_size : List Str := ["plan"]
def b_size (G : Gx) (s_counted s_check_plan : TSp) : Sms :=
  (.cons (.exp (.call "check_plan" (adr G "check_plan") s_check_plan (.cons (.loc 0) .nil)))
    (.cons (.ret (.call "counted" (adr G "counted") s_counted (.cons (.loc 0) (.cons (.glb "MOST_DEPTH" (.int 16)) (.cons (.glb "is_place" (.ref (adr G "is_place"))) (.cons (.glb "JOINS" (.tup [(.str "row"), (.str "beside")])) .nil))))))
    .nil))
abbrev t_size : Stmt := topS 30
theorem sc_size : FnScope n_size p_size (defScope t_size) := ⟨rfl, rfl, rfl, by decide +kernel, rfl, by decide +kernel, by decide +kernel⟩
theorem ck_size {G : Gx} {s_counted s_check_plan : TSp} : ckSs n_size (defScope t_size) (b_size G s_counted s_check_plan) (defBody t_size) = true := by rfl
theorem bi_size {K : PySem.W.Frag} {f : Addr} {fd : FuncData} (F : Fun K "size" "size" t_size f fd) : Binds K fd p_size [] := F.binds fun _ _ _ _ _ _ us hl => match us, hl with | [_], _ => rfl
abbrev n_places_of : List Str := ["plan", "part"]
abbrev p_places_of : List Str := ["plan"]
def b_places_of (G : Gx) (s_places_of s_is_place : TSp) : Sms :=
  (.cons (.ife (.val (.call "is_place" (adr G "is_place") s_is_place (.cons (.loc 0) .nil))) (.cons (.ret (.cst (.int 1)))
    .nil) .nil)
    (.cons (.ife (.val (.cmp .in (.ix (.loc 0) (.cst (.int 0))) (.glb "REPEATS" (.tup [(.str "times"), (.str "copies")])))) (.cons (.ret (.bin .mul (.ix (.loc 0) (.cst (.int 1))) (.call "places_of" (adr G "places_of") s_places_of (.cons (.ix (.loc 0) (.cst (.int 2))) .nil))))
    .nil) .nil)
    (.cons (.ret (.bi .sum (.cons (.lc (.name 1) (.seq (.ix (.loc 0) (.cst (.int 1)))) .no (.call "places_of" (adr G "places_of") s_places_of (.cons (.loc 1) .nil)) [("part", 1)]) .nil)))
    .nil)))
abbrev t_places_of : Stmt := topS 31
theorem sc_places_of : FnScope n_places_of p_places_of (defScope t_places_of) := ⟨rfl, rfl, rfl, by decide +kernel, rfl, by decide +kernel, by decide +kernel⟩
theorem ck_places_of {G : Gx} {s_places_of s_is_place : TSp} : ckSs n_places_of (defScope t_places_of) (b_places_of G s_places_of s_is_place) (defBody t_places_of) = true := by rfl
theorem bi_places_of {K : PySem.W.Frag} {f : Addr} {fd : FuncData} (F : Fun K "places_of" "places_of" t_places_of f fd) : Binds K fd p_places_of [] := F.binds fun _ _ _ _ _ _ us hl => match us, hl with | [_], _ => rfl
abbrev n_places : List Str := ["plan"]
abbrev p_places : List Str := ["plan"]
def b_places (G : Gx) (s_places_of s_check_plan : TSp) : Sms :=
  (.cons (.exp (.call "check_plan" (adr G "check_plan") s_check_plan (.cons (.loc 0) .nil)))
    (.cons (.ret (.call "places_of" (adr G "places_of") s_places_of (.cons (.loc 0) .nil)))
    .nil))
abbrev t_places : Stmt := topS 32
theorem sc_places : FnScope n_places p_places (defScope t_places) := ⟨rfl, rfl, rfl, by decide +kernel, rfl, by decide +kernel, by decide +kernel⟩
theorem ck_places {G : Gx} {s_places_of s_check_plan : TSp} : ckSs n_places (defScope t_places) (b_places G s_places_of s_check_plan) (defBody t_places) = true := by rfl
theorem bi_places {K : PySem.W.Frag} {f : Addr} {fd : FuncData} (F : Fun K "places" "places" t_places f fd) : Binds K fd p_places [] := F.binds fun _ _ _ _ _ _ us hl => match us, hl with | [_], _ => rfl
abbrev n_total_of : List Str := ["plan", "sums", "length", "weight", "part", "one"]
abbrev p_total_of : List Str := ["plan"]
def b_total_of (G : Gx) (s_total_of s_is_place : TSp) : Sms :=
  (.cons (.ife (.val (.call "is_place" (adr G "is_place") s_is_place (.cons (.loc 0) .nil))) (.cons (.ret (.loc 0))
    .nil) .nil)
    (.cons (.ife (.val (.cmp .in (.ix (.loc 0) (.cst (.int 0))) (.glb "REPEATS" (.tup [(.str "times"), (.str "copies")])))) (.cons (.asg [2, 3] (.call "total_of" (adr G "total_of") s_total_of (.cons (.ix (.loc 0) (.cst (.int 2))) .nil)))
    (.cons (.ret (.tup (.cons (.bin .mul (.ix (.loc 0) (.cst (.int 1))) (.loc 2)) (.cons (.bin .mul (.ix (.loc 0) (.cst (.int 1))) (.loc 3)) .nil))))
    .nil)) .nil)
    (.cons (.set 1 (.lc (.name 4) (.seq (.ix (.loc 0) (.cst (.int 1)))) .no (.call "total_of" (adr G "total_of") s_total_of (.cons (.loc 4) .nil)) [("part", 4)]))
    (.cons (.ret (.tup (.cons (.bi .sum (.cons (.lc (.name 5) (.seq (.loc 1)) .no (.ix (.loc 5) (.cst (.int 0))) [("one", 5)]) .nil)) (.cons (.bi .sum (.cons (.lc (.name 5) (.seq (.loc 1)) .no (.ix (.loc 5) (.cst (.int 1))) [("one", 5)]) .nil)) .nil))))
    .nil))))
abbrev t_total_of : Stmt := topS 33
theorem sc_total_of : FnScope n_total_of p_total_of (defScope t_total_of) := ⟨rfl, rfl, rfl, by decide +kernel, rfl, by decide +kernel, by decide +kernel⟩
theorem ck_total_of {G : Gx} {s_total_of s_is_place : TSp} : ckSs n_total_of (defScope t_total_of) (b_total_of G s_total_of s_is_place) (defBody t_total_of) = true := by rfl
theorem bi_total_of {K : PySem.W.Frag} {f : Addr} {fd : FuncData} (F : Fun K "total_of" "total_of" t_total_of f fd) : Binds K fd p_total_of [] := F.binds fun _ _ _ _ _ _ us hl => match us, hl with | [_], _ => rfl
abbrev n_total : List Str := ["plan"]
abbrev p_total : List Str := ["plan"]
def b_total (G : Gx) (s_total_of s_check_plan : TSp) : Sms :=
  (.cons (.exp (.call "check_plan" (adr G "check_plan") s_check_plan (.cons (.loc 0) .nil)))
    (.cons (.ret (.call "total_of" (adr G "total_of") s_total_of (.cons (.loc 0) .nil)))
    .nil))
abbrev t_total : Stmt := topS 34
theorem sc_total : FnScope n_total p_total (defScope t_total) := ⟨rfl, rfl, rfl, by decide +kernel, rfl, by decide +kernel, by decide +kernel⟩
theorem ck_total {G : Gx} {s_total_of s_check_plan : TSp} : ckSs n_total (defScope t_total) (b_total G s_total_of s_check_plan) (defBody t_total) = true := by rfl
theorem bi_total {K : PySem.W.Frag} {f : Addr} {fd : FuncData} (F : Fun K "total" "total" t_total f fd) : Binds K fd p_total [] := F.binds fun _ _ _ _ _ _ us hl => match us, hl with | [_], _ => rfl
abbrev n_spread_from : List Str := ["plan", "counter", "word", "part", "turn"]
abbrev p_spread_from : List Str := ["plan", "counter"]
def b_spread_from (G : Gx) (s_spread_from s_is_place : TSp) : Sms :=
  (.cons (.ife (.val (.call "is_place" (adr G "is_place") s_is_place (.cons (.loc 0) .nil))) (.cons (.augx (.loc 1) (.cst (.int 0)) .add (.cst (.int 1)))
    (.cons (.ret (.tup (.cons (.glb "PLACE" (.str "place")) (.cons (.bin .sub (.ix (.loc 1) (.cst (.int 0))) (.cst (.int 1))) (.cons (.loc 0) .nil)))))
    .nil)) .nil)
    (.cons (.ife (.val (.cmp .in (.ix (.loc 0) (.cst (.int 0))) (.glb "REPEATS" (.tup [(.str "times"), (.str "copies")])))) (.cons (.set 2 (.ite (.val (.cmp .eq (.ix (.loc 0) (.cst (.int 0))) (.glb "TIMES" (.str "times")))) (.glb "ROW" (.str "row")) (.glb "BESIDE" (.str "beside"))))
    (.cons (.ret (.tup (.cons (.loc 2) (.cons (.bi .tuple (.cons (.lc (.name 4) (.rng1 (.ix (.loc 0) (.cst (.int 1)))) .no (.call "spread_from" (adr G "spread_from") s_spread_from (.cons (.ix (.loc 0) (.cst (.int 2))) (.cons (.loc 1) .nil))) [("turn", 4)]) .nil)) .nil))))
    .nil)) .nil)
    (.cons (.ret (.tup (.cons (.ix (.loc 0) (.cst (.int 0))) (.cons (.bi .tuple (.cons (.lc (.name 3) (.seq (.ix (.loc 0) (.cst (.int 1)))) .no (.call "spread_from" (adr G "spread_from") s_spread_from (.cons (.loc 3) (.cons (.loc 1) .nil))) [("part", 3)]) .nil)) .nil))))
    .nil)))
abbrev t_spread_from : Stmt := topS 35
theorem sc_spread_from : FnScope n_spread_from p_spread_from (defScope t_spread_from) := ⟨rfl, rfl, rfl, by decide +kernel, rfl, by decide +kernel, by decide +kernel⟩
theorem ck_spread_from {G : Gx} {s_spread_from s_is_place : TSp} : ckSs n_spread_from (defScope t_spread_from) (b_spread_from G s_spread_from s_is_place) (defBody t_spread_from) = true := by rfl
theorem bi_spread_from {K : PySem.W.Frag} {f : Addr} {fd : FuncData} (F : Fun K "spread_from" "spread_from" t_spread_from f fd) : Binds K fd p_spread_from [] := F.binds fun _ _ _ _ _ _ us hl => match us, hl with | [_, _], _ => rfl
abbrev n_spread : List Str := ["plan"]
abbrev p_spread : List Str := ["plan"]
def b_spread (G : Gx) (s_spread_from : TSp) : Sms :=
  (.cons (.ret (.call "spread_from" (adr G "spread_from") s_spread_from (.cons (.loc 0) (.cons (.lst (.cons (.cst (.int 0)) .nil)) .nil))))
    .nil)
abbrev t_spread : Stmt := topS 36
theorem sc_spread : FnScope n_spread p_spread (defScope t_spread) := ⟨rfl, rfl, rfl, by decide +kernel, rfl, by decide +kernel, by decide +kernel⟩
theorem ck_spread {G : Gx} {s_spread_from : TSp} : ckSs n_spread (defScope t_spread) (b_spread G s_spread_from) (defBody t_spread) = true := by rfl
theorem bi_spread {K : PySem.W.Frag} {f : Addr} {fd : FuncData} (F : Fun K "spread" "spread" t_spread f fd) : Binds K fd p_spread [] := F.binds fun _ _ _ _ _ _ us hl => match us, hl with | [_], _ => rfl
abbrev n_leaves : List Str := ["node", "part", "pair"]
abbrev p_leaves : List Str := ["node"]
def b_leaves (G : Gx) (s_leaves : TSp) : Sms :=
  (.cons (.ife (.val (.cmp .eq (.ix (.loc 0) (.cst (.int 0))) (.glb "PLACE" (.str "place")))) (.cons (.ret (.lst (.cons (.tup (.cons (.ix (.loc 0) (.cst (.int 1))) (.cons (.ix (.loc 0) (.cst (.int 2))) .nil))) .nil)))
    .nil) .nil)
    (.cons (.ret (.lc2 (.name 1) (.seq (.ix (.loc 0) (.cst (.int 1)))) .no (.name 2) (.seq (.call "leaves" (adr G "leaves") s_leaves (.cons (.loc 1) .nil))) .no (.loc 2) [("part", 1), ("pair", 2)] [2]))
    .nil))
abbrev t_leaves : Stmt := topS 37
theorem sc_leaves : FnScope n_leaves p_leaves (defScope t_leaves) := ⟨rfl, rfl, rfl, by decide +kernel, rfl, by decide +kernel, by decide +kernel⟩
theorem ck_leaves {G : Gx} {s_leaves : TSp} : ckSs n_leaves (defScope t_leaves) (b_leaves G s_leaves) (defBody t_leaves) = true := by rfl
theorem bi_leaves {K : PySem.W.Frag} {f : Addr} {fd : FuncData} (F : Fun K "leaves" "leaves" t_leaves f fd) : Binds K fd p_leaves [] := F.binds fun _ _ _ _ _ _ us hl => match us, hl with | [_], _ => rfl
abbrev n_check_listed : List Str := ["plan", "most"]
abbrev p_check_listed : List Str := ["plan", "most"]
def b_check_listed (G : Gx) (s_places_of s_check_most s_check_plan : TSp) : Sms :=
  (.cons (.exp (.call "check_plan" (adr G "check_plan") s_check_plan (.cons (.loc 0) .nil)))
    (.cons (.exp (.call "check_most" (adr G "check_most") s_check_most (.cons (.loc 1) (.cons (.glb "MOST_LISTED" (.int 1000)) .nil))))
    (.cons (.ife (.val (.cmp .gt (.call "places_of" (adr G "places_of") s_places_of (.cons (.loc 0) .nil)) (.loc 1))) (.cons .never
    .nil) .nil)
    .nil)))
abbrev t_check_listed : Stmt := topS 38
theorem sc_check_listed : FnScope n_check_listed p_check_listed (defScope t_check_listed) := ⟨rfl, rfl, rfl, by decide +kernel, rfl, by decide +kernel, by decide +kernel⟩
theorem ck_check_listed {G : Gx} {s_places_of s_check_most s_check_plan : TSp} : ckSs n_check_listed (defScope t_check_listed) (b_check_listed G s_places_of s_check_most s_check_plan) (defBody t_check_listed) = true := by rfl
theorem bi_check_listed {K : PySem.W.Frag} {f : Addr} {fd : FuncData} (F : Fun K "check_listed" "check_listed" t_check_listed f fd) : Binds K fd p_check_listed [] := F.binds fun _ _ _ _ _ _ us hl => match us, hl with | [_, _], _ => rfl
abbrev n_listed : List Str := ["plan", "most", "number", "place"]
abbrev p_listed : List Str := ["plan", "most"]
def b_listed (G : Gx) (s_spread s_leaves s_check_listed : TSp) : Sms :=
  (.cons (.exp (.call "check_listed" (adr G "check_listed") s_check_listed (.cons (.loc 0) (.cons (.loc 1) .nil))))
    (.cons (.ret (.lc (.tup [2, 3]) (.seq (.call "leaves" (adr G "leaves") s_leaves (.cons (.call "spread" (adr G "spread") s_spread (.cons (.loc 0) .nil)) .nil))) .no (.loc 3) [("number", 2), ("place", 3)]))
    .nil))
abbrev t_listed : Stmt := topS 39
theorem sc_listed : FnScope n_listed p_listed (defScope t_listed) := ⟨rfl, rfl, rfl, by decide +kernel, rfl, by decide +kernel, by decide +kernel⟩
theorem ck_listed {G : Gx} {s_spread s_leaves s_check_listed : TSp} : ckSs n_listed (defScope t_listed) (b_listed G s_spread s_leaves s_check_listed) (defBody t_listed) = true := by rfl
abbrev n_paired : List Str := ["word", "one", "other", "found"]
abbrev p_paired : List Str := ["word", "one", "other"]
def b_paired (G : Gx) (s_check_plan : TSp) : Sms :=
  (.cons (.exp (.call "check_plan" (adr G "check_plan") s_check_plan (.cons (.loc 1) .nil)))
    (.cons (.exp (.call "check_plan" (adr G "check_plan") s_check_plan (.cons (.loc 2) .nil)))
    (.cons (.set 3 (.tup (.cons (.loc 0) (.cons (.tup (.cons (.loc 1) (.cons (.loc 2) .nil))) .nil))))
    (.cons (.exp (.call "check_plan" (adr G "check_plan") s_check_plan (.cons (.loc 3) .nil)))
    (.cons (.ret (.loc 3))
    .nil)))))
abbrev t_paired : Stmt := topS 40
theorem sc_paired : FnScope n_paired p_paired (defScope t_paired) := ⟨rfl, rfl, rfl, by decide +kernel, rfl, by decide +kernel, by decide +kernel⟩
theorem ck_paired {G : Gx} {s_check_plan : TSp} : ckSs n_paired (defScope t_paired) (b_paired G s_check_plan) (defBody t_paired) = true := by rfl
theorem bi_paired {K : PySem.W.Frag} {f : Addr} {fd : FuncData} (F : Fun K "paired" "paired" t_paired f fd) : Binds K fd p_paired [] := F.binds fun _ _ _ _ _ _ us hl => match us, hl with | [_, _, _], _ => rfl
abbrev n_joined : List Str := ["one", "other"]
abbrev p_joined : List Str := ["one", "other"]
def b_joined (G : Gx) (s_paired : TSp) : Sms :=
  (.cons (.ret (.call "paired" (adr G "paired") s_paired (.cons (.glb "ROW" (.str "row")) (.cons (.loc 0) (.cons (.loc 1) .nil)))))
    .nil)
abbrev t_joined : Stmt := topS 41
theorem sc_joined : FnScope n_joined p_joined (defScope t_joined) := ⟨rfl, rfl, rfl, by decide +kernel, rfl, by decide +kernel, by decide +kernel⟩
theorem ck_joined {G : Gx} {s_paired : TSp} : ckSs n_joined (defScope t_joined) (b_joined G s_paired) (defBody t_joined) = true := by rfl
theorem bi_joined {K : PySem.W.Frag} {f : Addr} {fd : FuncData} (F : Fun K "joined" "joined" t_joined f fd) : Binds K fd p_joined [] := F.binds fun _ _ _ _ _ _ us hl => match us, hl with | [_, _], _ => rfl
abbrev n_mixed : List Str := ["one", "other"]
abbrev p_mixed : List Str := ["one", "other"]
def b_mixed (G : Gx) (s_paired : TSp) : Sms :=
  (.cons (.ret (.call "paired" (adr G "paired") s_paired (.cons (.glb "BESIDE" (.str "beside")) (.cons (.loc 0) (.cons (.loc 1) .nil)))))
    .nil)
abbrev t_mixed : Stmt := topS 42
theorem sc_mixed : FnScope n_mixed p_mixed (defScope t_mixed) := ⟨rfl, rfl, rfl, by decide +kernel, rfl, by decide +kernel, by decide +kernel⟩
theorem ck_mixed {G : Gx} {s_paired : TSp} : ckSs n_mixed (defScope t_mixed) (b_mixed G s_paired) (defBody t_mixed) = true := by rfl
theorem bi_mixed {K : PySem.W.Frag} {f : Addr} {fd : FuncData} (F : Fun K "mixed" "mixed" t_mixed f fd) : Binds K fd p_mixed [] := F.binds fun _ _ _ _ _ _ us hl => match us, hl with | [_, _], _ => rfl
abbrev n__law_hand : List Str := ["script", "cells", "cell"]
abbrev p__law_hand : List Str := ["script"]
def b__law_hand (G : Gx) : Sms :=
  (.cons (.set 1 (.lc (.name 2) (.seq (.sl (.loc 0) .no (.so (.cst (.int 63))))) .no (.bi .abs (.cons (.bi .int (.cons (.loc 2) .nil)) .nil)) [("cell", 2)]))
    (.cons (.ret (.lst (.cons (.loc 1) (.cons (.cst (.int 0)) (.cons (.cst (.int 0)) (.cons (.bin .add (.cst (.int 67)) (.bin .mul (.cst (.int 5)) (.bi .len (.cons (.loc 1) .nil)))) (.cons (.cst (.int 0)) .nil)))))))
    .nil))
abbrev t__law_hand : Stmt := topS 44
theorem sc__law_hand : FnScope n__law_hand p__law_hand (defScope t__law_hand) := ⟨rfl, rfl, rfl, by decide +kernel, rfl, by decide +kernel, by decide +kernel⟩
theorem ck__law_hand {G : Gx} : ckSs n__law_hand (defScope t__law_hand) (b__law_hand G) (defBody t__law_hand) = true := by rfl
theorem bi__law_hand {K : PySem.W.Frag} {f : Addr} {fd : FuncData} (F : Fun K "_law_hand" "_law_hand" t__law_hand f fd) : Binds K fd p__law_hand [] := F.binds fun _ _ _ _ _ _ us hl => match us, hl with | [_], _ => rfl
abbrev n__law_draw : List Str := ["hand", "many", "number", "cell", "digit"]
abbrev p__law_draw : List Str := ["hand", "many"]
def b__law_draw (G : Gx) : Sms :=
  (.cons (.ife (.and (.val (.cmp .eq (.ix (.loc 0) (.cst (.int 2))) (.cst (.int 0)))) (.val (.cmp .lt (.ix (.loc 0) (.cst (.int 1))) (.bi .len (.cons (.ix (.loc 0) (.cst (.int 0))) .nil))))) (.cons (.set 3 (.ix (.ix (.loc 0) (.cst (.int 0))) (.ix (.loc 0) (.cst (.int 1)))))
    (.cons (.sti (.loc 0) (.cst (.int 1)) (.bin .add (.ix (.loc 0) (.cst (.int 1))) (.cst (.int 1))))
    (.cons (.sti (.loc 0) (.cst (.int 3)) (.bin .mod (.bi .int (.cons (.bin .add (.bin .add (.bin .mul (.ix (.loc 0) (.cst (.int 3))) (.cst (.int 69621))) (.loc 3)) (.cst (.int 17))) .nil)) (.cst (.int 2147483629))))
    (.cons (.ife (.val (.cmp .ge (.loc 3) (.bin .pow (.cst (.int 10)) (.cst (.int 18))))) (.cons (.sti (.loc 0) (.cst (.int 2)) (.loc 3))
    .nil) .nil)
    .nil)))) .nil)
    (.cons (.ife (.val (.cmp .gt (.ix (.loc 0) (.cst (.int 2))) (.cst (.int 0)))) (.cons (.set 4 (.bin .mod (.bi .int (.cons (.ix (.loc 0) (.cst (.int 2))) .nil)) (.loc 1)))
    (.cons (.sti (.loc 0) (.cst (.int 2)) (.bin .fdiv (.ix (.loc 0) (.cst (.int 2))) (.loc 1)))
    (.cons (.ret (.loc 4))
    .nil))) .nil)
    (.cons (.sti (.loc 0) (.cst (.int 4)) (.bin .add (.ix (.loc 0) (.cst (.int 4))) (.cst (.int 1))))
    (.cons (.set 2 (.bin .mod (.bi .int (.cons (.bin .mul (.bi .int (.cons (.bin .add (.ix (.loc 0) (.cst (.int 3))) (.bin .mul (.cst (.int 7919)) (.ix (.loc 0) (.cst (.int 4))))) .nil)) (.cst (.int 48271))) .nil)) (.cst (.int 2147483647))))
    (.cons (.set 2 (.bin .mod (.bi .int (.cons (.bin .mul (.loc 2) (.bin .add (.bin .fdiv (.loc 2) (.cst (.int 1009))) (.cst (.int 69621)))) .nil)) (.cst (.int 2147483647))))
    (.cons (.set 2 (.bin .mod (.bi .int (.cons (.bin .mul (.loc 2) (.bin .add (.bin .fdiv (.loc 2) (.cst (.int 2003))) (.cst (.int 40692)))) .nil)) (.cst (.int 2147483399))))
    (.cons (.ret (.bin .mod (.bi .int (.cons (.bin .fdiv (.loc 2) (.cst (.int 16))) .nil)) (.loc 1)))
    .nil)))))))
abbrev t__law_draw : Stmt := topS 45
theorem sc__law_draw : FnScope n__law_draw p__law_draw (defScope t__law_draw) := ⟨rfl, rfl, rfl, by decide +kernel, rfl, by decide +kernel, by decide +kernel⟩
theorem ck__law_draw {G : Gx} : ckSs n__law_draw (defScope t__law_draw) (b__law_draw G) (defBody t__law_draw) = true := by rfl
theorem bi__law_draw {K : PySem.W.Frag} {f : Addr} {fd : FuncData} (F : Fun K "_law_draw" "_law_draw" t__law_draw f fd) : Binds K fd p__law_draw [] := F.binds fun _ _ _ _ _ _ us hl => match us, hl with | [_, _], _ => rfl
abbrev n__law_some : List Str := ["hand", "things"]
abbrev p__law_some : List Str := ["hand", "things"]
def b__law_some (G : Gx) (s__law_draw : TSp) : Sms :=
  (.cons (.ret (.ix (.loc 1) (.call "_law_draw" (adr G "_law_draw") s__law_draw (.cons (.loc 0) (.cons (.bi .len (.cons (.loc 1) .nil)) .nil)))))
    .nil)
abbrev t__law_some : Stmt := topS 46
theorem sc__law_some : FnScope n__law_some p__law_some (defScope t__law_some) := ⟨rfl, rfl, rfl, by decide +kernel, rfl, by decide +kernel, by decide +kernel⟩
theorem ck__law_some {G : Gx} {s__law_draw : TSp} : ckSs n__law_some (defScope t__law_some) (b__law_some G s__law_draw) (defBody t__law_some) = true := by rfl
theorem bi__law_some {K : PySem.W.Frag} {f : Addr} {fd : FuncData} (F : Fun K "_law_some" "_law_some" t__law_some f fd) : Binds K fd p__law_some [] := F.binds fun _ _ _ _ _ _ us hl => match us, hl with | [_, _], _ => rfl
abbrev n__law_is : List Str := ["got", "due", "one", "other"]
abbrev p__law_is : List Str := ["got", "due"]
def b__law_is (G : Gx) (s__law_is : TSp) : Sms :=
  (.cons (.ife (.val (.bi .isi (.cons (.loc 1) (.cons (.tup (.cons (.glb "tuple" (.ty "tuple")) (.cons (.glb "list" (.ty "list")) .nil))) .nil)))) (.cons (.ife (.val (.cmp .ne (.bi .isi (.cons (.loc 0) (.cons (.glb "tuple" (.ty "tuple")) .nil))) (.bi .isi (.cons (.loc 1) (.cons (.glb "tuple" (.ty "tuple")) .nil))))) (.cons (.ret (.cst (.bl false)))
    .nil) .nil)
    (.cons (.ife (.or (.val (.cmp .ne (.bi .isi (.cons (.loc 0) (.cons (.glb "list" (.ty "list")) .nil))) (.bi .isi (.cons (.loc 1) (.cons (.glb "list" (.ty "list")) .nil))))) (.val (.cmp .ne (.bi .len (.cons (.loc 0) .nil)) (.bi .len (.cons (.loc 1) .nil))))) (.cons (.ret (.cst (.bl false)))
    .nil) .nil)
    (.cons (.ret (.bi .all (.cons (.lc (.tup [2, 3]) (.zip (.loc 0) (.loc 1)) .no (.call "_law_is" (adr G "_law_is") s__law_is (.cons (.loc 2) (.cons (.loc 3) .nil))) [("one", 2), ("other", 3)]) .nil)))
    .nil))) .nil)
    (.cons (.ife (.or (.val (.cmp .is (.loc 1) (.cst .non))) (.val (.cmp .is (.loc 0) (.cst .non)))) (.cons (.ret (.and (.cmp .is (.loc 1) (.cst .non)) (.cmp .is (.loc 0) (.cst .non))))
    .nil) .nil)
    (.cons (.ife (.val (.cmp .ne (.bi .isi (.cons (.loc 0) (.cons (.glb "bool" (.ty "bool")) .nil))) (.bi .isi (.cons (.loc 1) (.cons (.glb "bool" (.ty "bool")) .nil))))) (.cons (.ret (.cst (.bl false)))
    .nil) .nil)
    (.cons (.ret (.and (.cmp .eq (.bi .isi (.cons (.loc 0) (.cons (.glb "str" (.ty "str")) .nil))) (.bi .isi (.cons (.loc 1) (.cons (.glb "str" (.ty "str")) .nil)))) (.cmp .eq (.loc 0) (.loc 1))))
    .nil))))
abbrev t__law_is : Stmt := topS 47
theorem sc__law_is : FnScope n__law_is p__law_is (defScope t__law_is) := ⟨rfl, rfl, rfl, by decide +kernel, rfl, by decide +kernel, by decide +kernel⟩
theorem ck__law_is {G : Gx} {s__law_is : TSp} : ckSs n__law_is (defScope t__law_is) (b__law_is G s__law_is) (defBody t__law_is) = true := by rfl
theorem bi__law_is {K : PySem.W.Frag} {f : Addr} {fd : FuncData} (F : Fun K "_law_is" "_law_is" t__law_is f fd) : Binds K fd p__law_is [] := F.binds fun _ _ _ _ _ _ us hl => match us, hl with | [_, _], _ => rfl
abbrev n__law_place : List Str := ["hand", "most", "length", "weight"]
abbrev p__law_place : List Str := ["hand", "most"]
def b__law_place (G : Gx) (s__law_some s__law_draw : TSp) : Sms :=
  (.cons (.par [2, 3] (.cons (.call "_law_draw" (adr G "_law_draw") s__law_draw (.cons (.loc 0) (.cons (.bin .add (.loc 1) (.cst (.int 1))) .nil))) (.cons (.call "_law_draw" (adr G "_law_draw") s__law_draw (.cons (.loc 0) (.cons (.bin .add (.loc 1) (.cst (.int 1))) .nil))) .nil)))
    (.cons (.ife (.val (.cmp .eq (.call "_law_draw" (adr G "_law_draw") s__law_draw (.cons (.loc 0) (.cons (.cst (.int 6)) .nil))) (.cst (.int 0)))) (.cons (.set 2 (.cst (.int 0)))
    .nil) .nil)
    (.cons (.ife (.and (.val (.cmp .eq (.loc 2) (.cst (.int 0)))) (.val (.cmp .eq (.loc 3) (.cst (.int 0))))) (.cons (.ret (.call "_law_some" (adr G "_law_some") s__law_some (.cons (.loc 0) (.cons (.lst (.cons (.tup (.cons (.cst (.int 0)) (.cons (.cst (.int 1)) .nil))) (.cons (.tup (.cons (.cst (.int 1)) (.cons (.cst (.int 0)) .nil))) (.cons (.tup (.cons (.cst (.int 1)) (.cons (.cst (.int 1)) .nil))) .nil)))) .nil))))
    .nil) .nil)
    (.cons (.ret (.tup (.cons (.loc 2) (.cons (.loc 3) .nil))))
    .nil))))
abbrev t__law_place : Stmt := topS 48
theorem sc__law_place : FnScope n__law_place p__law_place (defScope t__law_place) := ⟨rfl, rfl, rfl, by decide +kernel, rfl, by decide +kernel, by decide +kernel⟩
theorem ck__law_place {G : Gx} {s__law_some s__law_draw : TSp} : ckSs n__law_place (defScope t__law_place) (b__law_place G s__law_some s__law_draw) (defBody t__law_place) = true := by rfl
theorem bi__law_place {K : PySem.W.Frag} {f : Addr} {fd : FuncData} (F : Fun K "_law_place" "_law_place" t__law_place f fd) : Binds K fd p__law_place [] := F.binds fun _ _ _ _ _ _ us hl => match us, hl with | [_, _], _ => rfl
abbrev n__law_plan : List Str := ["hand", "deep", "wide", "most", "kind", "parts", "turn"]
abbrev p__law_plan : List Str := ["hand", "deep", "wide", "most"]
def b__law_plan (G : Gx) (s__law_draw s__law_plan s__law_place : TSp) : Sms :=
  (.cons (.set 4 (.call "_law_draw" (adr G "_law_draw") s__law_draw (.cons (.loc 0) (.cons (.cst (.int 8)) .nil))))
    (.cons (.ife (.or (.val (.cmp .eq (.loc 1) (.cst (.int 0)))) (.val (.cmp .eq (.loc 4) (.cst (.int 0))))) (.cons (.ret (.call "_law_place" (adr G "_law_place") s__law_place (.cons (.loc 0) (.cons (.loc 3) .nil))))
    .nil) .nil)
    (.cons (.ife (.val (.cmp .eq (.loc 4) (.cst (.int 1)))) (.cons (.ret (.tup (.cons (.cst (.str "times")) (.cons (.bin .add (.cst (.int 1)) (.call "_law_draw" (adr G "_law_draw") s__law_draw (.cons (.loc 0) (.cons (.cst (.int 3)) .nil)))) (.cons (.call "_law_plan" (adr G "_law_plan") s__law_plan (.cons (.loc 0) (.cons (.bin .sub (.loc 1) (.cst (.int 1))) (.cons (.cst (.int 2)) (.cons (.loc 3) .nil))))) .nil)))))
    .nil) .nil)
    (.cons (.ife (.val (.cmp .eq (.loc 4) (.cst (.int 2)))) (.cons (.ret (.tup (.cons (.cst (.str "copies")) (.cons (.bin .add (.cst (.int 1)) (.call "_law_draw" (adr G "_law_draw") s__law_draw (.cons (.loc 0) (.cons (.cst (.int 3)) .nil)))) (.cons (.call "_law_plan" (adr G "_law_plan") s__law_plan (.cons (.loc 0) (.cons (.bin .sub (.loc 1) (.cst (.int 1))) (.cons (.cst (.int 2)) (.cons (.loc 3) .nil))))) .nil)))))
    .nil) .nil)
    (.cons (.set 5 (.lc (.name 6) (.rng1 (.bin .add (.cst (.int 1)) (.call "_law_draw" (adr G "_law_draw") s__law_draw (.cons (.loc 0) (.cons (.loc 2) .nil))))) .no (.call "_law_plan" (adr G "_law_plan") s__law_plan (.cons (.loc 0) (.cons (.bin .sub (.loc 1) (.cst (.int 1))) (.cons (.cst (.int 2)) (.cons (.loc 3) .nil))))) [("turn", 6)]))
    (.cons (.ret (.tup (.cons (.ite (.val (.cmp .lt (.loc 4) (.cst (.int 5)))) (.cst (.str "row")) (.cst (.str "beside"))) (.cons (.bi .tuple (.cons (.loc 5) .nil)) .nil))))
    .nil))))))
abbrev t__law_plan : Stmt := topS 49
theorem sc__law_plan : FnScope n__law_plan p__law_plan (defScope t__law_plan) := ⟨rfl, rfl, rfl, by decide +kernel, rfl, by decide +kernel, by decide +kernel⟩
theorem ck__law_plan {G : Gx} {s__law_draw s__law_plan s__law_place : TSp} : ckSs n__law_plan (defScope t__law_plan) (b__law_plan G s__law_draw s__law_plan s__law_place) (defBody t__law_plan) = true := by rfl
theorem bi__law_plan {K : PySem.W.Frag} {f : Addr} {fd : FuncData} (F : Fun K "_law_plan" "_law_plan" t__law_plan f fd) : Binds K fd p__law_plan [] := F.binds fun _ _ _ _ _ _ us hl => match us, hl with | [_, _, _, _], _ => rfl
abbrev n__law_few : List Str := ["hand", "most", "top", "turn", "plan"]
abbrev p__law_few : List Str := ["hand", "most", "top"]
def b__law_few (G : Gx) (s__law_place s__law_count s__law_draw s__law_plan : TSp) : Sms :=
  (.cons (.fr (.name 3) (.rng1 (.cst (.int 40))) (.cons (.set 4 (.call "_law_plan" (adr G "_law_plan") s__law_plan (.cons (.loc 0) (.cons (.bin .add (.cst (.int 1)) (.call "_law_draw" (adr G "_law_draw") s__law_draw (.cons (.loc 0) (.cons (.cst (.int 3)) .nil)))) (.cons (.cst (.int 4)) (.cons (.loc 2) .nil))))))
    (.cons (.ife (.val (.cmp .le (.call "_law_count" (adr G "_law_count") s__law_count (.cons (.loc 4) .nil)) (.loc 1))) (.cons (.ret (.loc 4))
    .nil) .nil)
    .nil)))
    (.cons (.ret (.call "_law_place" (adr G "_law_place") s__law_place (.cons (.loc 0) (.cons (.loc 2) .nil))))
    .nil))
abbrev t__law_few : Stmt := topS 51
theorem sc__law_few : FnScope n__law_few p__law_few (defScope t__law_few) := ⟨rfl, rfl, rfl, by decide +kernel, rfl, by decide +kernel, by decide +kernel⟩
theorem ck__law_few {G : Gx} {s__law_place s__law_count s__law_draw s__law_plan : TSp} : ckSs n__law_few (defScope t__law_few) (b__law_few G s__law_place s__law_count s__law_draw s__law_plan) (defBody t__law_few) = true := by rfl
theorem bi__law_few {K : PySem.W.Frag} {f : Addr} {fd : FuncData} (F : Fun K "_law_few" "_law_few" t__law_few f fd) : Binds K fd p__law_few [] := F.binds fun _ _ _ _ _ _ us hl => match us, hl with | [_, _, _], _ => rfl
abbrev n__law_count : List Str := ["plan", "part"]
abbrev p__law_count : List Str := ["plan"]
def b__law_count (G : Gx) (s__law_count : TSp) : Sms :=
  (.cons (.ife (.val (.bi .isi (.cons (.ix (.loc 0) (.cst (.int 0))) (.cons (.glb "int" (.ty "int")) .nil)))) (.cons (.ret (.cst (.int 1)))
    .nil) .nil)
    (.cons (.ife (.val (.cmp .in (.ix (.loc 0) (.cst (.int 0))) (.tup (.cons (.cst (.str "row")) (.cons (.cst (.str "beside")) .nil))))) (.cons (.ret (.bi .sum (.cons (.lc (.name 1) (.seq (.ix (.loc 0) (.cst (.int 1)))) .no (.call "_law_count" (adr G "_law_count") s__law_count (.cons (.loc 1) .nil)) [("part", 1)]) .nil)))
    .nil) .nil)
    (.cons (.ret (.bin .mul (.ix (.loc 0) (.cst (.int 1))) (.call "_law_count" (adr G "_law_count") s__law_count (.cons (.ix (.loc 0) (.cst (.int 2))) .nil))))
    .nil)))
abbrev t__law_count : Stmt := topS 52
theorem sc__law_count : FnScope n__law_count p__law_count (defScope t__law_count) := ⟨rfl, rfl, rfl, by decide +kernel, rfl, by decide +kernel, by decide +kernel⟩
theorem ck__law_count {G : Gx} {s__law_count : TSp} : ckSs n__law_count (defScope t__law_count) (b__law_count G s__law_count) (defBody t__law_count) = true := by rfl
theorem bi__law_count {K : PySem.W.Frag} {f : Addr} {fd : FuncData} (F : Fun K "_law_count" "_law_count" t__law_count f fd) : Binds K fd p__law_count [] := F.binds fun _ _ _ _ _ _ us hl => match us, hl with | [_], _ => rfl
abbrev n__law_great : List Str := ["hand", "deep", "kind", "parts", "many", "turn"]
abbrev p__law_great : List Str := ["hand", "deep"]
def b__law_great (G : Gx) (s__law_some s__law_draw s__law_great s__law_place : TSp) : Sms :=
  (.cons (.set 2 (.call "_law_draw" (adr G "_law_draw") s__law_draw (.cons (.loc 0) (.cons (.cst (.int 6)) .nil))))
    (.cons (.ife (.or (.val (.cmp .eq (.loc 1) (.cst (.int 0)))) (.val (.cmp .eq (.loc 2) (.cst (.int 0))))) (.cons (.ret (.call "_law_place" (adr G "_law_place") s__law_place (.cons (.loc 0) (.cons (.call "_law_some" (adr G "_law_some") s__law_some (.cons (.loc 0) (.cons (.lst (.cons (.cst (.int 3)) (.cons (.cst (.int 50)) (.cons (.bin .sub (.bin .pow (.cst (.int 10)) (.cst (.int 12))) (.cst (.int 1))) .nil)))) .nil))) .nil))))
    .nil) .nil)
    (.cons (.ife (.val (.cmp .lt (.loc 2) (.cst (.int 4)))) (.cons (.set 4 (.call "_law_some" (adr G "_law_some") s__law_some (.cons (.loc 0) (.cons (.lst (.cons (.cst (.int 1)) (.cons (.cst (.int 2)) (.cons (.cst (.int 7)) (.cons (.bin .pow (.cst (.int 10)) (.cst (.int 6))) (.cons (.bin .pow (.cst (.int 10)) (.cst (.int 30))) (.cons (.bin .add (.cst (.int 1)) (.call "_law_draw" (adr G "_law_draw") s__law_draw (.cons (.loc 0) (.cons (.bin .pow (.cst (.int 10)) (.cst (.int 30))) .nil)))) .nil))))))) .nil))))
    (.cons (.ret (.tup (.cons (.call "_law_some" (adr G "_law_some") s__law_some (.cons (.loc 0) (.cons (.lst (.cons (.cst (.str "times")) (.cons (.cst (.str "copies")) .nil))) .nil))) (.cons (.loc 4) (.cons (.call "_law_great" (adr G "_law_great") s__law_great (.cons (.loc 0) (.cons (.bin .sub (.loc 1) (.cst (.int 1))) .nil))) .nil)))))
    .nil)) .nil)
    (.cons (.set 3 (.lc (.name 5) (.rng1 (.bin .add (.cst (.int 1)) (.call "_law_draw" (adr G "_law_draw") s__law_draw (.cons (.loc 0) (.cons (.cst (.int 3)) .nil))))) .no (.call "_law_great" (adr G "_law_great") s__law_great (.cons (.loc 0) (.cons (.bin .sub (.loc 1) (.cst (.int 1))) .nil))) [("turn", 5)]))
    (.cons (.ret (.tup (.cons (.call "_law_some" (adr G "_law_some") s__law_some (.cons (.loc 0) (.cons (.lst (.cons (.cst (.str "row")) (.cons (.cst (.str "beside")) .nil))) .nil))) (.cons (.bi .tuple (.cons (.loc 3) .nil)) .nil))))
    .nil)))))
abbrev t__law_great : Stmt := topS 53
theorem sc__law_great : FnScope n__law_great p__law_great (defScope t__law_great) := ⟨rfl, rfl, rfl, by decide +kernel, rfl, by decide +kernel, by decide +kernel⟩
theorem ck__law_great {G : Gx} {s__law_some s__law_draw s__law_great s__law_place : TSp} : ckSs n__law_great (defScope t__law_great) (b__law_great G s__law_some s__law_draw s__law_great s__law_place) (defBody t__law_great) = true := by rfl
theorem bi__law_great {K : PySem.W.Frag} {f : Addr} {fd : FuncData} (F : Fun K "_law_great" "_law_great" t__law_great f fd) : Binds K fd p__law_great [] := F.binds fun _ _ _ _ _ _ us hl => match us, hl with | [_, _], _ => rfl
abbrev n__law_size : List Str := ["plan", "part"]
abbrev p__law_size : List Str := ["plan"]
def b__law_size (G : Gx) (s__law_size : TSp) : Sms :=
  (.cons (.ife (.val (.bi .isi (.cons (.ix (.loc 0) (.cst (.int 0))) (.cons (.glb "int" (.ty "int")) .nil)))) (.cons (.ret (.cst (.int 1)))
    .nil) .nil)
    (.cons (.ife (.val (.cmp .in (.ix (.loc 0) (.cst (.int 0))) (.tup (.cons (.cst (.str "times")) (.cons (.cst (.str "copies")) .nil))))) (.cons (.ret (.bin .add (.cst (.int 1)) (.call "_law_size" (adr G "_law_size") s__law_size (.cons (.ix (.loc 0) (.cst (.int 2))) .nil))))
    .nil) .nil)
    (.cons (.ret (.bin .add (.cst (.int 1)) (.bi .sum (.cons (.lc (.name 1) (.seq (.ix (.loc 0) (.cst (.int 1)))) .no (.call "_law_size" (adr G "_law_size") s__law_size (.cons (.loc 1) .nil)) [("part", 1)]) .nil))))
    .nil)))
abbrev t__law_size : Stmt := topS 54
theorem sc__law_size : FnScope n__law_size p__law_size (defScope t__law_size) := ⟨rfl, rfl, rfl, by decide +kernel, rfl, by decide +kernel, by decide +kernel⟩
theorem ck__law_size {G : Gx} {s__law_size : TSp} : ckSs n__law_size (defScope t__law_size) (b__law_size G s__law_size) (defBody t__law_size) = true := by rfl
theorem bi__law_size {K : PySem.W.Frag} {f : Addr} {fd : FuncData} (F : Fun K "_law_size" "_law_size" t__law_size f fd) : Binds K fd p__law_size [] := F.binds fun _ _ _ _ _ _ us hl => match us, hl with | [_], _ => rfl
abbrev n__law_total : List Str := ["plan", "rows", "length", "weight", "part", "row"]
abbrev p__law_total : List Str := ["plan"]
def b__law_total (G : Gx) (s__law_total : TSp) : Sms :=
  (.cons (.ife (.val (.bi .isi (.cons (.ix (.loc 0) (.cst (.int 0))) (.cons (.glb "int" (.ty "int")) .nil)))) (.cons (.ret (.loc 0))
    .nil) .nil)
    (.cons (.ife (.val (.cmp .in (.ix (.loc 0) (.cst (.int 0))) (.tup (.cons (.cst (.str "times")) (.cons (.cst (.str "copies")) .nil))))) (.cons (.asg [2, 3] (.call "_law_total" (adr G "_law_total") s__law_total (.cons (.ix (.loc 0) (.cst (.int 2))) .nil)))
    (.cons (.ret (.tup (.cons (.bin .mul (.ix (.loc 0) (.cst (.int 1))) (.loc 2)) (.cons (.bin .mul (.ix (.loc 0) (.cst (.int 1))) (.loc 3)) .nil))))
    .nil)) .nil)
    (.cons (.set 1 (.lc (.name 4) (.seq (.ix (.loc 0) (.cst (.int 1)))) .no (.call "_law_total" (adr G "_law_total") s__law_total (.cons (.loc 4) .nil)) [("part", 4)]))
    (.cons (.ret (.tup (.cons (.bi .sum (.cons (.lc (.name 5) (.seq (.loc 1)) .no (.ix (.loc 5) (.cst (.int 0))) [("row", 5)]) .nil)) (.cons (.bi .sum (.cons (.lc (.name 5) (.seq (.loc 1)) .no (.ix (.loc 5) (.cst (.int 1))) [("row", 5)]) .nil)) .nil))))
    .nil))))
abbrev t__law_total : Stmt := topS 55
theorem sc__law_total : FnScope n__law_total p__law_total (defScope t__law_total) := ⟨rfl, rfl, rfl, by decide +kernel, rfl, by decide +kernel, by decide +kernel⟩
theorem ck__law_total {G : Gx} {s__law_total : TSp} : ckSs n__law_total (defScope t__law_total) (b__law_total G s__law_total) (defBody t__law_total) = true := by rfl
theorem bi__law_total {K : PySem.W.Frag} {f : Addr} {fd : FuncData} (F : Fun K "_law_total" "_law_total" t__law_total f fd) : Binds K fd p__law_total [] := F.binds fun _ _ _ _ _ _ us hl => match us, hl with | [_], _ => rfl
abbrev n__law_is_right : List Str := ["plan", "due", "turn", "book", "one"]
abbrev p__law_is_right : List Str := ["plan"]
def b__law_is_right (G : Gx) (s_listed s_total s_places s_size s__law_is s__law_total s__law_count s__law_size : TSp) : Sms :=
  (.cons (.set 1 (.lst (.cons (.call "_law_size" (adr G "_law_size") s__law_size (.cons (.loc 0) .nil)) (.cons (.call "_law_count" (adr G "_law_count") s__law_count (.cons (.loc 0) .nil)) (.cons (.call "_law_total" (adr G "_law_total") s__law_total (.cons (.loc 0) .nil)) .nil)))))
    (.cons (.fr (.name 2) (.seq (.tup (.cons (.cst (.int 0)) (.cons (.cst (.int 1)) .nil)))) (.cons (.ife (.nt (.val (.call "_law_is" (adr G "_law_is") s__law_is (.cons (.lst (.cons (.call "size" (adr G "size") s_size (.cons (.loc 0) .nil)) (.cons (.call "places" (adr G "places") s_places (.cons (.loc 0) .nil)) (.cons (.call "total" (adr G "total") s_total (.cons (.loc 0) .nil)) .nil)))) (.cons (.loc 1) .nil))))) (.cons (.ret (.cst (.bl false)))
    .nil) .nil)
    .nil))
    (.cons (.ife (.val (.cmp .lt (.ix (.loc 1) (.cst (.int 1))) (.cst (.int 201)))) (.cons (.set 3 (.call "listed" (adr G "listed") s_listed (.cons (.loc 0) .nil)))
    (.cons (.ife (.or (.val (.cmp .ne (.bi .len (.cons (.loc 3) .nil)) (.ix (.loc 1) (.cst (.int 1))))) (.val (.cmp .ne (.ix (.loc 1) (.cst (.int 2))) (.tup (.cons (.bi .sum (.cons (.lc (.name 4) (.seq (.loc 3)) .no (.ix (.loc 4) (.cst (.int 0))) [("one", 4)]) .nil)) (.cons (.bi .sum (.cons (.lc (.name 4) (.seq (.loc 3)) .no (.ix (.loc 4) (.cst (.int 1))) [("one", 4)]) .nil)) .nil)))))) (.cons (.ret (.cst (.bl false)))
    .nil) .nil)
    .nil)) .nil)
    (.cons (.ret (.cst (.bl true)))
    .nil))))
abbrev t__law_is_right : Stmt := topS 56
theorem sc__law_is_right : FnScope n__law_is_right p__law_is_right (defScope t__law_is_right) := ⟨rfl, rfl, rfl, by decide +kernel, rfl, by decide +kernel, by decide +kernel⟩
theorem ck__law_is_right {G : Gx} {s_listed s_total s_places s_size s__law_is s__law_total s__law_count s__law_size : TSp} : ckSs n__law_is_right (defScope t__law_is_right) (b__law_is_right G s_listed s_total s_places s_size s__law_is s__law_total s__law_count s__law_size) (defBody t__law_is_right) = true := by rfl
theorem bi__law_is_right {K : PySem.W.Frag} {f : Addr} {fd : FuncData} (F : Fun K "_law_is_right" "_law_is_right" t__law_is_right f fd) : Binds K fd p__law_is_right [] := F.binds fun _ _ _ _ _ _ us hl => match us, hl with | [_], _ => rfl
abbrev n__law_are_two_right : List Str := ["one", "other", "plan", "length", "weight", "a", "b"]
abbrev p__law_are_two_right : List Str := ["one", "other"]
def b__law_are_two_right (G : Gx) (s_mixed s_joined s_places s_size s__law_is s_total s__law_total : TSp) : Sms :=
  (.cons (.fr (.name 2) (.seq (.tup (.cons (.call "joined" (adr G "joined") s_joined (.cons (.loc 0) (.cons (.loc 1) .nil))) (.cons (.call "mixed" (adr G "mixed") s_mixed (.cons (.loc 0) (.cons (.loc 1) .nil))) .nil)))) (.cons (.asg [3, 4] (.lc (.tup [5, 6]) (.zip (.call "_law_total" (adr G "_law_total") s__law_total (.cons (.loc 0) .nil)) (.call "_law_total" (adr G "_law_total") s__law_total (.cons (.loc 1) .nil))) .no (.bin .add (.loc 5) (.loc 6)) [("a", 5), ("b", 6)]))
    (.cons (.ife (.nt (.val (.call "_law_is" (adr G "_law_is") s__law_is (.cons (.call "total" (adr G "total") s_total (.cons (.loc 2) .nil)) (.cons (.tup (.cons (.loc 3) (.cons (.loc 4) .nil))) .nil))))) (.cons (.ret (.cst (.bl false)))
    .nil) .nil)
    (.cons (.ife (.nt (.val (.call "_law_is" (adr G "_law_is") s__law_is (.cons (.lst (.cons (.call "size" (adr G "size") s_size (.cons (.loc 2) .nil)) (.cons (.call "places" (adr G "places") s_places (.cons (.loc 2) .nil)) .nil))) (.cons (.lst (.cons (.bin .add (.bin .add (.cst (.int 1)) (.call "size" (adr G "size") s_size (.cons (.loc 0) .nil))) (.call "size" (adr G "size") s_size (.cons (.loc 1) .nil))) (.cons (.bin .add (.call "places" (adr G "places") s_places (.cons (.loc 0) .nil)) (.call "places" (adr G "places") s_places (.cons (.loc 1) .nil))) .nil))) .nil))))) (.cons (.ret (.cst (.bl false)))
    .nil) .nil)
    .nil))))
    (.cons (.ret (.cst (.bl true)))
    .nil))
abbrev t__law_are_two_right : Stmt := topS 57
theorem sc__law_are_two_right : FnScope n__law_are_two_right p__law_are_two_right (defScope t__law_are_two_right) := ⟨rfl, rfl, rfl, by decide +kernel, rfl, by decide +kernel, by decide +kernel⟩
theorem ck__law_are_two_right {G : Gx} {s_mixed s_joined s_places s_size s__law_is s_total s__law_total : TSp} : ckSs n__law_are_two_right (defScope t__law_are_two_right) (b__law_are_two_right G s_mixed s_joined s_places s_size s__law_is s_total s__law_total) (defBody t__law_are_two_right) = true := by rfl
theorem bi__law_are_two_right {K : PySem.W.Frag} {f : Addr} {fd : FuncData} (F : Fun K "_law_are_two_right" "_law_are_two_right" t__law_are_two_right f fd) : Binds K fd p__law_are_two_right [] := F.binds fun _ _ _ _ _ _ us hl => match us, hl with | [_, _], _ => rfl
abbrev n__law_deep : List Str := ["hand", "plan", "rows", "parts", "turn", "word", "row", "at"]
abbrev p__law_deep : List Str := ["hand"]
def b__law_deep (G : Gx) (s__law_place s__law_some s__law_draw : TSp) : Sms :=
  (.cons (.set 1 (.call "_law_place" (adr G "_law_place") s__law_place (.cons (.loc 0) (.cons (.bin .sub (.bin .pow (.cst (.int 10)) (.cst (.int 12))) (.cst (.int 1))) .nil))))
    (.cons (.ife (.val (.cmp .eq (.call "_law_draw" (adr G "_law_draw") s__law_draw (.cons (.loc 0) (.cons (.cst (.int 2)) .nil))) (.cst (.int 0)))) (.cons (.fr (.name 4) (.rng1 (.cst (.int 16))) (.cons (.set 5 (.call "_law_some" (adr G "_law_some") s__law_some (.cons (.loc 0) (.cons (.lst (.cons (.cst (.str "row")) (.cons (.cst (.str "beside")) (.cons (.cst (.str "times")) (.cons (.cst (.str "copies")) .nil))))) .nil))))
    (.cons (.set 1 (.ite (.val (.cmp .in (.loc 5) (.tup (.cons (.cst (.str "row")) (.cons (.cst (.str "beside")) .nil))))) (.tup (.cons (.loc 5) (.cons (.tup (.cons (.loc 1) .nil)) .nil))) (.tup (.cons (.loc 5) (.cons (.bin .add (.cst (.int 1)) (.call "_law_draw" (adr G "_law_draw") s__law_draw (.cons (.loc 0) (.cons (.bin .pow (.cst (.int 10)) (.cst (.int 30))) .nil)))) (.cons (.loc 1) .nil))))))
    .nil)))
    (.cons (.ret (.loc 1))
    .nil)) .nil)
    (.cons (.set 2 (.lc (.name 4) (.rng1 (.cst (.int 11))) .no (.bi .tuple (.cons (.lc (.name 7) (.rng1 (.cst (.int 12))) .no (.call "_law_place" (adr G "_law_place") s__law_place (.cons (.loc 0) (.cons (.cst (.int 9)) .nil))) [("at", 7)]) .nil)) [("turn", 4)]))
    (.cons (.set 3 (.lc (.name 6) (.seq (.loc 2)) .no (.tup (.cons (.call "_law_some" (adr G "_law_some") s__law_some (.cons (.loc 0) (.cons (.lst (.cons (.cst (.str "row")) (.cons (.cst (.str "beside")) .nil))) .nil))) (.cons (.loc 6) .nil))) [("row", 6)]))
    (.cons (.ret (.tup (.cons (.cst (.str "row")) (.cons (.bi .tuple (.cons (.bin .add (.loc 3) (.lst (.cons (.tup (.cons (.cst (.str "times")) (.cons (.bin .pow (.cst (.int 10)) (.cst (.int 30))) (.cons (.tup (.cons (.cst (.str "row")) (.cons (.bi .tuple (.cons (.lc (.name 7) (.rng1 (.cst (.int 4))) .no (.call "_law_place" (adr G "_law_place") s__law_place (.cons (.loc 0) (.cons (.cst (.int 9)) .nil))) [("at", 7)]) .nil)) .nil))) .nil)))) .nil))) .nil)) .nil))))
    .nil)))))
abbrev t__law_deep : Stmt := topS 58
theorem sc__law_deep : FnScope n__law_deep p__law_deep (defScope t__law_deep) := ⟨rfl, rfl, rfl, by decide +kernel, rfl, by decide +kernel, by decide +kernel⟩
theorem ck__law_deep {G : Gx} {s__law_place s__law_some s__law_draw : TSp} : ckSs n__law_deep (defScope t__law_deep) (b__law_deep G s__law_place s__law_some s__law_draw) (defBody t__law_deep) = true := by rfl
theorem bi__law_deep {K : PySem.W.Frag} {f : Addr} {fd : FuncData} (F : Fun K "_law_deep" "_law_deep" t__law_deep f fd) : Binds K fd p__law_deep [] := F.binds fun _ _ _ _ _ _ us hl => match us, hl with | [_], _ => rfl
abbrev n_law : List Str := ["script", "hand", "known", "turn", "one", "other"]
abbrev p_law : List Str := ["script"]
def b_law (G : Gx) (s__law_are_two_right s__law_is_right s__law_great s__law_few s__law_deep s_total s_places s_size s__law_is s__law_hand : TSp) : Sms :=
  (.cons (.set 1 (.call "_law_hand" (adr G "_law_hand") s__law_hand (.cons (.loc 0) .nil)))
    (.cons (.set 2 (.tup (.cons (.cst (.str "times")) (.cons (.cst (.int 3)) (.cons (.tup (.cons (.cst (.str "beside")) (.cons (.tup (.cons (.tup (.cons (.cst (.int 1)) (.cons (.cst (.int 2)) .nil))) (.cons (.tup (.cons (.cst (.str "copies")) (.cons (.bin .pow (.cst (.int 10)) (.cst (.int 30))) (.cons (.tup (.cons (.cst (.int 0)) (.cons (.cst (.int 4)) .nil))) .nil)))) .nil))) .nil))) .nil)))))
    (.cons (.ife (.nt (.val (.call "_law_is" (adr G "_law_is") s__law_is (.cons (.lst (.cons (.call "size" (adr G "size") s_size (.cons (.loc 2) .nil)) (.cons (.call "places" (adr G "places") s_places (.cons (.loc 2) .nil)) (.cons (.call "total" (adr G "total") s_total (.cons (.loc 2) .nil)) .nil)))) (.cons (.lst (.cons (.cst (.int 5)) (.cons (.bin .add (.cst (.int 3)) (.bin .mul (.cst (.int 3)) (.bin .pow (.cst (.int 10)) (.cst (.int 30))))) (.cons (.tup (.cons (.cst (.int 3)) (.cons (.bin .add (.cst (.int 6)) (.bin .mul (.cst (.int 12)) (.bin .pow (.cst (.int 10)) (.cst (.int 30))))) .nil))) .nil)))) .nil))))) (.cons (.ret (.cst (.bl false)))
    .nil) .nil)
    (.cons (.ife (.nt (.val (.call "_law_is_right" (adr G "_law_is_right") s__law_is_right (.cons (.call "_law_deep" (adr G "_law_deep") s__law_deep (.cons (.loc 1) .nil)) .nil)))) (.cons (.ret (.cst (.bl false)))
    .nil) .nil)
    (.cons (.fr (.name 3) (.rng1 (.cst (.int 4))) (.cons (.par [4, 5] (.cons (.call "_law_few" (adr G "_law_few") s__law_few (.cons (.loc 1) (.cons (.cst (.int 60)) (.cons (.bin .sub (.bin .pow (.cst (.int 10)) (.cst (.int 12))) (.cst (.int 1))) .nil)))) (.cons (.call "_law_great" (adr G "_law_great") s__law_great (.cons (.loc 1) (.cons (.cst (.int 3)) .nil))) .nil)))
    (.cons (.ife (.or (.nt (.val (.call "_law_is_right" (adr G "_law_is_right") s__law_is_right (.cons (.loc 4) .nil)))) (.or (.nt (.val (.call "_law_is_right" (adr G "_law_is_right") s__law_is_right (.cons (.loc 5) .nil)))) (.nt (.val (.call "_law_are_two_right" (adr G "_law_are_two_right") s__law_are_two_right (.cons (.loc 4) (.cons (.loc 5) .nil))))))) (.cons (.ret (.cst (.bl false)))
    .nil) .nil)
    .nil)))
    (.cons (.ret (.cst (.bl true)))
    .nil))))))
abbrev t_law : Stmt := topS 59
theorem sc_law : FnScope n_law p_law (defScope t_law) := ⟨rfl, rfl, rfl, by decide +kernel, rfl, by decide +kernel, by decide +kernel⟩
theorem ck_law {G : Gx} {s__law_are_two_right s__law_is_right s__law_great s__law_few s__law_deep s_total s_places s_size s__law_is s__law_hand : TSp} : ckSs n_law (defScope t_law) (b_law G s__law_are_two_right s__law_is_right s__law_great s__law_few s__law_deep s_total s_places s_size s__law_is s__law_hand) (defBody t_law) = true := by rfl
theorem bi_law {K : PySem.W.Frag} {f : Addr} {fd : FuncData} (F : Fun K "law" "law" t_law f fd) : Binds K fd p_law [] := F.binds fun _ _ _ _ _ _ us hl => match us, hl with | [_], _ => rfl
structure Facts (G : Gx) : Prop where
  d_is_int : Df G "is_int" t_is_int p_is_int
  d_is_within : Df G "is_within" t_is_within p_is_within
  d_is_pair : Df G "is_pair" t_is_pair p_is_pair
  d_is_step : Df G "is_step" t_is_step p_is_step
  d_is_place : Df G "is_place" t_is_place p_is_place
  d_check_most : Df G "check_most" t_check_most p_check_most
  d_counted : Df G "counted" t_counted p_counted
  d_has_form : Df G "has_form" t_has_form p_has_form
  d_is_plan : Df G "is_plan" t_is_plan p_is_plan
  d_check_plan : Df G "check_plan" t_check_plan p_check_plan
  d_size : Df G "size" t_size p_size
  d_places_of : Df G "places_of" t_places_of p_places_of
  d_places : Df G "places" t_places p_places
  d_total_of : Df G "total_of" t_total_of p_total_of
  d_total : Df G "total" t_total p_total
  d_spread_from : Df G "spread_from" t_spread_from p_spread_from
  d_spread : Df G "spread" t_spread p_spread
  d_leaves : Df G "leaves" t_leaves p_leaves
  d_check_listed : Df G "check_listed" t_check_listed p_check_listed
  d_listed : DfD G "listed" t_listed p_listed [(.int 200)]
  d_paired : Df G "paired" t_paired p_paired
  d_joined : Df G "joined" t_joined p_joined
  d_mixed : Df G "mixed" t_mixed p_mixed
  d__law_hand : Df G "_law_hand" t__law_hand p__law_hand
  d__law_draw : Df G "_law_draw" t__law_draw p__law_draw
  d__law_some : Df G "_law_some" t__law_some p__law_some
  d__law_is : Df G "_law_is" t__law_is p__law_is
  d__law_place : Df G "_law_place" t__law_place p__law_place
  d__law_plan : Df G "_law_plan" t__law_plan p__law_plan
  d__law_few : Df G "_law_few" t__law_few p__law_few
  d__law_count : Df G "_law_count" t__law_count p__law_count
  d__law_great : Df G "_law_great" t__law_great p__law_great
  d__law_size : Df G "_law_size" t__law_size p__law_size
  d__law_total : Df G "_law_total" t__law_total p__law_total
  d__law_is_right : Df G "_law_is_right" t__law_is_right p__law_is_right
  d__law_are_two_right : Df G "_law_are_two_right" t__law_are_two_right p__law_are_two_right
  d__law_deep : Df G "_law_deep" t__law_deep p__law_deep
  d_law : Df G "law" t_law p_law
  g_MOST_NUMBER : GlV G "MOST_NUMBER" (.int 1000000000000)
  g_MOST_SIZE : GlV G "MOST_SIZE" (.int 150)
  g_MOST_PARTS : GlV G "MOST_PARTS" (.int 12)
  g_REPEATS : GlV G "REPEATS" (.tup [(.str "times"), (.str "copies")])
  g_MOST_TIMES : GlV G "MOST_TIMES" (.int 1000000000000000000000000000000)
  g_MOST_DEPTH : GlV G "MOST_DEPTH" (.int 16)
  g_JOINS : GlV G "JOINS" (.tup [(.str "row"), (.str "beside")])
  g_TIMES : GlV G "TIMES" (.str "times")
  g_ROW : GlV G "ROW" (.str "row")
  g_BESIDE : GlV G "BESIDE" (.str "beside")
  g_PLACE : GlV G "PLACE" (.str "place")
  g_MOST_LISTED : GlV G "MOST_LISTED" (.int 1000)
  z_abs : G.mg "abs" = none
  z_all : G.mg "all" = none
  z_bool : G.mg "bool" = none
  z_int : G.mg "int" = none
  z_isinstance : G.mg "isinstance" = none
  z_len : G.mg "len" = none
  z_list : G.mg "list" = none
  z_range : G.mg "range" = none
  z_str : G.mg "str" = none
  z_sum : G.mg "sum" = none
  z_tuple : G.mg "tuple" = none
  z_zip : G.mg "zip" = none
theorem Facts.y_bool {G : Gx} (F : Facts G) : GlV G "bool" (.ty "bool") := glv_ty F.z_bool rfl
theorem Facts.y_int {G : Gx} (F : Facts G) : GlV G "int" (.ty "int") := glv_ty F.z_int rfl
theorem Facts.y_list {G : Gx} (F : Facts G) : GlV G "list" (.ty "list") := glv_ty F.z_list rfl
theorem Facts.y_str {G : Gx} (F : Facts G) : GlV G "str" (.ty "str") := glv_ty F.z_str rfl
theorem Facts.y_tuple {G : Gx} (F : Facts G) : GlV G "tuple" (.ty "tuple") := glv_ty F.z_tuple rfl
theorem Facts.r_is_int {G : Gx} (F : Facts G) : GlV G "is_int" (.ref (adr G "is_int")) := glv_ref F.d_is_int.has
theorem Facts.r_is_within {G : Gx} (F : Facts G) : GlV G "is_within" (.ref (adr G "is_within")) := glv_ref F.d_is_within.has
theorem Facts.r_is_pair {G : Gx} (F : Facts G) : GlV G "is_pair" (.ref (adr G "is_pair")) := glv_ref F.d_is_pair.has
theorem Facts.r_is_step {G : Gx} (F : Facts G) : GlV G "is_step" (.ref (adr G "is_step")) := glv_ref F.d_is_step.has
theorem Facts.r_is_place {G : Gx} (F : Facts G) : GlV G "is_place" (.ref (adr G "is_place")) := glv_ref F.d_is_place.has
theorem Facts.r_check_most {G : Gx} (F : Facts G) : GlV G "check_most" (.ref (adr G "check_most")) := glv_ref F.d_check_most.has
theorem Facts.r_counted {G : Gx} (F : Facts G) : GlV G "counted" (.ref (adr G "counted")) := glv_ref F.d_counted.has
theorem Facts.r_has_form {G : Gx} (F : Facts G) : GlV G "has_form" (.ref (adr G "has_form")) := glv_ref F.d_has_form.has
theorem Facts.r_is_plan {G : Gx} (F : Facts G) : GlV G "is_plan" (.ref (adr G "is_plan")) := glv_ref F.d_is_plan.has
theorem Facts.r_check_plan {G : Gx} (F : Facts G) : GlV G "check_plan" (.ref (adr G "check_plan")) := glv_ref F.d_check_plan.has
theorem Facts.r_size {G : Gx} (F : Facts G) : GlV G "size" (.ref (adr G "size")) := glv_ref F.d_size.has
theorem Facts.r_places_of {G : Gx} (F : Facts G) : GlV G "places_of" (.ref (adr G "places_of")) := glv_ref F.d_places_of.has
theorem Facts.r_places {G : Gx} (F : Facts G) : GlV G "places" (.ref (adr G "places")) := glv_ref F.d_places.has
theorem Facts.r_total_of {G : Gx} (F : Facts G) : GlV G "total_of" (.ref (adr G "total_of")) := glv_ref F.d_total_of.has
theorem Facts.r_total {G : Gx} (F : Facts G) : GlV G "total" (.ref (adr G "total")) := glv_ref F.d_total.has
theorem Facts.r_spread_from {G : Gx} (F : Facts G) : GlV G "spread_from" (.ref (adr G "spread_from")) := glv_ref F.d_spread_from.has
theorem Facts.r_spread {G : Gx} (F : Facts G) : GlV G "spread" (.ref (adr G "spread")) := glv_ref F.d_spread.has
theorem Facts.r_leaves {G : Gx} (F : Facts G) : GlV G "leaves" (.ref (adr G "leaves")) := glv_ref F.d_leaves.has
theorem Facts.r_check_listed {G : Gx} (F : Facts G) : GlV G "check_listed" (.ref (adr G "check_listed")) := glv_ref F.d_check_listed.has
theorem Facts.r_listed {G : Gx} (F : Facts G) : GlV G "listed" (.ref (adr G "listed")) := glv_ref F.d_listed.has
theorem Facts.r_paired {G : Gx} (F : Facts G) : GlV G "paired" (.ref (adr G "paired")) := glv_ref F.d_paired.has
theorem Facts.r_joined {G : Gx} (F : Facts G) : GlV G "joined" (.ref (adr G "joined")) := glv_ref F.d_joined.has
theorem Facts.r_mixed {G : Gx} (F : Facts G) : GlV G "mixed" (.ref (adr G "mixed")) := glv_ref F.d_mixed.has
theorem Facts.r__law_hand {G : Gx} (F : Facts G) : GlV G "_law_hand" (.ref (adr G "_law_hand")) := glv_ref F.d__law_hand.has
theorem Facts.r__law_draw {G : Gx} (F : Facts G) : GlV G "_law_draw" (.ref (adr G "_law_draw")) := glv_ref F.d__law_draw.has
theorem Facts.r__law_some {G : Gx} (F : Facts G) : GlV G "_law_some" (.ref (adr G "_law_some")) := glv_ref F.d__law_some.has
theorem Facts.r__law_is {G : Gx} (F : Facts G) : GlV G "_law_is" (.ref (adr G "_law_is")) := glv_ref F.d__law_is.has
theorem Facts.r__law_place {G : Gx} (F : Facts G) : GlV G "_law_place" (.ref (adr G "_law_place")) := glv_ref F.d__law_place.has
theorem Facts.r__law_plan {G : Gx} (F : Facts G) : GlV G "_law_plan" (.ref (adr G "_law_plan")) := glv_ref F.d__law_plan.has
theorem Facts.r__law_few {G : Gx} (F : Facts G) : GlV G "_law_few" (.ref (adr G "_law_few")) := glv_ref F.d__law_few.has
theorem Facts.r__law_count {G : Gx} (F : Facts G) : GlV G "_law_count" (.ref (adr G "_law_count")) := glv_ref F.d__law_count.has
theorem Facts.r__law_great {G : Gx} (F : Facts G) : GlV G "_law_great" (.ref (adr G "_law_great")) := glv_ref F.d__law_great.has
theorem Facts.r__law_size {G : Gx} (F : Facts G) : GlV G "_law_size" (.ref (adr G "_law_size")) := glv_ref F.d__law_size.has
theorem Facts.r__law_total {G : Gx} (F : Facts G) : GlV G "_law_total" (.ref (adr G "_law_total")) := glv_ref F.d__law_total.has
theorem Facts.r__law_is_right {G : Gx} (F : Facts G) : GlV G "_law_is_right" (.ref (adr G "_law_is_right")) := glv_ref F.d__law_is_right.has
theorem Facts.r__law_are_two_right {G : Gx} (F : Facts G) : GlV G "_law_are_two_right" (.ref (adr G "_law_are_two_right")) := glv_ref F.d__law_are_two_right.has
theorem Facts.r__law_deep {G : Gx} (F : Facts G) : GlV G "_law_deep" (.ref (adr G "_law_deep")) := glv_ref F.d__law_deep.has
theorem Facts.r_law {G : Gx} (F : Facts G) : GlV G "law" (.ref (adr G "law")) := glv_ref F.d_law.has
theorem ok_is_int {G : Gx} (F : Facts G) {k : Nat} : okSs G k (b_is_int G) := ⟨⟨⟨F.z_isinstance, ⟨trivial, ⟨F.y_int, trivial⟩⟩⟩, ⟨F.z_isinstance, ⟨trivial, ⟨F.y_bool, trivial⟩⟩⟩⟩, trivial⟩
theorem ok_is_within {G : Gx} (F : Facts G) {k : Nat} {s_is_int : TSp} (h_is_int : HeldT G k (adr G "is_int") s_is_int) : okSs G k (b_is_within G s_is_int) := ⟨⟨⟨⟨F.d_is_int.has, h_is_int⟩, ⟨trivial, trivial⟩⟩, ⟨trivial, trivial, trivial⟩⟩, trivial⟩
theorem ok_is_pair {G : Gx} (F : Facts G) {k : Nat} {s_is_int : TSp} (h_is_int : HeldT G k (adr G "is_int") s_is_int) : okSs G k (b_is_pair G s_is_int) := ⟨⟨⟨F.z_isinstance, ⟨trivial, ⟨F.y_tuple, trivial⟩⟩⟩, ⟨⟨⟨F.z_len, ⟨trivial, trivial⟩⟩, trivial⟩, ⟨⟨⟨F.d_is_int.has, h_is_int⟩, ⟨⟨trivial, trivial⟩, trivial⟩⟩, ⟨⟨F.d_is_int.has, h_is_int⟩, ⟨⟨trivial, trivial⟩, trivial⟩⟩⟩⟩⟩, trivial⟩
theorem ok_is_step {G : Gx} (F : Facts G) {k : Nat} {s_is_pair : TSp} (h_is_pair : HeldT G k (adr G "is_pair") s_is_pair) : okSs G k (b_is_step G s_is_pair) := ⟨⟨⟨⟨F.d_is_pair.has, h_is_pair⟩, ⟨trivial, trivial⟩⟩, ⟨⟨⟨trivial, trivial⟩, trivial⟩, ⟨⟨⟨trivial, trivial⟩, trivial⟩, ⟨trivial, ⟨trivial, ⟨trivial, trivial⟩⟩⟩⟩⟩⟩, trivial⟩
theorem ok_is_place {G : Gx} (F : Facts G) {k : Nat} {s_is_step : TSp} (h_is_step : HeldT G k (adr G "is_step") s_is_step) : okSs G k (b_is_place G s_is_step) := ⟨⟨⟨⟨F.d_is_step.has, h_is_step⟩, ⟨trivial, trivial⟩⟩, ⟨⟨⟨trivial, trivial⟩, F.g_MOST_NUMBER⟩, ⟨⟨trivial, trivial⟩, F.g_MOST_NUMBER⟩⟩⟩, trivial⟩
theorem ok_check_most {G : Gx} (F : Facts G) {k : Nat} {s_is_within : TSp} (h_is_within : HeldT G k (adr G "is_within") s_is_within) : okSs G k (b_check_most G s_is_within) := ⟨⟨⟨⟨F.d_is_within.has, h_is_within⟩, ⟨trivial, ⟨trivial, ⟨trivial, trivial⟩⟩⟩⟩, ⟨trivial, trivial⟩, trivial⟩, trivial⟩
theorem ok_counted {G : Gx} (F : Facts G) {k : Nat} {s_counted : TSp} (h_counted : HeldT G k (adr G "counted") s_counted) {s_is_within : TSp} (h_is_within : HeldT G k (adr G "is_within") s_is_within) : okSs G k (b_counted G s_counted s_is_within) := ⟨⟨⟨trivial, trivial⟩, ⟨trivial, trivial⟩, trivial⟩, ⟨⟨⟨⟨trivial, trivial⟩, ⟨⟨F.z_isinstance, ⟨trivial, ⟨F.y_tuple, trivial⟩⟩⟩, ⟨⟨⟨F.z_len, ⟨trivial, trivial⟩⟩, trivial⟩, ⟨F.z_isinstance, ⟨⟨trivial, trivial⟩, ⟨F.y_str, trivial⟩⟩⟩⟩⟩⟩, ⟨trivial, trivial⟩, trivial⟩, ⟨⟨⟨⟨trivial, trivial⟩, F.g_REPEATS⟩, ⟨⟨⟨⟨⟨F.z_len, ⟨trivial, trivial⟩⟩, trivial⟩, ⟨⟨F.d_is_within.has, h_is_within⟩, ⟨⟨trivial, trivial⟩, ⟨trivial, ⟨F.g_MOST_TIMES, trivial⟩⟩⟩⟩⟩, ⟨trivial, trivial⟩, trivial⟩, ⟨⟨⟨F.d_counted.has, h_counted⟩, ⟨⟨trivial, trivial⟩, ⟨⟨trivial, trivial⟩, ⟨trivial, ⟨trivial, trivial⟩⟩⟩⟩⟩, ⟨⟨⟨trivial, trivial⟩, trivial, ⟨trivial, trivial⟩⟩, trivial⟩⟩⟩, trivial⟩, ⟨⟨⟨⟨⟨trivial, trivial⟩, trivial⟩, ⟨⟨F.z_len, ⟨trivial, trivial⟩⟩, trivial⟩⟩, ⟨trivial, trivial⟩, trivial⟩, ⟨⟨⟨⟨F.z_isinstance, ⟨⟨trivial, trivial⟩, ⟨F.y_tuple, trivial⟩⟩⟩, ⟨trivial, ⟨F.z_len, ⟨⟨trivial, trivial⟩, trivial⟩⟩, F.g_MOST_PARTS⟩⟩, ⟨trivial, trivial⟩, trivial⟩, ⟨trivial, ⟨⟨⟨trivial, trivial⟩, ⟨⟨⟨F.d_counted.has, h_counted⟩, ⟨trivial, ⟨⟨trivial, trivial⟩, ⟨trivial, ⟨trivial, trivial⟩⟩⟩⟩⟩, ⟨⟨⟨⟨trivial, trivial⟩, ⟨⟨trivial, trivial⟩, F.g_MOST_SIZE⟩⟩, ⟨trivial, trivial⟩, trivial⟩, ⟨trivial, trivial⟩⟩⟩⟩, ⟨trivial, trivial⟩⟩⟩⟩⟩⟩⟩⟩
theorem ok_has_form {G : Gx} (F : Facts G) {k : Nat} {s_counted : TSp} (h_counted : HeldT G k (adr G "counted") s_counted) : okSs G k (b_has_form G s_counted) := ⟨⟨⟨F.d_counted.has, h_counted⟩, ⟨trivial, ⟨F.g_MOST_DEPTH, ⟨trivial, ⟨trivial, trivial⟩⟩⟩⟩⟩, ⟨⟨⟨trivial, trivial⟩, ⟨trivial, F.g_MOST_SIZE⟩⟩, trivial⟩⟩
theorem ok_is_plan {G : Gx} (F : Facts G) {k : Nat} {s_has_form : TSp} (h_has_form : HeldT G k (adr G "has_form") s_has_form) : okSs G k (b_is_plan G s_has_form) := ⟨⟨⟨F.d_has_form.has, h_has_form⟩, ⟨trivial, ⟨F.r_is_place, ⟨F.g_JOINS, trivial⟩⟩⟩⟩, trivial⟩
theorem ok_check_plan {G : Gx} (F : Facts G) {k : Nat} {s_is_plan : TSp} (h_is_plan : HeldT G k (adr G "is_plan") s_is_plan) : okSs G k (b_check_plan G s_is_plan) := ⟨⟨⟨⟨F.d_is_plan.has, h_is_plan⟩, ⟨trivial, trivial⟩⟩, ⟨trivial, trivial⟩, trivial⟩, trivial⟩
theorem ok_size {G : Gx} (F : Facts G) {k : Nat} {s_counted : TSp} (h_counted : HeldT G k (adr G "counted") s_counted) {s_check_plan : TSp} (h_check_plan : HeldT G k (adr G "check_plan") s_check_plan) : okSs G k (b_size G s_counted s_check_plan) := ⟨⟨⟨F.d_check_plan.has, h_check_plan⟩, ⟨trivial, trivial⟩⟩, ⟨⟨⟨F.d_counted.has, h_counted⟩, ⟨trivial, ⟨F.g_MOST_DEPTH, ⟨F.r_is_place, ⟨F.g_JOINS, trivial⟩⟩⟩⟩⟩, trivial⟩⟩
theorem ok_places_of {G : Gx} (F : Facts G) {k : Nat} {s_places_of : TSp} (h_places_of : HeldT G k (adr G "places_of") s_places_of) {s_is_place : TSp} (h_is_place : HeldT G k (adr G "is_place") s_is_place) : okSs G k (b_places_of G s_places_of s_is_place) := ⟨⟨⟨⟨F.d_is_place.has, h_is_place⟩, ⟨trivial, trivial⟩⟩, ⟨trivial, trivial⟩, trivial⟩, ⟨⟨⟨⟨trivial, trivial⟩, F.g_REPEATS⟩, ⟨⟨⟨trivial, trivial⟩, ⟨⟨F.d_places_of.has, h_places_of⟩, ⟨⟨trivial, trivial⟩, trivial⟩⟩⟩, trivial⟩, trivial⟩, ⟨⟨F.z_sum, ⟨⟨⟨trivial, trivial⟩, trivial, ⟨⟨F.d_places_of.has, h_places_of⟩, ⟨trivial, trivial⟩⟩⟩, trivial⟩⟩, trivial⟩⟩⟩
theorem ok_places {G : Gx} (F : Facts G) {k : Nat} {s_places_of : TSp} (h_places_of : HeldT G k (adr G "places_of") s_places_of) {s_check_plan : TSp} (h_check_plan : HeldT G k (adr G "check_plan") s_check_plan) : okSs G k (b_places G s_places_of s_check_plan) := ⟨⟨⟨F.d_check_plan.has, h_check_plan⟩, ⟨trivial, trivial⟩⟩, ⟨⟨⟨F.d_places_of.has, h_places_of⟩, ⟨trivial, trivial⟩⟩, trivial⟩⟩
theorem ok_total_of {G : Gx} (F : Facts G) {k : Nat} {s_total_of : TSp} (h_total_of : HeldT G k (adr G "total_of") s_total_of) {s_is_place : TSp} (h_is_place : HeldT G k (adr G "is_place") s_is_place) : okSs G k (b_total_of G s_total_of s_is_place) := ⟨⟨⟨⟨F.d_is_place.has, h_is_place⟩, ⟨trivial, trivial⟩⟩, ⟨trivial, trivial⟩, trivial⟩, ⟨⟨⟨⟨trivial, trivial⟩, F.g_REPEATS⟩, ⟨⟨⟨F.d_total_of.has, h_total_of⟩, ⟨⟨trivial, trivial⟩, trivial⟩⟩, ⟨⟨⟨⟨trivial, trivial⟩, trivial⟩, ⟨⟨⟨trivial, trivial⟩, trivial⟩, trivial⟩⟩, trivial⟩⟩, trivial⟩, ⟨⟨⟨trivial, trivial⟩, trivial, ⟨⟨F.d_total_of.has, h_total_of⟩, ⟨trivial, trivial⟩⟩⟩, ⟨⟨⟨F.z_sum, ⟨⟨trivial, trivial, ⟨trivial, trivial⟩⟩, trivial⟩⟩, ⟨⟨F.z_sum, ⟨⟨trivial, trivial, ⟨trivial, trivial⟩⟩, trivial⟩⟩, trivial⟩⟩, trivial⟩⟩⟩⟩
theorem ok_total {G : Gx} (F : Facts G) {k : Nat} {s_total_of : TSp} (h_total_of : HeldT G k (adr G "total_of") s_total_of) {s_check_plan : TSp} (h_check_plan : HeldT G k (adr G "check_plan") s_check_plan) : okSs G k (b_total G s_total_of s_check_plan) := ⟨⟨⟨F.d_check_plan.has, h_check_plan⟩, ⟨trivial, trivial⟩⟩, ⟨⟨⟨F.d_total_of.has, h_total_of⟩, ⟨trivial, trivial⟩⟩, trivial⟩⟩
theorem ok_spread_from {G : Gx} (F : Facts G) {k : Nat} {s_spread_from : TSp} (h_spread_from : HeldT G k (adr G "spread_from") s_spread_from) {s_is_place : TSp} (h_is_place : HeldT G k (adr G "is_place") s_is_place) : okSs G k (b_spread_from G s_spread_from s_is_place) := ⟨⟨⟨⟨F.d_is_place.has, h_is_place⟩, ⟨trivial, trivial⟩⟩, ⟨⟨trivial, trivial, trivial⟩, ⟨⟨F.g_PLACE, ⟨⟨⟨trivial, trivial⟩, trivial⟩, ⟨trivial, trivial⟩⟩⟩, trivial⟩⟩, trivial⟩, ⟨⟨⟨⟨trivial, trivial⟩, F.g_REPEATS⟩, ⟨⟨⟨⟨trivial, trivial⟩, F.g_TIMES⟩, F.g_ROW, F.g_BESIDE⟩, ⟨⟨trivial, ⟨⟨F.z_tuple, ⟨⟨⟨F.z_range, ⟨trivial, trivial⟩⟩, trivial, ⟨⟨F.d_spread_from.has, h_spread_from⟩, ⟨⟨trivial, trivial⟩, ⟨trivial, trivial⟩⟩⟩⟩, trivial⟩⟩, trivial⟩⟩, trivial⟩⟩, trivial⟩, ⟨⟨⟨trivial, trivial⟩, ⟨⟨F.z_tuple, ⟨⟨⟨trivial, trivial⟩, trivial, ⟨⟨F.d_spread_from.has, h_spread_from⟩, ⟨trivial, ⟨trivial, trivial⟩⟩⟩⟩, trivial⟩⟩, trivial⟩⟩, trivial⟩⟩⟩
theorem ok_spread {G : Gx} (F : Facts G) {k : Nat} {s_spread_from : TSp} (h_spread_from : HeldT G k (adr G "spread_from") s_spread_from) : okSs G k (b_spread G s_spread_from) := ⟨⟨⟨F.d_spread_from.has, h_spread_from⟩, ⟨trivial, ⟨⟨trivial, trivial⟩, trivial⟩⟩⟩, trivial⟩
theorem ok_leaves {G : Gx} (F : Facts G) {k : Nat} {s_leaves : TSp} (h_leaves : HeldT G k (adr G "leaves") s_leaves) : okSs G k (b_leaves G s_leaves) := ⟨⟨⟨⟨trivial, trivial⟩, F.g_PLACE⟩, ⟨⟨⟨⟨trivial, trivial⟩, ⟨⟨trivial, trivial⟩, trivial⟩⟩, trivial⟩, trivial⟩, trivial⟩, ⟨⟨⟨trivial, trivial⟩, trivial, ⟨⟨F.d_leaves.has, h_leaves⟩, ⟨trivial, trivial⟩⟩, trivial, trivial⟩, trivial⟩⟩
theorem ok_check_listed {G : Gx} (F : Facts G) {k : Nat} {s_places_of : TSp} (h_places_of : HeldT G k (adr G "places_of") s_places_of) {s_check_most : TSp} (h_check_most : HeldT G k (adr G "check_most") s_check_most) {s_check_plan : TSp} (h_check_plan : HeldT G k (adr G "check_plan") s_check_plan) : okSs G k (b_check_listed G s_places_of s_check_most s_check_plan) := ⟨⟨⟨F.d_check_plan.has, h_check_plan⟩, ⟨trivial, trivial⟩⟩, ⟨⟨⟨F.d_check_most.has, h_check_most⟩, ⟨trivial, ⟨F.g_MOST_LISTED, trivial⟩⟩⟩, ⟨⟨⟨⟨⟨F.d_places_of.has, h_places_of⟩, ⟨trivial, trivial⟩⟩, trivial⟩, ⟨trivial, trivial⟩, trivial⟩, trivial⟩⟩⟩
theorem ok_listed {G : Gx} (F : Facts G) {k : Nat} {s_spread : TSp} (h_spread : HeldT G k (adr G "spread") s_spread) {s_leaves : TSp} (h_leaves : HeldT G k (adr G "leaves") s_leaves) {s_check_listed : TSp} (h_check_listed : HeldT G k (adr G "check_listed") s_check_listed) : okSs G k (b_listed G s_spread s_leaves s_check_listed) := ⟨⟨⟨F.d_check_listed.has, h_check_listed⟩, ⟨trivial, ⟨trivial, trivial⟩⟩⟩, ⟨⟨⟨⟨F.d_leaves.has, h_leaves⟩, ⟨⟨⟨F.d_spread.has, h_spread⟩, ⟨trivial, trivial⟩⟩, trivial⟩⟩, trivial, trivial⟩, trivial⟩⟩
theorem ok_paired {G : Gx} (F : Facts G) {k : Nat} {s_check_plan : TSp} (h_check_plan : HeldT G k (adr G "check_plan") s_check_plan) : okSs G k (b_paired G s_check_plan) := ⟨⟨⟨F.d_check_plan.has, h_check_plan⟩, ⟨trivial, trivial⟩⟩, ⟨⟨⟨F.d_check_plan.has, h_check_plan⟩, ⟨trivial, trivial⟩⟩, ⟨⟨trivial, ⟨⟨trivial, ⟨trivial, trivial⟩⟩, trivial⟩⟩, ⟨⟨⟨F.d_check_plan.has, h_check_plan⟩, ⟨trivial, trivial⟩⟩, ⟨trivial, trivial⟩⟩⟩⟩⟩
theorem ok_joined {G : Gx} (F : Facts G) {k : Nat} {s_paired : TSp} (h_paired : HeldT G k (adr G "paired") s_paired) : okSs G k (b_joined G s_paired) := ⟨⟨⟨F.d_paired.has, h_paired⟩, ⟨F.g_ROW, ⟨trivial, ⟨trivial, trivial⟩⟩⟩⟩, trivial⟩
theorem ok_mixed {G : Gx} (F : Facts G) {k : Nat} {s_paired : TSp} (h_paired : HeldT G k (adr G "paired") s_paired) : okSs G k (b_mixed G s_paired) := ⟨⟨⟨F.d_paired.has, h_paired⟩, ⟨F.g_BESIDE, ⟨trivial, ⟨trivial, trivial⟩⟩⟩⟩, trivial⟩
theorem ok__law_hand {G : Gx} (F : Facts G) {k : Nat} : okSs G k (b__law_hand G) := ⟨⟨⟨trivial, trivial, trivial⟩, trivial, ⟨F.z_abs, ⟨⟨F.z_int, ⟨trivial, trivial⟩⟩, trivial⟩⟩⟩, ⟨⟨trivial, ⟨trivial, ⟨trivial, ⟨⟨trivial, ⟨trivial, ⟨F.z_len, ⟨trivial, trivial⟩⟩⟩⟩, ⟨trivial, trivial⟩⟩⟩⟩⟩, trivial⟩⟩
theorem ok__law_draw {G : Gx} (F : Facts G) {k : Nat} : okSs G k (b__law_draw G) := ⟨⟨⟨⟨⟨trivial, trivial⟩, trivial⟩, ⟨⟨trivial, trivial⟩, ⟨F.z_len, ⟨⟨trivial, trivial⟩, trivial⟩⟩⟩⟩, ⟨⟨⟨trivial, trivial⟩, ⟨trivial, trivial⟩⟩, ⟨⟨trivial, trivial, ⟨⟨trivial, trivial⟩, trivial⟩⟩, ⟨⟨trivial, trivial, ⟨⟨F.z_int, ⟨⟨⟨⟨⟨trivial, trivial⟩, trivial⟩, trivial⟩, trivial⟩, trivial⟩⟩, trivial⟩⟩, ⟨⟨⟨trivial, ⟨trivial, trivial⟩⟩, ⟨⟨trivial, trivial, trivial⟩, trivial⟩, trivial⟩, trivial⟩⟩⟩⟩, trivial⟩, ⟨⟨⟨⟨trivial, trivial⟩, trivial⟩, ⟨⟨⟨F.z_int, ⟨⟨trivial, trivial⟩, trivial⟩⟩, trivial⟩, ⟨⟨trivial, trivial, ⟨⟨trivial, trivial⟩, trivial⟩⟩, ⟨trivial, trivial⟩⟩⟩, trivial⟩, ⟨⟨trivial, trivial, ⟨⟨trivial, trivial⟩, trivial⟩⟩, ⟨⟨⟨F.z_int, ⟨⟨⟨F.z_int, ⟨⟨⟨trivial, trivial⟩, ⟨trivial, ⟨trivial, trivial⟩⟩⟩, trivial⟩⟩, trivial⟩, trivial⟩⟩, trivial⟩, ⟨⟨⟨F.z_int, ⟨⟨trivial, ⟨⟨trivial, trivial⟩, trivial⟩⟩, trivial⟩⟩, trivial⟩, ⟨⟨⟨F.z_int, ⟨⟨trivial, ⟨⟨trivial, trivial⟩, trivial⟩⟩, trivial⟩⟩, trivial⟩, ⟨⟨⟨F.z_int, ⟨⟨trivial, trivial⟩, trivial⟩⟩, trivial⟩, trivial⟩⟩⟩⟩⟩⟩⟩
theorem ok__law_some {G : Gx} (F : Facts G) {k : Nat} {s__law_draw : TSp} (h__law_draw : HeldT G k (adr G "_law_draw") s__law_draw) : okSs G k (b__law_some G s__law_draw) := ⟨⟨trivial, ⟨⟨F.d__law_draw.has, h__law_draw⟩, ⟨trivial, ⟨⟨F.z_len, ⟨trivial, trivial⟩⟩, trivial⟩⟩⟩⟩, trivial⟩
theorem ok__law_is {G : Gx} (F : Facts G) {k : Nat} {s__law_is : TSp} (h__law_is : HeldT G k (adr G "_law_is") s__law_is) : okSs G k (b__law_is G s__law_is) := ⟨⟨⟨F.z_isinstance, ⟨trivial, ⟨⟨F.y_tuple, ⟨F.y_list, trivial⟩⟩, trivial⟩⟩⟩, ⟨⟨⟨⟨F.z_isinstance, ⟨trivial, ⟨F.y_tuple, trivial⟩⟩⟩, ⟨F.z_isinstance, ⟨trivial, ⟨F.y_tuple, trivial⟩⟩⟩⟩, ⟨trivial, trivial⟩, trivial⟩, ⟨⟨⟨⟨⟨F.z_isinstance, ⟨trivial, ⟨F.y_list, trivial⟩⟩⟩, ⟨F.z_isinstance, ⟨trivial, ⟨F.y_list, trivial⟩⟩⟩⟩, ⟨⟨F.z_len, ⟨trivial, trivial⟩⟩, ⟨F.z_len, ⟨trivial, trivial⟩⟩⟩⟩, ⟨trivial, trivial⟩, trivial⟩, ⟨⟨F.z_all, ⟨⟨⟨F.z_zip, trivial, trivial⟩, trivial, ⟨⟨F.d__law_is.has, h__law_is⟩, ⟨trivial, ⟨trivial, trivial⟩⟩⟩⟩, trivial⟩⟩, trivial⟩⟩⟩, trivial⟩, ⟨⟨⟨⟨trivial, trivial⟩, ⟨trivial, trivial⟩⟩, ⟨⟨⟨trivial, trivial⟩, ⟨trivial, trivial⟩⟩, trivial⟩, trivial⟩, ⟨⟨⟨⟨F.z_isinstance, ⟨trivial, ⟨F.y_bool, trivial⟩⟩⟩, ⟨F.z_isinstance, ⟨trivial, ⟨F.y_bool, trivial⟩⟩⟩⟩, ⟨trivial, trivial⟩, trivial⟩, ⟨⟨⟨⟨F.z_isinstance, ⟨trivial, ⟨F.y_str, trivial⟩⟩⟩, ⟨F.z_isinstance, ⟨trivial, ⟨F.y_str, trivial⟩⟩⟩⟩, ⟨trivial, trivial⟩⟩, trivial⟩⟩⟩⟩
theorem ok__law_place {G : Gx} (F : Facts G) {k : Nat} {s__law_some : TSp} (h__law_some : HeldT G k (adr G "_law_some") s__law_some) {s__law_draw : TSp} (h__law_draw : HeldT G k (adr G "_law_draw") s__law_draw) : okSs G k (b__law_place G s__law_some s__law_draw) := ⟨⟨⟨⟨F.d__law_draw.has, h__law_draw⟩, ⟨trivial, ⟨⟨trivial, trivial⟩, trivial⟩⟩⟩, ⟨⟨⟨F.d__law_draw.has, h__law_draw⟩, ⟨trivial, ⟨⟨trivial, trivial⟩, trivial⟩⟩⟩, trivial⟩⟩, ⟨⟨⟨⟨⟨F.d__law_draw.has, h__law_draw⟩, ⟨trivial, ⟨trivial, trivial⟩⟩⟩, trivial⟩, ⟨trivial, trivial⟩, trivial⟩, ⟨⟨⟨⟨trivial, trivial⟩, ⟨trivial, trivial⟩⟩, ⟨⟨⟨F.d__law_some.has, h__law_some⟩, ⟨trivial, ⟨⟨⟨trivial, ⟨trivial, trivial⟩⟩, ⟨⟨trivial, ⟨trivial, trivial⟩⟩, ⟨⟨trivial, ⟨trivial, trivial⟩⟩, trivial⟩⟩⟩, trivial⟩⟩⟩, trivial⟩, trivial⟩, ⟨⟨trivial, ⟨trivial, trivial⟩⟩, trivial⟩⟩⟩⟩
theorem ok__law_plan {G : Gx} (F : Facts G) {k : Nat} {s__law_draw : TSp} (h__law_draw : HeldT G k (adr G "_law_draw") s__law_draw) {s__law_plan : TSp} (h__law_plan : HeldT G k (adr G "_law_plan") s__law_plan) {s__law_place : TSp} (h__law_place : HeldT G k (adr G "_law_place") s__law_place) : okSs G k (b__law_plan G s__law_draw s__law_plan s__law_place) := ⟨⟨⟨F.d__law_draw.has, h__law_draw⟩, ⟨trivial, ⟨trivial, trivial⟩⟩⟩, ⟨⟨⟨⟨trivial, trivial⟩, ⟨trivial, trivial⟩⟩, ⟨⟨⟨F.d__law_place.has, h__law_place⟩, ⟨trivial, ⟨trivial, trivial⟩⟩⟩, trivial⟩, trivial⟩, ⟨⟨⟨trivial, trivial⟩, ⟨⟨trivial, ⟨⟨trivial, ⟨⟨F.d__law_draw.has, h__law_draw⟩, ⟨trivial, ⟨trivial, trivial⟩⟩⟩⟩, ⟨⟨⟨F.d__law_plan.has, h__law_plan⟩, ⟨trivial, ⟨⟨trivial, trivial⟩, ⟨trivial, ⟨trivial, trivial⟩⟩⟩⟩⟩, trivial⟩⟩⟩, trivial⟩, trivial⟩, ⟨⟨⟨trivial, trivial⟩, ⟨⟨trivial, ⟨⟨trivial, ⟨⟨F.d__law_draw.has, h__law_draw⟩, ⟨trivial, ⟨trivial, trivial⟩⟩⟩⟩, ⟨⟨⟨F.d__law_plan.has, h__law_plan⟩, ⟨trivial, ⟨⟨trivial, trivial⟩, ⟨trivial, ⟨trivial, trivial⟩⟩⟩⟩⟩, trivial⟩⟩⟩, trivial⟩, trivial⟩, ⟨⟨⟨F.z_range, ⟨trivial, ⟨⟨F.d__law_draw.has, h__law_draw⟩, ⟨trivial, ⟨trivial, trivial⟩⟩⟩⟩⟩, trivial, ⟨⟨F.d__law_plan.has, h__law_plan⟩, ⟨trivial, ⟨⟨trivial, trivial⟩, ⟨trivial, ⟨trivial, trivial⟩⟩⟩⟩⟩⟩, ⟨⟨⟨⟨trivial, trivial⟩, trivial, trivial⟩, ⟨⟨F.z_tuple, ⟨trivial, trivial⟩⟩, trivial⟩⟩, trivial⟩⟩⟩⟩⟩⟩
theorem ok__law_few {G : Gx} (F : Facts G) {k : Nat} {s__law_place : TSp} (h__law_place : HeldT G k (adr G "_law_place") s__law_place) {s__law_count : TSp} (h__law_count : HeldT G k (adr G "_law_count") s__law_count) {s__law_draw : TSp} (h__law_draw : HeldT G k (adr G "_law_draw") s__law_draw) {s__law_plan : TSp} (h__law_plan : HeldT G k (adr G "_law_plan") s__law_plan) : okSs G k (b__law_few G s__law_place s__law_count s__law_draw s__law_plan) := ⟨⟨⟨F.z_range, trivial⟩, ⟨⟨⟨F.d__law_plan.has, h__law_plan⟩, ⟨trivial, ⟨⟨trivial, ⟨⟨F.d__law_draw.has, h__law_draw⟩, ⟨trivial, ⟨trivial, trivial⟩⟩⟩⟩, ⟨trivial, ⟨trivial, trivial⟩⟩⟩⟩⟩, ⟨⟨⟨⟨⟨F.d__law_count.has, h__law_count⟩, ⟨trivial, trivial⟩⟩, trivial⟩, ⟨trivial, trivial⟩, trivial⟩, trivial⟩⟩⟩, ⟨⟨⟨F.d__law_place.has, h__law_place⟩, ⟨trivial, ⟨trivial, trivial⟩⟩⟩, trivial⟩⟩
theorem ok__law_count {G : Gx} (F : Facts G) {k : Nat} {s__law_count : TSp} (h__law_count : HeldT G k (adr G "_law_count") s__law_count) : okSs G k (b__law_count G s__law_count) := ⟨⟨⟨F.z_isinstance, ⟨⟨trivial, trivial⟩, ⟨F.y_int, trivial⟩⟩⟩, ⟨trivial, trivial⟩, trivial⟩, ⟨⟨⟨⟨trivial, trivial⟩, ⟨trivial, ⟨trivial, trivial⟩⟩⟩, ⟨⟨F.z_sum, ⟨⟨⟨trivial, trivial⟩, trivial, ⟨⟨F.d__law_count.has, h__law_count⟩, ⟨trivial, trivial⟩⟩⟩, trivial⟩⟩, trivial⟩, trivial⟩, ⟨⟨⟨trivial, trivial⟩, ⟨⟨F.d__law_count.has, h__law_count⟩, ⟨⟨trivial, trivial⟩, trivial⟩⟩⟩, trivial⟩⟩⟩
theorem ok__law_great {G : Gx} (F : Facts G) {k : Nat} {s__law_some : TSp} (h__law_some : HeldT G k (adr G "_law_some") s__law_some) {s__law_draw : TSp} (h__law_draw : HeldT G k (adr G "_law_draw") s__law_draw) {s__law_great : TSp} (h__law_great : HeldT G k (adr G "_law_great") s__law_great) {s__law_place : TSp} (h__law_place : HeldT G k (adr G "_law_place") s__law_place) : okSs G k (b__law_great G s__law_some s__law_draw s__law_great s__law_place) := ⟨⟨⟨F.d__law_draw.has, h__law_draw⟩, ⟨trivial, ⟨trivial, trivial⟩⟩⟩, ⟨⟨⟨⟨trivial, trivial⟩, ⟨trivial, trivial⟩⟩, ⟨⟨⟨F.d__law_place.has, h__law_place⟩, ⟨trivial, ⟨⟨⟨F.d__law_some.has, h__law_some⟩, ⟨trivial, ⟨⟨trivial, ⟨trivial, ⟨⟨⟨trivial, trivial⟩, trivial⟩, trivial⟩⟩⟩, trivial⟩⟩⟩, trivial⟩⟩⟩, trivial⟩, trivial⟩, ⟨⟨⟨trivial, trivial⟩, ⟨⟨⟨F.d__law_some.has, h__law_some⟩, ⟨trivial, ⟨⟨trivial, ⟨trivial, ⟨trivial, ⟨⟨trivial, trivial⟩, ⟨⟨trivial, trivial⟩, ⟨⟨trivial, ⟨⟨F.d__law_draw.has, h__law_draw⟩, ⟨trivial, ⟨⟨trivial, trivial⟩, trivial⟩⟩⟩⟩, trivial⟩⟩⟩⟩⟩⟩, trivial⟩⟩⟩, ⟨⟨⟨⟨F.d__law_some.has, h__law_some⟩, ⟨trivial, ⟨⟨trivial, ⟨trivial, trivial⟩⟩, trivial⟩⟩⟩, ⟨trivial, ⟨⟨⟨F.d__law_great.has, h__law_great⟩, ⟨trivial, ⟨⟨trivial, trivial⟩, trivial⟩⟩⟩, trivial⟩⟩⟩, trivial⟩⟩, trivial⟩, ⟨⟨⟨F.z_range, ⟨trivial, ⟨⟨F.d__law_draw.has, h__law_draw⟩, ⟨trivial, ⟨trivial, trivial⟩⟩⟩⟩⟩, trivial, ⟨⟨F.d__law_great.has, h__law_great⟩, ⟨trivial, ⟨⟨trivial, trivial⟩, trivial⟩⟩⟩⟩, ⟨⟨⟨⟨F.d__law_some.has, h__law_some⟩, ⟨trivial, ⟨⟨trivial, ⟨trivial, trivial⟩⟩, trivial⟩⟩⟩, ⟨⟨F.z_tuple, ⟨trivial, trivial⟩⟩, trivial⟩⟩, trivial⟩⟩⟩⟩⟩
theorem ok__law_size {G : Gx} (F : Facts G) {k : Nat} {s__law_size : TSp} (h__law_size : HeldT G k (adr G "_law_size") s__law_size) : okSs G k (b__law_size G s__law_size) := ⟨⟨⟨F.z_isinstance, ⟨⟨trivial, trivial⟩, ⟨F.y_int, trivial⟩⟩⟩, ⟨trivial, trivial⟩, trivial⟩, ⟨⟨⟨⟨trivial, trivial⟩, ⟨trivial, ⟨trivial, trivial⟩⟩⟩, ⟨⟨trivial, ⟨⟨F.d__law_size.has, h__law_size⟩, ⟨⟨trivial, trivial⟩, trivial⟩⟩⟩, trivial⟩, trivial⟩, ⟨⟨trivial, ⟨F.z_sum, ⟨⟨⟨trivial, trivial⟩, trivial, ⟨⟨F.d__law_size.has, h__law_size⟩, ⟨trivial, trivial⟩⟩⟩, trivial⟩⟩⟩, trivial⟩⟩⟩
theorem ok__law_total {G : Gx} (F : Facts G) {k : Nat} {s__law_total : TSp} (h__law_total : HeldT G k (adr G "_law_total") s__law_total) : okSs G k (b__law_total G s__law_total) := ⟨⟨⟨F.z_isinstance, ⟨⟨trivial, trivial⟩, ⟨F.y_int, trivial⟩⟩⟩, ⟨trivial, trivial⟩, trivial⟩, ⟨⟨⟨⟨trivial, trivial⟩, ⟨trivial, ⟨trivial, trivial⟩⟩⟩, ⟨⟨⟨F.d__law_total.has, h__law_total⟩, ⟨⟨trivial, trivial⟩, trivial⟩⟩, ⟨⟨⟨⟨trivial, trivial⟩, trivial⟩, ⟨⟨⟨trivial, trivial⟩, trivial⟩, trivial⟩⟩, trivial⟩⟩, trivial⟩, ⟨⟨⟨trivial, trivial⟩, trivial, ⟨⟨F.d__law_total.has, h__law_total⟩, ⟨trivial, trivial⟩⟩⟩, ⟨⟨⟨F.z_sum, ⟨⟨trivial, trivial, ⟨trivial, trivial⟩⟩, trivial⟩⟩, ⟨⟨F.z_sum, ⟨⟨trivial, trivial, ⟨trivial, trivial⟩⟩, trivial⟩⟩, trivial⟩⟩, trivial⟩⟩⟩⟩
theorem ok__law_is_right {G : Gx} (F : Facts G) {k : Nat} {s_listed : TSp} (h_listed : HeldT G k (adr G "listed") s_listed) {s_total : TSp} (h_total : HeldT G k (adr G "total") s_total) {s_places : TSp} (h_places : HeldT G k (adr G "places") s_places) {s_size : TSp} (h_size : HeldT G k (adr G "size") s_size) {s__law_is : TSp} (h__law_is : HeldT G k (adr G "_law_is") s__law_is) {s__law_total : TSp} (h__law_total : HeldT G k (adr G "_law_total") s__law_total) {s__law_count : TSp} (h__law_count : HeldT G k (adr G "_law_count") s__law_count) {s__law_size : TSp} (h__law_size : HeldT G k (adr G "_law_size") s__law_size) : okSs G k (b__law_is_right G s_listed s_total s_places s_size s__law_is s__law_total s__law_count s__law_size) := ⟨⟨⟨⟨F.d__law_size.has, h__law_size⟩, ⟨trivial, trivial⟩⟩, ⟨⟨⟨F.d__law_count.has, h__law_count⟩, ⟨trivial, trivial⟩⟩, ⟨⟨⟨F.d__law_total.has, h__law_total⟩, ⟨trivial, trivial⟩⟩, trivial⟩⟩⟩, ⟨⟨⟨trivial, ⟨trivial, trivial⟩⟩, ⟨⟨⟨⟨F.d__law_is.has, h__law_is⟩, ⟨⟨⟨⟨F.d_size.has, h_size⟩, ⟨trivial, trivial⟩⟩, ⟨⟨⟨F.d_places.has, h_places⟩, ⟨trivial, trivial⟩⟩, ⟨⟨⟨F.d_total.has, h_total⟩, ⟨trivial, trivial⟩⟩, trivial⟩⟩⟩, ⟨trivial, trivial⟩⟩⟩, ⟨trivial, trivial⟩, trivial⟩, trivial⟩⟩, ⟨⟨⟨⟨trivial, trivial⟩, trivial⟩, ⟨⟨⟨F.d_listed.has, h_listed⟩, ⟨trivial, trivial⟩⟩, ⟨⟨⟨⟨⟨F.z_len, ⟨trivial, trivial⟩⟩, ⟨trivial, trivial⟩⟩, ⟨⟨trivial, trivial⟩, ⟨⟨F.z_sum, ⟨⟨trivial, trivial, ⟨trivial, trivial⟩⟩, trivial⟩⟩, ⟨⟨F.z_sum, ⟨⟨trivial, trivial, ⟨trivial, trivial⟩⟩, trivial⟩⟩, trivial⟩⟩⟩⟩, ⟨trivial, trivial⟩, trivial⟩, trivial⟩⟩, trivial⟩, ⟨trivial, trivial⟩⟩⟩⟩
theorem ok__law_are_two_right {G : Gx} (F : Facts G) {k : Nat} {s_mixed : TSp} (h_mixed : HeldT G k (adr G "mixed") s_mixed) {s_joined : TSp} (h_joined : HeldT G k (adr G "joined") s_joined) {s_places : TSp} (h_places : HeldT G k (adr G "places") s_places) {s_size : TSp} (h_size : HeldT G k (adr G "size") s_size) {s__law_is : TSp} (h__law_is : HeldT G k (adr G "_law_is") s__law_is) {s_total : TSp} (h_total : HeldT G k (adr G "total") s_total) {s__law_total : TSp} (h__law_total : HeldT G k (adr G "_law_total") s__law_total) : okSs G k (b__law_are_two_right G s_mixed s_joined s_places s_size s__law_is s_total s__law_total) := ⟨⟨⟨⟨⟨F.d_joined.has, h_joined⟩, ⟨trivial, ⟨trivial, trivial⟩⟩⟩, ⟨⟨⟨F.d_mixed.has, h_mixed⟩, ⟨trivial, ⟨trivial, trivial⟩⟩⟩, trivial⟩⟩, ⟨⟨⟨F.z_zip, ⟨⟨F.d__law_total.has, h__law_total⟩, ⟨trivial, trivial⟩⟩, ⟨⟨F.d__law_total.has, h__law_total⟩, ⟨trivial, trivial⟩⟩⟩, trivial, ⟨trivial, trivial⟩⟩, ⟨⟨⟨⟨F.d__law_is.has, h__law_is⟩, ⟨⟨⟨F.d_total.has, h_total⟩, ⟨trivial, trivial⟩⟩, ⟨⟨trivial, ⟨trivial, trivial⟩⟩, trivial⟩⟩⟩, ⟨trivial, trivial⟩, trivial⟩, ⟨⟨⟨⟨F.d__law_is.has, h__law_is⟩, ⟨⟨⟨⟨F.d_size.has, h_size⟩, ⟨trivial, trivial⟩⟩, ⟨⟨⟨F.d_places.has, h_places⟩, ⟨trivial, trivial⟩⟩, trivial⟩⟩, ⟨⟨⟨⟨trivial, ⟨⟨F.d_size.has, h_size⟩, ⟨trivial, trivial⟩⟩⟩, ⟨⟨F.d_size.has, h_size⟩, ⟨trivial, trivial⟩⟩⟩, ⟨⟨⟨⟨F.d_places.has, h_places⟩, ⟨trivial, trivial⟩⟩, ⟨⟨F.d_places.has, h_places⟩, ⟨trivial, trivial⟩⟩⟩, trivial⟩⟩, trivial⟩⟩⟩, ⟨trivial, trivial⟩, trivial⟩, trivial⟩⟩⟩⟩, ⟨trivial, trivial⟩⟩
theorem ok__law_deep {G : Gx} (F : Facts G) {k : Nat} {s__law_place : TSp} (h__law_place : HeldT G k (adr G "_law_place") s__law_place) {s__law_some : TSp} (h__law_some : HeldT G k (adr G "_law_some") s__law_some) {s__law_draw : TSp} (h__law_draw : HeldT G k (adr G "_law_draw") s__law_draw) : okSs G k (b__law_deep G s__law_place s__law_some s__law_draw) := ⟨⟨⟨F.d__law_place.has, h__law_place⟩, ⟨trivial, ⟨⟨⟨trivial, trivial⟩, trivial⟩, trivial⟩⟩⟩, ⟨⟨⟨⟨⟨F.d__law_draw.has, h__law_draw⟩, ⟨trivial, ⟨trivial, trivial⟩⟩⟩, trivial⟩, ⟨⟨⟨F.z_range, trivial⟩, ⟨⟨⟨F.d__law_some.has, h__law_some⟩, ⟨trivial, ⟨⟨trivial, ⟨trivial, ⟨trivial, ⟨trivial, trivial⟩⟩⟩⟩, trivial⟩⟩⟩, ⟨⟨⟨trivial, ⟨trivial, ⟨trivial, trivial⟩⟩⟩, ⟨trivial, ⟨⟨trivial, trivial⟩, trivial⟩⟩, ⟨trivial, ⟨⟨trivial, ⟨⟨F.d__law_draw.has, h__law_draw⟩, ⟨trivial, ⟨⟨trivial, trivial⟩, trivial⟩⟩⟩⟩, ⟨trivial, trivial⟩⟩⟩⟩, trivial⟩⟩⟩, ⟨trivial, trivial⟩⟩, trivial⟩, ⟨⟨⟨F.z_range, trivial⟩, trivial, ⟨F.z_tuple, ⟨⟨⟨F.z_range, trivial⟩, trivial, ⟨⟨F.d__law_place.has, h__law_place⟩, ⟨trivial, ⟨trivial, trivial⟩⟩⟩⟩, trivial⟩⟩⟩, ⟨⟨trivial, trivial, ⟨⟨⟨F.d__law_some.has, h__law_some⟩, ⟨trivial, ⟨⟨trivial, ⟨trivial, trivial⟩⟩, trivial⟩⟩⟩, ⟨trivial, trivial⟩⟩⟩, ⟨⟨trivial, ⟨⟨F.z_tuple, ⟨⟨trivial, ⟨⟨trivial, ⟨⟨trivial, trivial⟩, ⟨⟨trivial, ⟨⟨F.z_tuple, ⟨⟨⟨F.z_range, trivial⟩, trivial, ⟨⟨F.d__law_place.has, h__law_place⟩, ⟨trivial, ⟨trivial, trivial⟩⟩⟩⟩, trivial⟩⟩, trivial⟩⟩, trivial⟩⟩⟩, trivial⟩⟩, trivial⟩⟩, trivial⟩⟩, trivial⟩⟩⟩⟩⟩
theorem ok_law {G : Gx} (F : Facts G) {k : Nat} {s__law_are_two_right : TSp} (h__law_are_two_right : HeldT G k (adr G "_law_are_two_right") s__law_are_two_right) {s__law_is_right : TSp} (h__law_is_right : HeldT G k (adr G "_law_is_right") s__law_is_right) {s__law_great : TSp} (h__law_great : HeldT G k (adr G "_law_great") s__law_great) {s__law_few : TSp} (h__law_few : HeldT G k (adr G "_law_few") s__law_few) {s__law_deep : TSp} (h__law_deep : HeldT G k (adr G "_law_deep") s__law_deep) {s_total : TSp} (h_total : HeldT G k (adr G "total") s_total) {s_places : TSp} (h_places : HeldT G k (adr G "places") s_places) {s_size : TSp} (h_size : HeldT G k (adr G "size") s_size) {s__law_is : TSp} (h__law_is : HeldT G k (adr G "_law_is") s__law_is) {s__law_hand : TSp} (h__law_hand : HeldT G k (adr G "_law_hand") s__law_hand) : okSs G k (b_law G s__law_are_two_right s__law_is_right s__law_great s__law_few s__law_deep s_total s_places s_size s__law_is s__law_hand) := ⟨⟨⟨F.d__law_hand.has, h__law_hand⟩, ⟨trivial, trivial⟩⟩, ⟨⟨trivial, ⟨trivial, ⟨⟨trivial, ⟨⟨⟨trivial, ⟨trivial, trivial⟩⟩, ⟨⟨trivial, ⟨⟨trivial, trivial⟩, ⟨⟨trivial, ⟨trivial, trivial⟩⟩, trivial⟩⟩⟩, trivial⟩⟩, trivial⟩⟩, trivial⟩⟩⟩, ⟨⟨⟨⟨F.d__law_is.has, h__law_is⟩, ⟨⟨⟨⟨F.d_size.has, h_size⟩, ⟨trivial, trivial⟩⟩, ⟨⟨⟨F.d_places.has, h_places⟩, ⟨trivial, trivial⟩⟩, ⟨⟨⟨F.d_total.has, h_total⟩, ⟨trivial, trivial⟩⟩, trivial⟩⟩⟩, ⟨⟨trivial, ⟨⟨trivial, ⟨trivial, ⟨trivial, trivial⟩⟩⟩, ⟨⟨trivial, ⟨⟨trivial, ⟨trivial, ⟨trivial, trivial⟩⟩⟩, trivial⟩⟩, trivial⟩⟩⟩, trivial⟩⟩⟩, ⟨trivial, trivial⟩, trivial⟩, ⟨⟨⟨⟨F.d__law_is_right.has, h__law_is_right⟩, ⟨⟨⟨F.d__law_deep.has, h__law_deep⟩, ⟨trivial, trivial⟩⟩, trivial⟩⟩, ⟨trivial, trivial⟩, trivial⟩, ⟨⟨⟨F.z_range, trivial⟩, ⟨⟨⟨⟨F.d__law_few.has, h__law_few⟩, ⟨trivial, ⟨trivial, ⟨⟨⟨trivial, trivial⟩, trivial⟩, trivial⟩⟩⟩⟩, ⟨⟨⟨F.d__law_great.has, h__law_great⟩, ⟨trivial, ⟨trivial, trivial⟩⟩⟩, trivial⟩⟩, ⟨⟨⟨⟨⟨F.d__law_is_right.has, h__law_is_right⟩, ⟨trivial, trivial⟩⟩, ⟨⟨⟨F.d__law_is_right.has, h__law_is_right⟩, ⟨trivial, trivial⟩⟩, ⟨⟨F.d__law_are_two_right.has, h__law_are_two_right⟩, ⟨trivial, ⟨trivial, trivial⟩⟩⟩⟩⟩, ⟨trivial, trivial⟩, trivial⟩, trivial⟩⟩⟩, ⟨trivial, trivial⟩⟩⟩⟩⟩⟩
end TL

/-! VcA: the program's small defs. -/
namespace TL
open PySem PySem.Spec PyProof.Rows L2
theorem nF {G : Gx} {k : Nat} : ∀ f sp, noF f sp → HeldT G k f sp := fun _ _ h => h.elim
def isI : TV → Bool
  | .int _ => true
  | _ => false
def kn : TV → Prop
  | .int _ => True
  | .str _ => True
  | .tup _ => True
  | _ => False
def s_is_int : TSp := fun xs M Q _ => ∃ x, xs = [x] ∧ kn x ∧ Q (.bl (isI x)) M
theorem v_is_int {G : Gx} : ∀ xs M Q R, s_is_int xs M Q R → wSs noF (b_is_int G) (endsT Q R) (startT n_is_int xs) M := by
  rintro xs M Q R ⟨x, rfl, h, q⟩
  unfold b_is_int
  cases x <;> first | exact h.elim | skip
  · simp only [wSs, wS, wE, wEs, wO, wB, wBo, wI, wTg, gs, startT, List.map_cons, List.map_nil, List.length_cons, List.length_nil, List.cons_append, List.nil_append, List.replicate, Nat.reduceAdd, Nat.reduceSub, Nat.zero_add, exEq, wCop, wIx, wTru, bif_len, bif_abs, bif_int, bif_isi, bif_tuple, bif_list, bif_sum, bif_all, bif_any, bif_min2, bif_max2, bif_minl, bif_maxl, bop_add_i, bop_add_t, bop_add_l, bop_sub, bop_mul_i, bop_fdiv, bop_mod, bop_pow, aug_add, aug_sub, aug_mul, setAll, List.set, tru_bl, tru_non, tru_int, tru_tup, if_true, if_false, Bool.false_eq_true, Bool.not_true, Bool.not_false, seqM_tup, ix_tup, len_tup, atI_0, atI_1, atI_2, atI_3, atI_4, Option.some.injEq, exists_eq_left', eq_int, cmp_lt, cmp_le, cmp_gt, cmp_ge, cmp_eq, cmp_ne, cmp_is, cmp_isn, cmp_in, cmp_nin, Option.map, is_nn, is_in, is_tn, tyn_int, tyn_str, tyn_tup, Int.cast_ofNat_Int, Int.reduceLT, Int.reduceLE, Int.reduceAdd, Int.reduceMul, Int.reduceSub, BEq.rfl, decide_true, decide_false, Int.reduceBEq, isi_int, kit_int_int, kit_int_bool]
    exact rtF (.refl _) q
  · simp only [wSs, wS, wE, wEs, wO, wB, wBo, wI, wTg, gs, startT, List.map_cons, List.map_nil, List.length_cons, List.length_nil, List.cons_append, List.nil_append, List.replicate, Nat.reduceAdd, Nat.reduceSub, Nat.zero_add, exEq, wCop, wIx, wTru, bif_len, bif_abs, bif_int, bif_isi, bif_tuple, bif_list, bif_sum, bif_all, bif_any, bif_min2, bif_max2, bif_minl, bif_maxl, bop_add_i, bop_add_t, bop_add_l, bop_sub, bop_mul_i, bop_fdiv, bop_mod, bop_pow, aug_add, aug_sub, aug_mul, setAll, List.set, tru_bl, tru_non, tru_int, tru_tup, if_true, if_false, Bool.false_eq_true, Bool.not_true, Bool.not_false, seqM_tup, ix_tup, len_tup, atI_0, atI_1, atI_2, atI_3, atI_4, Option.some.injEq, exists_eq_left', eq_int, cmp_lt, cmp_le, cmp_gt, cmp_ge, cmp_eq, cmp_ne, cmp_is, cmp_isn, cmp_in, cmp_nin, Option.map, is_nn, is_in, is_tn, tyn_int, tyn_str, tyn_tup, Int.cast_ofNat_Int, Int.reduceLT, Int.reduceLE, Int.reduceAdd, Int.reduceMul, Int.reduceSub, BEq.rfl, decide_true, decide_false, Int.reduceBEq, isi_str, kit_str_int, kit_str_bool]
    exact rtF (.refl _) q
  · simp only [wSs, wS, wE, wEs, wO, wB, wBo, wI, wTg, gs, startT, List.map_cons, List.map_nil, List.length_cons, List.length_nil, List.cons_append, List.nil_append, List.replicate, Nat.reduceAdd, Nat.reduceSub, Nat.zero_add, exEq, wCop, wIx, wTru, bif_len, bif_abs, bif_int, bif_isi, bif_tuple, bif_list, bif_sum, bif_all, bif_any, bif_min2, bif_max2, bif_minl, bif_maxl, bop_add_i, bop_add_t, bop_add_l, bop_sub, bop_mul_i, bop_fdiv, bop_mod, bop_pow, aug_add, aug_sub, aug_mul, setAll, List.set, tru_bl, tru_non, tru_int, tru_tup, if_true, if_false, Bool.false_eq_true, Bool.not_true, Bool.not_false, seqM_tup, ix_tup, len_tup, atI_0, atI_1, atI_2, atI_3, atI_4, Option.some.injEq, exists_eq_left', eq_int, cmp_lt, cmp_le, cmp_gt, cmp_ge, cmp_eq, cmp_ne, cmp_is, cmp_isn, cmp_in, cmp_nin, Option.map, is_nn, is_in, is_tn, tyn_int, tyn_str, tyn_tup, Int.cast_ofNat_Int, Int.reduceLT, Int.reduceLE, Int.reduceAdd, Int.reduceMul, Int.reduceSub, BEq.rfl, decide_true, decide_false, Int.reduceBEq, isi_tup, kit_tuple_int, kit_tuple_bool]
    exact rtF (.refl _) q
theorem h_is_int {G : Gx} (F : Facts G) : HeldT G 1 (adr G "is_int") s_is_int :=
  F.d_is_int.held (k := 0) sc_is_int ck_is_int (ok_is_int F) nF (fun xs M Q R ⟨x, e, _⟩ => by rw [e]; rfl) v_is_int
def s_is_within : TSp := fun xs M Q _ => ∃ i j k, xs = [.int i, .int j, .int k] ∧ Q (.bl (decide (j ≤ i) && decide (i ≤ k))) M
theorem v_is_within {G : Gx} : ∀ xs M Q R, s_is_within xs M Q R → wSs noF (b_is_within G s_is_int) (endsT Q R) (startT n_is_within xs) M := by
  rintro xs M Q R ⟨i, j, k, rfl, q⟩
  unfold b_is_within
  simp only [wSs, wS, wE, wEs, wO, wB, wBo, wI, wTg, gs, startT, List.map_cons, List.map_nil, List.length_cons, List.length_nil, List.cons_append, List.nil_append, List.replicate, Nat.reduceAdd, Nat.reduceSub, Nat.zero_add, exEq, wCop, wIx, wTru, bif_len, bif_abs, bif_int, bif_isi, bif_tuple, bif_list, bif_sum, bif_all, bif_any, bif_min2, bif_max2, bif_minl, bif_maxl, bop_add_i, bop_add_t, bop_add_l, bop_sub, bop_mul_i, bop_fdiv, bop_mod, bop_pow, aug_add, aug_sub, aug_mul, setAll, List.set, tru_bl, tru_non, tru_int, tru_tup, if_true, if_false, Bool.false_eq_true, Bool.not_true, Bool.not_false, seqM_tup, ix_tup, len_tup, atI_0, atI_1, atI_2, atI_3, atI_4, Option.some.injEq, exists_eq_left', eq_int, cmp_lt, cmp_le, cmp_gt, cmp_ge, cmp_eq, cmp_ne, cmp_is, cmp_isn, cmp_in, cmp_nin, Option.map, is_nn, is_in, is_tn, tyn_int, tyn_str, tyn_tup, Int.cast_ofNat_Int, Int.reduceLT, Int.reduceLE, Int.reduceAdd, Int.reduceMul, Int.reduceSub, BEq.rfl, decide_true, decide_false, Int.reduceBEq]
  refine ⟨_, rfl, trivial, ?_⟩
  simp only [wSs, wS, wE, wEs, wO, wB, wBo, wI, wTg, gs, startT, List.map_cons, List.map_nil, List.length_cons, List.length_nil, List.cons_append, List.nil_append, List.replicate, Nat.reduceAdd, Nat.reduceSub, Nat.zero_add, exEq, wCop, wIx, wTru, bif_len, bif_abs, bif_int, bif_isi, bif_tuple, bif_list, bif_sum, bif_all, bif_any, bif_min2, bif_max2, bif_minl, bif_maxl, bop_add_i, bop_add_t, bop_add_l, bop_sub, bop_mul_i, bop_fdiv, bop_mod, bop_pow, aug_add, aug_sub, aug_mul, setAll, List.set, tru_bl, tru_non, tru_int, tru_tup, if_true, if_false, Bool.false_eq_true, Bool.not_true, Bool.not_false, seqM_tup, ix_tup, len_tup, atI_0, atI_1, atI_2, atI_3, atI_4, Option.some.injEq, exists_eq_left', eq_int, cmp_lt, cmp_le, cmp_gt, cmp_ge, cmp_eq, cmp_ne, cmp_is, cmp_isn, cmp_in, cmp_nin, Option.map, is_nn, is_in, is_tn, tyn_int, tyn_str, tyn_tup, Int.cast_ofNat_Int, Int.reduceLT, Int.reduceLE, Int.reduceAdd, Int.reduceMul, Int.reduceSub, BEq.rfl, decide_true, decide_false, Int.reduceBEq, isI]
  by_cases c : j ≤ i
  · rw [decide_eq_true c] at q ⊢
    simp only [wSs, wS, wE, wEs, wO, wB, wBo, wI, wTg, gs, startT, List.map_cons, List.map_nil, List.length_cons, List.length_nil, List.cons_append, List.nil_append, List.replicate, Nat.reduceAdd, Nat.reduceSub, Nat.zero_add, exEq, wCop, wIx, wTru, bif_len, bif_abs, bif_int, bif_isi, bif_tuple, bif_list, bif_sum, bif_all, bif_any, bif_min2, bif_max2, bif_minl, bif_maxl, bop_add_i, bop_add_t, bop_add_l, bop_sub, bop_mul_i, bop_fdiv, bop_mod, bop_pow, aug_add, aug_sub, aug_mul, setAll, List.set, tru_bl, tru_non, tru_int, tru_tup, if_true, if_false, Bool.false_eq_true, Bool.not_true, Bool.not_false, seqM_tup, ix_tup, len_tup, atI_0, atI_1, atI_2, atI_3, atI_4, Option.some.injEq, exists_eq_left', eq_int, cmp_lt, cmp_le, cmp_gt, cmp_ge, cmp_eq, cmp_ne, cmp_is, cmp_isn, cmp_in, cmp_nin, Option.map, is_nn, is_in, is_tn, tyn_int, tyn_str, tyn_tup, Int.cast_ofNat_Int, Int.reduceLT, Int.reduceLE, Int.reduceAdd, Int.reduceMul, Int.reduceSub, BEq.rfl, decide_true, decide_false, Int.reduceBEq]
    exact rtF (.refl _) q
  · rw [decide_eq_false c] at q ⊢
    simp only [wSs, wS, wE, wEs, wO, wB, wBo, wI, wTg, gs, startT, List.map_cons, List.map_nil, List.length_cons, List.length_nil, List.cons_append, List.nil_append, List.replicate, Nat.reduceAdd, Nat.reduceSub, Nat.zero_add, exEq, wCop, wIx, wTru, bif_len, bif_abs, bif_int, bif_isi, bif_tuple, bif_list, bif_sum, bif_all, bif_any, bif_min2, bif_max2, bif_minl, bif_maxl, bop_add_i, bop_add_t, bop_add_l, bop_sub, bop_mul_i, bop_fdiv, bop_mod, bop_pow, aug_add, aug_sub, aug_mul, setAll, List.set, tru_bl, tru_non, tru_int, tru_tup, if_true, if_false, Bool.false_eq_true, Bool.not_true, Bool.not_false, seqM_tup, ix_tup, len_tup, atI_0, atI_1, atI_2, atI_3, atI_4, Option.some.injEq, exists_eq_left', eq_int, cmp_lt, cmp_le, cmp_gt, cmp_ge, cmp_eq, cmp_ne, cmp_is, cmp_isn, cmp_in, cmp_nin, Option.map, is_nn, is_in, is_tn, tyn_int, tyn_str, tyn_tup, Int.cast_ofNat_Int, Int.reduceLT, Int.reduceLE, Int.reduceAdd, Int.reduceMul, Int.reduceSub, BEq.rfl, decide_true, decide_false, Int.reduceBEq]
    exact rtF (.refl _) q
theorem h_is_within {G : Gx} (F : Facts G) : HeldT G 2 (adr G "is_within") s_is_within :=
  F.d_is_within.held (k := 1) sc_is_within ck_is_within (ok_is_within F (h_is_int F)) nF (fun xs M Q R ⟨x, _, _, e, _⟩ => by rw [e]; rfl) v_is_within
/-! is_pair, is_step, is_place of a plan -/
def s_isP : TSp := fun xs M Q _ => ∃ p : Pl, xs = [p.tv] ∧ p.ok ∧ Q (.bl p.isP) M
theorem v_is_pair {G : Gx} : ∀ xs M Q R, s_isP xs M Q R → wSs noF (b_is_pair G s_is_int) (endsT Q R) (startT n_is_pair xs) M := by
  rintro xs M Q R ⟨p, rfl, h, q⟩
  unfold b_is_pair
  cases p with
  | place l w =>
    simp only [Pl.tv]
    simp only [wSs, wS, wE, wEs, wO, wB, wBo, wI, wTg, gs, startT, List.map_cons, List.map_nil, List.length_cons, List.length_nil, List.cons_append, List.nil_append, List.replicate, Nat.reduceAdd, Nat.reduceSub, Nat.zero_add, exEq, wCop, wIx, wTru, bif_len, bif_abs, bif_int, bif_isi, bif_tuple, bif_list, bif_sum, bif_all, bif_any, bif_min2, bif_max2, bif_minl, bif_maxl, bop_add_i, bop_add_t, bop_add_l, bop_sub, bop_mul_i, bop_fdiv, bop_mod, bop_pow, aug_add, aug_sub, aug_mul, setAll, List.set, tru_bl, tru_non, tru_int, tru_tup, if_true, if_false, Bool.false_eq_true, Bool.not_true, Bool.not_false, seqM_tup, ix_tup, len_tup, atI_0, atI_1, atI_2, atI_3, atI_4, Option.some.injEq, exists_eq_left', eq_int, cmp_lt, cmp_le, cmp_gt, cmp_ge, cmp_eq, cmp_ne, cmp_is, cmp_isn, cmp_in, cmp_nin, Option.map, is_nn, is_in, is_tn, tyn_int, tyn_str, tyn_tup, Int.cast_ofNat_Int, Int.reduceLT, Int.reduceLE, Int.reduceAdd, Int.reduceMul, Int.reduceSub, BEq.rfl, decide_true, decide_false, Int.reduceBEq, isi_tup, kit_tuple_tuple]
    refine ⟨_, rfl, trivial, ?_⟩
    simp only [wSs, wS, wE, wEs, wO, wB, wBo, wI, wTg, gs, startT, List.map_cons, List.map_nil, List.length_cons, List.length_nil, List.cons_append, List.nil_append, List.replicate, Nat.reduceAdd, Nat.reduceSub, Nat.zero_add, exEq, wCop, wIx, wTru, bif_len, bif_abs, bif_int, bif_isi, bif_tuple, bif_list, bif_sum, bif_all, bif_any, bif_min2, bif_max2, bif_minl, bif_maxl, bop_add_i, bop_add_t, bop_add_l, bop_sub, bop_mul_i, bop_fdiv, bop_mod, bop_pow, aug_add, aug_sub, aug_mul, setAll, List.set, tru_bl, tru_non, tru_int, tru_tup, if_true, if_false, Bool.false_eq_true, Bool.not_true, Bool.not_false, seqM_tup, ix_tup, len_tup, atI_0, atI_1, atI_2, atI_3, atI_4, Option.some.injEq, exists_eq_left', eq_int, cmp_lt, cmp_le, cmp_gt, cmp_ge, cmp_eq, cmp_ne, cmp_is, cmp_isn, cmp_in, cmp_nin, Option.map, is_nn, is_in, is_tn, tyn_int, tyn_str, tyn_tup, Int.cast_ofNat_Int, Int.reduceLT, Int.reduceLE, Int.reduceAdd, Int.reduceMul, Int.reduceSub, BEq.rfl, decide_true, decide_false, Int.reduceBEq, isI]
    exact ⟨_, rfl, trivial, rtF (.refl _) q⟩
  | rep c n p =>
    simp only [Pl.tv]
    simp only [wSs, wS, wE, wEs, wO, wB, wBo, wI, wTg, gs, startT, List.map_cons, List.map_nil, List.length_cons, List.length_nil, List.cons_append, List.nil_append, List.replicate, Nat.reduceAdd, Nat.reduceSub, Nat.zero_add, exEq, wCop, wIx, wTru, bif_len, bif_abs, bif_int, bif_isi, bif_tuple, bif_list, bif_sum, bif_all, bif_any, bif_min2, bif_max2, bif_minl, bif_maxl, bop_add_i, bop_add_t, bop_add_l, bop_sub, bop_mul_i, bop_fdiv, bop_mod, bop_pow, aug_add, aug_sub, aug_mul, setAll, List.set, tru_bl, tru_non, tru_int, tru_tup, if_true, if_false, Bool.false_eq_true, Bool.not_true, Bool.not_false, seqM_tup, ix_tup, len_tup, atI_0, atI_1, atI_2, atI_3, atI_4, Option.some.injEq, exists_eq_left', eq_int, cmp_lt, cmp_le, cmp_gt, cmp_ge, cmp_eq, cmp_ne, cmp_is, cmp_isn, cmp_in, cmp_nin, Option.map, is_nn, is_in, is_tn, tyn_int, tyn_str, tyn_tup, Int.cast_ofNat_Int, Int.reduceLT, Int.reduceLE, Int.reduceAdd, Int.reduceMul, Int.reduceSub, BEq.rfl, decide_true, decide_false, Int.reduceBEq, isi_tup, kit_tuple_tuple]
    exact rtF (.refl _) q
  | join r ps =>
    simp only [Pl.tv]
    simp only [wSs, wS, wE, wEs, wO, wB, wBo, wI, wTg, gs, startT, List.map_cons, List.map_nil, List.length_cons, List.length_nil, List.cons_append, List.nil_append, List.replicate, Nat.reduceAdd, Nat.reduceSub, Nat.zero_add, exEq, wCop, wIx, wTru, bif_len, bif_abs, bif_int, bif_isi, bif_tuple, bif_list, bif_sum, bif_all, bif_any, bif_min2, bif_max2, bif_minl, bif_maxl, bop_add_i, bop_add_t, bop_add_l, bop_sub, bop_mul_i, bop_fdiv, bop_mod, bop_pow, aug_add, aug_sub, aug_mul, setAll, List.set, tru_bl, tru_non, tru_int, tru_tup, if_true, if_false, Bool.false_eq_true, Bool.not_true, Bool.not_false, seqM_tup, ix_tup, len_tup, atI_0, atI_1, atI_2, atI_3, atI_4, Option.some.injEq, exists_eq_left', eq_int, cmp_lt, cmp_le, cmp_gt, cmp_ge, cmp_eq, cmp_ne, cmp_is, cmp_isn, cmp_in, cmp_nin, Option.map, is_nn, is_in, is_tn, tyn_int, tyn_str, tyn_tup, Int.cast_ofNat_Int, Int.reduceLT, Int.reduceLE, Int.reduceAdd, Int.reduceMul, Int.reduceSub, BEq.rfl, decide_true, decide_false, Int.reduceBEq, isi_tup, kit_tuple_tuple]
    refine ⟨_, rfl, trivial, ?_⟩
    simp only [wSs, wS, wE, wEs, wO, wB, wBo, wI, wTg, gs, startT, List.map_cons, List.map_nil, List.length_cons, List.length_nil, List.cons_append, List.nil_append, List.replicate, Nat.reduceAdd, Nat.reduceSub, Nat.zero_add, exEq, wCop, wIx, wTru, bif_len, bif_abs, bif_int, bif_isi, bif_tuple, bif_list, bif_sum, bif_all, bif_any, bif_min2, bif_max2, bif_minl, bif_maxl, bop_add_i, bop_add_t, bop_add_l, bop_sub, bop_mul_i, bop_fdiv, bop_mod, bop_pow, aug_add, aug_sub, aug_mul, setAll, List.set, tru_bl, tru_non, tru_int, tru_tup, if_true, if_false, Bool.false_eq_true, Bool.not_true, Bool.not_false, seqM_tup, ix_tup, len_tup, atI_0, atI_1, atI_2, atI_3, atI_4, Option.some.injEq, exists_eq_left', eq_int, cmp_lt, cmp_le, cmp_gt, cmp_ge, cmp_eq, cmp_ne, cmp_is, cmp_isn, cmp_in, cmp_nin, Option.map, is_nn, is_in, is_tn, tyn_int, tyn_str, tyn_tup, Int.cast_ofNat_Int, Int.reduceLT, Int.reduceLE, Int.reduceAdd, Int.reduceMul, Int.reduceSub, BEq.rfl, decide_true, decide_false, Int.reduceBEq, isI]
    exact rtF (.refl _) q
theorem h_is_pair {G : Gx} (F : Facts G) : HeldT G 2 (adr G "is_pair") s_isP :=
  F.d_is_pair.held (k := 1) sc_is_pair ck_is_pair (ok_is_pair F (h_is_int F)) nF (fun xs M Q R ⟨x, e, _⟩ => by rw [e]; rfl) v_is_pair
theorem v_is_step {G : Gx} : ∀ xs M Q R, s_isP xs M Q R → wSs noF (b_is_step G s_isP) (endsT Q R) (startT n_is_step xs) M := by
  rintro xs M Q R ⟨p, rfl, h, q⟩
  unfold b_is_step
  simp only [wSs, wS, wE, wEs, wO, wB, wBo, wI, wTg, gs, startT, List.map_cons, List.map_nil, List.length_cons, List.length_nil, List.cons_append, List.nil_append, List.replicate, Nat.reduceAdd, Nat.reduceSub, Nat.zero_add, exEq, wCop, wIx, wTru, bif_len, bif_abs, bif_int, bif_isi, bif_tuple, bif_list, bif_sum, bif_all, bif_any, bif_min2, bif_max2, bif_minl, bif_maxl, bop_add_i, bop_add_t, bop_add_l, bop_sub, bop_mul_i, bop_fdiv, bop_mod, bop_pow, aug_add, aug_sub, aug_mul, setAll, List.set, tru_bl, tru_non, tru_int, tru_tup, if_true, if_false, Bool.false_eq_true, Bool.not_true, Bool.not_false, seqM_tup, ix_tup, len_tup, atI_0, atI_1, atI_2, atI_3, atI_4, Option.some.injEq, exists_eq_left', eq_int, cmp_lt, cmp_le, cmp_gt, cmp_ge, cmp_eq, cmp_ne, cmp_is, cmp_isn, cmp_in, cmp_nin, Option.map, is_nn, is_in, is_tn, tyn_int, tyn_str, tyn_tup, Int.cast_ofNat_Int, Int.reduceLT, Int.reduceLE, Int.reduceAdd, Int.reduceMul, Int.reduceSub, BEq.rfl, decide_true, decide_false, Int.reduceBEq]
  refine ⟨p, rfl, h, ?_⟩
  cases p with
  | place l w =>
    simp only [Pl.tv]
    simp only [wSs, wS, wE, wEs, wO, wB, wBo, wI, wTg, gs, startT, List.map_cons, List.map_nil, List.length_cons, List.length_nil, List.cons_append, List.nil_append, List.replicate, Nat.reduceAdd, Nat.reduceSub, Nat.zero_add, exEq, wCop, wIx, wTru, bif_len, bif_abs, bif_int, bif_isi, bif_tuple, bif_list, bif_sum, bif_all, bif_any, bif_min2, bif_max2, bif_minl, bif_maxl, bop_add_i, bop_add_t, bop_add_l, bop_sub, bop_mul_i, bop_fdiv, bop_mod, bop_pow, aug_add, aug_sub, aug_mul, setAll, List.set, tru_bl, tru_non, tru_int, tru_tup, if_true, if_false, Bool.false_eq_true, Bool.not_true, Bool.not_false, seqM_tup, ix_tup, len_tup, atI_0, atI_1, atI_2, atI_3, atI_4, Option.some.injEq, exists_eq_left', eq_int, cmp_lt, cmp_le, cmp_gt, cmp_ge, cmp_eq, cmp_ne, cmp_is, cmp_isn, cmp_in, cmp_nin, Option.map, is_nn, is_in, is_tn, tyn_int, tyn_str, tyn_tup, Int.cast_ofNat_Int, Int.reduceLT, Int.reduceLE, Int.reduceAdd, Int.reduceMul, Int.reduceSub, BEq.rfl, decide_true, decide_false, Int.reduceBEq, Pl.isP, eq_pair, Option.map]
    obtain ⟨a, b, c, d, e⟩ := h
    rw [decide_eq_true a, decide_eq_true c]
    simp only [wSs, wS, wE, wEs, wO, wB, wBo, wI, wTg, gs, startT, List.map_cons, List.map_nil, List.length_cons, List.length_nil, List.cons_append, List.nil_append, List.replicate, Nat.reduceAdd, Nat.reduceSub, Nat.zero_add, exEq, wCop, wIx, wTru, bif_len, bif_abs, bif_int, bif_isi, bif_tuple, bif_list, bif_sum, bif_all, bif_any, bif_min2, bif_max2, bif_minl, bif_maxl, bop_add_i, bop_add_t, bop_add_l, bop_sub, bop_mul_i, bop_fdiv, bop_mod, bop_pow, aug_add, aug_sub, aug_mul, setAll, List.set, tru_bl, tru_non, tru_int, tru_tup, if_true, if_false, Bool.false_eq_true, Bool.not_true, Bool.not_false, seqM_tup, ix_tup, len_tup, atI_0, atI_1, atI_2, atI_3, atI_4, Option.some.injEq, exists_eq_left', eq_int, cmp_lt, cmp_le, cmp_gt, cmp_ge, cmp_eq, cmp_ne, cmp_is, cmp_isn, cmp_in, cmp_nin, Option.map, is_nn, is_in, is_tn, tyn_int, tyn_str, tyn_tup, Int.cast_ofNat_Int, Int.reduceLT, Int.reduceLE, Int.reduceAdd, Int.reduceMul, Int.reduceSub, BEq.rfl, decide_true, decide_false, Int.reduceBEq]
    have : (!(l == 0 && (w == 0 && true))) = true := by
      simp only [Bool.and_true, Bool.not_eq_true', Bool.and_eq_false_iff, beq_eq_false_iff_ne]
      by_cases z : l = 0
      · exact .inr fun z2 => e ⟨z, z2⟩
      · exact .inl z
    rw [this]
    exact rtF (.refl _) q
  | rep c n p =>
    simp only [wSs, wS, wE, wEs, wO, wB, wBo, wI, wTg, gs, startT, List.map_cons, List.map_nil, List.length_cons, List.length_nil, List.cons_append, List.nil_append, List.replicate, Nat.reduceAdd, Nat.reduceSub, Nat.zero_add, exEq, wCop, wIx, wTru, bif_len, bif_abs, bif_int, bif_isi, bif_tuple, bif_list, bif_sum, bif_all, bif_any, bif_min2, bif_max2, bif_minl, bif_maxl, bop_add_i, bop_add_t, bop_add_l, bop_sub, bop_mul_i, bop_fdiv, bop_mod, bop_pow, aug_add, aug_sub, aug_mul, setAll, List.set, tru_bl, tru_non, tru_int, tru_tup, if_true, if_false, Bool.false_eq_true, Bool.not_true, Bool.not_false, seqM_tup, ix_tup, len_tup, atI_0, atI_1, atI_2, atI_3, atI_4, Option.some.injEq, exists_eq_left', eq_int, cmp_lt, cmp_le, cmp_gt, cmp_ge, cmp_eq, cmp_ne, cmp_is, cmp_isn, cmp_in, cmp_nin, Option.map, is_nn, is_in, is_tn, tyn_int, tyn_str, tyn_tup, Int.cast_ofNat_Int, Int.reduceLT, Int.reduceLE, Int.reduceAdd, Int.reduceMul, Int.reduceSub, BEq.rfl, decide_true, decide_false, Int.reduceBEq, Pl.isP]
    exact rtF (.refl _) q
  | join r ps =>
    simp only [wSs, wS, wE, wEs, wO, wB, wBo, wI, wTg, gs, startT, List.map_cons, List.map_nil, List.length_cons, List.length_nil, List.cons_append, List.nil_append, List.replicate, Nat.reduceAdd, Nat.reduceSub, Nat.zero_add, exEq, wCop, wIx, wTru, bif_len, bif_abs, bif_int, bif_isi, bif_tuple, bif_list, bif_sum, bif_all, bif_any, bif_min2, bif_max2, bif_minl, bif_maxl, bop_add_i, bop_add_t, bop_add_l, bop_sub, bop_mul_i, bop_fdiv, bop_mod, bop_pow, aug_add, aug_sub, aug_mul, setAll, List.set, tru_bl, tru_non, tru_int, tru_tup, if_true, if_false, Bool.false_eq_true, Bool.not_true, Bool.not_false, seqM_tup, ix_tup, len_tup, atI_0, atI_1, atI_2, atI_3, atI_4, Option.some.injEq, exists_eq_left', eq_int, cmp_lt, cmp_le, cmp_gt, cmp_ge, cmp_eq, cmp_ne, cmp_is, cmp_isn, cmp_in, cmp_nin, Option.map, is_nn, is_in, is_tn, tyn_int, tyn_str, tyn_tup, Int.cast_ofNat_Int, Int.reduceLT, Int.reduceLE, Int.reduceAdd, Int.reduceMul, Int.reduceSub, BEq.rfl, decide_true, decide_false, Int.reduceBEq, Pl.isP]
    exact rtF (.refl _) q
theorem h_is_step {G : Gx} (F : Facts G) : HeldT G 3 (adr G "is_step") s_isP :=
  F.d_is_step.held (k := 2) sc_is_step ck_is_step (ok_is_step F (h_is_pair F)) nF (fun xs M Q R ⟨x, e, _⟩ => by rw [e]; rfl) v_is_step
theorem v_is_place {G : Gx} : ∀ xs M Q R, s_isP xs M Q R → wSs noF (b_is_place G s_isP) (endsT Q R) (startT n_is_place xs) M := by
  rintro xs M Q R ⟨p, rfl, h, q⟩
  unfold b_is_place
  simp only [wSs, wS, wE, wEs, wO, wB, wBo, wI, wTg, gs, startT, List.map_cons, List.map_nil, List.length_cons, List.length_nil, List.cons_append, List.nil_append, List.replicate, Nat.reduceAdd, Nat.reduceSub, Nat.zero_add, exEq, wCop, wIx, wTru, bif_len, bif_abs, bif_int, bif_isi, bif_tuple, bif_list, bif_sum, bif_all, bif_any, bif_min2, bif_max2, bif_minl, bif_maxl, bop_add_i, bop_add_t, bop_add_l, bop_sub, bop_mul_i, bop_fdiv, bop_mod, bop_pow, aug_add, aug_sub, aug_mul, setAll, List.set, tru_bl, tru_non, tru_int, tru_tup, if_true, if_false, Bool.false_eq_true, Bool.not_true, Bool.not_false, seqM_tup, ix_tup, len_tup, atI_0, atI_1, atI_2, atI_3, atI_4, Option.some.injEq, exists_eq_left', eq_int, cmp_lt, cmp_le, cmp_gt, cmp_ge, cmp_eq, cmp_ne, cmp_is, cmp_isn, cmp_in, cmp_nin, Option.map, is_nn, is_in, is_tn, tyn_int, tyn_str, tyn_tup, Int.cast_ofNat_Int, Int.reduceLT, Int.reduceLE, Int.reduceAdd, Int.reduceMul, Int.reduceSub, BEq.rfl, decide_true, decide_false, Int.reduceBEq]
  refine ⟨p, rfl, h, ?_⟩
  cases p with
  | place l w =>
    simp only [Pl.tv]
    simp only [wSs, wS, wE, wEs, wO, wB, wBo, wI, wTg, gs, startT, List.map_cons, List.map_nil, List.length_cons, List.length_nil, List.cons_append, List.nil_append, List.replicate, Nat.reduceAdd, Nat.reduceSub, Nat.zero_add, exEq, wCop, wIx, wTru, bif_len, bif_abs, bif_int, bif_isi, bif_tuple, bif_list, bif_sum, bif_all, bif_any, bif_min2, bif_max2, bif_minl, bif_maxl, bop_add_i, bop_add_t, bop_add_l, bop_sub, bop_mul_i, bop_fdiv, bop_mod, bop_pow, aug_add, aug_sub, aug_mul, setAll, List.set, tru_bl, tru_non, tru_int, tru_tup, if_true, if_false, Bool.false_eq_true, Bool.not_true, Bool.not_false, seqM_tup, ix_tup, len_tup, atI_0, atI_1, atI_2, atI_3, atI_4, Option.some.injEq, exists_eq_left', eq_int, cmp_lt, cmp_le, cmp_gt, cmp_ge, cmp_eq, cmp_ne, cmp_is, cmp_isn, cmp_in, cmp_nin, Option.map, is_nn, is_in, is_tn, tyn_int, tyn_str, tyn_tup, Int.cast_ofNat_Int, Int.reduceLT, Int.reduceLE, Int.reduceAdd, Int.reduceMul, Int.reduceSub, BEq.rfl, decide_true, decide_false, Int.reduceBEq, Pl.isP]
    obtain ⟨a, b, c, d, e⟩ := h
    rw [decide_eq_true b, decide_eq_true d]
    simp only [wSs, wS, wE, wEs, wO, wB, wBo, wI, wTg, gs, startT, List.map_cons, List.map_nil, List.length_cons, List.length_nil, List.cons_append, List.nil_append, List.replicate, Nat.reduceAdd, Nat.reduceSub, Nat.zero_add, exEq, wCop, wIx, wTru, bif_len, bif_abs, bif_int, bif_isi, bif_tuple, bif_list, bif_sum, bif_all, bif_any, bif_min2, bif_max2, bif_minl, bif_maxl, bop_add_i, bop_add_t, bop_add_l, bop_sub, bop_mul_i, bop_fdiv, bop_mod, bop_pow, aug_add, aug_sub, aug_mul, setAll, List.set, tru_bl, tru_non, tru_int, tru_tup, if_true, if_false, Bool.false_eq_true, Bool.not_true, Bool.not_false, seqM_tup, ix_tup, len_tup, atI_0, atI_1, atI_2, atI_3, atI_4, Option.some.injEq, exists_eq_left', eq_int, cmp_lt, cmp_le, cmp_gt, cmp_ge, cmp_eq, cmp_ne, cmp_is, cmp_isn, cmp_in, cmp_nin, Option.map, is_nn, is_in, is_tn, tyn_int, tyn_str, tyn_tup, Int.cast_ofNat_Int, Int.reduceLT, Int.reduceLE, Int.reduceAdd, Int.reduceMul, Int.reduceSub, BEq.rfl, decide_true, decide_false, Int.reduceBEq]
    exact rtF (.refl _) q
  | rep c n p =>
    simp only [wSs, wS, wE, wEs, wO, wB, wBo, wI, wTg, gs, startT, List.map_cons, List.map_nil, List.length_cons, List.length_nil, List.cons_append, List.nil_append, List.replicate, Nat.reduceAdd, Nat.reduceSub, Nat.zero_add, exEq, wCop, wIx, wTru, bif_len, bif_abs, bif_int, bif_isi, bif_tuple, bif_list, bif_sum, bif_all, bif_any, bif_min2, bif_max2, bif_minl, bif_maxl, bop_add_i, bop_add_t, bop_add_l, bop_sub, bop_mul_i, bop_fdiv, bop_mod, bop_pow, aug_add, aug_sub, aug_mul, setAll, List.set, tru_bl, tru_non, tru_int, tru_tup, if_true, if_false, Bool.false_eq_true, Bool.not_true, Bool.not_false, seqM_tup, ix_tup, len_tup, atI_0, atI_1, atI_2, atI_3, atI_4, Option.some.injEq, exists_eq_left', eq_int, cmp_lt, cmp_le, cmp_gt, cmp_ge, cmp_eq, cmp_ne, cmp_is, cmp_isn, cmp_in, cmp_nin, Option.map, is_nn, is_in, is_tn, tyn_int, tyn_str, tyn_tup, Int.cast_ofNat_Int, Int.reduceLT, Int.reduceLE, Int.reduceAdd, Int.reduceMul, Int.reduceSub, BEq.rfl, decide_true, decide_false, Int.reduceBEq, Pl.isP]
    exact rtF (.refl _) q
  | join r ps =>
    simp only [wSs, wS, wE, wEs, wO, wB, wBo, wI, wTg, gs, startT, List.map_cons, List.map_nil, List.length_cons, List.length_nil, List.cons_append, List.nil_append, List.replicate, Nat.reduceAdd, Nat.reduceSub, Nat.zero_add, exEq, wCop, wIx, wTru, bif_len, bif_abs, bif_int, bif_isi, bif_tuple, bif_list, bif_sum, bif_all, bif_any, bif_min2, bif_max2, bif_minl, bif_maxl, bop_add_i, bop_add_t, bop_add_l, bop_sub, bop_mul_i, bop_fdiv, bop_mod, bop_pow, aug_add, aug_sub, aug_mul, setAll, List.set, tru_bl, tru_non, tru_int, tru_tup, if_true, if_false, Bool.false_eq_true, Bool.not_true, Bool.not_false, seqM_tup, ix_tup, len_tup, atI_0, atI_1, atI_2, atI_3, atI_4, Option.some.injEq, exists_eq_left', eq_int, cmp_lt, cmp_le, cmp_gt, cmp_ge, cmp_eq, cmp_ne, cmp_is, cmp_isn, cmp_in, cmp_nin, Option.map, is_nn, is_in, is_tn, tyn_int, tyn_str, tyn_tup, Int.cast_ofNat_Int, Int.reduceLT, Int.reduceLE, Int.reduceAdd, Int.reduceMul, Int.reduceSub, BEq.rfl, decide_true, decide_false, Int.reduceBEq, Pl.isP]
    exact rtF (.refl _) q
theorem h_is_place {G : Gx} (F : Facts G) : HeldT G 4 (adr G "is_place") s_isP :=
  F.d_is_place.held (k := 3) sc_is_place ck_is_place (ok_is_place F (h_is_step F)) nF (fun xs M Q R ⟨x, e, _⟩ => by rw [e]; rfl) v_is_place
def s_check_most : TSp := fun xs M Q _ => ∃ i k, xs = [.int i, .int k] ∧ 1 ≤ i ∧ i ≤ k ∧ Q .non M
theorem v_check_most {G : Gx} : ∀ xs M Q R, s_check_most xs M Q R → wSs noF (b_check_most G s_is_within) (endsT Q R) (startT n_check_most xs) M := by
  rintro xs M Q R ⟨i, k, rfl, a, b, q⟩
  unfold b_check_most
  simp only [wSs, wS, wE, wEs, wO, wB, wBo, wI, wTg, gs, startT, List.map_cons, List.map_nil, List.length_cons, List.length_nil, List.cons_append, List.nil_append, List.replicate, Nat.reduceAdd, Nat.reduceSub, Nat.zero_add, exEq, wCop, wIx, wTru, bif_len, bif_abs, bif_int, bif_isi, bif_tuple, bif_list, bif_sum, bif_all, bif_any, bif_min2, bif_max2, bif_minl, bif_maxl, bop_add_i, bop_add_t, bop_add_l, bop_sub, bop_mul_i, bop_fdiv, bop_mod, bop_pow, aug_add, aug_sub, aug_mul, setAll, List.set, tru_bl, tru_non, tru_int, tru_tup, if_true, if_false, Bool.false_eq_true, Bool.not_true, Bool.not_false, seqM_tup, ix_tup, len_tup, atI_0, atI_1, atI_2, atI_3, atI_4, Option.some.injEq, exists_eq_left', eq_int, cmp_lt, cmp_le, cmp_gt, cmp_ge, cmp_eq, cmp_ne, cmp_is, cmp_isn, cmp_in, cmp_nin, Option.map, is_nn, is_in, is_tn, tyn_int, tyn_str, tyn_tup, Int.cast_ofNat_Int, Int.reduceLT, Int.reduceLE, Int.reduceAdd, Int.reduceMul, Int.reduceSub, BEq.rfl, decide_true, decide_false, Int.reduceBEq]
  refine ⟨_, _, _, rfl, ?_⟩
  rw [decide_eq_true a, decide_eq_true b]
  simp only [wSs, wS, wE, wEs, wO, wB, wBo, wI, wTg, gs, startT, List.map_cons, List.map_nil, List.length_cons, List.length_nil, List.cons_append, List.nil_append, List.replicate, Nat.reduceAdd, Nat.reduceSub, Nat.zero_add, exEq, wCop, wIx, wTru, bif_len, bif_abs, bif_int, bif_isi, bif_tuple, bif_list, bif_sum, bif_all, bif_any, bif_min2, bif_max2, bif_minl, bif_maxl, bop_add_i, bop_add_t, bop_add_l, bop_sub, bop_mul_i, bop_fdiv, bop_mod, bop_pow, aug_add, aug_sub, aug_mul, setAll, List.set, tru_bl, tru_non, tru_int, tru_tup, if_true, if_false, Bool.false_eq_true, Bool.not_true, Bool.not_false, seqM_tup, ix_tup, len_tup, atI_0, atI_1, atI_2, atI_3, atI_4, Option.some.injEq, exists_eq_left', eq_int, cmp_lt, cmp_le, cmp_gt, cmp_ge, cmp_eq, cmp_ne, cmp_is, cmp_isn, cmp_in, cmp_nin, Option.map, is_nn, is_in, is_tn, tyn_int, tyn_str, tyn_tup, Int.cast_ofNat_Int, Int.reduceLT, Int.reduceLE, Int.reduceAdd, Int.reduceMul, Int.reduceSub, BEq.rfl, decide_true, decide_false, Int.reduceBEq, Bool.and_self]
  exact nxF (.refl _) q
theorem h_check_most {G : Gx} (F : Facts G) : HeldT G 3 (adr G "check_most") s_check_most :=
  F.d_check_most.held (k := 2) sc_check_most ck_check_most (ok_check_most F (h_is_within F)) nF (fun xs M Q R ⟨x, _, e, _⟩ => by rw [e]; rfl) v_check_most
end TL

/-! VcB: forms, sizes, counts, sums of plans. -/
namespace TL
open PySem PySem.Spec PyProof.Rows L2
abbrev tRep : TV := .tup [.str "times", .str "copies"]
abbrev tJoin : TV := .tup [.str "row", .str "beside"]
section
variable {M : TM}
theorem in_rep (c : Bool) : inF M (.str (wRep c)) tRep = some true := by cases c <;> rfl
theorem in_repJ (c : Bool) : inF M (.str (wJoin c)) tRep = some false := by cases c <;> rfl
theorem in_join (c : Bool) : inF M (.str (wJoin c)) tJoin = some true := by cases c <;> rfl
end
def FP (G : Gx) : Addr → TSp → Prop := fun f sp => f = adr G "is_place" ∧ sp = s_isP
theorem hFP {G : Gx} (Fa : Facts G) : ∀ f sp, FP G f sp → HeldT G 4 f sp := fun f sp ⟨e, e2⟩ => by rw [e, e2]; exact h_is_place Fa
def s_counted (G : Gx) (d : Nat) : TSp := fun xs M Q _ => ∃ (p : Pl) (n : Nat), xs = [p.tv, .int n, .ref (adr G "is_place"), tJoin] ∧ p.ok ∧ p.dep ≤ n ∧ p.dep ≤ d ∧ p.size ≤ 150 ∧ Q (.int p.size) M
theorem v_counted {G : Gx} : ∀ d xs M Q R, s_counted G d xs M Q R → wSs (FP G) (b_counted G (prevS (s_counted G) d) s_is_within) (endsT Q R) (startT n_counted xs) M := by
  rintro d xs M Q R ⟨p, n, rfl, ok, hn, hd, hz, q⟩
  unfold b_counted
  simp only [wSs, wS, wE, wEs, wO, wB, wBo, wI, wTg, gs, startT, List.map_cons, List.map_nil, List.length_cons, List.length_nil, List.cons_append, List.nil_append, List.replicate, Nat.reduceAdd, Nat.reduceSub, Nat.zero_add, exEq, wCop, wIx, wTru, bif_len, bif_abs, bif_int, bif_isi, bif_tuple, bif_list, bif_sum, bif_all, bif_any, bif_min2, bif_max2, bif_minl, bif_maxl, bop_add_i, bop_add_t, bop_add_l, bop_sub, bop_mul_i, bop_fdiv, bop_mod, bop_pow, aug_add, aug_sub, aug_mul, setAll, wipeT, List.set, tru_bl, tru_non, tru_int, tru_tup, if_true, if_false, Bool.false_eq_true, Bool.not_true, Bool.not_false, seqM_tup, ix_tup, len_tup, atI_0, atI_1, atI_2, atI_3, atI_4, Option.some.injEq, exists_eq_left', eq_int, cmp_lt, cmp_le, cmp_gt, cmp_ge, cmp_eq, cmp_ne, cmp_is, cmp_isn, cmp_in, cmp_nin, Option.map, is_nn, is_in, is_tn, tyn_int, tyn_str, tyn_tup, Int.cast_ofNat_Int, Int.reduceLT, Int.reduceLE, Int.reduceAdd, Int.reduceMul, Int.reduceSub, BEq.rfl, decide_true, decide_false, Int.reduceBEq]
  refine ⟨_, _, rfl, ⟨rfl, rfl⟩, p, rfl, ok, ?_⟩
  cases p with
  | place l w =>
    simp only [wSs, wS, wE, wEs, wO, wB, wBo, wI, wTg, gs, startT, List.map_cons, List.map_nil, List.length_cons, List.length_nil, List.cons_append, List.nil_append, List.replicate, Nat.reduceAdd, Nat.reduceSub, Nat.zero_add, exEq, wCop, wIx, wTru, bif_len, bif_abs, bif_int, bif_isi, bif_tuple, bif_list, bif_sum, bif_all, bif_any, bif_min2, bif_max2, bif_minl, bif_maxl, bop_add_i, bop_add_t, bop_add_l, bop_sub, bop_mul_i, bop_fdiv, bop_mod, bop_pow, aug_add, aug_sub, aug_mul, setAll, wipeT, List.set, tru_bl, tru_non, tru_int, tru_tup, if_true, if_false, Bool.false_eq_true, Bool.not_true, Bool.not_false, seqM_tup, ix_tup, len_tup, atI_0, atI_1, atI_2, atI_3, atI_4, Option.some.injEq, exists_eq_left', eq_int, cmp_lt, cmp_le, cmp_gt, cmp_ge, cmp_eq, cmp_ne, cmp_is, cmp_isn, cmp_in, cmp_nin, Option.map, is_nn, is_in, is_tn, tyn_int, tyn_str, tyn_tup, Int.cast_ofNat_Int, Int.reduceLT, Int.reduceLE, Int.reduceAdd, Int.reduceMul, Int.reduceSub, BEq.rfl, decide_true, decide_false, Int.reduceBEq, Pl.isP]
    exact rtF (.refl _) q
  | rep c i p =>
    have n1 : 1 ≤ n := Nat.le_trans (Nat.le_add_left _ _) hn
    have hn0 : ((n : Int) == 0) = false := by simp; omega
    cases d with
    | zero => exact absurd hd (by simp [Pl.dep])
    | succ d =>
    simp only [Pl.tv, Pl.isP]
    simp only [wSs, wS, wE, wEs, wO, wB, wBo, wI, wTg, gs, startT, List.map_cons, List.map_nil, List.length_cons, List.length_nil, List.cons_append, List.nil_append, List.replicate, Nat.reduceAdd, Nat.reduceSub, Nat.zero_add, exEq, wCop, wIx, wTru, bif_len, bif_abs, bif_int, bif_isi, bif_tuple, bif_list, bif_sum, bif_all, bif_any, bif_min2, bif_max2, bif_minl, bif_maxl, bop_add_i, bop_add_t, bop_add_l, bop_sub, bop_mul_i, bop_fdiv, bop_mod, bop_pow, aug_add, aug_sub, aug_mul, setAll, wipeT, List.set, tru_bl, tru_non, tru_int, tru_tup, if_true, if_false, Bool.false_eq_true, Bool.not_true, Bool.not_false, seqM_tup, ix_tup, len_tup, atI_0, atI_1, atI_2, atI_3, atI_4, Option.some.injEq, exists_eq_left', eq_int, cmp_lt, cmp_le, cmp_gt, cmp_ge, cmp_eq, cmp_ne, cmp_is, cmp_isn, cmp_in, cmp_nin, Option.map, is_nn, is_in, is_tn, tyn_int, tyn_str, tyn_tup, Int.cast_ofNat_Int, Int.reduceLT, Int.reduceLE, Int.reduceAdd, Int.reduceMul, Int.reduceSub, BEq.rfl, decide_true, decide_false, Int.reduceBEq, hn0, isi_tup, kit_tuple_tuple, isi_str, kit_str_str, in_rep]
    refine ⟨_, _, _, rfl, ?_⟩
    rw [decide_eq_true ok.1, decide_eq_true ok.2.1]
    simp only [wSs, wS, wE, wEs, wO, wB, wBo, wI, wTg, gs, startT, List.map_cons, List.map_nil, List.length_cons, List.length_nil, List.cons_append, List.nil_append, List.replicate, Nat.reduceAdd, Nat.reduceSub, Nat.zero_add, exEq, wCop, wIx, wTru, bif_len, bif_abs, bif_int, bif_isi, bif_tuple, bif_list, bif_sum, bif_all, bif_any, bif_min2, bif_max2, bif_minl, bif_maxl, bop_add_i, bop_add_t, bop_add_l, bop_sub, bop_mul_i, bop_fdiv, bop_mod, bop_pow, aug_add, aug_sub, aug_mul, setAll, wipeT, List.set, tru_bl, tru_non, tru_int, tru_tup, if_true, if_false, Bool.false_eq_true, Bool.not_true, Bool.not_false, seqM_tup, ix_tup, len_tup, atI_0, atI_1, atI_2, atI_3, atI_4, Option.some.injEq, exists_eq_left', eq_int, cmp_lt, cmp_le, cmp_gt, cmp_ge, cmp_eq, cmp_ne, cmp_is, cmp_isn, cmp_in, cmp_nin, Option.map, is_nn, is_in, is_tn, tyn_int, tyn_str, tyn_tup, Int.cast_ofNat_Int, Int.reduceLT, Int.reduceLE, Int.reduceAdd, Int.reduceMul, Int.reduceSub, BEq.rfl, decide_true, decide_false, Int.reduceBEq, Bool.and_self]
    simp only [Pl.dep, Pl.size] at hn hd hz q
    refine ⟨p, n - 1, ?_, ok.2.2, by omega, by omega, by omega, ?_⟩
    · rw [Int.ofNat_sub n1]; rfl
    · simp only [wSs, wS, wE, wEs, wO, wB, wBo, wI, wTg, gs, startT, List.map_cons, List.map_nil, List.length_cons, List.length_nil, List.cons_append, List.nil_append, List.replicate, Nat.reduceAdd, Nat.reduceSub, Nat.zero_add, exEq, wCop, wIx, wTru, bif_len, bif_abs, bif_int, bif_isi, bif_tuple, bif_list, bif_sum, bif_all, bif_any, bif_min2, bif_max2, bif_minl, bif_maxl, bop_add_i, bop_add_t, bop_add_l, bop_sub, bop_mul_i, bop_fdiv, bop_mod, bop_pow, aug_add, aug_sub, aug_mul, setAll, wipeT, List.set, tru_bl, tru_non, tru_int, tru_tup, if_true, if_false, Bool.false_eq_true, Bool.not_true, Bool.not_false, seqM_tup, ix_tup, len_tup, atI_0, atI_1, atI_2, atI_3, atI_4, Option.some.injEq, exists_eq_left', eq_int, cmp_lt, cmp_le, cmp_gt, cmp_ge, cmp_eq, cmp_ne, cmp_is, cmp_isn, cmp_in, cmp_nin, Option.map, is_nn, is_in, is_tn, tyn_int, tyn_str, tyn_tup, Int.cast_ofNat_Int, Int.reduceLT, Int.reduceLE, Int.reduceAdd, Int.reduceMul, Int.reduceSub, BEq.rfl, decide_true, decide_false, Int.reduceBEq]
      refine rtF (.refl _) ?_
      rw [Int.natCast_add] at q
      exact q
  | join r ps =>
    have n1 : 1 ≤ n := Nat.le_trans (Nat.le_add_left _ _) hn
    have hn0 : ((n : Int) == 0) = false := by simp; omega
    cases d with
    | zero => exact absurd hd (by simp [Pl.dep])
    | succ d =>
    simp only [Pl.tv, Pl.isP]
    have l1 : ((1 : Int) ≤ (ps.tvs.length : Nat)) := by rw [Pls.tvs_len]; have := ok.1; omega
    have l2 : ((ps.tvs.length : Nat) : Int) ≤ 12 := by rw [Pls.tvs_len]; have := ok.2.1; omega
    simp only [wSs, wS, wE, wEs, wO, wB, wBo, wI, wTg, gs, startT, List.map_cons, List.map_nil, List.length_cons, List.length_nil, List.cons_append, List.nil_append, List.replicate, Nat.reduceAdd, Nat.reduceSub, Nat.zero_add, exEq, wCop, wIx, wTru, bif_len, bif_abs, bif_int, bif_isi, bif_tuple, bif_list, bif_sum, bif_all, bif_any, bif_min2, bif_max2, bif_minl, bif_maxl, bop_add_i, bop_add_t, bop_add_l, bop_sub, bop_mul_i, bop_fdiv, bop_mod, bop_pow, aug_add, aug_sub, aug_mul, setAll, wipeT, List.set, tru_bl, tru_non, tru_int, tru_tup, if_true, if_false, Bool.false_eq_true, Bool.not_true, Bool.not_false, seqM_tup, ix_tup, len_tup, atI_0, atI_1, atI_2, atI_3, atI_4, Option.some.injEq, exists_eq_left', eq_int, cmp_lt, cmp_le, cmp_gt, cmp_ge, cmp_eq, cmp_ne, cmp_is, cmp_isn, cmp_in, cmp_nin, Option.map, is_nn, is_in, is_tn, tyn_int, tyn_str, tyn_tup, Int.cast_ofNat_Int, Int.reduceLT, Int.reduceLE, Int.reduceAdd, Int.reduceMul, Int.reduceSub, BEq.rfl, decide_true, decide_false, Int.reduceBEq, hn0, isi_tup, kit_tuple_tuple, isi_str, kit_str_str, in_repJ, in_join, decide_eq_true l1, decide_eq_true l2]
    simp only [Pl.dep, Pl.size] at hn hd hz q
    refine foL_at (d := []) (fun _ rest σ M' => M' = M ∧ ∃ (rs : Pls) (f : Nat) (o5 o6 : Option TV), rest = rs.tvs ∧ rs.ok ∧ rs.dep ≤ d ∧ rs.dep + 1 ≤ n ∧ f + rs.size = ps.size + 1 ∧ σ = [some (.tup [.str (wJoin r), .tup ps.tvs]), some (.int n), some (.ref (adr G "is_place")), some tJoin, some (.int f), o5, o6]) ?_ ?_ ?_ ?_
    · exact ⟨rfl, ps, 1, none, none, rfl, ok.2.2, by omega, by omega, by omega, rfl⟩
    · rintro _ _ _ _ ⟨rfl, _⟩
      trivial
    · rintro _ x rest k σ _ ⟨rfl, rs, f, o5, o6, e, rok, rd, rn, rf, rfl⟩ hk
      cases rs with
      | nil => cases e
      | cons p rs =>
      cases e
      simp only [Pls.dep, Pls.size] at rd rn rf
      have := p.size_pos
      simp only [wSs, wS, wE, wEs, wO, wB, wBo, wI, wTg, gs, startT, List.map_cons, List.map_nil, List.length_cons, List.length_nil, List.cons_append, List.nil_append, List.replicate, Nat.reduceAdd, Nat.reduceSub, Nat.zero_add, exEq, wCop, wIx, wTru, bif_len, bif_abs, bif_int, bif_isi, bif_tuple, bif_list, bif_sum, bif_all, bif_any, bif_min2, bif_max2, bif_minl, bif_maxl, bop_add_i, bop_add_t, bop_add_l, bop_sub, bop_mul_i, bop_fdiv, bop_mod, bop_pow, aug_add, aug_sub, aug_mul, setAll, wipeT, List.set, tru_bl, tru_non, tru_int, tru_tup, if_true, if_false, Bool.false_eq_true, Bool.not_true, Bool.not_false, seqM_tup, ix_tup, len_tup, atI_0, atI_1, atI_2, atI_3, atI_4, Option.some.injEq, exists_eq_left', eq_int, cmp_lt, cmp_le, cmp_gt, cmp_ge, cmp_eq, cmp_ne, cmp_is, cmp_isn, cmp_in, cmp_nin, Option.map, is_nn, is_in, is_tn, tyn_int, tyn_str, tyn_tup, Int.cast_ofNat_Int, Int.reduceLT, Int.reduceLE, Int.reduceAdd, Int.reduceMul, Int.reduceSub, BEq.rfl, decide_true, decide_false, Int.reduceBEq]
      refine ⟨p, n - 1, ?_, rok.1, by omega, by omega, by omega, ?_⟩
      · rw [Int.ofNat_sub n1]; rfl
      · have l3 : ¬ ((150 : Int) < ((f : Int) + (p.size : Nat))) := by omega
        simp only [wSs, wS, wE, wEs, wO, wB, wBo, wI, wTg, gs, startT, List.map_cons, List.map_nil, List.length_cons, List.length_nil, List.cons_append, List.nil_append, List.replicate, Nat.reduceAdd, Nat.reduceSub, Nat.zero_add, exEq, wCop, wIx, wTru, bif_len, bif_abs, bif_int, bif_isi, bif_tuple, bif_list, bif_sum, bif_all, bif_any, bif_min2, bif_max2, bif_minl, bif_maxl, bop_add_i, bop_add_t, bop_add_l, bop_sub, bop_mul_i, bop_fdiv, bop_mod, bop_pow, aug_add, aug_sub, aug_mul, setAll, wipeT, List.set, tru_bl, tru_non, tru_int, tru_tup, if_true, if_false, Bool.false_eq_true, Bool.not_true, Bool.not_false, seqM_tup, ix_tup, len_tup, atI_0, atI_1, atI_2, atI_3, atI_4, Option.some.injEq, exists_eq_left', eq_int, cmp_lt, cmp_le, cmp_gt, cmp_ge, cmp_eq, cmp_ne, cmp_is, cmp_isn, cmp_in, cmp_nin, Option.map, is_nn, is_in, is_tn, tyn_int, tyn_str, tyn_tup, Int.cast_ofNat_Int, Int.reduceLT, Int.reduceLE, Int.reduceAdd, Int.reduceMul, Int.reduceSub, BEq.rfl, decide_true, decide_false, Int.reduceBEq, decide_eq_false l3]
        exact hk _ _ ⟨rfl, rs, f + p.size, _, _, rfl, rok.2, by omega, by omega, by omega, by rw [Int.natCast_add]⟩
    · rintro _ σ _ ⟨rfl, rs, f, o5, o6, e, rok, rd, rn, rf, rfl⟩
      cases rs with
      | cons _ _ => cases e
      | nil =>
      simp only [wSs, wS, wE, wEs, wO, wB, wBo, wI, wTg, gs, startT, List.map_cons, List.map_nil, List.length_cons, List.length_nil, List.cons_append, List.nil_append, List.replicate, Nat.reduceAdd, Nat.reduceSub, Nat.zero_add, exEq, wCop, wIx, wTru, bif_len, bif_abs, bif_int, bif_isi, bif_tuple, bif_list, bif_sum, bif_all, bif_any, bif_min2, bif_max2, bif_minl, bif_maxl, bop_add_i, bop_add_t, bop_add_l, bop_sub, bop_mul_i, bop_fdiv, bop_mod, bop_pow, aug_add, aug_sub, aug_mul, setAll, wipeT, List.set, tru_bl, tru_non, tru_int, tru_tup, if_true, if_false, Bool.false_eq_true, Bool.not_true, Bool.not_false, seqM_tup, ix_tup, len_tup, atI_0, atI_1, atI_2, atI_3, atI_4, Option.some.injEq, exists_eq_left', eq_int, cmp_lt, cmp_le, cmp_gt, cmp_ge, cmp_eq, cmp_ne, cmp_is, cmp_isn, cmp_in, cmp_nin, Option.map, is_nn, is_in, is_tn, tyn_int, tyn_str, tyn_tup, Int.cast_ofNat_Int, Int.reduceLT, Int.reduceLE, Int.reduceAdd, Int.reduceMul, Int.reduceSub, BEq.rfl, decide_true, decide_false, Int.reduceBEq]
      simp only [Pls.size] at rf
      refine rtF (.refl _) ?_
      have : f = ps.size + 1 := by omega
      subst this
      exact q
theorem h_counted {G : Gx} (F : Facts G) (d : Nat) : HeldT G (5 + d) (adr G "counted") (s_counted G d) := by
  have := F.d_counted.recH (k0 := 4) sc_counted (fun s => b_counted G s s_is_within) (fun s => ck_counted) (fun k s hk h => ok_counted F h ((h_is_within F).mono (by omega))) (hFP F) (s_counted G) (fun d xs M Q R ⟨p, n, e, _⟩ => by rw [e]; rfl) v_counted d
  exact this.mono (by omega)
/-- plans that the program lets -/
def Pl.good (p : Pl) : Prop := p.ok ∧ p.dep ≤ 16 ∧ p.size ≤ 150
def s_has_form (G : Gx) : TSp := fun xs M Q _ => ∃ p : Pl, xs = [p.tv, .ref (adr G "is_place"), tJoin] ∧ p.good ∧ Q (.bl true) M
theorem v_has_form {G : Gx} : ∀ xs M Q R, s_has_form G xs M Q R → wSs noF (b_has_form G (s_counted G 16)) (endsT Q R) (startT n_has_form xs) M := by
  rintro xs M Q R ⟨p, rfl, ⟨ok, hd, hz⟩, q⟩
  unfold b_has_form
  simp only [wSs, wS, wE, wEs, wO, wB, wBo, wI, wTg, gs, startT, List.map_cons, List.map_nil, List.length_cons, List.length_nil, List.cons_append, List.nil_append, List.replicate, Nat.reduceAdd, Nat.reduceSub, Nat.zero_add, exEq, wCop, wIx, wTru, bif_len, bif_abs, bif_int, bif_isi, bif_tuple, bif_list, bif_sum, bif_all, bif_any, bif_min2, bif_max2, bif_minl, bif_maxl, bop_add_i, bop_add_t, bop_add_l, bop_sub, bop_mul_i, bop_fdiv, bop_mod, bop_pow, aug_add, aug_sub, aug_mul, setAll, wipeT, List.set, tru_bl, tru_non, tru_int, tru_tup, if_true, if_false, Bool.false_eq_true, Bool.not_true, Bool.not_false, seqM_tup, ix_tup, len_tup, atI_0, atI_1, atI_2, atI_3, atI_4, Option.some.injEq, exists_eq_left', eq_int, cmp_lt, cmp_le, cmp_gt, cmp_ge, cmp_eq, cmp_ne, cmp_is, cmp_isn, cmp_in, cmp_nin, Option.map, is_nn, is_in, is_tn, tyn_int, tyn_str, tyn_tup, Int.cast_ofNat_Int, Int.reduceLT, Int.reduceLE, Int.reduceAdd, Int.reduceMul, Int.reduceSub, BEq.rfl, decide_true, decide_false, Int.reduceBEq]
  refine ⟨p, 16, rfl, ok, hd, hd, hz, ?_⟩
  have l : ((p.size : Nat) : Int) ≤ 150 := by omega
  simp only [wSs, wS, wE, wEs, wO, wB, wBo, wI, wTg, gs, startT, List.map_cons, List.map_nil, List.length_cons, List.length_nil, List.cons_append, List.nil_append, List.replicate, Nat.reduceAdd, Nat.reduceSub, Nat.zero_add, exEq, wCop, wIx, wTru, bif_len, bif_abs, bif_int, bif_isi, bif_tuple, bif_list, bif_sum, bif_all, bif_any, bif_min2, bif_max2, bif_minl, bif_maxl, bop_add_i, bop_add_t, bop_add_l, bop_sub, bop_mul_i, bop_fdiv, bop_mod, bop_pow, aug_add, aug_sub, aug_mul, setAll, wipeT, List.set, tru_bl, tru_non, tru_int, tru_tup, if_true, if_false, Bool.false_eq_true, Bool.not_true, Bool.not_false, seqM_tup, ix_tup, len_tup, atI_0, atI_1, atI_2, atI_3, atI_4, Option.some.injEq, exists_eq_left', eq_int, cmp_lt, cmp_le, cmp_gt, cmp_ge, cmp_eq, cmp_ne, cmp_is, cmp_isn, cmp_in, cmp_nin, Option.map, is_nn, is_in, is_tn, tyn_int, tyn_str, tyn_tup, Int.cast_ofNat_Int, Int.reduceLT, Int.reduceLE, Int.reduceAdd, Int.reduceMul, Int.reduceSub, BEq.rfl, decide_true, decide_false, Int.reduceBEq, decide_eq_true l]
  exact rtF (.refl _) q
theorem h_has_form {G : Gx} (F : Facts G) : HeldT G 22 (adr G "has_form") (s_has_form G) :=
  F.d_has_form.held (k := 21) sc_has_form ck_has_form (ok_has_form F (h_counted F 16)) nF (fun xs M Q R ⟨x, e, _⟩ => by rw [e]; rfl) v_has_form
def s_is_plan : TSp := fun xs M Q _ => ∃ p : Pl, xs = [p.tv] ∧ p.good ∧ Q (.bl true) M
theorem v_is_plan {G : Gx} : ∀ xs M Q R, s_is_plan xs M Q R → wSs noF (b_is_plan G (s_has_form G)) (endsT Q R) (startT n_is_plan xs) M := by
  rintro xs M Q R ⟨p, rfl, g, q⟩
  unfold b_is_plan
  simp only [wSs, wS, wE, wEs, wO, wB, wBo, wI, wTg, gs, startT, List.map_cons, List.map_nil, List.length_cons, List.length_nil, List.cons_append, List.nil_append, List.replicate, Nat.reduceAdd, Nat.reduceSub, Nat.zero_add, exEq, wCop, wIx, wTru, bif_len, bif_abs, bif_int, bif_isi, bif_tuple, bif_list, bif_sum, bif_all, bif_any, bif_min2, bif_max2, bif_minl, bif_maxl, bop_add_i, bop_add_t, bop_add_l, bop_sub, bop_mul_i, bop_fdiv, bop_mod, bop_pow, aug_add, aug_sub, aug_mul, setAll, wipeT, List.set, tru_bl, tru_non, tru_int, tru_tup, if_true, if_false, Bool.false_eq_true, Bool.not_true, Bool.not_false, seqM_tup, ix_tup, len_tup, atI_0, atI_1, atI_2, atI_3, atI_4, Option.some.injEq, exists_eq_left', eq_int, cmp_lt, cmp_le, cmp_gt, cmp_ge, cmp_eq, cmp_ne, cmp_is, cmp_isn, cmp_in, cmp_nin, Option.map, is_nn, is_in, is_tn, tyn_int, tyn_str, tyn_tup, Int.cast_ofNat_Int, Int.reduceLT, Int.reduceLE, Int.reduceAdd, Int.reduceMul, Int.reduceSub, BEq.rfl, decide_true, decide_false, Int.reduceBEq]
  exact ⟨p, rfl, g, rtF (.refl _) q⟩
theorem h_is_plan {G : Gx} (F : Facts G) : HeldT G 23 (adr G "is_plan") s_is_plan :=
  F.d_is_plan.held (k := 22) sc_is_plan ck_is_plan (ok_is_plan F (h_has_form F)) nF (fun xs M Q R ⟨x, e, _⟩ => by rw [e]; rfl) v_is_plan
def s_check_plan : TSp := fun xs M Q _ => ∃ p : Pl, xs = [p.tv] ∧ p.good ∧ Q .non M
theorem v_check_plan {G : Gx} : ∀ xs M Q R, s_check_plan xs M Q R → wSs noF (b_check_plan G s_is_plan) (endsT Q R) (startT n_check_plan xs) M := by
  rintro xs M Q R ⟨p, rfl, g, q⟩
  unfold b_check_plan
  simp only [wSs, wS, wE, wEs, wO, wB, wBo, wI, wTg, gs, startT, List.map_cons, List.map_nil, List.length_cons, List.length_nil, List.cons_append, List.nil_append, List.replicate, Nat.reduceAdd, Nat.reduceSub, Nat.zero_add, exEq, wCop, wIx, wTru, bif_len, bif_abs, bif_int, bif_isi, bif_tuple, bif_list, bif_sum, bif_all, bif_any, bif_min2, bif_max2, bif_minl, bif_maxl, bop_add_i, bop_add_t, bop_add_l, bop_sub, bop_mul_i, bop_fdiv, bop_mod, bop_pow, aug_add, aug_sub, aug_mul, setAll, wipeT, List.set, tru_bl, tru_non, tru_int, tru_tup, if_true, if_false, Bool.false_eq_true, Bool.not_true, Bool.not_false, seqM_tup, ix_tup, len_tup, atI_0, atI_1, atI_2, atI_3, atI_4, Option.some.injEq, exists_eq_left', eq_int, cmp_lt, cmp_le, cmp_gt, cmp_ge, cmp_eq, cmp_ne, cmp_is, cmp_isn, cmp_in, cmp_nin, Option.map, is_nn, is_in, is_tn, tyn_int, tyn_str, tyn_tup, Int.cast_ofNat_Int, Int.reduceLT, Int.reduceLE, Int.reduceAdd, Int.reduceMul, Int.reduceSub, BEq.rfl, decide_true, decide_false, Int.reduceBEq]
  refine ⟨p, rfl, g, ?_⟩
  simp only [wSs, wS, wE, wEs, wO, wB, wBo, wI, wTg, gs, startT, List.map_cons, List.map_nil, List.length_cons, List.length_nil, List.cons_append, List.nil_append, List.replicate, Nat.reduceAdd, Nat.reduceSub, Nat.zero_add, exEq, wCop, wIx, wTru, bif_len, bif_abs, bif_int, bif_isi, bif_tuple, bif_list, bif_sum, bif_all, bif_any, bif_min2, bif_max2, bif_minl, bif_maxl, bop_add_i, bop_add_t, bop_add_l, bop_sub, bop_mul_i, bop_fdiv, bop_mod, bop_pow, aug_add, aug_sub, aug_mul, setAll, wipeT, List.set, tru_bl, tru_non, tru_int, tru_tup, if_true, if_false, Bool.false_eq_true, Bool.not_true, Bool.not_false, seqM_tup, ix_tup, len_tup, atI_0, atI_1, atI_2, atI_3, atI_4, Option.some.injEq, exists_eq_left', eq_int, cmp_lt, cmp_le, cmp_gt, cmp_ge, cmp_eq, cmp_ne, cmp_is, cmp_isn, cmp_in, cmp_nin, Option.map, is_nn, is_in, is_tn, tyn_int, tyn_str, tyn_tup, Int.cast_ofNat_Int, Int.reduceLT, Int.reduceLE, Int.reduceAdd, Int.reduceMul, Int.reduceSub, BEq.rfl, decide_true, decide_false, Int.reduceBEq]
  exact nxF (.refl _) q
theorem h_check_plan {G : Gx} (F : Facts G) : HeldT G 24 (adr G "check_plan") s_check_plan :=
  F.d_check_plan.held (k := 23) sc_check_plan ck_check_plan (ok_check_plan F (h_is_plan F)) nF (fun xs M Q R ⟨x, e, _⟩ => by rw [e]; rfl) v_check_plan
def s_size : TSp := fun xs M Q _ => ∃ p : Pl, xs = [p.tv] ∧ p.good ∧ Q (.int p.size) M
theorem v_size {G : Gx} : ∀ xs M Q R, s_size xs M Q R → wSs noF (b_size G (s_counted G 16) s_check_plan) (endsT Q R) (startT n_size xs) M := by
  rintro xs M Q R ⟨p, rfl, g, q⟩
  unfold b_size
  simp only [wSs, wS, wE, wEs, wO, wB, wBo, wI, wTg, gs, startT, List.map_cons, List.map_nil, List.length_cons, List.length_nil, List.cons_append, List.nil_append, List.replicate, Nat.reduceAdd, Nat.reduceSub, Nat.zero_add, exEq, wCop, wIx, wTru, bif_len, bif_abs, bif_int, bif_isi, bif_tuple, bif_list, bif_sum, bif_all, bif_any, bif_min2, bif_max2, bif_minl, bif_maxl, bop_add_i, bop_add_t, bop_add_l, bop_sub, bop_mul_i, bop_fdiv, bop_mod, bop_pow, aug_add, aug_sub, aug_mul, setAll, wipeT, List.set, tru_bl, tru_non, tru_int, tru_tup, if_true, if_false, Bool.false_eq_true, Bool.not_true, Bool.not_false, seqM_tup, ix_tup, len_tup, atI_0, atI_1, atI_2, atI_3, atI_4, Option.some.injEq, exists_eq_left', eq_int, cmp_lt, cmp_le, cmp_gt, cmp_ge, cmp_eq, cmp_ne, cmp_is, cmp_isn, cmp_in, cmp_nin, Option.map, is_nn, is_in, is_tn, tyn_int, tyn_str, tyn_tup, Int.cast_ofNat_Int, Int.reduceLT, Int.reduceLE, Int.reduceAdd, Int.reduceMul, Int.reduceSub, BEq.rfl, decide_true, decide_false, Int.reduceBEq]
  refine ⟨p, rfl, g, p, 16, rfl, g.1, g.2.1, g.2.1, g.2.2, rtF (.refl _) q⟩
theorem h_size {G : Gx} (F : Facts G) : HeldT G 25 (adr G "size") s_size :=
  F.d_size.held (k := 24) sc_size ck_size (ok_size F ((h_counted F 16).mono (by decide)) (h_check_plan F)) nF (fun xs M Q R ⟨x, e, _⟩ => by rw [e]; rfl) v_size
/-! counts and sums -/
def s_places_of (d : Nat) : TSp := fun xs M Q _ => ∃ p : Pl, xs = [p.tv] ∧ p.ok ∧ p.dep ≤ d ∧ p.size ≤ 150 ∧ Q (.int p.cnt) M
theorem v_places_of {G : Gx} : ∀ d xs M Q R, s_places_of d xs M Q R → wSs noF (b_places_of G (prevS s_places_of d) s_isP) (endsT Q R) (startT n_places_of xs) M := by
  rintro d xs M Q R ⟨p, rfl, ok, hd, hz, q⟩
  unfold b_places_of
  simp only [wSs, wS, wE, wEs, wO, wB, wBo, wI, wTg, gs, startT, List.map_cons, List.map_nil, List.length_cons, List.length_nil, List.cons_append, List.nil_append, List.replicate, Nat.reduceAdd, Nat.reduceSub, Nat.zero_add, exEq, wCop, wIx, wTru, bif_len, bif_abs, bif_int, bif_isi, bif_tuple, bif_list, bif_sum, bif_all, bif_any, bif_min2, bif_max2, bif_minl, bif_maxl, bop_add_i, bop_add_t, bop_add_l, bop_sub, bop_mul_i, bop_fdiv, bop_mod, bop_pow, aug_add, aug_sub, aug_mul, setAll, wipeT, List.set, tru_bl, tru_non, tru_int, tru_tup, if_true, if_false, Bool.false_eq_true, Bool.not_true, Bool.not_false, seqM_tup, ix_tup, len_tup, atI_0, atI_1, atI_2, atI_3, atI_4, Option.some.injEq, exists_eq_left', eq_int, cmp_lt, cmp_le, cmp_gt, cmp_ge, cmp_eq, cmp_ne, cmp_is, cmp_isn, cmp_in, cmp_nin, Option.map, is_nn, is_in, is_tn, tyn_int, tyn_str, tyn_tup, Int.cast_ofNat_Int, Int.reduceLT, Int.reduceLE, Int.reduceAdd, Int.reduceMul, Int.reduceSub, BEq.rfl, decide_true, decide_false, Int.reduceBEq]
  refine ⟨p, rfl, ok, ?_⟩
  cases p with
  | place l w =>
    simp only [wSs, wS, wE, wEs, wO, wB, wBo, wI, wTg, gs, startT, List.map_cons, List.map_nil, List.length_cons, List.length_nil, List.cons_append, List.nil_append, List.replicate, Nat.reduceAdd, Nat.reduceSub, Nat.zero_add, exEq, wCop, wIx, wTru, bif_len, bif_abs, bif_int, bif_isi, bif_tuple, bif_list, bif_sum, bif_all, bif_any, bif_min2, bif_max2, bif_minl, bif_maxl, bop_add_i, bop_add_t, bop_add_l, bop_sub, bop_mul_i, bop_fdiv, bop_mod, bop_pow, aug_add, aug_sub, aug_mul, setAll, wipeT, List.set, tru_bl, tru_non, tru_int, tru_tup, if_true, if_false, Bool.false_eq_true, Bool.not_true, Bool.not_false, seqM_tup, ix_tup, len_tup, atI_0, atI_1, atI_2, atI_3, atI_4, Option.some.injEq, exists_eq_left', eq_int, cmp_lt, cmp_le, cmp_gt, cmp_ge, cmp_eq, cmp_ne, cmp_is, cmp_isn, cmp_in, cmp_nin, Option.map, is_nn, is_in, is_tn, tyn_int, tyn_str, tyn_tup, Int.cast_ofNat_Int, Int.reduceLT, Int.reduceLE, Int.reduceAdd, Int.reduceMul, Int.reduceSub, BEq.rfl, decide_true, decide_false, Int.reduceBEq, Pl.isP]
    exact rtF (.refl _) q
  | rep c i p =>
    cases d with
    | zero => exact absurd hd (by simp [Pl.dep])
    | succ d =>
    simp only [Pl.tv, Pl.isP]
    simp only [Pl.dep, Pl.size] at hd hz
    simp only [wSs, wS, wE, wEs, wO, wB, wBo, wI, wTg, gs, startT, List.map_cons, List.map_nil, List.length_cons, List.length_nil, List.cons_append, List.nil_append, List.replicate, Nat.reduceAdd, Nat.reduceSub, Nat.zero_add, exEq, wCop, wIx, wTru, bif_len, bif_abs, bif_int, bif_isi, bif_tuple, bif_list, bif_sum, bif_all, bif_any, bif_min2, bif_max2, bif_minl, bif_maxl, bop_add_i, bop_add_t, bop_add_l, bop_sub, bop_mul_i, bop_fdiv, bop_mod, bop_pow, aug_add, aug_sub, aug_mul, setAll, wipeT, List.set, tru_bl, tru_non, tru_int, tru_tup, if_true, if_false, Bool.false_eq_true, Bool.not_true, Bool.not_false, seqM_tup, ix_tup, len_tup, atI_0, atI_1, atI_2, atI_3, atI_4, Option.some.injEq, exists_eq_left', eq_int, cmp_lt, cmp_le, cmp_gt, cmp_ge, cmp_eq, cmp_ne, cmp_is, cmp_isn, cmp_in, cmp_nin, Option.map, is_nn, is_in, is_tn, tyn_int, tyn_str, tyn_tup, Int.cast_ofNat_Int, Int.reduceLT, Int.reduceLE, Int.reduceAdd, Int.reduceMul, Int.reduceSub, BEq.rfl, decide_true, decide_false, Int.reduceBEq, in_rep]
    refine ⟨p, rfl, ok.2.2, by omega, by omega, ?_⟩
    simp only [wSs, wS, wE, wEs, wO, wB, wBo, wI, wTg, gs, startT, List.map_cons, List.map_nil, List.length_cons, List.length_nil, List.cons_append, List.nil_append, List.replicate, Nat.reduceAdd, Nat.reduceSub, Nat.zero_add, exEq, wCop, wIx, wTru, bif_len, bif_abs, bif_int, bif_isi, bif_tuple, bif_list, bif_sum, bif_all, bif_any, bif_min2, bif_max2, bif_minl, bif_maxl, bop_add_i, bop_add_t, bop_add_l, bop_sub, bop_mul_i, bop_fdiv, bop_mod, bop_pow, aug_add, aug_sub, aug_mul, setAll, wipeT, List.set, tru_bl, tru_non, tru_int, tru_tup, if_true, if_false, Bool.false_eq_true, Bool.not_true, Bool.not_false, seqM_tup, ix_tup, len_tup, atI_0, atI_1, atI_2, atI_3, atI_4, Option.some.injEq, exists_eq_left', eq_int, cmp_lt, cmp_le, cmp_gt, cmp_ge, cmp_eq, cmp_ne, cmp_is, cmp_isn, cmp_in, cmp_nin, Option.map, is_nn, is_in, is_tn, tyn_int, tyn_str, tyn_tup, Int.cast_ofNat_Int, Int.reduceLT, Int.reduceLE, Int.reduceAdd, Int.reduceMul, Int.reduceSub, BEq.rfl, decide_true, decide_false, Int.reduceBEq]
    exact ⟨.inr (mul_fits f_cnt ok.2.2 (by omega) ok.1 ok.2.1), rtF (.refl _) q⟩
  | join r ps =>
    cases d with
    | zero => exact absurd hd (by simp [Pl.dep])
    | succ d =>
    simp only [Pl.tv, Pl.isP]
    simp only [Pl.dep, Pl.size] at hd hz
    simp only [wSs, wS, wE, wEs, wO, wB, wBo, wI, wTg, gs, startT, List.map_cons, List.map_nil, List.length_cons, List.length_nil, List.cons_append, List.nil_append, List.replicate, Nat.reduceAdd, Nat.reduceSub, Nat.zero_add, exEq, wCop, wIx, wTru, bif_len, bif_abs, bif_int, bif_isi, bif_tuple, bif_list, bif_sum, bif_all, bif_any, bif_min2, bif_max2, bif_minl, bif_maxl, bop_add_i, bop_add_t, bop_add_l, bop_sub, bop_mul_i, bop_fdiv, bop_mod, bop_pow, aug_add, aug_sub, aug_mul, setAll, wipeT, List.set, tru_bl, tru_non, tru_int, tru_tup, if_true, if_false, Bool.false_eq_true, Bool.not_true, Bool.not_false, seqM_tup, ix_tup, len_tup, atI_0, atI_1, atI_2, atI_3, atI_4, Option.some.injEq, exists_eq_left', eq_int, cmp_lt, cmp_le, cmp_gt, cmp_ge, cmp_eq, cmp_ne, cmp_is, cmp_isn, cmp_in, cmp_nin, Option.map, is_nn, is_in, is_tn, tyn_int, tyn_str, tyn_tup, Int.cast_ofNat_Int, Int.reduceLT, Int.reduceLE, Int.reduceAdd, Int.reduceMul, Int.reduceSub, BEq.rfl, decide_true, decide_false, Int.reduceBEq, in_repJ]
    refine lcL_pls (fun p => .int p.cnt) (fun p => p.ok ∧ p.dep ≤ d ∧ p.size ≤ 150) (.refl M) (fun _ _ => trivial) ?_ (ps.all_of (fun q a b c d => ⟨d ok.2.2, by omega, by omega⟩)) ?_
    · rintro p ⟨a, b, c⟩ acc M1 k s hk
      exact ⟨p, rfl, a, b, c, hk _ (.refl _)⟩
    · intro M' s p hp
      simp only [wSs, wS, wE, wEs, wO, wB, wBo, wI, wTg, gs, startT, List.map_cons, List.map_nil, List.length_cons, List.length_nil, List.cons_append, List.nil_append, List.replicate, Nat.reduceAdd, Nat.reduceSub, Nat.zero_add, exEq, wCop, wIx, wTru, bif_len, bif_abs, bif_int, bif_isi, bif_tuple, bif_list, bif_sum, bif_all, bif_any, bif_min2, bif_max2, bif_minl, bif_maxl, bop_add_i, bop_add_t, bop_add_l, bop_sub, bop_mul_i, bop_fdiv, bop_mod, bop_pow, aug_add, aug_sub, aug_mul, setAll, wipeT, List.set, tru_bl, tru_non, tru_int, tru_tup, if_true, if_false, Bool.false_eq_true, Bool.not_true, Bool.not_false, seqM_tup, ix_tup, len_tup, atI_0, atI_1, atI_2, atI_3, atI_4, Option.some.injEq, exists_eq_left', eq_int, cmp_lt, cmp_le, cmp_gt, cmp_ge, cmp_eq, cmp_ne, cmp_is, cmp_isn, cmp_in, cmp_nin, Option.map, is_nn, is_in, is_tn, tyn_int, tyn_str, tyn_tup, Int.cast_ofNat_Int, Int.reduceLT, Int.reduceLE, Int.reduceAdd, Int.reduceMul, Int.reduceSub, BEq.rfl, decide_true, decide_false, Int.reduceBEq, List.nil_append]
      refine ⟨_, _, lsM_upd, allI_map' _ ps, ?_⟩
      rw [Pls.ints_sum]
      exact rtF (s.new hp) q
theorem h_places_of {G : Gx} (F : Facts G) (d : Nat) : HeldT G (5 + d) (adr G "places_of") (s_places_of d) := by
  have := F.d_places_of.recH (k0 := 4) sc_places_of (fun s => b_places_of G s s_isP) (fun s => ck_places_of) (fun k s hk h => ok_places_of F h ((h_is_place F).mono hk)) nF s_places_of (fun d xs M Q R ⟨p, e, _⟩ => by rw [e]; rfl) v_places_of d
  exact this.mono (by omega)
def s_places : TSp := fun xs M Q _ => ∃ p : Pl, xs = [p.tv] ∧ p.good ∧ Q (.int p.cnt) M
theorem v_places {G : Gx} : ∀ xs M Q R, s_places xs M Q R → wSs noF (b_places G (s_places_of 16) s_check_plan) (endsT Q R) (startT n_places xs) M := by
  rintro xs M Q R ⟨p, rfl, g, q⟩
  unfold b_places
  simp only [wSs, wS, wE, wEs, wO, wB, wBo, wI, wTg, gs, startT, List.map_cons, List.map_nil, List.length_cons, List.length_nil, List.cons_append, List.nil_append, List.replicate, Nat.reduceAdd, Nat.reduceSub, Nat.zero_add, exEq, wCop, wIx, wTru, bif_len, bif_abs, bif_int, bif_isi, bif_tuple, bif_list, bif_sum, bif_all, bif_any, bif_min2, bif_max2, bif_minl, bif_maxl, bop_add_i, bop_add_t, bop_add_l, bop_sub, bop_mul_i, bop_fdiv, bop_mod, bop_pow, aug_add, aug_sub, aug_mul, setAll, wipeT, List.set, tru_bl, tru_non, tru_int, tru_tup, if_true, if_false, Bool.false_eq_true, Bool.not_true, Bool.not_false, seqM_tup, ix_tup, len_tup, atI_0, atI_1, atI_2, atI_3, atI_4, Option.some.injEq, exists_eq_left', eq_int, cmp_lt, cmp_le, cmp_gt, cmp_ge, cmp_eq, cmp_ne, cmp_is, cmp_isn, cmp_in, cmp_nin, Option.map, is_nn, is_in, is_tn, tyn_int, tyn_str, tyn_tup, Int.cast_ofNat_Int, Int.reduceLT, Int.reduceLE, Int.reduceAdd, Int.reduceMul, Int.reduceSub, BEq.rfl, decide_true, decide_false, Int.reduceBEq]
  exact ⟨p, rfl, g, p, rfl, g.1, g.2.1, g.2.2, rtF (.refl _) q⟩
theorem h_places {G : Gx} (F : Facts G) : HeldT G 25 (adr G "places") s_places :=
  F.d_places.held (k := 24) sc_places ck_places (ok_places F ((h_places_of F 16).mono (by decide)) (h_check_plan F)) nF (fun xs M Q R ⟨x, e, _⟩ => by rw [e]; rfl) v_places
def s_total_of (d : Nat) : TSp := fun xs M Q _ => ∃ p : Pl, xs = [p.tv] ∧ p.ok ∧ p.dep ≤ d ∧ p.size ≤ 150 ∧ Q p.pair M
theorem v_total_of {G : Gx} : ∀ d xs M Q R, s_total_of d xs M Q R → wSs noF (b_total_of G (prevS s_total_of d) s_isP) (endsT Q R) (startT n_total_of xs) M := by
  rintro d xs M Q R ⟨p, rfl, ok, hd, hz, q⟩
  unfold b_total_of
  simp only [wSs, wS, wE, wEs, wO, wB, wBo, wI, wTg, gs, startT, List.map_cons, List.map_nil, List.length_cons, List.length_nil, List.cons_append, List.nil_append, List.replicate, Nat.reduceAdd, Nat.reduceSub, Nat.zero_add, exEq, wCop, wIx, wTru, bif_len, bif_abs, bif_int, bif_isi, bif_tuple, bif_list, bif_sum, bif_all, bif_any, bif_min2, bif_max2, bif_minl, bif_maxl, bop_add_i, bop_add_t, bop_add_l, bop_sub, bop_mul_i, bop_fdiv, bop_mod, bop_pow, aug_add, aug_sub, aug_mul, setAll, wipeT, List.set, tru_bl, tru_non, tru_int, tru_tup, if_true, if_false, Bool.false_eq_true, Bool.not_true, Bool.not_false, seqM_tup, ix_tup, len_tup, atI_0, atI_1, atI_2, atI_3, atI_4, Option.some.injEq, exists_eq_left', eq_int, cmp_lt, cmp_le, cmp_gt, cmp_ge, cmp_eq, cmp_ne, cmp_is, cmp_isn, cmp_in, cmp_nin, Option.map, is_nn, is_in, is_tn, tyn_int, tyn_str, tyn_tup, Int.cast_ofNat_Int, Int.reduceLT, Int.reduceLE, Int.reduceAdd, Int.reduceMul, Int.reduceSub, BEq.rfl, decide_true, decide_false, Int.reduceBEq]
  refine ⟨p, rfl, ok, ?_⟩
  cases p with
  | place l w =>
    simp only [wSs, wS, wE, wEs, wO, wB, wBo, wI, wTg, gs, startT, List.map_cons, List.map_nil, List.length_cons, List.length_nil, List.cons_append, List.nil_append, List.replicate, Nat.reduceAdd, Nat.reduceSub, Nat.zero_add, exEq, wCop, wIx, wTru, bif_len, bif_abs, bif_int, bif_isi, bif_tuple, bif_list, bif_sum, bif_all, bif_any, bif_min2, bif_max2, bif_minl, bif_maxl, bop_add_i, bop_add_t, bop_add_l, bop_sub, bop_mul_i, bop_fdiv, bop_mod, bop_pow, aug_add, aug_sub, aug_mul, setAll, wipeT, List.set, tru_bl, tru_non, tru_int, tru_tup, if_true, if_false, Bool.false_eq_true, Bool.not_true, Bool.not_false, seqM_tup, ix_tup, len_tup, atI_0, atI_1, atI_2, atI_3, atI_4, Option.some.injEq, exists_eq_left', eq_int, cmp_lt, cmp_le, cmp_gt, cmp_ge, cmp_eq, cmp_ne, cmp_is, cmp_isn, cmp_in, cmp_nin, Option.map, is_nn, is_in, is_tn, tyn_int, tyn_str, tyn_tup, Int.cast_ofNat_Int, Int.reduceLT, Int.reduceLE, Int.reduceAdd, Int.reduceMul, Int.reduceSub, BEq.rfl, decide_true, decide_false, Int.reduceBEq, Pl.isP]
    exact rtF (.refl _) q
  | rep c i p =>
    cases d with
    | zero => exact absurd hd (by simp [Pl.dep])
    | succ d =>
    simp only [Pl.tv, Pl.isP]
    simp only [Pl.dep, Pl.size] at hd hz
    simp only [wSs, wS, wE, wEs, wO, wB, wBo, wI, wTg, gs, startT, List.map_cons, List.map_nil, List.length_cons, List.length_nil, List.cons_append, List.nil_append, List.replicate, Nat.reduceAdd, Nat.reduceSub, Nat.zero_add, exEq, wCop, wIx, wTru, bif_len, bif_abs, bif_int, bif_isi, bif_tuple, bif_list, bif_sum, bif_all, bif_any, bif_min2, bif_max2, bif_minl, bif_maxl, bop_add_i, bop_add_t, bop_add_l, bop_sub, bop_mul_i, bop_fdiv, bop_mod, bop_pow, aug_add, aug_sub, aug_mul, setAll, wipeT, List.set, tru_bl, tru_non, tru_int, tru_tup, if_true, if_false, Bool.false_eq_true, Bool.not_true, Bool.not_false, seqM_tup, ix_tup, len_tup, atI_0, atI_1, atI_2, atI_3, atI_4, Option.some.injEq, exists_eq_left', eq_int, cmp_lt, cmp_le, cmp_gt, cmp_ge, cmp_eq, cmp_ne, cmp_is, cmp_isn, cmp_in, cmp_nin, Option.map, is_nn, is_in, is_tn, tyn_int, tyn_str, tyn_tup, Int.cast_ofNat_Int, Int.reduceLT, Int.reduceLE, Int.reduceAdd, Int.reduceMul, Int.reduceSub, BEq.rfl, decide_true, decide_false, Int.reduceBEq, in_rep]
    refine ⟨p, rfl, ok.2.2, by omega, by omega, ?_⟩
    simp only [wSs, wS, wE, wEs, wO, wB, wBo, wI, wTg, gs, startT, List.map_cons, List.map_nil, List.length_cons, List.length_nil, List.cons_append, List.nil_append, List.replicate, Nat.reduceAdd, Nat.reduceSub, Nat.zero_add, exEq, wCop, wIx, wTru, bif_len, bif_abs, bif_int, bif_isi, bif_tuple, bif_list, bif_sum, bif_all, bif_any, bif_min2, bif_max2, bif_minl, bif_maxl, bop_add_i, bop_add_t, bop_add_l, bop_sub, bop_mul_i, bop_fdiv, bop_mod, bop_pow, aug_add, aug_sub, aug_mul, setAll, wipeT, List.set, tru_bl, tru_non, tru_int, tru_tup, if_true, if_false, Bool.false_eq_true, Bool.not_true, Bool.not_false, seqM_tup, ix_tup, len_tup, atI_0, atI_1, atI_2, atI_3, atI_4, Option.some.injEq, exists_eq_left', eq_int, cmp_lt, cmp_le, cmp_gt, cmp_ge, cmp_eq, cmp_ne, cmp_is, cmp_isn, cmp_in, cmp_nin, Option.map, is_nn, is_in, is_tn, tyn_int, tyn_str, tyn_tup, Int.cast_ofNat_Int, Int.reduceLT, Int.reduceLE, Int.reduceAdd, Int.reduceMul, Int.reduceSub, BEq.rfl, decide_true, decide_false, Int.reduceBEq, Pl.pair, true_and]
    exact ⟨.inr (mul_fits f_tl ok.2.2 (by omega) ok.1 ok.2.1), .inr (mul_fits f_tw ok.2.2 (by omega) ok.1 ok.2.1), rtF (.refl _) q⟩
  | join r ps =>
    cases d with
    | zero => exact absurd hd (by simp [Pl.dep])
    | succ d =>
    simp only [Pl.tv, Pl.isP]
    simp only [Pl.dep, Pl.size] at hd hz
    simp only [wSs, wS, wE, wEs, wO, wB, wBo, wI, wTg, gs, startT, List.map_cons, List.map_nil, List.length_cons, List.length_nil, List.cons_append, List.nil_append, List.replicate, Nat.reduceAdd, Nat.reduceSub, Nat.zero_add, exEq, wCop, wIx, wTru, bif_len, bif_abs, bif_int, bif_isi, bif_tuple, bif_list, bif_sum, bif_all, bif_any, bif_min2, bif_max2, bif_minl, bif_maxl, bop_add_i, bop_add_t, bop_add_l, bop_sub, bop_mul_i, bop_fdiv, bop_mod, bop_pow, aug_add, aug_sub, aug_mul, setAll, wipeT, List.set, tru_bl, tru_non, tru_int, tru_tup, if_true, if_false, Bool.false_eq_true, Bool.not_true, Bool.not_false, seqM_tup, ix_tup, len_tup, atI_0, atI_1, atI_2, atI_3, atI_4, Option.some.injEq, exists_eq_left', eq_int, cmp_lt, cmp_le, cmp_gt, cmp_ge, cmp_eq, cmp_ne, cmp_is, cmp_isn, cmp_in, cmp_nin, Option.map, is_nn, is_in, is_tn, tyn_int, tyn_str, tyn_tup, Int.cast_ofNat_Int, Int.reduceLT, Int.reduceLE, Int.reduceAdd, Int.reduceMul, Int.reduceSub, BEq.rfl, decide_true, decide_false, Int.reduceBEq, in_repJ]
    refine lcL_pls Pl.pair (fun p => p.ok ∧ p.dep ≤ d ∧ p.size ≤ 150) (.refl M) (fun _ _ => trivial) ?_ (ps.all_of (fun q a b c d => ⟨d ok.2.2, by omega, by omega⟩)) ?_
    · rintro p ⟨a, b, c⟩ acc M1 k s hk
      exact ⟨p, rfl, a, b, c, hk _ (.refl _)⟩
    · intro M' s p1 h1
      have l1 := lsM_upd (M := M') (p := p1) (xs := ps.map Pl.pair)
      simp only [wSs, wS, wE, wEs, wO, wB, wBo, wI, wTg, gs, startT, List.map_cons, List.map_nil, List.length_cons, List.length_nil, List.cons_append, List.nil_append, List.replicate, Nat.reduceAdd, Nat.reduceSub, Nat.zero_add, exEq, wCop, wIx, wTru, bif_len, bif_abs, bif_int, bif_isi, bif_tuple, bif_list, bif_sum, bif_all, bif_any, bif_min2, bif_max2, bif_minl, bif_maxl, bop_add_i, bop_add_t, bop_add_l, bop_sub, bop_mul_i, bop_fdiv, bop_mod, bop_pow, aug_add, aug_sub, aug_mul, setAll, wipeT, List.set, tru_bl, tru_non, tru_int, tru_tup, if_true, if_false, Bool.false_eq_true, Bool.not_true, Bool.not_false, seqM_tup, ix_tup, len_tup, atI_0, atI_1, atI_2, atI_3, atI_4, Option.some.injEq, exists_eq_left', eq_int, cmp_lt, cmp_le, cmp_gt, cmp_ge, cmp_eq, cmp_ne, cmp_is, cmp_isn, cmp_in, cmp_nin, Option.map, is_nn, is_in, is_tn, tyn_int, tyn_str, tyn_tup, Int.cast_ofNat_Int, Int.reduceLT, Int.reduceLE, Int.reduceAdd, Int.reduceMul, Int.reduceSub, BEq.rfl, decide_true, decide_false, Int.reduceBEq, List.nil_append]
      refine ⟨_, l1, lcL_map fst (.refl _) (fun _ s => s.lsM l1) ?_ ?_⟩
      · intro x hx acc M2 k s2 hk
        obtain ⟨p, rfl⟩ := Pls.mem_map hx
        simp only [wSs, wS, wE, wEs, wO, wB, wBo, wI, wTg, gs, startT, List.map_cons, List.map_nil, List.length_cons, List.length_nil, List.cons_append, List.nil_append, List.replicate, Nat.reduceAdd, Nat.reduceSub, Nat.zero_add, exEq, wCop, wIx, wTru, bif_len, bif_abs, bif_int, bif_isi, bif_tuple, bif_list, bif_sum, bif_all, bif_any, bif_min2, bif_max2, bif_minl, bif_maxl, bop_add_i, bop_add_t, bop_add_l, bop_sub, bop_mul_i, bop_fdiv, bop_mod, bop_pow, aug_add, aug_sub, aug_mul, setAll, wipeT, List.set, tru_bl, tru_non, tru_int, tru_tup, if_true, if_false, Bool.false_eq_true, Bool.not_true, Bool.not_false, seqM_tup, ix_tup, len_tup, atI_0, atI_1, atI_2, atI_3, atI_4, Option.some.injEq, exists_eq_left', eq_int, cmp_lt, cmp_le, cmp_gt, cmp_ge, cmp_eq, cmp_ne, cmp_is, cmp_isn, cmp_in, cmp_nin, Option.map, is_nn, is_in, is_tn, tyn_int, tyn_str, tyn_tup, Int.cast_ofNat_Int, Int.reduceLT, Int.reduceLE, Int.reduceAdd, Int.reduceMul, Int.reduceSub, BEq.rfl, decide_true, decide_false, Int.reduceBEq, Pl.pair]
        exact hk _ (.refl _)
      · intro M2 s2 p2 h2
        simp only [wSs, wS, wE, wEs, wO, wB, wBo, wI, wTg, gs, startT, List.map_cons, List.map_nil, List.length_cons, List.length_nil, List.cons_append, List.nil_append, List.replicate, Nat.reduceAdd, Nat.reduceSub, Nat.zero_add, exEq, wCop, wIx, wTru, bif_len, bif_abs, bif_int, bif_isi, bif_tuple, bif_list, bif_sum, bif_all, bif_any, bif_min2, bif_max2, bif_minl, bif_maxl, bop_add_i, bop_add_t, bop_add_l, bop_sub, bop_mul_i, bop_fdiv, bop_mod, bop_pow, aug_add, aug_sub, aug_mul, setAll, wipeT, List.set, tru_bl, tru_non, tru_int, tru_tup, if_true, if_false, Bool.false_eq_true, Bool.not_true, Bool.not_false, seqM_tup, ix_tup, len_tup, atI_0, atI_1, atI_2, atI_3, atI_4, Option.some.injEq, exists_eq_left', eq_int, cmp_lt, cmp_le, cmp_gt, cmp_ge, cmp_eq, cmp_ne, cmp_is, cmp_isn, cmp_in, cmp_nin, Option.map, is_nn, is_in, is_tn, tyn_int, tyn_str, tyn_tup, Int.cast_ofNat_Int, Int.reduceLT, Int.reduceLE, Int.reduceAdd, Int.reduceMul, Int.reduceSub, BEq.rfl, decide_true, decide_false, Int.reduceBEq, List.nil_append]
        refine ⟨_, _, lsM_upd, allI_fst ps, ?_⟩
        have l2 : lsM (updM M2 p2 (.lst ((ps.map Pl.pair).map fst))) p1 = some (ps.map Pl.pair) := (s2.new h2).lsM l1
        refine ⟨_, l2, lcL_map snd (.refl _) (fun _ s => s.lsM l2) ?_ ?_⟩
        · intro x hx acc M3 k s3 hk
          obtain ⟨p, rfl⟩ := Pls.mem_map hx
          simp only [wSs, wS, wE, wEs, wO, wB, wBo, wI, wTg, gs, startT, List.map_cons, List.map_nil, List.length_cons, List.length_nil, List.cons_append, List.nil_append, List.replicate, Nat.reduceAdd, Nat.reduceSub, Nat.zero_add, exEq, wCop, wIx, wTru, bif_len, bif_abs, bif_int, bif_isi, bif_tuple, bif_list, bif_sum, bif_all, bif_any, bif_min2, bif_max2, bif_minl, bif_maxl, bop_add_i, bop_add_t, bop_add_l, bop_sub, bop_mul_i, bop_fdiv, bop_mod, bop_pow, aug_add, aug_sub, aug_mul, setAll, wipeT, List.set, tru_bl, tru_non, tru_int, tru_tup, if_true, if_false, Bool.false_eq_true, Bool.not_true, Bool.not_false, seqM_tup, ix_tup, len_tup, atI_0, atI_1, atI_2, atI_3, atI_4, Option.some.injEq, exists_eq_left', eq_int, cmp_lt, cmp_le, cmp_gt, cmp_ge, cmp_eq, cmp_ne, cmp_is, cmp_isn, cmp_in, cmp_nin, Option.map, is_nn, is_in, is_tn, tyn_int, tyn_str, tyn_tup, Int.cast_ofNat_Int, Int.reduceLT, Int.reduceLE, Int.reduceAdd, Int.reduceMul, Int.reduceSub, BEq.rfl, decide_true, decide_false, Int.reduceBEq, Pl.pair]
          exact hk _ (.refl _)
        · intro M3 s3 p3 h3
          simp only [wSs, wS, wE, wEs, wO, wB, wBo, wI, wTg, gs, startT, List.map_cons, List.map_nil, List.length_cons, List.length_nil, List.cons_append, List.nil_append, List.replicate, Nat.reduceAdd, Nat.reduceSub, Nat.zero_add, exEq, wCop, wIx, wTru, bif_len, bif_abs, bif_int, bif_isi, bif_tuple, bif_list, bif_sum, bif_all, bif_any, bif_min2, bif_max2, bif_minl, bif_maxl, bop_add_i, bop_add_t, bop_add_l, bop_sub, bop_mul_i, bop_fdiv, bop_mod, bop_pow, aug_add, aug_sub, aug_mul, setAll, wipeT, List.set, tru_bl, tru_non, tru_int, tru_tup, if_true, if_false, Bool.false_eq_true, Bool.not_true, Bool.not_false, seqM_tup, ix_tup, len_tup, atI_0, atI_1, atI_2, atI_3, atI_4, Option.some.injEq, exists_eq_left', eq_int, cmp_lt, cmp_le, cmp_gt, cmp_ge, cmp_eq, cmp_ne, cmp_is, cmp_isn, cmp_in, cmp_nin, Option.map, is_nn, is_in, is_tn, tyn_int, tyn_str, tyn_tup, Int.cast_ofNat_Int, Int.reduceLT, Int.reduceLE, Int.reduceAdd, Int.reduceMul, Int.reduceSub, BEq.rfl, decide_true, decide_false, Int.reduceBEq, List.nil_append]
          refine ⟨_, _, lsM_upd, allI_snd ps, ?_⟩
          rw [Pls.ints_sum, Pls.ints_sum]
          exact rtF ((((s.new h1).trans s2).new h2).trans (s3.new h3)) q
theorem h_total_of {G : Gx} (F : Facts G) (d : Nat) : HeldT G (5 + d) (adr G "total_of") (s_total_of d) := by
  have := F.d_total_of.recH (k0 := 4) sc_total_of (fun s => b_total_of G s s_isP) (fun s => ck_total_of) (fun k s hk h => ok_total_of F h ((h_is_place F).mono hk)) nF s_total_of (fun d xs M Q R ⟨p, e, _⟩ => by rw [e]; rfl) v_total_of d
  exact this.mono (by omega)
def s_total : TSp := fun xs M Q _ => ∃ p : Pl, xs = [p.tv] ∧ p.good ∧ Q p.pair M
theorem v_total {G : Gx} : ∀ xs M Q R, s_total xs M Q R → wSs noF (b_total G (s_total_of 16) s_check_plan) (endsT Q R) (startT n_total xs) M := by
  rintro xs M Q R ⟨p, rfl, g, q⟩
  unfold b_total
  simp only [wSs, wS, wE, wEs, wO, wB, wBo, wI, wTg, gs, startT, List.map_cons, List.map_nil, List.length_cons, List.length_nil, List.cons_append, List.nil_append, List.replicate, Nat.reduceAdd, Nat.reduceSub, Nat.zero_add, exEq, wCop, wIx, wTru, bif_len, bif_abs, bif_int, bif_isi, bif_tuple, bif_list, bif_sum, bif_all, bif_any, bif_min2, bif_max2, bif_minl, bif_maxl, bop_add_i, bop_add_t, bop_add_l, bop_sub, bop_mul_i, bop_fdiv, bop_mod, bop_pow, aug_add, aug_sub, aug_mul, setAll, wipeT, List.set, tru_bl, tru_non, tru_int, tru_tup, if_true, if_false, Bool.false_eq_true, Bool.not_true, Bool.not_false, seqM_tup, ix_tup, len_tup, atI_0, atI_1, atI_2, atI_3, atI_4, Option.some.injEq, exists_eq_left', eq_int, cmp_lt, cmp_le, cmp_gt, cmp_ge, cmp_eq, cmp_ne, cmp_is, cmp_isn, cmp_in, cmp_nin, Option.map, is_nn, is_in, is_tn, tyn_int, tyn_str, tyn_tup, Int.cast_ofNat_Int, Int.reduceLT, Int.reduceLE, Int.reduceAdd, Int.reduceMul, Int.reduceSub, BEq.rfl, decide_true, decide_false, Int.reduceBEq]
  exact ⟨p, rfl, g, p, rfl, g.1, g.2.1, g.2.2, rtF (.refl _) q⟩
theorem h_total {G : Gx} (F : Facts G) : HeldT G 25 (adr G "total") s_total :=
  F.d_total.held (k := 24) sc_total ck_total (ok_total F ((h_total_of F 16).mono (by decide)) (h_check_plan F)) nF (fun xs M Q R ⟨x, e, _⟩ => by rw [e]; rfl) v_total
end TL

/-! VcC: plans written out; plans put together. -/
namespace TL
open PySem PySem.Spec PyProof.Rows L2
mutual
/-- the places, written out -/
def Pl.lst : Pl → List TV
  | .place l w => [.tup [.int l, .int w]]
  | .rep _ n p => (List.replicate n.toNat p.lst).flatten
  | .join _ ps => ps.lst
def Pls.lst : Pls → List TV
  | .nil => []
  | .cons p r => p.lst ++ r.lst
end
mutual
inductive IsNd : Nat → TV → List TV → Prop
  | leaf {d : Nat} {i : Int} {pl : TV} : IsNd d (.tup [.str "place", .int i, pl]) [pl]
  | join {d : Nat} {r : Bool} {ys L : List TV} : IsNds d ys L → IsNd (d + 1) (.tup [.str (wJoin r), .tup ys]) L
inductive IsNds : Nat → List TV → List TV → Prop
  | nil {d : Nat} : IsNds d [] []
  | cons {d : Nat} {y : TV} {ys L1 L2 : List TV} : IsNd d y L1 → IsNds d ys L2 → IsNds d (y :: ys) (L1 ++ L2)
end
mutual
theorem IsNd.mono : ∀ {d e : Nat} {y : TV} {L : List TV}, d ≤ e → IsNd d y L → IsNd e y L
  | _, _, _, _, _, .leaf => .leaf
  | _, e + 1, _, _, h, .join q => .join (IsNds.mono (by omega) q)
  | _, 0, _, _, h, .join q => by omega
theorem IsNds.mono : ∀ {d e : Nat} {ys L : List TV}, d ≤ e → IsNds d ys L → IsNds e ys L
  | _, _, _, _, _, .nil => .nil
  | _, _, _, _, h, .cons a b => .cons (IsNd.mono h a) (IsNds.mono h b)
end
theorem IsNds.snoc {d : Nat} : ∀ {ys L1 L2 : List TV} {y : TV}, IsNds d ys L1 → IsNd d y L2 → IsNds d (ys ++ [y]) (L1 ++ L2)
  | _, _, L2, y, .nil, h => by simpa using IsNds.cons h .nil
  | _, _, L2, y, .cons a b, h => by
    rw [List.append_assoc]
    exact .cons a (b.snoc h)
theorem updM_self {M : TM} {b : Addr} {o : MO} (h : M b = some o) : updM M b o = M := by
  funext a
  by_cases e : a = b
  · subst e; rw [updM_same, h]
  · rw [updM_ne e]
theorem lcL_at {chk : TM → Prop} {step : List TV → TV → TM → (List TV → TM → Prop) → Prop} {fin : List TV → TM → Prop} (I : List TV → List TV → TM → Prop) : ∀ {items acc : List TV} {M : TM}, I items acc M → (∀ r acc M, I r acc M → chk M) →
    (∀ x r acc M k, I (x :: r) acc M → (∀ acc' M', I r acc' M' → k acc' M') → step acc x M k) → (∀ acc M, I [] acc M → fin acc M) → lcL chk step fin items acc M
  | [], acc, M, h, hc, hs, hf => ⟨hc _ _ _ h, hf _ _ h⟩
  | x :: r, acc, M, h, hc, hs, hf => ⟨hc _ _ _ h, hs x r acc M _ h fun acc' M' h' => lcL_at I (items := r) h' hc hs hf⟩
theorem mul_pos_ge {n c : Int} (h : 1 ≤ n) (g : 1 ≤ c) : 1 ≤ n * c ∧ n ≤ n * c ∧ c ≤ n * c := by
  have h1 := Int.mul_le_mul_of_nonneg_left g (show 0 ≤ n by omega)
  have h2 := Int.mul_le_mul_of_nonneg_right h (show 0 ≤ c by omega)
  omega
mutual
theorem Pl.cnt_pos : ∀ p : Pl, p.ok → 1 ≤ p.cnt
  | .place _ _, _ => Int.le_refl _
  | .rep _ n p, ok => (mul_pos_ge ok.1 (Pl.cnt_pos p ok.2.2)).1
  | .join _ (.cons p r), ok => by
    have h1 := Pl.cnt_pos p ok.2.2.1
    have h2 := Pls.cnt_nn r ok.2.2.2
    simp only [Pl.cnt, Pl.val, Pls.val] at *
    omega
  | .join _ .nil, ok => absurd ok.1 (by simp [Pls.len])
theorem Pls.cnt_nn : ∀ ps : Pls, ps.ok → 0 ≤ ps.val fun _ _ => 1
  | .nil, _ => Int.le_refl _
  | .cons p r, ok => by
    have h1 := Pl.cnt_pos p ok.1
    have h2 := Pls.cnt_nn r ok.2
    simp only [Pl.cnt, Pls.val] at *
    omega
end
def ctr (M : TM) (b : Addr) (j : Int) : TM := updM M b (.lst [.int j])
def s_spread_from (d : Nat) : TSp := fun xs M Q _ => ∃ (p : Pl) (b : Addr) (i : Int), xs = [p.tv, .ref b] ∧ p.ok ∧ p.dep ≤ d ∧ p.size ≤ 150 ∧ p.cnt ≤ 200 ∧ M b = some (.lst [.int i]) ∧ ∀ y j, IsNd p.dep y p.lst → Q y (ctr M b j)
theorem ctr_ctr {M : TM} {b : Addr} {i j : Int} : ctr (ctr M b i) b j = ctr M b j := updM_updM
theorem ctr_at {M : TM} {b : Addr} {i : Int} : ctr M b i b = some (.lst [.int i]) := updM_same
theorem ctr_fr {M : TM} {b p : Addr} {j : Int} (h : ctr M b j p = none) : True := trivial
theorem eq_str {M : TM} {a b : Str} (ha : SeqAt.shaped (.str a) = true) (hb : SeqAt.shaped (.str b) = true) : eqF M (.str a) (.str b) = some (a == b) := by
  show (if (SeqAt.shaped (.str a) && SeqAt.shaped (.str b)) = true then some (PyData.eqv (.str a) (.str b)) else none) = _
  rw [ha, hb, if_pos (by rfl)]
  show some (PyData.eqv (.str a) (.str b)) = _
  rw [show PyData.eqv (.str a) (.str b) = (a == b) by simp [PyData.eqv]]
theorem eq_times (c : Bool) {M : TM} : eqF M (.str (wRep c)) (.str "times") = some (!c) := by cases c <;> exact (eq_str (by decide +kernel) (by decide +kernel)).trans (congrArg some (by decide +kernel))
theorem eq_place {M : TM} : eqF M (.str "place") (.str "place") = some true := (eq_str (by decide +kernel) (by decide +kernel)).trans (congrArg some (by decide +kernel))
theorem eq_placeJ (r : Bool) {M : TM} : eqF M (.str (wJoin r)) (.str "place") = some false := by cases r <;> exact (eq_str (by decide +kernel) (by decide +kernel)).trans (congrArg some (by decide +kernel))
theorem v_spread_from {G : Gx} : ∀ d xs M Q R, s_spread_from d xs M Q R → wSs noF (b_spread_from G (prevS s_spread_from d) s_isP) (endsT Q R) (startT n_spread_from xs) M := by
  rintro d xs M Q R ⟨p, b, i, rfl, ok, hd, hz, hc, hb, q⟩
  have hl : lsM M b = some [.int i] := lsM_lst hb
  unfold b_spread_from
  simp only [wSs, wS, wE, wEs, wO, wB, wBo, wI, wTg, gs, startT, List.map_cons, List.map_nil, List.length_cons, List.length_nil, List.cons_append, List.nil_append, List.replicate, Nat.reduceAdd, Nat.reduceSub, Nat.zero_add, exEq, wCop, wIx, wTru, bif_len, bif_abs, bif_int, bif_isi, bif_tuple, bif_list, bif_sum, bif_all, bif_any, bif_min2, bif_max2, bif_minl, bif_maxl, bop_add_i, bop_add_t, bop_add_l, bop_sub, bop_mul_i, bop_fdiv, bop_mod, bop_pow, aug_add, aug_sub, aug_mul, setAll, wipeT, List.set, tru_bl, tru_non, tru_int, tru_tup, if_true, if_false, Bool.false_eq_true, Bool.not_true, Bool.not_false, seqM_tup, ix_tup, len_tup, atI_0, atI_1, atI_2, atI_3, atI_4, Option.some.injEq, exists_eq_left', eq_int, cmp_lt, cmp_le, cmp_gt, cmp_ge, cmp_eq, cmp_ne, cmp_is, cmp_isn, cmp_in, cmp_nin, Option.map, is_nn, is_in, is_tn, tyn_int, tyn_str, tyn_tup, Int.cast_ofNat_Int, Int.reduceLT, Int.reduceLE, Int.reduceAdd, Int.reduceMul, Int.reduceSub, BEq.rfl, decide_true, decide_false, Int.reduceBEq]
  refine ⟨p, rfl, ok, ?_⟩
  cases p with
  | place l w =>
    simp only [wSs, wS, wE, wEs, wO, wB, wBo, wI, wTg, gs, startT, List.map_cons, List.map_nil, List.length_cons, List.length_nil, List.cons_append, List.nil_append, List.replicate, Nat.reduceAdd, Nat.reduceSub, Nat.zero_add, exEq, wCop, wIx, wTru, bif_len, bif_abs, bif_int, bif_isi, bif_tuple, bif_list, bif_sum, bif_all, bif_any, bif_min2, bif_max2, bif_minl, bif_maxl, bop_add_i, bop_add_t, bop_add_l, bop_sub, bop_mul_i, bop_fdiv, bop_mod, bop_pow, aug_add, aug_sub, aug_mul, setAll, wipeT, List.set, tru_bl, tru_non, tru_int, tru_tup, if_true, if_false, Bool.false_eq_true, Bool.not_true, Bool.not_false, seqM_tup, ix_tup, len_tup, atI_0, atI_1, atI_2, atI_3, atI_4, Option.some.injEq, exists_eq_left', eq_int, cmp_lt, cmp_le, cmp_gt, cmp_ge, cmp_eq, cmp_ne, cmp_is, cmp_isn, cmp_in, cmp_nin, Option.map, is_nn, is_in, is_tn, tyn_int, tyn_str, tyn_tup, Int.cast_ofNat_Int, Int.reduceLT, Int.reduceLE, Int.reduceAdd, Int.reduceMul, Int.reduceSub, BEq.rfl, decide_true, decide_false, Int.reduceBEq, Pl.isP]
    refine ⟨_, _, hl, Int.le_refl _, rfl, ?_⟩
    simp only [wSs, wS, wE, wEs, wO, wB, wBo, wI, wTg, gs, startT, List.map_cons, List.map_nil, List.length_cons, List.length_nil, List.cons_append, List.nil_append, List.replicate, Nat.reduceAdd, Nat.reduceSub, Nat.zero_add, exEq, wCop, wIx, wTru, bif_len, bif_abs, bif_int, bif_isi, bif_tuple, bif_list, bif_sum, bif_all, bif_any, bif_min2, bif_max2, bif_minl, bif_maxl, bop_add_i, bop_add_t, bop_add_l, bop_sub, bop_mul_i, bop_fdiv, bop_mod, bop_pow, aug_add, aug_sub, aug_mul, setAll, wipeT, List.set, tru_bl, tru_non, tru_int, tru_tup, if_true, if_false, Bool.false_eq_true, Bool.not_true, Bool.not_false, seqM_tup, ix_tup, len_tup, atI_0, atI_1, atI_2, atI_3, atI_4, Option.some.injEq, exists_eq_left', eq_int, cmp_lt, cmp_le, cmp_gt, cmp_ge, cmp_eq, cmp_ne, cmp_is, cmp_isn, cmp_in, cmp_nin, Option.map, is_nn, is_in, is_tn, tyn_int, tyn_str, tyn_tup, Int.cast_ofNat_Int, Int.reduceLT, Int.reduceLE, Int.reduceAdd, Int.reduceMul, Int.reduceSub, BEq.rfl, decide_true, decide_false, Int.reduceBEq]
    refine ⟨_, 0, hb, rfl, ?_⟩
    have hl2 : lsM (ctr M b (i + 1)) b = some [.int (i + 1)] := lsM_upd
    refine ⟨.int (i + 1), (ix_lst (M := ctr M b (i + 1)) hl2 0).trans rfl, ?_⟩
    simp only [wSs, wS, wE, wEs, wO, wB, wBo, wI, wTg, gs, startT, List.map_cons, List.map_nil, List.length_cons, List.length_nil, List.cons_append, List.nil_append, List.replicate, Nat.reduceAdd, Nat.reduceSub, Nat.zero_add, exEq, wCop, wIx, wTru, bif_len, bif_abs, bif_int, bif_isi, bif_tuple, bif_list, bif_sum, bif_all, bif_any, bif_min2, bif_max2, bif_minl, bif_maxl, bop_add_i, bop_add_t, bop_add_l, bop_sub, bop_mul_i, bop_fdiv, bop_mod, bop_pow, aug_add, aug_sub, aug_mul, setAll, wipeT, List.set, tru_bl, tru_non, tru_int, tru_tup, if_true, if_false, Bool.false_eq_true, Bool.not_true, Bool.not_false, seqM_tup, ix_tup, len_tup, atI_0, atI_1, atI_2, atI_3, atI_4, Option.some.injEq, exists_eq_left', eq_int, cmp_lt, cmp_le, cmp_gt, cmp_ge, cmp_eq, cmp_ne, cmp_is, cmp_isn, cmp_in, cmp_nin, Option.map, is_nn, is_in, is_tn, tyn_int, tyn_str, tyn_tup, Int.cast_ofNat_Int, Int.reduceLT, Int.reduceLE, Int.reduceAdd, Int.reduceMul, Int.reduceSub, BEq.rfl, decide_true, decide_false, Int.reduceBEq]
    exact rtF (.refl _) (q _ _ .leaf)
  | rep c n p =>
    cases d with
    | zero => exact absurd hd (by simp [Pl.dep])
    | succ d =>
    simp only [Pl.tv, Pl.isP]
    simp only [Pl.dep, Pl.size] at hd hz
    have cp := mul_pos_ge ok.1 (p.cnt_pos ok.2.2)
    have hn1 : 1 ≤ n := ok.1
    simp only [Pl.cnt, Pl.val] at hc cp
    simp only [wSs, wS, wE, wEs, wO, wB, wBo, wI, wTg, gs, startT, List.map_cons, List.map_nil, List.length_cons, List.length_nil, List.cons_append, List.nil_append, List.replicate, Nat.reduceAdd, Nat.reduceSub, Nat.zero_add, exEq, wCop, wIx, wTru, bif_len, bif_abs, bif_int, bif_isi, bif_tuple, bif_list, bif_sum, bif_all, bif_any, bif_min2, bif_max2, bif_minl, bif_maxl, bop_add_i, bop_add_t, bop_add_l, bop_sub, bop_mul_i, bop_fdiv, bop_mod, bop_pow, aug_add, aug_sub, aug_mul, setAll, wipeT, List.set, tru_bl, tru_non, tru_int, tru_tup, if_true, if_false, Bool.false_eq_true, Bool.not_true, Bool.not_false, seqM_tup, ix_tup, len_tup, atI_0, atI_1, atI_2, atI_3, atI_4, Option.some.injEq, exists_eq_left', eq_int, cmp_lt, cmp_le, cmp_gt, cmp_ge, cmp_eq, cmp_ne, cmp_is, cmp_isn, cmp_in, cmp_nin, Option.map, is_nn, is_in, is_tn, tyn_int, tyn_str, tyn_tup, Int.cast_ofNat_Int, Int.reduceLT, Int.reduceLE, Int.reduceAdd, Int.reduceMul, Int.reduceSub, BEq.rfl, decide_true, decide_false, Int.reduceBEq, in_rep, eq_times]
    have key : ∀ w : Bool, (endsT Q R).rt = (endsT Q R).rt → lcL (fun _ => True) (fun acc x M2 k => prevS s_spread_from (d + 1) [p.tv, .ref b] M2 (fun y M5 => k (acc ++ [y]) M5) (fun _ _ => False))
        (fun acc M2 => ∀ p, M2 p = none → ∃ xs, seqM (updM M2 p (.lst acc)) (.ref p) = some xs ∧ (endsT Q R).rt (.tup [.str (wJoin w), .tup xs]) (updM M2 p (.lst acc))) (rngT 0 n.toNat) [] M := by
      intro w _
      refine lcL_at (fun r acc M' => r.length ≤ n.toNat ∧ ∃ j, M' = ctr M b j ∧ IsNds p.dep acc (List.replicate (n.toNat - r.length) p.lst).flatten) ?_ (fun _ _ _ _ => trivial) ?_ ?_
      · refine ⟨by rw [rngT_len]; exact Nat.le_refl _, i, (updM_self hb).symm, ?_⟩
        rw [rngT_len, Nat.sub_self]
        exact .nil
      · rintro x r acc M' k ⟨hr, j, rfl, h⟩ hk
        refine ⟨p, b, j, rfl, ok.2.2, by omega, by omega, by simp only [Pl.cnt]; omega, ctr_at, fun y j2 hy => ?_⟩
        rw [ctr_ctr]
        refine hk _ _ ⟨by simp only [List.length_cons] at hr; omega, j2, rfl, ?_⟩
        have e : n.toNat - r.length = (n.toNat - (x :: r).length) + 1 := by simp only [List.length_cons] at hr ⊢; omega
        rw [e, List.replicate_succ', List.flatten_append]
        simpa using h.snoc hy
      · rintro acc M' ⟨_, j, rfl, h⟩ p1 hp
        refine ⟨acc, lsM_upd, rtF (M0 := ctr M b j) (Subm.new (.refl _) hp) (q _ _ ?_)⟩
        refine .join ?_
        show IsNds p.dep acc (List.replicate n.toNat p.lst).flatten
        simpa using h
    cases c with
    | false =>
      simp only [wSs, wS, wE, wEs, wO, wB, wBo, wI, wTg, gs, startT, List.map_cons, List.map_nil, List.length_cons, List.length_nil, List.cons_append, List.nil_append, List.replicate, Nat.reduceAdd, Nat.reduceSub, Nat.zero_add, exEq, wCop, wIx, wTru, bif_len, bif_abs, bif_int, bif_isi, bif_tuple, bif_list, bif_sum, bif_all, bif_any, bif_min2, bif_max2, bif_minl, bif_maxl, bop_add_i, bop_add_t, bop_add_l, bop_sub, bop_mul_i, bop_fdiv, bop_mod, bop_pow, aug_add, aug_sub, aug_mul, setAll, wipeT, List.set, tru_bl, tru_non, tru_int, tru_tup, if_true, if_false, Bool.false_eq_true, Bool.not_true, Bool.not_false, seqM_tup, ix_tup, len_tup, atI_0, atI_1, atI_2, atI_3, atI_4, Option.some.injEq, exists_eq_left', eq_int, cmp_lt, cmp_le, cmp_gt, cmp_ge, cmp_eq, cmp_ne, cmp_is, cmp_isn, cmp_in, cmp_nin, Option.map, is_nn, is_in, is_tn, tyn_int, tyn_str, tyn_tup, Int.cast_ofNat_Int, Int.reduceLT, Int.reduceLE, Int.reduceAdd, Int.reduceMul, Int.reduceSub, BEq.rfl, decide_true, decide_false, Int.reduceBEq]
      exact ⟨n, rfl, by omega, by omega, key true rfl⟩
    | true =>
      simp only [wSs, wS, wE, wEs, wO, wB, wBo, wI, wTg, gs, startT, List.map_cons, List.map_nil, List.length_cons, List.length_nil, List.cons_append, List.nil_append, List.replicate, Nat.reduceAdd, Nat.reduceSub, Nat.zero_add, exEq, wCop, wIx, wTru, bif_len, bif_abs, bif_int, bif_isi, bif_tuple, bif_list, bif_sum, bif_all, bif_any, bif_min2, bif_max2, bif_minl, bif_maxl, bop_add_i, bop_add_t, bop_add_l, bop_sub, bop_mul_i, bop_fdiv, bop_mod, bop_pow, aug_add, aug_sub, aug_mul, setAll, wipeT, List.set, tru_bl, tru_non, tru_int, tru_tup, if_true, if_false, Bool.false_eq_true, Bool.not_true, Bool.not_false, seqM_tup, ix_tup, len_tup, atI_0, atI_1, atI_2, atI_3, atI_4, Option.some.injEq, exists_eq_left', eq_int, cmp_lt, cmp_le, cmp_gt, cmp_ge, cmp_eq, cmp_ne, cmp_is, cmp_isn, cmp_in, cmp_nin, Option.map, is_nn, is_in, is_tn, tyn_int, tyn_str, tyn_tup, Int.cast_ofNat_Int, Int.reduceLT, Int.reduceLE, Int.reduceAdd, Int.reduceMul, Int.reduceSub, BEq.rfl, decide_true, decide_false, Int.reduceBEq]
      exact ⟨n, rfl, by omega, by omega, key false rfl⟩
  | join r ps =>
    cases d with
    | zero => exact absurd hd (by simp [Pl.dep])
    | succ d =>
    simp only [Pl.tv, Pl.isP]
    simp only [Pl.dep, Pl.size] at hd hz
    simp only [Pl.cnt, Pl.val] at hc
    simp only [wSs, wS, wE, wEs, wO, wB, wBo, wI, wTg, gs, startT, List.map_cons, List.map_nil, List.length_cons, List.length_nil, List.cons_append, List.nil_append, List.replicate, Nat.reduceAdd, Nat.reduceSub, Nat.zero_add, exEq, wCop, wIx, wTru, bif_len, bif_abs, bif_int, bif_isi, bif_tuple, bif_list, bif_sum, bif_all, bif_any, bif_min2, bif_max2, bif_minl, bif_maxl, bop_add_i, bop_add_t, bop_add_l, bop_sub, bop_mul_i, bop_fdiv, bop_mod, bop_pow, aug_add, aug_sub, aug_mul, setAll, wipeT, List.set, tru_bl, tru_non, tru_int, tru_tup, if_true, if_false, Bool.false_eq_true, Bool.not_true, Bool.not_false, seqM_tup, ix_tup, len_tup, atI_0, atI_1, atI_2, atI_3, atI_4, Option.some.injEq, exists_eq_left', eq_int, cmp_lt, cmp_le, cmp_gt, cmp_ge, cmp_eq, cmp_ne, cmp_is, cmp_isn, cmp_in, cmp_nin, Option.map, is_nn, is_in, is_tn, tyn_int, tyn_str, tyn_tup, Int.cast_ofNat_Int, Int.reduceLT, Int.reduceLE, Int.reduceAdd, Int.reduceMul, Int.reduceSub, BEq.rfl, decide_true, decide_false, Int.reduceBEq, in_repJ]
    refine lcL_at (fun rest acc M' => ∃ (rs : Pls) (j : Int) (L1 : List TV), rest = rs.tvs ∧ rs.ok ∧ rs.dep ≤ ps.dep ∧ rs.size ≤ 150 ∧ rs.val (fun _ _ => 1) ≤ 200 ∧ M' = ctr M b j ∧ IsNds ps.dep acc L1 ∧ L1 ++ rs.lst = ps.lst) ?_ (fun _ _ _ _ => trivial) ?_ ?_
    · exact ⟨ps, i, [], rfl, ok.2.2, Nat.le_refl _, by omega, hc, (updM_self hb).symm, .nil, rfl⟩
    · rintro x rest acc M' k ⟨rs, j, L1, e, rok, rd, rz, rc, rfl, h, hL⟩ hk
      cases rs with
      | nil => cases e
      | cons p rs =>
      cases e
      simp only [Pls.dep, Pls.size, Pls.val] at rd rz rc
      have c1 := p.cnt_pos rok.1
      have c2 := rs.cnt_nn rok.2
      refine ⟨p, b, j, rfl, rok.1, by omega, by omega, by simp only [Pl.cnt]; omega, ctr_at, fun y j2 hy => ?_⟩
      rw [ctr_ctr]
      simp only [Pl.cnt] at c1
      refine hk _ _ ⟨rs, j2, L1 ++ p.lst, rfl, rok.2, by omega, by omega, by omega, rfl, h.snoc (hy.mono (by omega)), ?_⟩
      rw [List.append_assoc]
      exact hL
    · rintro acc M' ⟨rs, j, L1, e, rok, rd, rz, rc, rfl, h, hL⟩ p1 hp
      cases rs with
      | cons _ _ => cases e
      | nil =>
      refine ⟨acc, lsM_upd, rtF (M0 := ctr M b j) (Subm.new (.refl _) hp) (q _ _ ?_)⟩
      simp only [Pls.lst, List.append_nil] at hL
      subst hL
      exact .join h
theorem h_spread_from {G : Gx} (F : Facts G) (d : Nat) : HeldT G (5 + d) (adr G "spread_from") (s_spread_from d) := by
  have := F.d_spread_from.recH (k0 := 4) sc_spread_from (fun s => b_spread_from G s s_isP) (fun s => ck_spread_from) (fun k s hk h => ok_spread_from F h ((h_is_place F).mono hk)) nF s_spread_from (fun d xs M Q R ⟨p, b, i, e, _⟩ => by rw [e]; rfl) v_spread_from d
  exact this.mono (by omega)
def s_spread : TSp := fun xs M Q _ => ∃ p : Pl, xs = [p.tv] ∧ p.good ∧ p.cnt ≤ 200 ∧ ∀ y, IsNd 16 y p.lst → Q y M
theorem v_spread {G : Gx} : ∀ xs M Q R, s_spread xs M Q R → wSs noF (b_spread G (s_spread_from 16)) (endsT Q R) (startT n_spread xs) M := by
  rintro xs M Q R ⟨p, rfl, g, hc, q⟩
  unfold b_spread
  simp only [wSs, wS, wE, wEs, wO, wB, wBo, wI, wTg, gs, startT, List.map_cons, List.map_nil, List.length_cons, List.length_nil, List.cons_append, List.nil_append, List.replicate, Nat.reduceAdd, Nat.reduceSub, Nat.zero_add, exEq, wCop, wIx, wTru, bif_len, bif_abs, bif_int, bif_isi, bif_tuple, bif_list, bif_sum, bif_all, bif_any, bif_min2, bif_max2, bif_minl, bif_maxl, bop_add_i, bop_add_t, bop_add_l, bop_sub, bop_mul_i, bop_fdiv, bop_mod, bop_pow, aug_add, aug_sub, aug_mul, setAll, wipeT, List.set, tru_bl, tru_non, tru_int, tru_tup, if_true, if_false, Bool.false_eq_true, Bool.not_true, Bool.not_false, seqM_tup, ix_tup, len_tup, atI_0, atI_1, atI_2, atI_3, atI_4, Option.some.injEq, exists_eq_left', eq_int, cmp_lt, cmp_le, cmp_gt, cmp_ge, cmp_eq, cmp_ne, cmp_is, cmp_isn, cmp_in, cmp_nin, Option.map, is_nn, is_in, is_tn, tyn_int, tyn_str, tyn_tup, Int.cast_ofNat_Int, Int.reduceLT, Int.reduceLE, Int.reduceAdd, Int.reduceMul, Int.reduceSub, BEq.rfl, decide_true, decide_false, Int.reduceBEq]
  intro b hb
  refine ⟨p, b, 0, rfl, g.1, g.2.1, g.2.2, hc, updM_same, fun y j hy => ?_⟩
  refine rtF ?_ (q y (hy.mono g.2.1))
  unfold ctr
  rw [updM_updM]
  exact Subm.new (.refl _) hb
theorem h_spread {G : Gx} (F : Facts G) : HeldT G 22 (adr G "spread") s_spread :=
  F.d_spread.held (k := 21) sc_spread ck_spread (ok_spread F (h_spread_from F 16)) nF (fun xs M Q R ⟨x, e, _⟩ => by rw [e]; rfl) v_spread
/-- numbered places -/
def PrOf : List TV → List TV → Prop
  | [], [] => True
  | z :: zs, l :: L => (∃ i : Int, z = .tup [.int i, l]) ∧ PrOf zs L
  | _, _ => False
theorem PrOf.length : ∀ {zs L : List TV}, PrOf zs L → zs.length = L.length
  | [], [], _ => rfl
  | z :: zs, l :: L, h => congrArg (· + 1) (PrOf.length h.2)
  | [], _ :: _, h => h.elim
  | _ :: _, [], h => h.elim
theorem PrOf.snoc : ∀ {zs L : List TV} {i : Int} {l : TV}, PrOf zs L → PrOf (zs ++ [.tup [.int i, l]]) (L ++ [l])
  | [], [], i, l, _ => ⟨⟨i, rfl⟩, trivial⟩
  | z :: zs, x :: L, i, l, h => ⟨h.1, PrOf.snoc h.2⟩
  | [], _ :: _, _, _, h => h.elim
  | _ :: _, [], _, _, h => h.elim
def s_leaves (d : Nat) : TSp := fun xs M Q _ => ∃ (y : TV) (L : List TV), xs = [y] ∧ IsNd d y L ∧ L.length ≤ 1000 ∧ ∀ p zs, M p = none → PrOf zs L → Q (.ref p) (updM M p (.lst zs))
theorem v_leaves {G : Gx} : ∀ d xs M Q R, s_leaves d xs M Q R → wSs noF (b_leaves G (prevS s_leaves d)) (endsT Q R) (startT n_leaves xs) M := by
  rintro d xs M Q R ⟨y, L, rfl, h, hL, q⟩
  unfold b_leaves
  cases h with
  | leaf =>
    simp only [wSs, wS, wE, wEs, wO, wB, wBo, wI, wTg, gs, startT, List.map_cons, List.map_nil, List.length_cons, List.length_nil, List.cons_append, List.nil_append, List.replicate, Nat.reduceAdd, Nat.reduceSub, Nat.zero_add, exEq, wCop, wIx, wTru, bif_len, bif_abs, bif_int, bif_isi, bif_tuple, bif_list, bif_sum, bif_all, bif_any, bif_min2, bif_max2, bif_minl, bif_maxl, bop_add_i, bop_add_t, bop_add_l, bop_sub, bop_mul_i, bop_fdiv, bop_mod, bop_pow, aug_add, aug_sub, aug_mul, setAll, wipeT, List.set, tru_bl, tru_non, tru_int, tru_tup, if_true, if_false, Bool.false_eq_true, Bool.not_true, Bool.not_false, seqM_tup, ix_tup, len_tup, atI_0, atI_1, atI_2, atI_3, atI_4, Option.some.injEq, exists_eq_left', eq_int, cmp_lt, cmp_le, cmp_gt, cmp_ge, cmp_eq, cmp_ne, cmp_is, cmp_isn, cmp_in, cmp_nin, Option.map, is_nn, is_in, is_tn, tyn_int, tyn_str, tyn_tup, Int.cast_ofNat_Int, Int.reduceLT, Int.reduceLE, Int.reduceAdd, Int.reduceMul, Int.reduceSub, BEq.rfl, decide_true, decide_false, Int.reduceBEq, eq_place]
    intro p hp
    exact rtF (.refl _) (q p _ hp ⟨⟨_, rfl⟩, trivial⟩)
  | @join d r ys L h =>
    simp only [wSs, wS, wE, wEs, wO, wB, wBo, wI, wTg, gs, startT, List.map_cons, List.map_nil, List.length_cons, List.length_nil, List.cons_append, List.nil_append, List.replicate, Nat.reduceAdd, Nat.reduceSub, Nat.zero_add, exEq, wCop, wIx, wTru, bif_len, bif_abs, bif_int, bif_isi, bif_tuple, bif_list, bif_sum, bif_all, bif_any, bif_min2, bif_max2, bif_minl, bif_maxl, bop_add_i, bop_add_t, bop_add_l, bop_sub, bop_mul_i, bop_fdiv, bop_mod, bop_pow, aug_add, aug_sub, aug_mul, setAll, wipeT, List.set, tru_bl, tru_non, tru_int, tru_tup, if_true, if_false, Bool.false_eq_true, Bool.not_true, Bool.not_false, seqM_tup, ix_tup, len_tup, atI_0, atI_1, atI_2, atI_3, atI_4, Option.some.injEq, exists_eq_left', eq_int, cmp_lt, cmp_le, cmp_gt, cmp_ge, cmp_eq, cmp_ne, cmp_is, cmp_isn, cmp_in, cmp_nin, Option.map, is_nn, is_in, is_tn, tyn_int, tyn_str, tyn_tup, Int.cast_ofNat_Int, Int.reduceLT, Int.reduceLE, Int.reduceAdd, Int.reduceMul, Int.reduceSub, BEq.rfl, decide_true, decide_false, Int.reduceBEq, eq_placeJ]
    have tp : ∀ r : TV, True := fun _ => trivial
    refine lcL_at (fun rest acc M' => ∃ L1 L2, IsNds d rest L2 ∧ PrOf acc L1 ∧ L1 ++ L2 = L ∧ Subm M M') ⟨[], L, h, trivial, rfl, .refl _⟩ (fun _ _ _ _ => trivial) ?_ ?_
    · rintro x rest acc M1 k ⟨L1, L2, hn, ha, e, s⟩ hk
      cases hn with
      | @cons _ _ _ La Lb h1 h2 =>
      subst e
      simp only [List.length_append] at hL
      refine ⟨x, La, rfl, h1, by omega, fun p zs hp hz => ?_⟩
      have l1 : lsM (updM M1 p (.lst zs)) p = some zs := lsM_upd
      refine ⟨zs, l1, ?_⟩
      refine lcL_at (fun rz acc' M' => ∃ L3 L4, PrOf rz L4 ∧ PrOf acc' (L1 ++ L3) ∧ L3 ++ L4 = La ∧ Subm (updM M1 p (.lst zs)) M') ⟨[], La, hz, by simpa using ha, rfl, .refl _⟩ (fun _ _ _ ⟨_, _, _, _, _, s2⟩ => s2.lsM l1) ?_ ?_
      · rintro z rz acc' M' k1 ⟨L3, L4, h3, h4, e, s2⟩ hk1
        cases L4 with
        | nil => exact h3.elim
        | cons l L4 =>
        obtain ⟨⟨i, rfl⟩, h3⟩ := h3
        have hlen := h4.length
        subst e
        simp only [List.length_append, List.length_cons] at hlen hL
        have : (1000 : Nat) < sizeLine := by decide
        refine ⟨by omega, hk1 _ _ ⟨L3 ++ [l], L4, h3, ?_, by simp, s2⟩⟩
        rw [← List.append_assoc]
        exact h4.snoc
      · rintro acc' M' ⟨L3, L4, h3, h4, e, s2⟩
        cases L4 with
        | cons _ _ => exact h3.elim
        | nil =>
        rw [List.append_nil] at e
        subst e
        exact hk _ _ ⟨L1 ++ L3, Lb, h2, h4, by rw [List.append_assoc], s.trans ((Subm.new (.refl _) hp).trans s2)⟩
    · rintro acc M' ⟨L1, L2, hn, ha, e, s⟩ p hp
      cases hn
      rw [List.append_nil] at e
      subst e
      exact rtF s.upd (q p acc (s.fresh hp) ha)
theorem h_leaves {G : Gx} (F : Facts G) (d : Nat) : HeldT G (5 + d) (adr G "leaves") (s_leaves d) := by
  have := F.d_leaves.recH (k0 := 4) sc_leaves (fun s => b_leaves G s) (fun s => ck_leaves) (fun k s hk h => ok_leaves F h) nF s_leaves (fun d xs M Q R ⟨p, b, e, _⟩ => by rw [e]; rfl) v_leaves d
  exact this.mono (by omega)
def s_check_listed : TSp := fun xs M Q _ => ∃ p : Pl, xs = [p.tv, .int 200] ∧ p.good ∧ p.cnt ≤ 200 ∧ Q .non M
theorem v_check_listed {G : Gx} : ∀ xs M Q R, s_check_listed xs M Q R → wSs noF (b_check_listed G (s_places_of 16) s_check_most s_check_plan) (endsT Q R) (startT n_check_listed xs) M := by
  rintro xs M Q R ⟨p, rfl, g, hc, q⟩
  unfold b_check_listed
  simp only [wSs, wS, wE, wEs, wO, wB, wBo, wI, wTg, gs, startT, List.map_cons, List.map_nil, List.length_cons, List.length_nil, List.cons_append, List.nil_append, List.replicate, Nat.reduceAdd, Nat.reduceSub, Nat.zero_add, exEq, wCop, wIx, wTru, bif_len, bif_abs, bif_int, bif_isi, bif_tuple, bif_list, bif_sum, bif_all, bif_any, bif_min2, bif_max2, bif_minl, bif_maxl, bop_add_i, bop_add_t, bop_add_l, bop_sub, bop_mul_i, bop_fdiv, bop_mod, bop_pow, aug_add, aug_sub, aug_mul, setAll, wipeT, List.set, tru_bl, tru_non, tru_int, tru_tup, if_true, if_false, Bool.false_eq_true, Bool.not_true, Bool.not_false, seqM_tup, ix_tup, len_tup, atI_0, atI_1, atI_2, atI_3, atI_4, Option.some.injEq, exists_eq_left', eq_int, cmp_lt, cmp_le, cmp_gt, cmp_ge, cmp_eq, cmp_ne, cmp_is, cmp_isn, cmp_in, cmp_nin, Option.map, is_nn, is_in, is_tn, tyn_int, tyn_str, tyn_tup, Int.cast_ofNat_Int, Int.reduceLT, Int.reduceLE, Int.reduceAdd, Int.reduceMul, Int.reduceSub, BEq.rfl, decide_true, decide_false, Int.reduceBEq]
  have e : ¬ ((200 : Int) < p.cnt) := by omega
  refine ⟨p, rfl, g, 200, 1000, rfl, by decide, by decide, p, rfl, g.1, g.2.1, g.2.2, ?_⟩
  simp only [wSs, wS, wE, wEs, wO, wB, wBo, wI, wTg, gs, startT, List.map_cons, List.map_nil, List.length_cons, List.length_nil, List.cons_append, List.nil_append, List.replicate, Nat.reduceAdd, Nat.reduceSub, Nat.zero_add, exEq, wCop, wIx, wTru, bif_len, bif_abs, bif_int, bif_isi, bif_tuple, bif_list, bif_sum, bif_all, bif_any, bif_min2, bif_max2, bif_minl, bif_maxl, bop_add_i, bop_add_t, bop_add_l, bop_sub, bop_mul_i, bop_fdiv, bop_mod, bop_pow, aug_add, aug_sub, aug_mul, setAll, wipeT, List.set, tru_bl, tru_non, tru_int, tru_tup, if_true, if_false, Bool.false_eq_true, Bool.not_true, Bool.not_false, seqM_tup, ix_tup, len_tup, atI_0, atI_1, atI_2, atI_3, atI_4, Option.some.injEq, exists_eq_left', eq_int, cmp_lt, cmp_le, cmp_gt, cmp_ge, cmp_eq, cmp_ne, cmp_is, cmp_isn, cmp_in, cmp_nin, Option.map, is_nn, is_in, is_tn, tyn_int, tyn_str, tyn_tup, Int.cast_ofNat_Int, Int.reduceLT, Int.reduceLE, Int.reduceAdd, Int.reduceMul, Int.reduceSub, BEq.rfl, decide_true, decide_false, Int.reduceBEq, decide_eq_false e]
  exact nxF (.refl _) q
theorem h_check_listed {G : Gx} (F : Facts G) : HeldT G 25 (adr G "check_listed") s_check_listed :=
  F.d_check_listed.held (k := 24) sc_check_listed ck_check_listed (ok_check_listed F ((h_places_of F 16).mono (by decide)) ((h_check_most F).mono (by decide)) (h_check_plan F)) nF (fun xs M Q R ⟨x, e, _⟩ => by rw [e]; rfl) v_check_listed
theorem allI_app : ∀ {xs ys : List TV} {ns ms : List Int}, allI xs = some ns → allI ys = some ms → allI (xs ++ ys) = some (ns ++ ms)
  | [], ys, ns, ms, h, g => by cases h; exact g
  | x :: xs, ys, ns, ms, h, g => by
    cases x <;> simp only [allI, reduceCtorEq] at h
    cases q : allI xs with
    | none => rw [q] at h; cases h
    | some l =>
      rw [q] at h
      cases h
      simp only [List.cons_append, allI, allI_app q g]
theorem allI_rep (f : TV → TV) {L : List TV} {ns : List Int} (h : allI (L.map f) = some ns) : ∀ k : Nat, ∃ ms, allI ((List.replicate k L).flatten.map f) = some ms ∧ ms.sum = k * ns.sum
  | 0 => ⟨[], rfl, by simp⟩
  | k + 1 => by
    obtain ⟨ms, e, s⟩ := allI_rep f h k
    refine ⟨ns ++ ms, ?_, ?_⟩
    · rw [List.replicate_succ, List.flatten_cons, List.map_append]
      exact allI_app h e
    · rw [List.sum_append, s, Int.natCast_add, Int.add_mul]
      omega
mutual
theorem Pl.lst_len : ∀ p : Pl, p.ok → (p.lst.length : Int) = p.cnt
  | .place _ _, _ => rfl
  | .rep _ n p, ok => by
    have ih := Pl.lst_len p ok.2.2
    have h1 : 1 ≤ n := ok.1
    simp only [Pl.lst, Pl.cnt, Pl.val, List.length_flatten, List.map_replicate, List.sum_replicate_nat] at *
    rw [Int.natCast_mul, ih, Int.toNat_of_nonneg (by omega)]
  | .join _ ps, ok => Pls.lst_len ps ok.2.2
theorem Pls.lst_len : ∀ ps : Pls, ps.ok → (ps.lst.length : Int) = ps.val fun _ _ => 1
  | .nil, _ => rfl
  | .cons p r, ok => by
    have h1 := Pl.lst_len p ok.1
    have h2 := Pls.lst_len r ok.2
    simp only [Pls.lst, Pl.cnt, Pls.val, List.length_append] at *
    omega
end
mutual
theorem Pl.lst_sum (f : TV → TV) (g : Int → Int → Int) (hf : ∀ l w, f (.tup [.int l, .int w]) = .int (g l w)) : ∀ p : Pl, p.ok → ∃ ns, allI (p.lst.map f) = some ns ∧ ns.sum = p.val g
  | .place l w, _ => ⟨[g l w], by simp only [Pl.lst, List.map_cons, List.map_nil, hf, allI], by simp [Pl.val]⟩
  | .rep _ n p, ok => by
    obtain ⟨ns, e, s⟩ := Pl.lst_sum f g hf p ok.2.2
    obtain ⟨ms, e2, s2⟩ := allI_rep f e n.toNat
    have h1 : 1 ≤ n := ok.1
    exact ⟨ms, e2, by rw [s2, s, Int.toNat_of_nonneg (by omega)]; rfl⟩
  | .join _ ps, ok => Pls.lst_sum f g hf ps ok.2.2
theorem Pls.lst_sum (f : TV → TV) (g : Int → Int → Int) (hf : ∀ l w, f (.tup [.int l, .int w]) = .int (g l w)) : ∀ ps : Pls, ps.ok → ∃ ns, allI (ps.lst.map f) = some ns ∧ ns.sum = ps.val g
  | .nil, _ => ⟨[], rfl, rfl⟩
  | .cons p r, ok => by
    obtain ⟨ns, e, s⟩ := Pl.lst_sum f g hf p ok.1
    obtain ⟨ms, e2, s2⟩ := Pls.lst_sum f g hf r ok.2
    refine ⟨ns ++ ms, ?_, ?_⟩
    · simp only [Pls.lst, List.map_append]
      exact allI_app e e2
    · rw [List.sum_append, s, s2]; rfl
end
mutual
theorem Pl.lst_mem : ∀ p : Pl, ∀ x ∈ p.lst, ∃ l w : Int, x = .tup [.int l, .int w]
  | .place l w, x, h => ⟨l, w, List.mem_singleton.mp h⟩
  | .rep _ n p, x, h => by
    simp only [Pl.lst, List.mem_flatten, List.mem_replicate] at h
    obtain ⟨l, ⟨_, rfl⟩, h⟩ := h
    exact Pl.lst_mem p x h
  | .join _ ps, x, h => Pls.lst_mem ps x h
theorem Pls.lst_mem : ∀ ps : Pls, ∀ x ∈ ps.lst, ∃ l w : Int, x = .tup [.int l, .int w]
  | .nil, x, h => by cases h
  | .cons p r, x, h => by
    rcases List.mem_append.mp h with h | h
    · exact Pl.lst_mem p x h
    · exact Pls.lst_mem r x h
end
def s_listed2 : TSp := fun xs M Q _ => ∃ p : Pl, xs = [p.tv, .int 200] ∧ p.good ∧ p.cnt ≤ 200 ∧ ∀ a, M a = none → Q (.ref a) (updM M a (.lst p.lst))
theorem PrOf.map : ∀ {zs L : List TV}, PrOf zs L → zs.map snd = L
  | [], [], _ => rfl
  | z :: zs, l :: L, h => by
    obtain ⟨⟨i, rfl⟩, h⟩ := h
    simp only [List.map_cons, snd, PrOf.map h]
  | [], _ :: _, h => h.elim
  | _ :: _, [], h => h.elim
theorem PrOf.mem : ∀ {zs L : List TV} {z : TV}, PrOf zs L → z ∈ zs → ∃ (i : Int) (l : TV), z = .tup [.int i, l]
  | [], [], _, _, m => by cases m
  | z :: zs, l :: L, x, h, m => by
    rcases List.mem_cons.mp m with e | m
    · obtain ⟨⟨i, rfl⟩, _⟩ := h
      exact ⟨i, l, e⟩
    · exact PrOf.mem h.2 m
  | [], _ :: _, _, h, _ => h.elim
  | _ :: _, [], _, h, _ => h.elim
theorem v_listed {G : Gx} : ∀ xs M Q R, s_listed2 xs M Q R → wSs noF (b_listed G s_spread (s_leaves 16) s_check_listed) (endsT Q R) (startT n_listed xs) M := by
  rintro xs M Q R ⟨p, rfl, g, hc, q⟩
  unfold b_listed
  simp only [wSs, wS, wE, wEs, wO, wB, wBo, wI, wTg, gs, startT, List.map_cons, List.map_nil, List.length_cons, List.length_nil, List.cons_append, List.nil_append, List.replicate, Nat.reduceAdd, Nat.reduceSub, Nat.zero_add, exEq, wCop, wIx, wTru, bif_len, bif_abs, bif_int, bif_isi, bif_tuple, bif_list, bif_sum, bif_all, bif_any, bif_min2, bif_max2, bif_minl, bif_maxl, bop_add_i, bop_add_t, bop_add_l, bop_sub, bop_mul_i, bop_fdiv, bop_mod, bop_pow, aug_add, aug_sub, aug_mul, setAll, wipeT, List.set, tru_bl, tru_non, tru_int, tru_tup, if_true, if_false, Bool.false_eq_true, Bool.not_true, Bool.not_false, seqM_tup, ix_tup, len_tup, atI_0, atI_1, atI_2, atI_3, atI_4, Option.some.injEq, exists_eq_left', eq_int, cmp_lt, cmp_le, cmp_gt, cmp_ge, cmp_eq, cmp_ne, cmp_is, cmp_isn, cmp_in, cmp_nin, Option.map, is_nn, is_in, is_tn, tyn_int, tyn_str, tyn_tup, Int.cast_ofNat_Int, Int.reduceLT, Int.reduceLE, Int.reduceAdd, Int.reduceMul, Int.reduceSub, BEq.rfl, decide_true, decide_false, Int.reduceBEq]
  refine ⟨p, rfl, g, hc, p, rfl, g, hc, fun y hy => ⟨y, p.lst, rfl, hy, ?_, fun b zs hb hz => ?_⟩⟩
  · have := p.lst_len g.1
    omega
  · have l1 : lsM (updM M b (.lst zs)) b = some zs := lsM_upd
    refine ⟨zs, l1, lcL_map snd (.refl _) (fun _ s => s.lsM l1) ?_ ?_⟩
    · intro z hz2 acc M2 k s hk
      obtain ⟨i, l, rfl⟩ := hz.mem hz2
      simp only [wSs, wS, wE, wEs, wO, wB, wBo, wI, wTg, gs, startT, List.map_cons, List.map_nil, List.length_cons, List.length_nil, List.cons_append, List.nil_append, List.replicate, Nat.reduceAdd, Nat.reduceSub, Nat.zero_add, exEq, wCop, wIx, wTru, bif_len, bif_abs, bif_int, bif_isi, bif_tuple, bif_list, bif_sum, bif_all, bif_any, bif_min2, bif_max2, bif_minl, bif_maxl, bop_add_i, bop_add_t, bop_add_l, bop_sub, bop_mul_i, bop_fdiv, bop_mod, bop_pow, aug_add, aug_sub, aug_mul, setAll, wipeT, List.set, tru_bl, tru_non, tru_int, tru_tup, if_true, if_false, Bool.false_eq_true, Bool.not_true, Bool.not_false, seqM_tup, ix_tup, len_tup, atI_0, atI_1, atI_2, atI_3, atI_4, Option.some.injEq, exists_eq_left', eq_int, cmp_lt, cmp_le, cmp_gt, cmp_ge, cmp_eq, cmp_ne, cmp_is, cmp_isn, cmp_in, cmp_nin, Option.map, is_nn, is_in, is_tn, tyn_int, tyn_str, tyn_tup, Int.cast_ofNat_Int, Int.reduceLT, Int.reduceLE, Int.reduceAdd, Int.reduceMul, Int.reduceSub, BEq.rfl, decide_true, decide_false, Int.reduceBEq]
      exact ⟨trivial, hk _ (.refl _)⟩
    · intro M2 s a ha
      rw [List.nil_append, hz.map]
      have s0 : Subm M M2 := (Subm.new (.refl _) hb).trans s
      exact rtF s0.upd (q a (s0.fresh ha))
def s_listed : TSp := fun xs M Q _ => ∃ p : Pl, xs = [p.tv] ∧ p.good ∧ p.cnt ≤ 200 ∧ ∀ a, M a = none → Q (.ref a) (updM M a (.lst p.lst))
theorem h_listed {G : Gx} (F : Facts G) : HeldT G 27 (adr G "listed") s_listed :=
  F.d_listed.held (k := 26) sc_listed ck_listed (ok_listed F ((h_spread F).mono (by decide)) ((h_leaves F 16).mono (by decide)) ((h_check_listed F).mono (by decide))) nF (fun xs M Q R ⟨x, e, _⟩ => by rw [e]; rfl) v_listed (fun xs M Q R ⟨p, e, h⟩ => ⟨p, by rw [e]; rfl, h⟩)
/-! two plans -/
def s_paired : TSp := fun xs M Q _ => ∃ (r : Bool) (p q : Pl), xs = [.str (wJoin r), p.tv, q.tv] ∧ p.good ∧ q.good ∧ (Pl.join r (.cons p (.cons q .nil))).good ∧ Q (Pl.join r (.cons p (.cons q .nil))).tv M
theorem v_paired {G : Gx} : ∀ xs M Q R, s_paired xs M Q R → wSs noF (b_paired G s_check_plan) (endsT Q R) (startT n_paired xs) M := by
  rintro xs M Q R ⟨r, p, q, rfl, g1, g2, g3, h⟩
  unfold b_paired
  simp only [wSs, wS, wE, wEs, wO, wB, wBo, wI, wTg, gs, startT, List.map_cons, List.map_nil, List.length_cons, List.length_nil, List.cons_append, List.nil_append, List.replicate, Nat.reduceAdd, Nat.reduceSub, Nat.zero_add, exEq, wCop, wIx, wTru, bif_len, bif_abs, bif_int, bif_isi, bif_tuple, bif_list, bif_sum, bif_all, bif_any, bif_min2, bif_max2, bif_minl, bif_maxl, bop_add_i, bop_add_t, bop_add_l, bop_sub, bop_mul_i, bop_fdiv, bop_mod, bop_pow, aug_add, aug_sub, aug_mul, setAll, wipeT, List.set, tru_bl, tru_non, tru_int, tru_tup, if_true, if_false, Bool.false_eq_true, Bool.not_true, Bool.not_false, seqM_tup, ix_tup, len_tup, atI_0, atI_1, atI_2, atI_3, atI_4, Option.some.injEq, exists_eq_left', eq_int, cmp_lt, cmp_le, cmp_gt, cmp_ge, cmp_eq, cmp_ne, cmp_is, cmp_isn, cmp_in, cmp_nin, Option.map, is_nn, is_in, is_tn, tyn_int, tyn_str, tyn_tup, Int.cast_ofNat_Int, Int.reduceLT, Int.reduceLE, Int.reduceAdd, Int.reduceMul, Int.reduceSub, BEq.rfl, decide_true, decide_false, Int.reduceBEq]
  refine ⟨p, rfl, g1, q, rfl, g2, Pl.join r (.cons p (.cons q .nil)), rfl, g3, rtF (.refl _) h⟩
theorem h_paired {G : Gx} (F : Facts G) : HeldT G 25 (adr G "paired") s_paired :=
  F.d_paired.held (k := 24) sc_paired ck_paired (ok_paired F (h_check_plan F)) nF (fun xs M Q R ⟨_, _, x, e, _⟩ => by rw [e]; rfl) v_paired
def s_two (r : Bool) : TSp := fun xs M Q _ => ∃ (p q : Pl), xs = [p.tv, q.tv] ∧ p.good ∧ q.good ∧ (Pl.join r (.cons p (.cons q .nil))).good ∧ Q (Pl.join r (.cons p (.cons q .nil))).tv M
theorem v_joined {G : Gx} : ∀ xs M Q R, s_two true xs M Q R → wSs noF (b_joined G s_paired) (endsT Q R) (startT n_joined xs) M := by
  rintro xs M Q R ⟨p, q, rfl, g1, g2, g3, h⟩
  unfold b_joined
  simp only [wSs, wS, wE, wEs, wO, wB, wBo, wI, wTg, gs, startT, List.map_cons, List.map_nil, List.length_cons, List.length_nil, List.cons_append, List.nil_append, List.replicate, Nat.reduceAdd, Nat.reduceSub, Nat.zero_add, exEq, wCop, wIx, wTru, bif_len, bif_abs, bif_int, bif_isi, bif_tuple, bif_list, bif_sum, bif_all, bif_any, bif_min2, bif_max2, bif_minl, bif_maxl, bop_add_i, bop_add_t, bop_add_l, bop_sub, bop_mul_i, bop_fdiv, bop_mod, bop_pow, aug_add, aug_sub, aug_mul, setAll, wipeT, List.set, tru_bl, tru_non, tru_int, tru_tup, if_true, if_false, Bool.false_eq_true, Bool.not_true, Bool.not_false, seqM_tup, ix_tup, len_tup, atI_0, atI_1, atI_2, atI_3, atI_4, Option.some.injEq, exists_eq_left', eq_int, cmp_lt, cmp_le, cmp_gt, cmp_ge, cmp_eq, cmp_ne, cmp_is, cmp_isn, cmp_in, cmp_nin, Option.map, is_nn, is_in, is_tn, tyn_int, tyn_str, tyn_tup, Int.cast_ofNat_Int, Int.reduceLT, Int.reduceLE, Int.reduceAdd, Int.reduceMul, Int.reduceSub, BEq.rfl, decide_true, decide_false, Int.reduceBEq]
  exact ⟨true, p, q, rfl, g1, g2, g3, rtF (.refl _) h⟩
theorem h_joined {G : Gx} (F : Facts G) : HeldT G 26 (adr G "joined") (s_two true) :=
  F.d_joined.held (k := 25) sc_joined ck_joined (ok_joined F (h_paired F)) nF (fun xs M Q R ⟨_, x, e, _⟩ => by rw [e]; rfl) v_joined
theorem v_mixed {G : Gx} : ∀ xs M Q R, s_two false xs M Q R → wSs noF (b_mixed G s_paired) (endsT Q R) (startT n_mixed xs) M := by
  rintro xs M Q R ⟨p, q, rfl, g1, g2, g3, h⟩
  unfold b_mixed
  simp only [wSs, wS, wE, wEs, wO, wB, wBo, wI, wTg, gs, startT, List.map_cons, List.map_nil, List.length_cons, List.length_nil, List.cons_append, List.nil_append, List.replicate, Nat.reduceAdd, Nat.reduceSub, Nat.zero_add, exEq, wCop, wIx, wTru, bif_len, bif_abs, bif_int, bif_isi, bif_tuple, bif_list, bif_sum, bif_all, bif_any, bif_min2, bif_max2, bif_minl, bif_maxl, bop_add_i, bop_add_t, bop_add_l, bop_sub, bop_mul_i, bop_fdiv, bop_mod, bop_pow, aug_add, aug_sub, aug_mul, setAll, wipeT, List.set, tru_bl, tru_non, tru_int, tru_tup, if_true, if_false, Bool.false_eq_true, Bool.not_true, Bool.not_false, seqM_tup, ix_tup, len_tup, atI_0, atI_1, atI_2, atI_3, atI_4, Option.some.injEq, exists_eq_left', eq_int, cmp_lt, cmp_le, cmp_gt, cmp_ge, cmp_eq, cmp_ne, cmp_is, cmp_isn, cmp_in, cmp_nin, Option.map, is_nn, is_in, is_tn, tyn_int, tyn_str, tyn_tup, Int.cast_ofNat_Int, Int.reduceLT, Int.reduceLE, Int.reduceAdd, Int.reduceMul, Int.reduceSub, BEq.rfl, decide_true, decide_false, Int.reduceBEq]
  exact ⟨false, p, q, rfl, g1, g2, g3, rtF (.refl _) h⟩
theorem h_mixed {G : Gx} (F : Facts G) : HeldT G 26 (adr G "mixed") (s_two false) :=
  F.d_mixed.held (k := 25) sc_mixed ck_mixed (ok_mixed F (h_paired F)) nF (fun xs M Q R ⟨_, x, e, _⟩ => by rw [e]; rfl) v_mixed
end TL

/-! VcD: the hand's defs. -/
namespace TL
open PySem PySem.Spec PyProof.Rows L2
theorem cut_ints (ns : List Int) (lo hi : Option Int) : ∃ ms : List Int, cutT (ns.map TV.int) lo hi = ms.map .int := by
  unfold cutT
  rw [← List.map_drop, ← List.map_take]
  exact ⟨_, rfl⟩
def absT : TV → TV
  | .int i => .int i.natAbs
  | x => x
def s__law_hand : TSp := fun xs M Q _ => ∃ (x : TV) (ns : List Int), xs = [x] ∧ ((∃ a, x = .ref a ∧ lsM M a = some (ns.map .int)) ∨ x = .kl (ns.map .int)) ∧ ∀ (h : Hn) M', HandOk M' h → Subm M M' → Q (.ref h.a) M'
theorem v__law_hand {G : Gx} : ∀ xs M Q R, s__law_hand xs M Q R → wSs noF (b__law_hand G) (endsT Q R) (startT n__law_hand xs) M := by
  rintro xs M Q R ⟨x, ns, rfl, hx, q⟩
  unfold b__law_hand
  obtain ⟨ms, hms⟩ := cut_ints ns none (some 63)
  have cells : (ms.map TV.int).map absT = (ms.map fun i => ((i.natAbs : Nat) : Int)).map TV.int := by simp [List.map_map, Function.comp_def, absT]
  rcases hx with ⟨a, rfl, ha⟩ | rfl
  · simp only [wSs, wS, wE, wEs, wO, wB, wBo, wI, wTg, gs, startT, List.map_cons, List.map_nil, List.length_cons, List.length_nil, List.cons_append, List.nil_append, List.replicate, Nat.reduceAdd, Nat.reduceSub, Nat.zero_add, exEq, wCop, wIx, wTru, bif_len, bif_abs, bif_int, bif_isi, bif_tuple, bif_list, bif_sum, bif_all, bif_any, bif_min2, bif_max2, bif_minl, bif_maxl, bop_add_i, bop_add_t, bop_add_l, bop_sub, bop_mul_i, bop_fdiv, bop_mod, bop_pow, aug_add, aug_sub, aug_mul, setAll, wipeT, List.set, tru_bl, tru_non, tru_int, tru_tup, if_true, if_false, Bool.false_eq_true, Bool.not_true, Bool.not_false, seqM_tup, ix_tup, len_tup, atI_0, atI_1, atI_2, atI_3, atI_4, Option.some.injEq, exists_eq_left', eq_int, cmp_lt, cmp_le, cmp_gt, cmp_ge, cmp_eq, cmp_ne, cmp_is, cmp_isn, cmp_in, cmp_nin, Option.map, is_nn, is_in, is_tn, tyn_int, tyn_str, tyn_tup, Int.cast_ofNat_Int, Int.reduceLT, Int.reduceLE, Int.reduceAdd, Int.reduceMul, Int.reduceSub, BEq.rfl, decide_true, decide_false, Int.reduceBEq, wSl, bif_abs, TV.int.injEq]
    refine ⟨_, ha, fun p hp => ?_⟩
    rw [hms]
    refine ⟨_, lsM_upd, lcL_map absT (.refl _) (fun _ s => s.lsM lsM_upd) ?_ ?_⟩
    · intro x hx acc M2 k s hk
      obtain ⟨z, _, rfl⟩ := List.mem_map.mp hx
      simp only [wSs, wS, wE, wEs, wO, wB, wBo, wI, wTg, gs, startT, List.map_cons, List.map_nil, List.length_cons, List.length_nil, List.cons_append, List.nil_append, List.replicate, Nat.reduceAdd, Nat.reduceSub, Nat.zero_add, exEq, wCop, wIx, wTru, bif_len, bif_abs, bif_int, bif_isi, bif_tuple, bif_list, bif_sum, bif_all, bif_any, bif_min2, bif_max2, bif_minl, bif_maxl, bop_add_i, bop_add_t, bop_add_l, bop_sub, bop_mul_i, bop_fdiv, bop_mod, bop_pow, aug_add, aug_sub, aug_mul, setAll, wipeT, List.set, tru_bl, tru_non, tru_int, tru_tup, if_true, if_false, Bool.false_eq_true, Bool.not_true, Bool.not_false, seqM_tup, ix_tup, len_tup, atI_0, atI_1, atI_2, atI_3, atI_4, Option.some.injEq, exists_eq_left', eq_int, cmp_lt, cmp_le, cmp_gt, cmp_ge, cmp_eq, cmp_ne, cmp_is, cmp_isn, cmp_in, cmp_nin, Option.map, is_nn, is_in, is_tn, tyn_int, tyn_str, tyn_tup, Int.cast_ofNat_Int, Int.reduceLT, Int.reduceLE, Int.reduceAdd, Int.reduceMul, Int.reduceSub, BEq.rfl, decide_true, decide_false, Int.reduceBEq]
      exact hk _ (.refl _)
    · intro M2 s p2 hp2
      rw [List.nil_append, cells]
      refine ⟨_, len_lst lsM_upd, .inl (.inl ⟨by decide, by decide⟩), fun p3 hp3 => ?_⟩
      have ne : p2 ≠ p3 := fun e => by subst e; rw [updM_same] at hp3; cases hp3
      refine rtF (.refl _) (q ⟨p3, p2, _, ne, fun z hz => ?_⟩ _ ⟨_, _, _, _, updM_same, (updM_ne ne).trans updM_same, Int.le_refl _, Int.le_refl _⟩ ((((Subm.new (.refl _) hp).trans s).new hp2).new hp3))
      obtain ⟨i, _, rfl⟩ := List.mem_map.mp hz
      exact Int.natCast_nonneg _
  · simp only [wSs, wS, wE, wEs, wO, wB, wBo, wI, wTg, gs, startT, List.map_cons, List.map_nil, List.length_cons, List.length_nil, List.cons_append, List.nil_append, List.replicate, Nat.reduceAdd, Nat.reduceSub, Nat.zero_add, exEq, wCop, wIx, wTru, bif_len, bif_abs, bif_int, bif_isi, bif_tuple, bif_list, bif_sum, bif_all, bif_any, bif_min2, bif_max2, bif_minl, bif_maxl, bop_add_i, bop_add_t, bop_add_l, bop_sub, bop_mul_i, bop_fdiv, bop_mod, bop_pow, aug_add, aug_sub, aug_mul, setAll, wipeT, List.set, tru_bl, tru_non, tru_int, tru_tup, if_true, if_false, Bool.false_eq_true, Bool.not_true, Bool.not_false, seqM_tup, ix_tup, len_tup, atI_0, atI_1, atI_2, atI_3, atI_4, Option.some.injEq, exists_eq_left', eq_int, cmp_lt, cmp_le, cmp_gt, cmp_ge, cmp_eq, cmp_ne, cmp_is, cmp_isn, cmp_in, cmp_nin, Option.map, is_nn, is_in, is_tn, tyn_int, tyn_str, tyn_tup, Int.cast_ofNat_Int, Int.reduceLT, Int.reduceLE, Int.reduceAdd, Int.reduceMul, Int.reduceSub, BEq.rfl, decide_true, decide_false, Int.reduceBEq, wSl, bif_abs, TV.int.injEq]
    intro p hp
    rw [hms]
    refine ⟨_, lsM_upd, lcL_map absT (.refl _) (fun _ s => s.lsM lsM_upd) ?_ ?_⟩
    · intro x hx acc M2 k s hk
      obtain ⟨z, _, rfl⟩ := List.mem_map.mp hx
      simp only [wSs, wS, wE, wEs, wO, wB, wBo, wI, wTg, gs, startT, List.map_cons, List.map_nil, List.length_cons, List.length_nil, List.cons_append, List.nil_append, List.replicate, Nat.reduceAdd, Nat.reduceSub, Nat.zero_add, exEq, wCop, wIx, wTru, bif_len, bif_abs, bif_int, bif_isi, bif_tuple, bif_list, bif_sum, bif_all, bif_any, bif_min2, bif_max2, bif_minl, bif_maxl, bop_add_i, bop_add_t, bop_add_l, bop_sub, bop_mul_i, bop_fdiv, bop_mod, bop_pow, aug_add, aug_sub, aug_mul, setAll, wipeT, List.set, tru_bl, tru_non, tru_int, tru_tup, if_true, if_false, Bool.false_eq_true, Bool.not_true, Bool.not_false, seqM_tup, ix_tup, len_tup, atI_0, atI_1, atI_2, atI_3, atI_4, Option.some.injEq, exists_eq_left', eq_int, cmp_lt, cmp_le, cmp_gt, cmp_ge, cmp_eq, cmp_ne, cmp_is, cmp_isn, cmp_in, cmp_nin, Option.map, is_nn, is_in, is_tn, tyn_int, tyn_str, tyn_tup, Int.cast_ofNat_Int, Int.reduceLT, Int.reduceLE, Int.reduceAdd, Int.reduceMul, Int.reduceSub, BEq.rfl, decide_true, decide_false, Int.reduceBEq]
      exact hk _ (.refl _)
    · intro M2 s p2 hp2
      rw [List.nil_append, cells]
      refine ⟨_, len_lst lsM_upd, .inl (.inl ⟨by decide, by decide⟩), fun p3 hp3 => ?_⟩
      have ne : p2 ≠ p3 := fun e => by subst e; rw [updM_same] at hp3; cases hp3
      refine rtF (.refl _) (q ⟨p3, p2, _, ne, fun z hz => ?_⟩ _ ⟨_, _, _, _, updM_same, (updM_ne ne).trans updM_same, Int.le_refl _, Int.le_refl _⟩ ((((Subm.new (.refl _) hp).trans s).new hp2).new hp3))
      obtain ⟨i, _, rfl⟩ := List.mem_map.mp hz
      exact Int.natCast_nonneg _
theorem h__law_hand {G : Gx} (F : Facts G) : HeldT G 1 (adr G "_law_hand") s__law_hand :=
  F.d__law_hand.held (k := 0) sc__law_hand ck__law_hand (ok__law_hand F) nF (fun xs M Q R ⟨x, _, e, _⟩ => by rw [e]; rfl) v__law_hand
/-! drawing -/
def hm (M : TM) (h : Hn) (l : List TV) : TM := updM M h.a (.lst l)
theorem hm_hm {M : TM} {h : Hn} {l l' : List TV} : updM (hm M h l) h.a (.lst l') = hm M h l' := updM_updM
theorem hm_ls {M : TM} {h : Hn} {l : List TV} : lsM (hm M h l) h.a = some l := lsM_upd
theorem hm_ix {M : TM} {h : Hn} {l : List TV} {i : Int} : ixF (hm M h l) (.ref h.a) (.int i) = atI l i := ix_lst hm_ls i
theorem hm_c {M : TM} {h : Hn} {l : List TV} (e : M h.c = some (.lst (h.cells.map .int))) : lsM (hm M h l) h.c = some (h.cells.map .int) := by
  unfold lsM hm
  rw [updM_ne h.ne, e]
theorem hm_sti {M : TM} {h : Hn} {a b c d e y : TV} {i : Int} {j : Nat} {Q : TM → Prop} (hj : ixN 5 i = some j) : wSti (.ref h.a) (.int i) y (hm M h [a, b, c, d, e]) Q = Q (hm M h (List.set [a, b, c, d, e] j y)) := by
  refine propext ⟨fun ⟨xs, k, e1, e2, q⟩ => ?_, fun q => ⟨_, j, updM_same, hj, by rw [hm_hm]; exact q⟩⟩
  rw [show hm M h [a, b, c, d, e] h.a = some (.lst [a, b, c, d, e]) from updM_same] at e1
  cases e1
  rw [show ([a, b, c, d, e] : List TV).length = 5 from rfl, hj] at e2
  cases e2
  rw [hm_hm] at q
  exact q
theorem hm_hd {M : TM} {h : Hn} {i h2 h3 h4 : Int} (e : M h.c = some (.lst (h.cells.map .int))) (a : 0 ≤ i) (b : 0 ≤ h2) : Hd h M (hm M h [.ref h.c, .int i, .int h2, .int h3, .int h4]) :=
  ⟨⟨i, h2, h3, h4, updM_same, (updM_ne h.ne).trans e, a, b⟩, fun b n => updM_ne n⟩
theorem ix50 : ixN 5 0 = some 0 := by decide
theorem ix51 : ixN 5 1 = some 1 := by decide
theorem ix52 : ixN 5 2 = some 2 := by decide
theorem ix53 : ixN 5 3 = some 3 := by decide
theorem ix54 : ixN 5 4 = some 4 := by decide
def s__law_draw : TSp := fun xs M Q _ => ∃ (h : Hn) (m : Int), xs = [.ref h.a, .int m] ∧ 0 < m ∧ m ≤ 10 ^ 40 ∧ HandOk M h ∧ ∀ v M', 0 ≤ v → v < m → Hd h M M' → Q (.int v) M'
def tailS : Sms → Sms
  | .cons _ r => r
  | .nil => .nil
theorem log_ok {m : Int} (h : 0 < m) (g : m ≤ 10 ^ 40) : m.natAbs.log2 < 9000 := by
  have := log_le (v := m) (k := 134) (by omega) (by omega)
  omega
theorem v__law_draw {G : Gx} : ∀ xs M Q R, s__law_draw xs M Q R → wSs noF (b__law_draw G) (endsT Q R) (startT n__law_draw xs) M := by
  rintro xs M Q R ⟨h, m, rfl, m0, m1, ok, q⟩
  obtain ⟨i, h2, h3, h4, e1, e2, i0, h0⟩ := ok
  have tail : ∀ (i h2 h3 h4 : Int) (o2 o3 o4 : Option TV), 0 ≤ i → 0 ≤ h2 → wSs noF (tailS (b__law_draw G)) (endsT Q R) [some (.ref h.a), some (.int m), o2, o3, o4] (hm M h [.ref h.c, .int i, .int h2, .int h3, .int h4]) := by
    intro i h2 h3 h4 o2 o3 o4 i0 h0
    unfold b__law_draw tailS
    simp only [wSs, wS, wE, wEs, wO, wB, wBo, wI, wTg, gs, startT, List.map_cons, List.map_nil, List.length_cons, List.length_nil, List.cons_append, List.nil_append, List.replicate, Nat.reduceAdd, Nat.reduceSub, Nat.zero_add, exEq, wCop, wIx, wTru, bif_len, bif_abs, bif_int, bif_isi, bif_tuple, bif_list, bif_sum, bif_all, bif_any, bif_min2, bif_max2, bif_minl, bif_maxl, bop_add_i, bop_add_t, bop_add_l, bop_sub, bop_mul_i, bop_fdiv, bop_mod, bop_pow, aug_add, aug_sub, aug_mul, setAll, wipeT, List.set, tru_bl, tru_non, tru_int, tru_tup, if_true, if_false, Bool.false_eq_true, Bool.not_true, Bool.not_false, seqM_tup, ix_tup, len_tup, atI_0, atI_1, atI_2, atI_3, atI_4, Option.some.injEq, exists_eq_left', eq_int, cmp_lt, cmp_le, cmp_gt, cmp_ge, cmp_eq, cmp_ne, cmp_is, cmp_isn, cmp_in, cmp_nin, Option.map, is_nn, is_in, is_tn, tyn_int, tyn_str, tyn_tup, Int.cast_ofNat_Int, Int.reduceLT, Int.reduceLE, Int.reduceAdd, Int.reduceMul, Int.reduceSub, BEq.rfl, decide_true, decide_false, Int.reduceBEq, hm_ix, hm_sti ix52, hm_sti ix54]
    by_cases c : 0 < h2
    · rw [decide_eq_true c]
      simp only [wSs, wS, wE, wEs, wO, wB, wBo, wI, wTg, gs, startT, List.map_cons, List.map_nil, List.length_cons, List.length_nil, List.cons_append, List.nil_append, List.replicate, Nat.reduceAdd, Nat.reduceSub, Nat.zero_add, exEq, wCop, wIx, wTru, bif_len, bif_abs, bif_int, bif_isi, bif_tuple, bif_list, bif_sum, bif_all, bif_any, bif_min2, bif_max2, bif_minl, bif_maxl, bop_add_i, bop_add_t, bop_add_l, bop_sub, bop_mul_i, bop_fdiv, bop_mod, bop_pow, aug_add, aug_sub, aug_mul, setAll, wipeT, List.set, tru_bl, tru_non, tru_int, tru_tup, if_true, if_false, Bool.false_eq_true, Bool.not_true, Bool.not_false, seqM_tup, ix_tup, len_tup, atI_0, atI_1, atI_2, atI_3, atI_4, Option.some.injEq, exists_eq_left', eq_int, cmp_lt, cmp_le, cmp_gt, cmp_ge, cmp_eq, cmp_ne, cmp_is, cmp_isn, cmp_in, cmp_nin, Option.map, is_nn, is_in, is_tn, tyn_int, tyn_str, tyn_tup, Int.cast_ofNat_Int, Int.reduceLT, Int.reduceLE, Int.reduceAdd, Int.reduceMul, Int.reduceSub, BEq.rfl, decide_true, decide_false, Int.reduceBEq]
      have := Int.emod_nonneg h2 (show m ≠ 0 by omega)
      exact ⟨m0, ⟨m0, log_ok m0 m1⟩, rtF (.refl _) (q _ _ (Int.emod_nonneg _ (by omega)) (Int.emod_lt_of_pos _ m0) (hm_hd e2 i0 (Int.ediv_nonneg h0 (by omega))))⟩
    · rw [decide_eq_false c]
      simp only [wSs, wS, wE, wEs, wO, wB, wBo, wI, wTg, gs, startT, List.map_cons, List.map_nil, List.length_cons, List.length_nil, List.cons_append, List.nil_append, List.replicate, Nat.reduceAdd, Nat.reduceSub, Nat.zero_add, exEq, wCop, wIx, wTru, bif_len, bif_abs, bif_int, bif_isi, bif_tuple, bif_list, bif_sum, bif_all, bif_any, bif_min2, bif_max2, bif_minl, bif_maxl, bop_add_i, bop_add_t, bop_add_l, bop_sub, bop_mul_i, bop_fdiv, bop_mod, bop_pow, aug_add, aug_sub, aug_mul, setAll, wipeT, List.set, tru_bl, tru_non, tru_int, tru_tup, if_true, if_false, Bool.false_eq_true, Bool.not_true, Bool.not_false, seqM_tup, ix_tup, len_tup, atI_0, atI_1, atI_2, atI_3, atI_4, Option.some.injEq, exists_eq_left', eq_int, cmp_lt, cmp_le, cmp_gt, cmp_ge, cmp_eq, cmp_ne, cmp_is, cmp_isn, cmp_in, cmp_nin, Option.map, is_nn, is_in, is_tn, tyn_int, tyn_str, tyn_tup, Int.cast_ofNat_Int, Int.reduceLT, Int.reduceLE, Int.reduceAdd, Int.reduceMul, Int.reduceSub, BEq.rfl, decide_true, decide_false, Int.reduceBEq]
      have n1 := Int.emod_nonneg ((h3 + 7919 * (h4 + 1)) * 48271) (show (2147483647 : Int) ≠ 0 by decide)
      have n2 := Int.emod_lt_of_pos ((h3 + 7919 * (h4 + 1)) * 48271) (show (0 : Int) < 2147483647 by decide)
      generalize ((h3 + 7919 * (h4 + 1)) * 48271) % 2147483647 = k1 at n1 n2 ⊢
      have n3 := Int.emod_nonneg (k1 * (k1 / 1009 + 69621)) (show (2147483647 : Int) ≠ 0 by decide)
      have n4 := Int.emod_lt_of_pos (k1 * (k1 / 1009 + 69621)) (show (0 : Int) < 2147483647 by decide)
      generalize (k1 * (k1 / 1009 + 69621)) % 2147483647 = k2 at n3 n4 ⊢
      have l1 : (1009 : Int).natAbs.log2 < 9000 := by decide +kernel
      have l2 : (2003 : Int).natAbs.log2 < 9000 := by decide +kernel
      have l3 : (16 : Int).natAbs.log2 < 9000 := by decide +kernel
      refine ⟨.inl (.inl ⟨by decide, by decide⟩), .inl (.inr ⟨by decide, by decide⟩), by decide, ⟨by decide, l1⟩, .inl (.inl ⟨by omega, by omega⟩), by decide, ⟨by decide, l2⟩, .inl (.inl ⟨by omega, by omega⟩), by decide, ⟨by decide, l3⟩, m0, ?_⟩
      exact rtF (.refl _) (q _ _ (Int.emod_nonneg _ (by omega)) (Int.emod_lt_of_pos _ m0) (hm_hd e2 i0 h0))
  have eM : M = hm M h [.ref h.c, .int i, .int h2, .int h3, .int h4] := (updM_self e1).symm
  rw [eM]
  show wS noF _ { endsT Q R with nx := fun σ' M' => wSs noF (tailS (b__law_draw G)) (endsT Q R) σ' M' } _ _
  generalize wSs noF (tailS (b__law_draw G)) (endsT Q R) = T at tail ⊢
  simp only [wSs, wS, wE, wEs, wO, wB, wBo, wI, wTg, gs, startT, List.map_cons, List.map_nil, List.length_cons, List.length_nil, List.cons_append, List.nil_append, List.replicate, Nat.reduceAdd, Nat.reduceSub, Nat.zero_add, exEq, wCop, wIx, wTru, bif_len, bif_abs, bif_int, bif_isi, bif_tuple, bif_list, bif_sum, bif_all, bif_any, bif_min2, bif_max2, bif_minl, bif_maxl, bop_add_i, bop_add_t, bop_add_l, bop_sub, bop_mul_i, bop_fdiv, bop_mod, bop_pow, aug_add, aug_sub, aug_mul, setAll, wipeT, List.set, tru_bl, tru_non, tru_int, tru_tup, if_true, if_false, Bool.false_eq_true, Bool.not_true, Bool.not_false, seqM_tup, ix_tup, len_tup, atI_0, atI_1, atI_2, atI_3, atI_4, Option.some.injEq, exists_eq_left', eq_int, cmp_lt, cmp_le, cmp_gt, cmp_ge, cmp_eq, cmp_ne, cmp_is, cmp_isn, cmp_in, cmp_nin, Option.map, is_nn, is_in, is_tn, tyn_int, tyn_str, tyn_tup, Int.cast_ofNat_Int, Int.reduceLT, Int.reduceLE, Int.reduceAdd, Int.reduceMul, Int.reduceSub, BEq.rfl, decide_true, decide_false, Int.reduceBEq, hm_ix, hm_sti ix51, hm_sti ix52, hm_sti ix53]
  by_cases c : h2 = 0
  · subst c
    simp only [wSs, wS, wE, wEs, wO, wB, wBo, wI, wTg, gs, startT, List.map_cons, List.map_nil, List.length_cons, List.length_nil, List.cons_append, List.nil_append, List.replicate, Nat.reduceAdd, Nat.reduceSub, Nat.zero_add, exEq, wCop, wIx, wTru, bif_len, bif_abs, bif_int, bif_isi, bif_tuple, bif_list, bif_sum, bif_all, bif_any, bif_min2, bif_max2, bif_minl, bif_maxl, bop_add_i, bop_add_t, bop_add_l, bop_sub, bop_mul_i, bop_fdiv, bop_mod, bop_pow, aug_add, aug_sub, aug_mul, setAll, wipeT, List.set, tru_bl, tru_non, tru_int, tru_tup, if_true, if_false, Bool.false_eq_true, Bool.not_true, Bool.not_false, seqM_tup, ix_tup, len_tup, atI_0, atI_1, atI_2, atI_3, atI_4, Option.some.injEq, exists_eq_left', eq_int, cmp_lt, cmp_le, cmp_gt, cmp_ge, cmp_eq, cmp_ne, cmp_is, cmp_isn, cmp_in, cmp_nin, Option.map, is_nn, is_in, is_tn, tyn_int, tyn_str, tyn_tup, Int.cast_ofNat_Int, Int.reduceLT, Int.reduceLE, Int.reduceAdd, Int.reduceMul, Int.reduceSub, BEq.rfl, decide_true, decide_false, Int.reduceBEq]
    refine ⟨_, len_lst (hm_c e2), ?_⟩
    by_cases c2 : i < ((h.cells.map TV.int).length : Nat)
    · rw [decide_eq_true c2]
      simp only [wSs, wS, wE, wEs, wO, wB, wBo, wI, wTg, gs, startT, List.map_cons, List.map_nil, List.length_cons, List.length_nil, List.cons_append, List.nil_append, List.replicate, Nat.reduceAdd, Nat.reduceSub, Nat.zero_add, exEq, wCop, wIx, wTru, bif_len, bif_abs, bif_int, bif_isi, bif_tuple, bif_list, bif_sum, bif_all, bif_any, bif_min2, bif_max2, bif_minl, bif_maxl, bop_add_i, bop_add_t, bop_add_l, bop_sub, bop_mul_i, bop_fdiv, bop_mod, bop_pow, aug_add, aug_sub, aug_mul, setAll, wipeT, List.set, tru_bl, tru_non, tru_int, tru_tup, if_true, if_false, Bool.false_eq_true, Bool.not_true, Bool.not_false, seqM_tup, ix_tup, len_tup, atI_0, atI_1, atI_2, atI_3, atI_4, Option.some.injEq, exists_eq_left', eq_int, cmp_lt, cmp_le, cmp_gt, cmp_ge, cmp_eq, cmp_ne, cmp_is, cmp_isn, cmp_in, cmp_nin, Option.map, is_nn, is_in, is_tn, tyn_int, tyn_str, tyn_tup, Int.cast_ofNat_Int, Int.reduceLT, Int.reduceLE, Int.reduceAdd, Int.reduceMul, Int.reduceSub, BEq.rfl, decide_true, decide_false, Int.reduceBEq]
      rw [List.length_map] at c2
      have hi : (h.cells.map TV.int)[i.toNat]? = some (.int h.cells[i.toNat]) := by
        rw [List.getElem?_map, List.getElem?_eq_getElem (by omega)]
        rfl
      have hx : atI (h.cells.map TV.int) i = some (.int h.cells[i.toNat]) := by
        have := atI_nat hi
        rwa [Int.toNat_of_nonneg i0] at this
      have hp := h.pos _ (List.getElem_mem (show i.toNat < h.cells.length by omega))
      refine ⟨_, (ix_lst (hm_c e2) i).trans hx, ?_⟩
      simp only [wSs, wS, wE, wEs, wO, wB, wBo, wI, wTg, gs, startT, List.map_cons, List.map_nil, List.length_cons, List.length_nil, List.cons_append, List.nil_append, List.replicate, Nat.reduceAdd, Nat.reduceSub, Nat.zero_add, exEq, wCop, wIx, wTru, bif_len, bif_abs, bif_int, bif_isi, bif_tuple, bif_list, bif_sum, bif_all, bif_any, bif_min2, bif_max2, bif_minl, bif_maxl, bop_add_i, bop_add_t, bop_add_l, bop_sub, bop_mul_i, bop_fdiv, bop_mod, bop_pow, aug_add, aug_sub, aug_mul, setAll, wipeT, List.set, tru_bl, tru_non, tru_int, tru_tup, if_true, if_false, Bool.false_eq_true, Bool.not_true, Bool.not_false, seqM_tup, ix_tup, len_tup, atI_0, atI_1, atI_2, atI_3, atI_4, Option.some.injEq, exists_eq_left', eq_int, cmp_lt, cmp_le, cmp_gt, cmp_ge, cmp_eq, cmp_ne, cmp_is, cmp_isn, cmp_in, cmp_nin, Option.map, is_nn, is_in, is_tn, tyn_int, tyn_str, tyn_tup, Int.cast_ofNat_Int, Int.reduceLT, Int.reduceLE, Int.reduceAdd, Int.reduceMul, Int.reduceSub, BEq.rfl, decide_true, decide_false, Int.reduceBEq, hm_ix, hm_sti ix52, hm_sti ix53]
      refine ⟨.inl (.inr ⟨by decide, by decide⟩), trivial, ⟨trivial, trivial, by decide⟩, ?_⟩
      by_cases c3 : (10 : Int) ^ (18 : Int).toNat ≤ h.cells[i.toNat]
      · rw [decide_eq_true c3]
        simp only [wSs, wS, wE, wEs, wO, wB, wBo, wI, wTg, gs, startT, List.map_cons, List.map_nil, List.length_cons, List.length_nil, List.cons_append, List.nil_append, List.replicate, Nat.reduceAdd, Nat.reduceSub, Nat.zero_add, exEq, wCop, wIx, wTru, bif_len, bif_abs, bif_int, bif_isi, bif_tuple, bif_list, bif_sum, bif_all, bif_any, bif_min2, bif_max2, bif_minl, bif_maxl, bop_add_i, bop_add_t, bop_add_l, bop_sub, bop_mul_i, bop_fdiv, bop_mod, bop_pow, aug_add, aug_sub, aug_mul, setAll, wipeT, List.set, tru_bl, tru_non, tru_int, tru_tup, if_true, if_false, Bool.false_eq_true, Bool.not_true, Bool.not_false, seqM_tup, ix_tup, len_tup, atI_0, atI_1, atI_2, atI_3, atI_4, Option.some.injEq, exists_eq_left', eq_int, cmp_lt, cmp_le, cmp_gt, cmp_ge, cmp_eq, cmp_ne, cmp_is, cmp_isn, cmp_in, cmp_nin, Option.map, is_nn, is_in, is_tn, tyn_int, tyn_str, tyn_tup, Int.cast_ofNat_Int, Int.reduceLT, Int.reduceLE, Int.reduceAdd, Int.reduceMul, Int.reduceSub, BEq.rfl, decide_true, decide_false, Int.reduceBEq]
        exact tail _ _ _ _ _ _ _ (by omega) hp
      · rw [decide_eq_false c3]
        simp only [wSs, wS, wE, wEs, wO, wB, wBo, wI, wTg, gs, startT, List.map_cons, List.map_nil, List.length_cons, List.length_nil, List.cons_append, List.nil_append, List.replicate, Nat.reduceAdd, Nat.reduceSub, Nat.zero_add, exEq, wCop, wIx, wTru, bif_len, bif_abs, bif_int, bif_isi, bif_tuple, bif_list, bif_sum, bif_all, bif_any, bif_min2, bif_max2, bif_minl, bif_maxl, bop_add_i, bop_add_t, bop_add_l, bop_sub, bop_mul_i, bop_fdiv, bop_mod, bop_pow, aug_add, aug_sub, aug_mul, setAll, wipeT, List.set, tru_bl, tru_non, tru_int, tru_tup, if_true, if_false, Bool.false_eq_true, Bool.not_true, Bool.not_false, seqM_tup, ix_tup, len_tup, atI_0, atI_1, atI_2, atI_3, atI_4, Option.some.injEq, exists_eq_left', eq_int, cmp_lt, cmp_le, cmp_gt, cmp_ge, cmp_eq, cmp_ne, cmp_is, cmp_isn, cmp_in, cmp_nin, Option.map, is_nn, is_in, is_tn, tyn_int, tyn_str, tyn_tup, Int.cast_ofNat_Int, Int.reduceLT, Int.reduceLE, Int.reduceAdd, Int.reduceMul, Int.reduceSub, BEq.rfl, decide_true, decide_false, Int.reduceBEq]
        exact tail _ _ _ _ _ _ _ (by omega) (Int.le_refl _)
    · rw [decide_eq_false c2]
      simp only [wSs, wS, wE, wEs, wO, wB, wBo, wI, wTg, gs, startT, List.map_cons, List.map_nil, List.length_cons, List.length_nil, List.cons_append, List.nil_append, List.replicate, Nat.reduceAdd, Nat.reduceSub, Nat.zero_add, exEq, wCop, wIx, wTru, bif_len, bif_abs, bif_int, bif_isi, bif_tuple, bif_list, bif_sum, bif_all, bif_any, bif_min2, bif_max2, bif_minl, bif_maxl, bop_add_i, bop_add_t, bop_add_l, bop_sub, bop_mul_i, bop_fdiv, bop_mod, bop_pow, aug_add, aug_sub, aug_mul, setAll, wipeT, List.set, tru_bl, tru_non, tru_int, tru_tup, if_true, if_false, Bool.false_eq_true, Bool.not_true, Bool.not_false, seqM_tup, ix_tup, len_tup, atI_0, atI_1, atI_2, atI_3, atI_4, Option.some.injEq, exists_eq_left', eq_int, cmp_lt, cmp_le, cmp_gt, cmp_ge, cmp_eq, cmp_ne, cmp_is, cmp_isn, cmp_in, cmp_nin, Option.map, is_nn, is_in, is_tn, tyn_int, tyn_str, tyn_tup, Int.cast_ofNat_Int, Int.reduceLT, Int.reduceLE, Int.reduceAdd, Int.reduceMul, Int.reduceSub, BEq.rfl, decide_true, decide_false, Int.reduceBEq]
      exact tail _ _ _ _ _ _ _ i0 (Int.le_refl _)
  · have : (h2 == 0) = false := by simpa using c
    rw [this]
    simp only [wSs, wS, wE, wEs, wO, wB, wBo, wI, wTg, gs, startT, List.map_cons, List.map_nil, List.length_cons, List.length_nil, List.cons_append, List.nil_append, List.replicate, Nat.reduceAdd, Nat.reduceSub, Nat.zero_add, exEq, wCop, wIx, wTru, bif_len, bif_abs, bif_int, bif_isi, bif_tuple, bif_list, bif_sum, bif_all, bif_any, bif_min2, bif_max2, bif_minl, bif_maxl, bop_add_i, bop_add_t, bop_add_l, bop_sub, bop_mul_i, bop_fdiv, bop_mod, bop_pow, aug_add, aug_sub, aug_mul, setAll, wipeT, List.set, tru_bl, tru_non, tru_int, tru_tup, if_true, if_false, Bool.false_eq_true, Bool.not_true, Bool.not_false, seqM_tup, ix_tup, len_tup, atI_0, atI_1, atI_2, atI_3, atI_4, Option.some.injEq, exists_eq_left', eq_int, cmp_lt, cmp_le, cmp_gt, cmp_ge, cmp_eq, cmp_ne, cmp_is, cmp_isn, cmp_in, cmp_nin, Option.map, is_nn, is_in, is_tn, tyn_int, tyn_str, tyn_tup, Int.cast_ofNat_Int, Int.reduceLT, Int.reduceLE, Int.reduceAdd, Int.reduceMul, Int.reduceSub, BEq.rfl, decide_true, decide_false, Int.reduceBEq]
    exact tail _ _ _ _ _ _ _ i0 h0
theorem h__law_draw {G : Gx} (F : Facts G) : HeldT G 1 (adr G "_law_draw") s__law_draw :=
  F.d__law_draw.held (k := 0) sc__law_draw ck__law_draw (ok__law_draw F) nF (fun xs M Q R ⟨x, _, e, _⟩ => by rw [e]; rfl) v__law_draw
end TL

/-! VcE: the law's draws of places and plans. -/
namespace TL
open PySem PySem.Spec PyProof.Rows L2
theorem Hd.ls {h : Hn} {M M' : TM} {t : Addr} {ys : List TV} (k : Hd h M M') (n : t ≠ h.a) (e : lsM M t = some ys) : lsM M' t = some ys := by
  unfold lsM at e ⊢
  rw [k.2 t n]
  exact e
def s__law_some : TSp := fun xs M Q _ => ∃ (h : Hn) (t : Addr) (ys : List TV), xs = [.ref h.a, .ref t] ∧ lsM M t = some ys ∧ 0 < ys.length ∧ ys.length ≤ 1000 ∧ t ≠ h.a ∧ HandOk M h ∧ ∀ y M', y ∈ ys → Hd h M M' → Q y M'
theorem v__law_some {G : Gx} : ∀ xs M Q R, s__law_some xs M Q R → wSs noF (b__law_some G s__law_draw) (endsT Q R) (startT n__law_some xs) M := by
  rintro xs M Q R ⟨h, t, ys, rfl, e, l0, l1, ne, ok, q⟩
  unfold b__law_some
  simp only [wSs, wS, wE, wEs, wO, wB, wBo, wI, wTg, gs, startT, List.map_cons, List.map_nil, List.length_cons, List.length_nil, List.cons_append, List.nil_append, List.replicate, Nat.reduceAdd, Nat.reduceSub, Nat.zero_add, exEq, wCop, wIx, wTru, bif_len, bif_abs, bif_int, bif_isi, bif_tuple, bif_list, bif_sum, bif_all, bif_any, bif_min2, bif_max2, bif_minl, bif_maxl, bop_add_i, bop_add_t, bop_add_l, bop_sub, bop_mul_i, bop_fdiv, bop_mod, bop_pow, aug_add, aug_sub, aug_mul, setAll, tailS, wipeT, List.set, tru_bl, tru_non, tru_int, tru_tup, if_true, if_false, Bool.false_eq_true, Bool.not_true, Bool.not_false, seqM_tup, ix_tup, len_tup, atI_0, atI_1, atI_2, atI_3, atI_4, Option.some.injEq, exists_eq_left', eq_int, cmp_lt, cmp_le, cmp_gt, cmp_ge, cmp_eq, cmp_ne, cmp_is, cmp_isn, cmp_in, cmp_nin, Option.map, is_nn, is_in, is_tn, tyn_int, tyn_str, tyn_tup, Int.cast_ofNat_Int, Int.reduceLT, Int.reduceLE, Int.reduceAdd, Int.reduceMul, Int.reduceSub, BEq.rfl, decide_true, decide_false, Int.reduceBEq]
  refine ⟨_, len_lst e, h, _, rfl, by omega, by omega, ok, fun v M' v0 v1 hd => ?_⟩
  obtain ⟨n, rfl⟩ := Int.eq_ofNat_of_zero_le v0
  have hn : n < ys.length := by omega
  refine ⟨ys[n], (ix_lst (hd.ls ne e) _).trans (atI_nat (List.getElem?_eq_getElem hn)), rtF (.refl _) (q _ _ (List.getElem_mem hn) hd)⟩
theorem h__law_some {G : Gx} (F : Facts G) : HeldT G 2 (adr G "_law_some") s__law_some :=
  F.d__law_some.held (k := 1) sc__law_some ck__law_some (ok__law_some F (h__law_draw F)) nF (fun xs M Q R ⟨_, _, x, e, _⟩ => by rw [e]; rfl) v__law_some
def s__law_place : TSp := fun xs M Q _ => ∃ (h : Hn) (m : Int), xs = [.ref h.a, .int m] ∧ 0 ≤ m ∧ m < 1000000000000 ∧ HandOk M h ∧ ∀ l w M', (Pl.place l w).ok → Hd h M M' → Q (.tup [.int l, .int w]) M'
theorem v__law_place {G : Gx} : ∀ xs M Q R, s__law_place xs M Q R → wSs noF (b__law_place G s__law_some s__law_draw) (endsT Q R) (startT n__law_place xs) M := by
  rintro xs M Q R ⟨h, m, rfl, m0, m1, ok, q⟩
  unfold b__law_place
  simp only [wSs, wS, wE, wEs, wO, wB, wBo, wI, wTg, gs, startT, List.map_cons, List.map_nil, List.length_cons, List.length_nil, List.cons_append, List.nil_append, List.replicate, Nat.reduceAdd, Nat.reduceSub, Nat.zero_add, exEq, wCop, wIx, wTru, bif_len, bif_abs, bif_int, bif_isi, bif_tuple, bif_list, bif_sum, bif_all, bif_any, bif_min2, bif_max2, bif_minl, bif_maxl, bop_add_i, bop_add_t, bop_add_l, bop_sub, bop_mul_i, bop_fdiv, bop_mod, bop_pow, aug_add, aug_sub, aug_mul, setAll, tailS, wipeT, List.set, tru_bl, tru_non, tru_int, tru_tup, if_true, if_false, Bool.false_eq_true, Bool.not_true, Bool.not_false, seqM_tup, ix_tup, len_tup, atI_0, atI_1, atI_2, atI_3, atI_4, Option.some.injEq, exists_eq_left', eq_int, cmp_lt, cmp_le, cmp_gt, cmp_ge, cmp_eq, cmp_ne, cmp_is, cmp_isn, cmp_in, cmp_nin, Option.map, is_nn, is_in, is_tn, tyn_int, tyn_str, tyn_tup, Int.cast_ofNat_Int, Int.reduceLT, Int.reduceLE, Int.reduceAdd, Int.reduceMul, Int.reduceSub, BEq.rfl, decide_true, decide_false, Int.reduceBEq]
  refine ⟨h, _, rfl, by omega, by omega, ok, fun l M1 l0 l1 d1 => ⟨h, _, rfl, by omega, by omega, d1.1, fun w M2 w0 w1 d2 => ⟨h, _, rfl, by decide, by decide, d2.1, fun s M3 s0 s1 d3 => ?_⟩⟩⟩
  have d13 := (d1.trans d2).trans d3
  have x13 : Xt h M M3 := (Xt.refl ok).hd d13
  have tail : ∀ l : Int, 0 ≤ l → l < m + 1 → wSs noF (tailS (tailS (b__law_place G s__law_some s__law_draw))) (endsT Q R) [some (.ref h.a), some (.int m), some (.int l), some (.int w)] M3 := by
    intro l l0 l1
    unfold b__law_place
    simp only [wSs, wS, wE, wEs, wO, wB, wBo, wI, wTg, gs, startT, List.map_cons, List.map_nil, List.length_cons, List.length_nil, List.cons_append, List.nil_append, List.replicate, Nat.reduceAdd, Nat.reduceSub, Nat.zero_add, exEq, wCop, wIx, wTru, bif_len, bif_abs, bif_int, bif_isi, bif_tuple, bif_list, bif_sum, bif_all, bif_any, bif_min2, bif_max2, bif_minl, bif_maxl, bop_add_i, bop_add_t, bop_add_l, bop_sub, bop_mul_i, bop_fdiv, bop_mod, bop_pow, aug_add, aug_sub, aug_mul, setAll, tailS, wipeT, List.set, tru_bl, tru_non, tru_int, tru_tup, if_true, if_false, Bool.false_eq_true, Bool.not_true, Bool.not_false, seqM_tup, ix_tup, len_tup, atI_0, atI_1, atI_2, atI_3, atI_4, Option.some.injEq, exists_eq_left', eq_int, cmp_lt, cmp_le, cmp_gt, cmp_ge, cmp_eq, cmp_ne, cmp_is, cmp_isn, cmp_in, cmp_nin, Option.map, is_nn, is_in, is_tn, tyn_int, tyn_str, tyn_tup, Int.cast_ofNat_Int, Int.reduceLT, Int.reduceLE, Int.reduceAdd, Int.reduceMul, Int.reduceSub, BEq.rfl, decide_true, decide_false, Int.reduceBEq]
    have last : ¬ (l = 0 ∧ w = 0) → (endsT Q R).rt (.tup [.int l, .int w]) M3 := fun n => rtF (.refl _) (q l w M3 ⟨l0, by omega, w0, by omega, n⟩ d13)
    by_cases c : l = 0
    · subst c
      simp only [wSs, wS, wE, wEs, wO, wB, wBo, wI, wTg, gs, startT, List.map_cons, List.map_nil, List.length_cons, List.length_nil, List.cons_append, List.nil_append, List.replicate, Nat.reduceAdd, Nat.reduceSub, Nat.zero_add, exEq, wCop, wIx, wTru, bif_len, bif_abs, bif_int, bif_isi, bif_tuple, bif_list, bif_sum, bif_all, bif_any, bif_min2, bif_max2, bif_minl, bif_maxl, bop_add_i, bop_add_t, bop_add_l, bop_sub, bop_mul_i, bop_fdiv, bop_mod, bop_pow, aug_add, aug_sub, aug_mul, setAll, tailS, wipeT, List.set, tru_bl, tru_non, tru_int, tru_tup, if_true, if_false, Bool.false_eq_true, Bool.not_true, Bool.not_false, seqM_tup, ix_tup, len_tup, atI_0, atI_1, atI_2, atI_3, atI_4, Option.some.injEq, exists_eq_left', eq_int, cmp_lt, cmp_le, cmp_gt, cmp_ge, cmp_eq, cmp_ne, cmp_is, cmp_isn, cmp_in, cmp_nin, Option.map, is_nn, is_in, is_tn, tyn_int, tyn_str, tyn_tup, Int.cast_ofNat_Int, Int.reduceLT, Int.reduceLE, Int.reduceAdd, Int.reduceMul, Int.reduceSub, BEq.rfl, decide_true, decide_false, Int.reduceBEq]
      by_cases c2 : w = 0
      · subst c2
        simp only [wSs, wS, wE, wEs, wO, wB, wBo, wI, wTg, gs, startT, List.map_cons, List.map_nil, List.length_cons, List.length_nil, List.cons_append, List.nil_append, List.replicate, Nat.reduceAdd, Nat.reduceSub, Nat.zero_add, exEq, wCop, wIx, wTru, bif_len, bif_abs, bif_int, bif_isi, bif_tuple, bif_list, bif_sum, bif_all, bif_any, bif_min2, bif_max2, bif_minl, bif_maxl, bop_add_i, bop_add_t, bop_add_l, bop_sub, bop_mul_i, bop_fdiv, bop_mod, bop_pow, aug_add, aug_sub, aug_mul, setAll, tailS, wipeT, List.set, tru_bl, tru_non, tru_int, tru_tup, if_true, if_false, Bool.false_eq_true, Bool.not_true, Bool.not_false, seqM_tup, ix_tup, len_tup, atI_0, atI_1, atI_2, atI_3, atI_4, Option.some.injEq, exists_eq_left', eq_int, cmp_lt, cmp_le, cmp_gt, cmp_ge, cmp_eq, cmp_ne, cmp_is, cmp_isn, cmp_in, cmp_nin, Option.map, is_nn, is_in, is_tn, tyn_int, tyn_str, tyn_tup, Int.cast_ofNat_Int, Int.reduceLT, Int.reduceLE, Int.reduceAdd, Int.reduceMul, Int.reduceSub, BEq.rfl, decide_true, decide_false, Int.reduceBEq]
        intro t ht
        have ht3 := d3.1.ne ht
        refine ⟨h, t, _, rfl, lsM_upd, by decide, by decide, ht3, (d3.1.sub (Subm.new (.refl _) ht)), fun y M4 hy d4 => rtH ((x13.new ht).hd d4) fun M5 d5 => ?_⟩
        simp only [List.mem_cons, List.not_mem_nil, or_false] at hy
        rcases hy with rfl | rfl | rfl
        · exact q 0 1 M5 ⟨by decide, by decide, by decide, by decide, by decide⟩ d5
        · exact q 1 0 M5 ⟨by decide, by decide, by decide, by decide, by decide⟩ d5
        · exact q 1 1 M5 ⟨by decide, by decide, by decide, by decide, by decide⟩ d5
      · have : (w == 0) = false := by simpa using c2
        simp only [wSs, wS, wE, wEs, wO, wB, wBo, wI, wTg, gs, startT, List.map_cons, List.map_nil, List.length_cons, List.length_nil, List.cons_append, List.nil_append, List.replicate, Nat.reduceAdd, Nat.reduceSub, Nat.zero_add, exEq, wCop, wIx, wTru, bif_len, bif_abs, bif_int, bif_isi, bif_tuple, bif_list, bif_sum, bif_all, bif_any, bif_min2, bif_max2, bif_minl, bif_maxl, bop_add_i, bop_add_t, bop_add_l, bop_sub, bop_mul_i, bop_fdiv, bop_mod, bop_pow, aug_add, aug_sub, aug_mul, setAll, tailS, wipeT, List.set, tru_bl, tru_non, tru_int, tru_tup, if_true, if_false, Bool.false_eq_true, Bool.not_true, Bool.not_false, seqM_tup, ix_tup, len_tup, atI_0, atI_1, atI_2, atI_3, atI_4, Option.some.injEq, exists_eq_left', eq_int, cmp_lt, cmp_le, cmp_gt, cmp_ge, cmp_eq, cmp_ne, cmp_is, cmp_isn, cmp_in, cmp_nin, Option.map, is_nn, is_in, is_tn, tyn_int, tyn_str, tyn_tup, Int.cast_ofNat_Int, Int.reduceLT, Int.reduceLE, Int.reduceAdd, Int.reduceMul, Int.reduceSub, BEq.rfl, decide_true, decide_false, Int.reduceBEq, this]
        exact last fun z => c2 z.2
    · have : (l == 0) = false := by simpa using c
      simp only [wSs, wS, wE, wEs, wO, wB, wBo, wI, wTg, gs, startT, List.map_cons, List.map_nil, List.length_cons, List.length_nil, List.cons_append, List.nil_append, List.replicate, Nat.reduceAdd, Nat.reduceSub, Nat.zero_add, exEq, wCop, wIx, wTru, bif_len, bif_abs, bif_int, bif_isi, bif_tuple, bif_list, bif_sum, bif_all, bif_any, bif_min2, bif_max2, bif_minl, bif_maxl, bop_add_i, bop_add_t, bop_add_l, bop_sub, bop_mul_i, bop_fdiv, bop_mod, bop_pow, aug_add, aug_sub, aug_mul, setAll, tailS, wipeT, List.set, tru_bl, tru_non, tru_int, tru_tup, if_true, if_false, Bool.false_eq_true, Bool.not_true, Bool.not_false, seqM_tup, ix_tup, len_tup, atI_0, atI_1, atI_2, atI_3, atI_4, Option.some.injEq, exists_eq_left', eq_int, cmp_lt, cmp_le, cmp_gt, cmp_ge, cmp_eq, cmp_ne, cmp_is, cmp_isn, cmp_in, cmp_nin, Option.map, is_nn, is_in, is_tn, tyn_int, tyn_str, tyn_tup, Int.cast_ofNat_Int, Int.reduceLT, Int.reduceLE, Int.reduceAdd, Int.reduceMul, Int.reduceSub, BEq.rfl, decide_true, decide_false, Int.reduceBEq, this]
      exact last fun z => c z.1
  by_cases c : s = 0
  · subst c
    have := tail 0 (Int.le_refl _) (by omega)
    unfold b__law_place at this
    simp only [wSs, wS, wE, wEs, wO, wB, wBo, wI, wTg, gs, startT, List.map_cons, List.map_nil, List.length_cons, List.length_nil, List.cons_append, List.nil_append, List.replicate, Nat.reduceAdd, Nat.reduceSub, Nat.zero_add, exEq, wCop, wIx, wTru, bif_len, bif_abs, bif_int, bif_isi, bif_tuple, bif_list, bif_sum, bif_all, bif_any, bif_min2, bif_max2, bif_minl, bif_maxl, bop_add_i, bop_add_t, bop_add_l, bop_sub, bop_mul_i, bop_fdiv, bop_mod, bop_pow, aug_add, aug_sub, aug_mul, setAll, tailS, wipeT, List.set, tru_bl, tru_non, tru_int, tru_tup, if_true, if_false, Bool.false_eq_true, Bool.not_true, Bool.not_false, seqM_tup, ix_tup, len_tup, atI_0, atI_1, atI_2, atI_3, atI_4, Option.some.injEq, exists_eq_left', eq_int, cmp_lt, cmp_le, cmp_gt, cmp_ge, cmp_eq, cmp_ne, cmp_is, cmp_isn, cmp_in, cmp_nin, Option.map, is_nn, is_in, is_tn, tyn_int, tyn_str, tyn_tup, Int.cast_ofNat_Int, Int.reduceLT, Int.reduceLE, Int.reduceAdd, Int.reduceMul, Int.reduceSub, BEq.rfl, decide_true, decide_false, Int.reduceBEq] at this
    simp only [wSs, wS, wE, wEs, wO, wB, wBo, wI, wTg, gs, startT, List.map_cons, List.map_nil, List.length_cons, List.length_nil, List.cons_append, List.nil_append, List.replicate, Nat.reduceAdd, Nat.reduceSub, Nat.zero_add, exEq, wCop, wIx, wTru, bif_len, bif_abs, bif_int, bif_isi, bif_tuple, bif_list, bif_sum, bif_all, bif_any, bif_min2, bif_max2, bif_minl, bif_maxl, bop_add_i, bop_add_t, bop_add_l, bop_sub, bop_mul_i, bop_fdiv, bop_mod, bop_pow, aug_add, aug_sub, aug_mul, setAll, tailS, wipeT, List.set, tru_bl, tru_non, tru_int, tru_tup, if_true, if_false, Bool.false_eq_true, Bool.not_true, Bool.not_false, seqM_tup, ix_tup, len_tup, atI_0, atI_1, atI_2, atI_3, atI_4, Option.some.injEq, exists_eq_left', eq_int, cmp_lt, cmp_le, cmp_gt, cmp_ge, cmp_eq, cmp_ne, cmp_is, cmp_isn, cmp_in, cmp_nin, Option.map, is_nn, is_in, is_tn, tyn_int, tyn_str, tyn_tup, Int.cast_ofNat_Int, Int.reduceLT, Int.reduceLE, Int.reduceAdd, Int.reduceMul, Int.reduceSub, BEq.rfl, decide_true, decide_false, Int.reduceBEq]
    exact this
  · have e : (s == 0) = false := by simpa using c
    have := tail l l0 l1
    unfold b__law_place at this
    simp only [wSs, wS, wE, wEs, wO, wB, wBo, wI, wTg, gs, startT, List.map_cons, List.map_nil, List.length_cons, List.length_nil, List.cons_append, List.nil_append, List.replicate, Nat.reduceAdd, Nat.reduceSub, Nat.zero_add, exEq, wCop, wIx, wTru, bif_len, bif_abs, bif_int, bif_isi, bif_tuple, bif_list, bif_sum, bif_all, bif_any, bif_min2, bif_max2, bif_minl, bif_maxl, bop_add_i, bop_add_t, bop_add_l, bop_sub, bop_mul_i, bop_fdiv, bop_mod, bop_pow, aug_add, aug_sub, aug_mul, setAll, tailS, wipeT, List.set, tru_bl, tru_non, tru_int, tru_tup, if_true, if_false, Bool.false_eq_true, Bool.not_true, Bool.not_false, seqM_tup, ix_tup, len_tup, atI_0, atI_1, atI_2, atI_3, atI_4, Option.some.injEq, exists_eq_left', eq_int, cmp_lt, cmp_le, cmp_gt, cmp_ge, cmp_eq, cmp_ne, cmp_is, cmp_isn, cmp_in, cmp_nin, Option.map, is_nn, is_in, is_tn, tyn_int, tyn_str, tyn_tup, Int.cast_ofNat_Int, Int.reduceLT, Int.reduceLE, Int.reduceAdd, Int.reduceMul, Int.reduceSub, BEq.rfl, decide_true, decide_false, Int.reduceBEq] at this
    simp only [wSs, wS, wE, wEs, wO, wB, wBo, wI, wTg, gs, startT, List.map_cons, List.map_nil, List.length_cons, List.length_nil, List.cons_append, List.nil_append, List.replicate, Nat.reduceAdd, Nat.reduceSub, Nat.zero_add, exEq, wCop, wIx, wTru, bif_len, bif_abs, bif_int, bif_isi, bif_tuple, bif_list, bif_sum, bif_all, bif_any, bif_min2, bif_max2, bif_minl, bif_maxl, bop_add_i, bop_add_t, bop_add_l, bop_sub, bop_mul_i, bop_fdiv, bop_mod, bop_pow, aug_add, aug_sub, aug_mul, setAll, tailS, wipeT, List.set, tru_bl, tru_non, tru_int, tru_tup, if_true, if_false, Bool.false_eq_true, Bool.not_true, Bool.not_false, seqM_tup, ix_tup, len_tup, atI_0, atI_1, atI_2, atI_3, atI_4, Option.some.injEq, exists_eq_left', eq_int, cmp_lt, cmp_le, cmp_gt, cmp_ge, cmp_eq, cmp_ne, cmp_is, cmp_isn, cmp_in, cmp_nin, Option.map, is_nn, is_in, is_tn, tyn_int, tyn_str, tyn_tup, Int.cast_ofNat_Int, Int.reduceLT, Int.reduceLE, Int.reduceAdd, Int.reduceMul, Int.reduceSub, BEq.rfl, decide_true, decide_false, Int.reduceBEq, e]
    exact this
theorem h__law_place {G : Gx} (F : Facts G) : HeldT G 3 (adr G "_law_place") s__law_place :=
  F.d__law_place.held (k := 2) sc__law_place ck__law_place (ok__law_place F (h__law_some F) ((h__law_draw F).mono (by decide))) nF (fun xs M Q R ⟨_, x, e, _⟩ => by rw [e]; rfl) v__law_place
/-! the law's own counts -/
theorem in_joinR {M : TM} (c : Bool) : inF M (.str (wRep c)) (.tup [.str "row", .str "beside"]) = some false := by cases c <;> rfl
def s__law_count (d : Nat) : TSp := s_places_of d
theorem v__law_count {G : Gx} : ∀ d xs M Q R, s__law_count d xs M Q R → wSs noF (b__law_count G (prevS s__law_count d)) (endsT Q R) (startT n__law_count xs) M := by
  rintro d xs M Q R ⟨p, rfl, ok, hd, hz, q⟩
  unfold b__law_count
  cases p with
  | place l w =>
    simp only [Pl.tv]
    simp only [wSs, wS, wE, wEs, wO, wB, wBo, wI, wTg, gs, startT, List.map_cons, List.map_nil, List.length_cons, List.length_nil, List.cons_append, List.nil_append, List.replicate, Nat.reduceAdd, Nat.reduceSub, Nat.zero_add, exEq, wCop, wIx, wTru, bif_len, bif_abs, bif_int, bif_isi, bif_tuple, bif_list, bif_sum, bif_all, bif_any, bif_min2, bif_max2, bif_minl, bif_maxl, bop_add_i, bop_add_t, bop_add_l, bop_sub, bop_mul_i, bop_fdiv, bop_mod, bop_pow, aug_add, aug_sub, aug_mul, setAll, tailS, wipeT, List.set, tru_bl, tru_non, tru_int, tru_tup, if_true, if_false, Bool.false_eq_true, Bool.not_true, Bool.not_false, seqM_tup, ix_tup, len_tup, atI_0, atI_1, atI_2, atI_3, atI_4, Option.some.injEq, exists_eq_left', eq_int, cmp_lt, cmp_le, cmp_gt, cmp_ge, cmp_eq, cmp_ne, cmp_is, cmp_isn, cmp_in, cmp_nin, Option.map, is_nn, is_in, is_tn, tyn_int, tyn_str, tyn_tup, Int.cast_ofNat_Int, Int.reduceLT, Int.reduceLE, Int.reduceAdd, Int.reduceMul, Int.reduceSub, BEq.rfl, decide_true, decide_false, Int.reduceBEq, isi_int, kit_int_int]
    exact rtF (.refl _) q
  | rep c i p =>
    cases d with
    | zero => exact absurd hd (by simp [Pl.dep])
    | succ d =>
    simp only [Pl.tv]
    simp only [Pl.dep, Pl.size] at hd hz
    simp only [wSs, wS, wE, wEs, wO, wB, wBo, wI, wTg, gs, startT, List.map_cons, List.map_nil, List.length_cons, List.length_nil, List.cons_append, List.nil_append, List.replicate, Nat.reduceAdd, Nat.reduceSub, Nat.zero_add, exEq, wCop, wIx, wTru, bif_len, bif_abs, bif_int, bif_isi, bif_tuple, bif_list, bif_sum, bif_all, bif_any, bif_min2, bif_max2, bif_minl, bif_maxl, bop_add_i, bop_add_t, bop_add_l, bop_sub, bop_mul_i, bop_fdiv, bop_mod, bop_pow, aug_add, aug_sub, aug_mul, setAll, tailS, wipeT, List.set, tru_bl, tru_non, tru_int, tru_tup, if_true, if_false, Bool.false_eq_true, Bool.not_true, Bool.not_false, seqM_tup, ix_tup, len_tup, atI_0, atI_1, atI_2, atI_3, atI_4, Option.some.injEq, exists_eq_left', eq_int, cmp_lt, cmp_le, cmp_gt, cmp_ge, cmp_eq, cmp_ne, cmp_is, cmp_isn, cmp_in, cmp_nin, Option.map, is_nn, is_in, is_tn, tyn_int, tyn_str, tyn_tup, Int.cast_ofNat_Int, Int.reduceLT, Int.reduceLE, Int.reduceAdd, Int.reduceMul, Int.reduceSub, BEq.rfl, decide_true, decide_false, Int.reduceBEq, isi_str, kit_str_int, in_joinR]
    refine ⟨p, rfl, ok.2.2, by omega, by omega, ?_⟩
    simp only [wSs, wS, wE, wEs, wO, wB, wBo, wI, wTg, gs, startT, List.map_cons, List.map_nil, List.length_cons, List.length_nil, List.cons_append, List.nil_append, List.replicate, Nat.reduceAdd, Nat.reduceSub, Nat.zero_add, exEq, wCop, wIx, wTru, bif_len, bif_abs, bif_int, bif_isi, bif_tuple, bif_list, bif_sum, bif_all, bif_any, bif_min2, bif_max2, bif_minl, bif_maxl, bop_add_i, bop_add_t, bop_add_l, bop_sub, bop_mul_i, bop_fdiv, bop_mod, bop_pow, aug_add, aug_sub, aug_mul, setAll, tailS, wipeT, List.set, tru_bl, tru_non, tru_int, tru_tup, if_true, if_false, Bool.false_eq_true, Bool.not_true, Bool.not_false, seqM_tup, ix_tup, len_tup, atI_0, atI_1, atI_2, atI_3, atI_4, Option.some.injEq, exists_eq_left', eq_int, cmp_lt, cmp_le, cmp_gt, cmp_ge, cmp_eq, cmp_ne, cmp_is, cmp_isn, cmp_in, cmp_nin, Option.map, is_nn, is_in, is_tn, tyn_int, tyn_str, tyn_tup, Int.cast_ofNat_Int, Int.reduceLT, Int.reduceLE, Int.reduceAdd, Int.reduceMul, Int.reduceSub, BEq.rfl, decide_true, decide_false, Int.reduceBEq]
    exact ⟨.inr (mul_fits f_cnt ok.2.2 (by omega) ok.1 ok.2.1), rtF (.refl _) q⟩
  | join r ps =>
    cases d with
    | zero => exact absurd hd (by simp [Pl.dep])
    | succ d =>
    simp only [Pl.tv]
    simp only [Pl.dep, Pl.size] at hd hz
    simp only [wSs, wS, wE, wEs, wO, wB, wBo, wI, wTg, gs, startT, List.map_cons, List.map_nil, List.length_cons, List.length_nil, List.cons_append, List.nil_append, List.replicate, Nat.reduceAdd, Nat.reduceSub, Nat.zero_add, exEq, wCop, wIx, wTru, bif_len, bif_abs, bif_int, bif_isi, bif_tuple, bif_list, bif_sum, bif_all, bif_any, bif_min2, bif_max2, bif_minl, bif_maxl, bop_add_i, bop_add_t, bop_add_l, bop_sub, bop_mul_i, bop_fdiv, bop_mod, bop_pow, aug_add, aug_sub, aug_mul, setAll, tailS, wipeT, List.set, tru_bl, tru_non, tru_int, tru_tup, if_true, if_false, Bool.false_eq_true, Bool.not_true, Bool.not_false, seqM_tup, ix_tup, len_tup, atI_0, atI_1, atI_2, atI_3, atI_4, Option.some.injEq, exists_eq_left', eq_int, cmp_lt, cmp_le, cmp_gt, cmp_ge, cmp_eq, cmp_ne, cmp_is, cmp_isn, cmp_in, cmp_nin, Option.map, is_nn, is_in, is_tn, tyn_int, tyn_str, tyn_tup, Int.cast_ofNat_Int, Int.reduceLT, Int.reduceLE, Int.reduceAdd, Int.reduceMul, Int.reduceSub, BEq.rfl, decide_true, decide_false, Int.reduceBEq, isi_str, kit_str_int, in_join]
    refine lcL_pls (fun p => .int p.cnt) (fun p => p.ok ∧ p.dep ≤ d ∧ p.size ≤ 150) (.refl M) (fun _ _ => trivial) ?_ (ps.all_of (fun q a b c d => ⟨d ok.2.2, by omega, by omega⟩)) ?_
    · rintro p ⟨a, b, c⟩ acc M1 k s hk
      exact ⟨p, rfl, a, b, c, hk _ (.refl _)⟩
    · intro M' s p hp
      simp only [wSs, wS, wE, wEs, wO, wB, wBo, wI, wTg, gs, startT, List.map_cons, List.map_nil, List.length_cons, List.length_nil, List.cons_append, List.nil_append, List.replicate, Nat.reduceAdd, Nat.reduceSub, Nat.zero_add, exEq, wCop, wIx, wTru, bif_len, bif_abs, bif_int, bif_isi, bif_tuple, bif_list, bif_sum, bif_all, bif_any, bif_min2, bif_max2, bif_minl, bif_maxl, bop_add_i, bop_add_t, bop_add_l, bop_sub, bop_mul_i, bop_fdiv, bop_mod, bop_pow, aug_add, aug_sub, aug_mul, setAll, tailS, wipeT, List.set, tru_bl, tru_non, tru_int, tru_tup, if_true, if_false, Bool.false_eq_true, Bool.not_true, Bool.not_false, seqM_tup, ix_tup, len_tup, atI_0, atI_1, atI_2, atI_3, atI_4, Option.some.injEq, exists_eq_left', eq_int, cmp_lt, cmp_le, cmp_gt, cmp_ge, cmp_eq, cmp_ne, cmp_is, cmp_isn, cmp_in, cmp_nin, Option.map, is_nn, is_in, is_tn, tyn_int, tyn_str, tyn_tup, Int.cast_ofNat_Int, Int.reduceLT, Int.reduceLE, Int.reduceAdd, Int.reduceMul, Int.reduceSub, BEq.rfl, decide_true, decide_false, Int.reduceBEq, List.nil_append]
      refine ⟨_, _, lsM_upd, allI_map' _ ps, ?_⟩
      rw [Pls.ints_sum]
      exact rtF (s.new hp) q
theorem h__law_count {G : Gx} (F : Facts G) (d : Nat) : HeldT G (1 + d) (adr G "_law_count") (s__law_count d) := by
  have := F.d__law_count.recH (k0 := 0) sc__law_count (fun s => b__law_count G s) (fun s => ck__law_count) (fun k s hk h => ok__law_count F h) nF s__law_count (fun d xs M Q R ⟨p, e, _⟩ => by rw [e]; rfl) v__law_count d
  exact this.mono (by omega)
def s__law_size (d : Nat) : TSp := fun xs M Q _ => ∃ p : Pl, xs = [p.tv] ∧ p.dep ≤ d ∧ Q (.int p.size) M
theorem Pls.ints_size : ∀ ps : Pls, (ps.ints fun p => ((p.size : Nat) : Int)).sum = ((ps.size : Nat) : Int)
  | .nil => rfl
  | .cons p r => by simp only [Pls.ints, List.sum_cons, Pls.ints_size r, Pls.size, Int.natCast_add]
theorem v__law_size {G : Gx} : ∀ d xs M Q R, s__law_size d xs M Q R → wSs noF (b__law_size G (prevS s__law_size d)) (endsT Q R) (startT n__law_size xs) M := by
  rintro d xs M Q R ⟨p, rfl, hd, q⟩
  unfold b__law_size
  cases p with
  | place l w =>
    simp only [Pl.tv]
    simp only [wSs, wS, wE, wEs, wO, wB, wBo, wI, wTg, gs, startT, List.map_cons, List.map_nil, List.length_cons, List.length_nil, List.cons_append, List.nil_append, List.replicate, Nat.reduceAdd, Nat.reduceSub, Nat.zero_add, exEq, wCop, wIx, wTru, bif_len, bif_abs, bif_int, bif_isi, bif_tuple, bif_list, bif_sum, bif_all, bif_any, bif_min2, bif_max2, bif_minl, bif_maxl, bop_add_i, bop_add_t, bop_add_l, bop_sub, bop_mul_i, bop_fdiv, bop_mod, bop_pow, aug_add, aug_sub, aug_mul, setAll, tailS, wipeT, List.set, tru_bl, tru_non, tru_int, tru_tup, if_true, if_false, Bool.false_eq_true, Bool.not_true, Bool.not_false, seqM_tup, ix_tup, len_tup, atI_0, atI_1, atI_2, atI_3, atI_4, Option.some.injEq, exists_eq_left', eq_int, cmp_lt, cmp_le, cmp_gt, cmp_ge, cmp_eq, cmp_ne, cmp_is, cmp_isn, cmp_in, cmp_nin, Option.map, is_nn, is_in, is_tn, tyn_int, tyn_str, tyn_tup, Int.cast_ofNat_Int, Int.reduceLT, Int.reduceLE, Int.reduceAdd, Int.reduceMul, Int.reduceSub, BEq.rfl, decide_true, decide_false, Int.reduceBEq, isi_int, kit_int_int]
    exact rtF (.refl _) q
  | rep c i p =>
    cases d with
    | zero => exact absurd hd (by simp [Pl.dep])
    | succ d =>
    simp only [Pl.tv]
    simp only [Pl.dep] at hd
    simp only [wSs, wS, wE, wEs, wO, wB, wBo, wI, wTg, gs, startT, List.map_cons, List.map_nil, List.length_cons, List.length_nil, List.cons_append, List.nil_append, List.replicate, Nat.reduceAdd, Nat.reduceSub, Nat.zero_add, exEq, wCop, wIx, wTru, bif_len, bif_abs, bif_int, bif_isi, bif_tuple, bif_list, bif_sum, bif_all, bif_any, bif_min2, bif_max2, bif_minl, bif_maxl, bop_add_i, bop_add_t, bop_add_l, bop_sub, bop_mul_i, bop_fdiv, bop_mod, bop_pow, aug_add, aug_sub, aug_mul, setAll, tailS, wipeT, List.set, tru_bl, tru_non, tru_int, tru_tup, if_true, if_false, Bool.false_eq_true, Bool.not_true, Bool.not_false, seqM_tup, ix_tup, len_tup, atI_0, atI_1, atI_2, atI_3, atI_4, Option.some.injEq, exists_eq_left', eq_int, cmp_lt, cmp_le, cmp_gt, cmp_ge, cmp_eq, cmp_ne, cmp_is, cmp_isn, cmp_in, cmp_nin, Option.map, is_nn, is_in, is_tn, tyn_int, tyn_str, tyn_tup, Int.cast_ofNat_Int, Int.reduceLT, Int.reduceLE, Int.reduceAdd, Int.reduceMul, Int.reduceSub, BEq.rfl, decide_true, decide_false, Int.reduceBEq, isi_str, kit_str_int, in_rep]
    refine ⟨p, rfl, by omega, ?_⟩
    simp only [wSs, wS, wE, wEs, wO, wB, wBo, wI, wTg, gs, startT, List.map_cons, List.map_nil, List.length_cons, List.length_nil, List.cons_append, List.nil_append, List.replicate, Nat.reduceAdd, Nat.reduceSub, Nat.zero_add, exEq, wCop, wIx, wTru, bif_len, bif_abs, bif_int, bif_isi, bif_tuple, bif_list, bif_sum, bif_all, bif_any, bif_min2, bif_max2, bif_minl, bif_maxl, bop_add_i, bop_add_t, bop_add_l, bop_sub, bop_mul_i, bop_fdiv, bop_mod, bop_pow, aug_add, aug_sub, aug_mul, setAll, tailS, wipeT, List.set, tru_bl, tru_non, tru_int, tru_tup, if_true, if_false, Bool.false_eq_true, Bool.not_true, Bool.not_false, seqM_tup, ix_tup, len_tup, atI_0, atI_1, atI_2, atI_3, atI_4, Option.some.injEq, exists_eq_left', eq_int, cmp_lt, cmp_le, cmp_gt, cmp_ge, cmp_eq, cmp_ne, cmp_is, cmp_isn, cmp_in, cmp_nin, Option.map, is_nn, is_in, is_tn, tyn_int, tyn_str, tyn_tup, Int.cast_ofNat_Int, Int.reduceLT, Int.reduceLE, Int.reduceAdd, Int.reduceMul, Int.reduceSub, BEq.rfl, decide_true, decide_false, Int.reduceBEq]
    refine rtF (.refl _) ?_
    simp only [Pl.size, Int.natCast_add] at q
    rw [Int.add_comm]
    exact q
  | join r ps =>
    cases d with
    | zero => exact absurd hd (by simp [Pl.dep])
    | succ d =>
    simp only [Pl.tv]
    simp only [Pl.dep] at hd
    simp only [wSs, wS, wE, wEs, wO, wB, wBo, wI, wTg, gs, startT, List.map_cons, List.map_nil, List.length_cons, List.length_nil, List.cons_append, List.nil_append, List.replicate, Nat.reduceAdd, Nat.reduceSub, Nat.zero_add, exEq, wCop, wIx, wTru, bif_len, bif_abs, bif_int, bif_isi, bif_tuple, bif_list, bif_sum, bif_all, bif_any, bif_min2, bif_max2, bif_minl, bif_maxl, bop_add_i, bop_add_t, bop_add_l, bop_sub, bop_mul_i, bop_fdiv, bop_mod, bop_pow, aug_add, aug_sub, aug_mul, setAll, tailS, wipeT, List.set, tru_bl, tru_non, tru_int, tru_tup, if_true, if_false, Bool.false_eq_true, Bool.not_true, Bool.not_false, seqM_tup, ix_tup, len_tup, atI_0, atI_1, atI_2, atI_3, atI_4, Option.some.injEq, exists_eq_left', eq_int, cmp_lt, cmp_le, cmp_gt, cmp_ge, cmp_eq, cmp_ne, cmp_is, cmp_isn, cmp_in, cmp_nin, Option.map, is_nn, is_in, is_tn, tyn_int, tyn_str, tyn_tup, Int.cast_ofNat_Int, Int.reduceLT, Int.reduceLE, Int.reduceAdd, Int.reduceMul, Int.reduceSub, BEq.rfl, decide_true, decide_false, Int.reduceBEq, isi_str, kit_str_int, in_repJ]
    refine lcL_pls (fun p => .int p.size) (fun p => p.dep ≤ d) (.refl M) (fun _ _ => trivial) ?_ (ps.all_of (fun q a b c d => by omega)) ?_
    · rintro p b acc M1 k s hk
      exact ⟨p, rfl, b, hk _ (.refl _)⟩
    · intro M' s p hp
      simp only [wSs, wS, wE, wEs, wO, wB, wBo, wI, wTg, gs, startT, List.map_cons, List.map_nil, List.length_cons, List.length_nil, List.cons_append, List.nil_append, List.replicate, Nat.reduceAdd, Nat.reduceSub, Nat.zero_add, exEq, wCop, wIx, wTru, bif_len, bif_abs, bif_int, bif_isi, bif_tuple, bif_list, bif_sum, bif_all, bif_any, bif_min2, bif_max2, bif_minl, bif_maxl, bop_add_i, bop_add_t, bop_add_l, bop_sub, bop_mul_i, bop_fdiv, bop_mod, bop_pow, aug_add, aug_sub, aug_mul, setAll, tailS, wipeT, List.set, tru_bl, tru_non, tru_int, tru_tup, if_true, if_false, Bool.false_eq_true, Bool.not_true, Bool.not_false, seqM_tup, ix_tup, len_tup, atI_0, atI_1, atI_2, atI_3, atI_4, Option.some.injEq, exists_eq_left', eq_int, cmp_lt, cmp_le, cmp_gt, cmp_ge, cmp_eq, cmp_ne, cmp_is, cmp_isn, cmp_in, cmp_nin, Option.map, is_nn, is_in, is_tn, tyn_int, tyn_str, tyn_tup, Int.cast_ofNat_Int, Int.reduceLT, Int.reduceLE, Int.reduceAdd, Int.reduceMul, Int.reduceSub, BEq.rfl, decide_true, decide_false, Int.reduceBEq, List.nil_append]
      refine ⟨_, _, lsM_upd, allI_map' _ ps, ?_⟩
      rw [Pls.ints_size, Int.add_comm]
      simp only [Pl.size, Int.natCast_add] at q
      exact rtF (s.new hp) q
theorem h__law_size {G : Gx} (F : Facts G) (d : Nat) : HeldT G (1 + d) (adr G "_law_size") (s__law_size d) := by
  have := F.d__law_size.recH (k0 := 0) sc__law_size (fun s => b__law_size G s) (fun s => ck__law_size) (fun k s hk h => ok__law_size F h) nF s__law_size (fun d xs M Q R ⟨p, e, _⟩ => by rw [e]; rfl) v__law_size d
  exact this.mono (by omega)
theorem v__law_total {G : Gx} : ∀ d xs M Q R, s_total_of d xs M Q R → wSs noF (b__law_total G (prevS s_total_of d)) (endsT Q R) (startT n__law_total xs) M := by
  rintro d xs M Q R ⟨p, rfl, ok, hd, hz, q⟩
  unfold b__law_total
  cases p with
  | place l w =>
    simp only [Pl.tv]
    simp only [wSs, wS, wE, wEs, wO, wB, wBo, wI, wTg, gs, startT, List.map_cons, List.map_nil, List.length_cons, List.length_nil, List.cons_append, List.nil_append, List.replicate, Nat.reduceAdd, Nat.reduceSub, Nat.zero_add, exEq, wCop, wIx, wTru, bif_len, bif_abs, bif_int, bif_isi, bif_tuple, bif_list, bif_sum, bif_all, bif_any, bif_min2, bif_max2, bif_minl, bif_maxl, bop_add_i, bop_add_t, bop_add_l, bop_sub, bop_mul_i, bop_fdiv, bop_mod, bop_pow, aug_add, aug_sub, aug_mul, setAll, tailS, wipeT, List.set, tru_bl, tru_non, tru_int, tru_tup, if_true, if_false, Bool.false_eq_true, Bool.not_true, Bool.not_false, seqM_tup, ix_tup, len_tup, atI_0, atI_1, atI_2, atI_3, atI_4, Option.some.injEq, exists_eq_left', eq_int, cmp_lt, cmp_le, cmp_gt, cmp_ge, cmp_eq, cmp_ne, cmp_is, cmp_isn, cmp_in, cmp_nin, Option.map, is_nn, is_in, is_tn, tyn_int, tyn_str, tyn_tup, Int.cast_ofNat_Int, Int.reduceLT, Int.reduceLE, Int.reduceAdd, Int.reduceMul, Int.reduceSub, BEq.rfl, decide_true, decide_false, Int.reduceBEq, isi_int, kit_int_int]
    exact rtF (.refl _) q
  | rep c i p =>
    cases d with
    | zero => exact absurd hd (by simp [Pl.dep])
    | succ d =>
    simp only [Pl.tv]
    simp only [Pl.dep, Pl.size] at hd hz
    simp only [wSs, wS, wE, wEs, wO, wB, wBo, wI, wTg, gs, startT, List.map_cons, List.map_nil, List.length_cons, List.length_nil, List.cons_append, List.nil_append, List.replicate, Nat.reduceAdd, Nat.reduceSub, Nat.zero_add, exEq, wCop, wIx, wTru, bif_len, bif_abs, bif_int, bif_isi, bif_tuple, bif_list, bif_sum, bif_all, bif_any, bif_min2, bif_max2, bif_minl, bif_maxl, bop_add_i, bop_add_t, bop_add_l, bop_sub, bop_mul_i, bop_fdiv, bop_mod, bop_pow, aug_add, aug_sub, aug_mul, setAll, tailS, wipeT, List.set, tru_bl, tru_non, tru_int, tru_tup, if_true, if_false, Bool.false_eq_true, Bool.not_true, Bool.not_false, seqM_tup, ix_tup, len_tup, atI_0, atI_1, atI_2, atI_3, atI_4, Option.some.injEq, exists_eq_left', eq_int, cmp_lt, cmp_le, cmp_gt, cmp_ge, cmp_eq, cmp_ne, cmp_is, cmp_isn, cmp_in, cmp_nin, Option.map, is_nn, is_in, is_tn, tyn_int, tyn_str, tyn_tup, Int.cast_ofNat_Int, Int.reduceLT, Int.reduceLE, Int.reduceAdd, Int.reduceMul, Int.reduceSub, BEq.rfl, decide_true, decide_false, Int.reduceBEq, isi_str, kit_str_int, in_rep]
    refine ⟨p, rfl, ok.2.2, by omega, by omega, ?_⟩
    simp only [wSs, wS, wE, wEs, wO, wB, wBo, wI, wTg, gs, startT, List.map_cons, List.map_nil, List.length_cons, List.length_nil, List.cons_append, List.nil_append, List.replicate, Nat.reduceAdd, Nat.reduceSub, Nat.zero_add, exEq, wCop, wIx, wTru, bif_len, bif_abs, bif_int, bif_isi, bif_tuple, bif_list, bif_sum, bif_all, bif_any, bif_min2, bif_max2, bif_minl, bif_maxl, bop_add_i, bop_add_t, bop_add_l, bop_sub, bop_mul_i, bop_fdiv, bop_mod, bop_pow, aug_add, aug_sub, aug_mul, setAll, tailS, wipeT, List.set, tru_bl, tru_non, tru_int, tru_tup, if_true, if_false, Bool.false_eq_true, Bool.not_true, Bool.not_false, seqM_tup, ix_tup, len_tup, atI_0, atI_1, atI_2, atI_3, atI_4, Option.some.injEq, exists_eq_left', eq_int, cmp_lt, cmp_le, cmp_gt, cmp_ge, cmp_eq, cmp_ne, cmp_is, cmp_isn, cmp_in, cmp_nin, Option.map, is_nn, is_in, is_tn, tyn_int, tyn_str, tyn_tup, Int.cast_ofNat_Int, Int.reduceLT, Int.reduceLE, Int.reduceAdd, Int.reduceMul, Int.reduceSub, BEq.rfl, decide_true, decide_false, Int.reduceBEq, Pl.pair, true_and]
    exact ⟨.inr (mul_fits f_tl ok.2.2 (by omega) ok.1 ok.2.1), .inr (mul_fits f_tw ok.2.2 (by omega) ok.1 ok.2.1), rtF (.refl _) q⟩
  | join r ps =>
    cases d with
    | zero => exact absurd hd (by simp [Pl.dep])
    | succ d =>
    simp only [Pl.tv]
    simp only [Pl.dep, Pl.size] at hd hz
    simp only [wSs, wS, wE, wEs, wO, wB, wBo, wI, wTg, gs, startT, List.map_cons, List.map_nil, List.length_cons, List.length_nil, List.cons_append, List.nil_append, List.replicate, Nat.reduceAdd, Nat.reduceSub, Nat.zero_add, exEq, wCop, wIx, wTru, bif_len, bif_abs, bif_int, bif_isi, bif_tuple, bif_list, bif_sum, bif_all, bif_any, bif_min2, bif_max2, bif_minl, bif_maxl, bop_add_i, bop_add_t, bop_add_l, bop_sub, bop_mul_i, bop_fdiv, bop_mod, bop_pow, aug_add, aug_sub, aug_mul, setAll, tailS, wipeT, List.set, tru_bl, tru_non, tru_int, tru_tup, if_true, if_false, Bool.false_eq_true, Bool.not_true, Bool.not_false, seqM_tup, ix_tup, len_tup, atI_0, atI_1, atI_2, atI_3, atI_4, Option.some.injEq, exists_eq_left', eq_int, cmp_lt, cmp_le, cmp_gt, cmp_ge, cmp_eq, cmp_ne, cmp_is, cmp_isn, cmp_in, cmp_nin, Option.map, is_nn, is_in, is_tn, tyn_int, tyn_str, tyn_tup, Int.cast_ofNat_Int, Int.reduceLT, Int.reduceLE, Int.reduceAdd, Int.reduceMul, Int.reduceSub, BEq.rfl, decide_true, decide_false, Int.reduceBEq, isi_str, kit_str_int, in_repJ]
    refine lcL_pls Pl.pair (fun p => p.ok ∧ p.dep ≤ d ∧ p.size ≤ 150) (.refl M) (fun _ _ => trivial) ?_ (ps.all_of (fun q a b c d => ⟨d ok.2.2, by omega, by omega⟩)) ?_
    · rintro p ⟨a, b, c⟩ acc M1 k s hk
      exact ⟨p, rfl, a, b, c, hk _ (.refl _)⟩
    · intro M' s p1 h1
      have l1 := lsM_upd (M := M') (p := p1) (xs := ps.map Pl.pair)
      simp only [wSs, wS, wE, wEs, wO, wB, wBo, wI, wTg, gs, startT, List.map_cons, List.map_nil, List.length_cons, List.length_nil, List.cons_append, List.nil_append, List.replicate, Nat.reduceAdd, Nat.reduceSub, Nat.zero_add, exEq, wCop, wIx, wTru, bif_len, bif_abs, bif_int, bif_isi, bif_tuple, bif_list, bif_sum, bif_all, bif_any, bif_min2, bif_max2, bif_minl, bif_maxl, bop_add_i, bop_add_t, bop_add_l, bop_sub, bop_mul_i, bop_fdiv, bop_mod, bop_pow, aug_add, aug_sub, aug_mul, setAll, tailS, wipeT, List.set, tru_bl, tru_non, tru_int, tru_tup, if_true, if_false, Bool.false_eq_true, Bool.not_true, Bool.not_false, seqM_tup, ix_tup, len_tup, atI_0, atI_1, atI_2, atI_3, atI_4, Option.some.injEq, exists_eq_left', eq_int, cmp_lt, cmp_le, cmp_gt, cmp_ge, cmp_eq, cmp_ne, cmp_is, cmp_isn, cmp_in, cmp_nin, Option.map, is_nn, is_in, is_tn, tyn_int, tyn_str, tyn_tup, Int.cast_ofNat_Int, Int.reduceLT, Int.reduceLE, Int.reduceAdd, Int.reduceMul, Int.reduceSub, BEq.rfl, decide_true, decide_false, Int.reduceBEq, List.nil_append]
      refine ⟨_, l1, lcL_map fst (.refl _) (fun _ s => s.lsM l1) ?_ ?_⟩
      · intro x hx acc M2 k s2 hk
        obtain ⟨p, rfl⟩ := Pls.mem_map hx
        simp only [wSs, wS, wE, wEs, wO, wB, wBo, wI, wTg, gs, startT, List.map_cons, List.map_nil, List.length_cons, List.length_nil, List.cons_append, List.nil_append, List.replicate, Nat.reduceAdd, Nat.reduceSub, Nat.zero_add, exEq, wCop, wIx, wTru, bif_len, bif_abs, bif_int, bif_isi, bif_tuple, bif_list, bif_sum, bif_all, bif_any, bif_min2, bif_max2, bif_minl, bif_maxl, bop_add_i, bop_add_t, bop_add_l, bop_sub, bop_mul_i, bop_fdiv, bop_mod, bop_pow, aug_add, aug_sub, aug_mul, setAll, tailS, wipeT, List.set, tru_bl, tru_non, tru_int, tru_tup, if_true, if_false, Bool.false_eq_true, Bool.not_true, Bool.not_false, seqM_tup, ix_tup, len_tup, atI_0, atI_1, atI_2, atI_3, atI_4, Option.some.injEq, exists_eq_left', eq_int, cmp_lt, cmp_le, cmp_gt, cmp_ge, cmp_eq, cmp_ne, cmp_is, cmp_isn, cmp_in, cmp_nin, Option.map, is_nn, is_in, is_tn, tyn_int, tyn_str, tyn_tup, Int.cast_ofNat_Int, Int.reduceLT, Int.reduceLE, Int.reduceAdd, Int.reduceMul, Int.reduceSub, BEq.rfl, decide_true, decide_false, Int.reduceBEq, Pl.pair]
        exact hk _ (.refl _)
      · intro M2 s2 p2 h2
        simp only [wSs, wS, wE, wEs, wO, wB, wBo, wI, wTg, gs, startT, List.map_cons, List.map_nil, List.length_cons, List.length_nil, List.cons_append, List.nil_append, List.replicate, Nat.reduceAdd, Nat.reduceSub, Nat.zero_add, exEq, wCop, wIx, wTru, bif_len, bif_abs, bif_int, bif_isi, bif_tuple, bif_list, bif_sum, bif_all, bif_any, bif_min2, bif_max2, bif_minl, bif_maxl, bop_add_i, bop_add_t, bop_add_l, bop_sub, bop_mul_i, bop_fdiv, bop_mod, bop_pow, aug_add, aug_sub, aug_mul, setAll, tailS, wipeT, List.set, tru_bl, tru_non, tru_int, tru_tup, if_true, if_false, Bool.false_eq_true, Bool.not_true, Bool.not_false, seqM_tup, ix_tup, len_tup, atI_0, atI_1, atI_2, atI_3, atI_4, Option.some.injEq, exists_eq_left', eq_int, cmp_lt, cmp_le, cmp_gt, cmp_ge, cmp_eq, cmp_ne, cmp_is, cmp_isn, cmp_in, cmp_nin, Option.map, is_nn, is_in, is_tn, tyn_int, tyn_str, tyn_tup, Int.cast_ofNat_Int, Int.reduceLT, Int.reduceLE, Int.reduceAdd, Int.reduceMul, Int.reduceSub, BEq.rfl, decide_true, decide_false, Int.reduceBEq, List.nil_append]
        refine ⟨_, _, lsM_upd, allI_fst ps, ?_⟩
        have l2 : lsM (updM M2 p2 (.lst ((ps.map Pl.pair).map fst))) p1 = some (ps.map Pl.pair) := (s2.new h2).lsM l1
        refine ⟨_, l2, lcL_map snd (.refl _) (fun _ s => s.lsM l2) ?_ ?_⟩
        · intro x hx acc M3 k s3 hk
          obtain ⟨p, rfl⟩ := Pls.mem_map hx
          simp only [wSs, wS, wE, wEs, wO, wB, wBo, wI, wTg, gs, startT, List.map_cons, List.map_nil, List.length_cons, List.length_nil, List.cons_append, List.nil_append, List.replicate, Nat.reduceAdd, Nat.reduceSub, Nat.zero_add, exEq, wCop, wIx, wTru, bif_len, bif_abs, bif_int, bif_isi, bif_tuple, bif_list, bif_sum, bif_all, bif_any, bif_min2, bif_max2, bif_minl, bif_maxl, bop_add_i, bop_add_t, bop_add_l, bop_sub, bop_mul_i, bop_fdiv, bop_mod, bop_pow, aug_add, aug_sub, aug_mul, setAll, tailS, wipeT, List.set, tru_bl, tru_non, tru_int, tru_tup, if_true, if_false, Bool.false_eq_true, Bool.not_true, Bool.not_false, seqM_tup, ix_tup, len_tup, atI_0, atI_1, atI_2, atI_3, atI_4, Option.some.injEq, exists_eq_left', eq_int, cmp_lt, cmp_le, cmp_gt, cmp_ge, cmp_eq, cmp_ne, cmp_is, cmp_isn, cmp_in, cmp_nin, Option.map, is_nn, is_in, is_tn, tyn_int, tyn_str, tyn_tup, Int.cast_ofNat_Int, Int.reduceLT, Int.reduceLE, Int.reduceAdd, Int.reduceMul, Int.reduceSub, BEq.rfl, decide_true, decide_false, Int.reduceBEq, Pl.pair]
          exact hk _ (.refl _)
        · intro M3 s3 p3 h3
          simp only [wSs, wS, wE, wEs, wO, wB, wBo, wI, wTg, gs, startT, List.map_cons, List.map_nil, List.length_cons, List.length_nil, List.cons_append, List.nil_append, List.replicate, Nat.reduceAdd, Nat.reduceSub, Nat.zero_add, exEq, wCop, wIx, wTru, bif_len, bif_abs, bif_int, bif_isi, bif_tuple, bif_list, bif_sum, bif_all, bif_any, bif_min2, bif_max2, bif_minl, bif_maxl, bop_add_i, bop_add_t, bop_add_l, bop_sub, bop_mul_i, bop_fdiv, bop_mod, bop_pow, aug_add, aug_sub, aug_mul, setAll, tailS, wipeT, List.set, tru_bl, tru_non, tru_int, tru_tup, if_true, if_false, Bool.false_eq_true, Bool.not_true, Bool.not_false, seqM_tup, ix_tup, len_tup, atI_0, atI_1, atI_2, atI_3, atI_4, Option.some.injEq, exists_eq_left', eq_int, cmp_lt, cmp_le, cmp_gt, cmp_ge, cmp_eq, cmp_ne, cmp_is, cmp_isn, cmp_in, cmp_nin, Option.map, is_nn, is_in, is_tn, tyn_int, tyn_str, tyn_tup, Int.cast_ofNat_Int, Int.reduceLT, Int.reduceLE, Int.reduceAdd, Int.reduceMul, Int.reduceSub, BEq.rfl, decide_true, decide_false, Int.reduceBEq, List.nil_append]
          refine ⟨_, _, lsM_upd, allI_snd ps, ?_⟩
          rw [Pls.ints_sum, Pls.ints_sum]
          exact rtF ((((s.new h1).trans s2).new h2).trans (s3.new h3)) q
theorem h__law_total {G : Gx} (F : Facts G) (d : Nat) : HeldT G (1 + d) (adr G "_law_total") (s_total_of d) := by
  have := F.d__law_total.recH (k0 := 0) sc__law_total (fun s => b__law_total G s) (fun s => ck__law_total) (fun k s hk h => ok__law_total F h) nF s_total_of (fun d xs M Q R ⟨p, e, _⟩ => by rw [e]; rfl) v__law_total d
  exact this.mono (by omega)
end TL

/-! VcF: the law's draws of plans. -/
namespace TL
open PySem PySem.Spec PyProof.Rows L2
def Pls.snoc : Pls → Pl → Pls
  | .nil, p => .cons p .nil
  | .cons q r, p => .cons q (r.snoc p)
theorem Pls.snoc_tvs : ∀ (ps : Pls) (p : Pl), (ps.snoc p).tvs = ps.tvs ++ [p.tv]
  | .nil, _ => rfl
  | .cons q r, p => by simp only [Pls.snoc, Pls.tvs, Pls.snoc_tvs r p, List.cons_append]
theorem Pls.snoc_len : ∀ (ps : Pls) (p : Pl), (ps.snoc p).len = ps.len + 1
  | .nil, _ => rfl
  | .cons q r, p => by simp only [Pls.snoc, Pls.len, Pls.snoc_len r p]
theorem Pls.snoc_size : ∀ (ps : Pls) (p : Pl), (ps.snoc p).size = ps.size + p.size
  | .nil, p => by simp [Pls.snoc, Pls.size]
  | .cons q r, p => by simp only [Pls.snoc, Pls.size, Pls.snoc_size r p]; omega
theorem Pls.snoc_dep : ∀ (ps : Pls) (p : Pl), (ps.snoc p).dep = max ps.dep p.dep
  | .nil, p => by simp [Pls.snoc, Pls.dep]
  | .cons q r, p => by simp only [Pls.snoc, Pls.dep, Pls.snoc_dep r p]; omega
theorem Pls.snoc_ok : ∀ (ps : Pls) (p : Pl), ps.ok → p.ok → (ps.snoc p).ok
  | .nil, p, _, h => ⟨h, trivial⟩
  | .cons q r, p, o, h => ⟨o.1, Pls.snoc_ok r p o.2 h⟩
/-- how many parts, how large: what a draw may come to -/
structure Some' (n B len : Nat) (ps : Pls) : Prop where
  ok : ps.ok
  dep : ps.dep ≤ n
  size : ps.size ≤ len * B
  len : ps.len = len
theorem Some'.nil {n B : Nat} : Some' n B 0 .nil := ⟨trivial, Nat.zero_le _, by simp [Pls.size], rfl⟩
theorem Some'.snoc {n B len : Nat} {ps : Pls} {p : Pl} (h : Some' n B len ps) (ok : p.ok) (d : p.dep ≤ n) (z : p.size ≤ B) : Some' n B (len + 1) (ps.snoc p) :=
  ⟨ps.snoc_ok p h.ok ok, by rw [Pls.snoc_dep]; exact Nat.max_le.mpr ⟨h.dep, d⟩, by rw [Pls.snoc_size, Nat.add_mul]; have := h.size; omega, by rw [Pls.snoc_len, h.len]⟩
def szP (wide n : Nat) : Nat := 1 + wide * (2 ^ n - 1)
def s__law_plan (d : Nat) : TSp := fun xs M Q _ => ∃ (h : Hn) (n wide : Nat) (m : Int), xs = [.ref h.a, .int n, .int wide, .int m] ∧ n ≤ d ∧ 1 ≤ wide ∧ wide ≤ 4 ∧ 0 ≤ m ∧ m < 1000000000000 ∧ HandOk M h ∧ ∀ (p : Pl) M', p.ok → p.dep ≤ n → p.size ≤ szP wide n → Hd h M M' → Q p.tv M'
/-- drawing so many parts -/
theorem drawn {h : Hn} {M : TM} {n B : Nat} {chk : TM → Prop} {step : List TV → TV → TM → (List TV → TM → Prop) → Prop} {fin : List TV → TM → Prop} (c : Nat) (lo : Int) (hc : ∀ M, chk M) (ok : ∀ M', Xt h M M' → True)
    {M1 : TM} (x : Xt h M M1) (hs : ∀ x acc M2 k, Xt h M M2 → (∀ (p : Pl) M3, p.ok → p.dep ≤ n → p.size ≤ B → Hd h M2 M3 → k (acc ++ [p.tv]) M3) → step acc x M2 k)
    (hf : ∀ ps M2, Some' n B c ps → Xt h M M2 → fin ps.tvs M2) : lcL chk step fin (rngT lo c) [] M1 := by
  refine lcL_at (fun r acc M' => r.length ≤ c ∧ Xt h M M' ∧ ∃ ps, acc = ps.tvs ∧ Some' n B (c - r.length) ps) ⟨by rw [rngT_len]; exact Nat.le_refl _, x, .nil, rfl, by rw [rngT_len, Nat.sub_self]; exact .nil⟩ (fun _ _ M _ => hc M) ?_ ?_
  · rintro y r acc M2 k ⟨hr, x2, ps, rfl, hp⟩ hk
    refine hs y _ _ _ x2 fun p M3 o1 o2 o3 d => hk _ _ ⟨by simp only [List.length_cons] at hr; omega, x2.hd d, ps.snoc p, by rw [Pls.snoc_tvs], ?_⟩
    have e : c - r.length = (c - (y :: r).length) + 1 := by simp only [List.length_cons] at hr ⊢; omega
    rw [e]
    exact hp.snoc o1 o2 o3
  · rintro acc M2 ⟨_, x2, ps, rfl, hp⟩
    exact hf ps M2 (by simpa using hp) x2
theorem szP_rep {wide n : Nat} (h : 1 ≤ wide) : szP 2 n + 1 ≤ szP wide (n + 1) := by
  unfold szP
  have e : 2 ^ (n + 1) = 2 * 2 ^ n := by rw [Nat.pow_succ]; omega
  have p : 1 ≤ 2 ^ n := Nat.one_le_two_pow
  have := Nat.mul_le_mul_right (2 ^ (n + 1) - 1) h
  omega
theorem szP_join {wide n c z : Nat} (h : c ≤ wide) (g : z ≤ c * szP 2 n) : z + 1 ≤ szP wide (n + 1) := by
  unfold szP at *
  have e : 2 ^ (n + 1) = 2 * 2 ^ n := by rw [Nat.pow_succ]; omega
  have p : 1 ≤ 2 ^ n := Nat.one_le_two_pow
  have e2 : 1 + 2 * (2 ^ n - 1) = 2 ^ (n + 1) - 1 := by omega
  rw [e2] at g
  have := Nat.mul_le_mul_right (2 ^ (n + 1) - 1) h
  omega
theorem v__law_plan {G : Gx} : ∀ d xs M Q R, s__law_plan d xs M Q R → wSs noF (b__law_plan G s__law_draw (prevS s__law_plan d) s__law_place) (endsT Q R) (startT n__law_plan xs) M := by
  rintro d xs M Q R ⟨h, n, wide, m, rfl, hn, w1, w4, m0, m1, ok, q⟩
  unfold b__law_plan
  simp only [wSs, wS, wE, wEs, wO, wB, wBo, wI, wTg, gs, startT, List.map_cons, List.map_nil, List.length_cons, List.length_nil, List.cons_append, List.nil_append, List.replicate, Nat.reduceAdd, Nat.reduceSub, Nat.zero_add, exEq, wCop, wIx, wTru, bif_len, bif_abs, bif_int, bif_isi, bif_tuple, bif_list, bif_sum, bif_all, bif_any, bif_min2, bif_max2, bif_minl, bif_maxl, bop_add_i, bop_add_t, bop_add_l, bop_sub, bop_mul_i, bop_fdiv, bop_mod, bop_pow, aug_add, aug_sub, aug_mul, setAll, tailS, wipeT, List.set, tru_bl, tru_non, tru_int, tru_tup, if_true, if_false, Bool.false_eq_true, Bool.not_true, Bool.not_false, seqM_tup, ix_tup, len_tup, atI_0, atI_1, atI_2, atI_3, atI_4, Option.some.injEq, exists_eq_left', eq_int, cmp_lt, cmp_le, cmp_gt, cmp_ge, cmp_eq, cmp_ne, cmp_is, cmp_isn, cmp_in, cmp_nin, Option.map, is_nn, is_in, is_tn, tyn_int, tyn_str, tyn_tup, Int.cast_ofNat_Int, Int.reduceLT, Int.reduceLE, Int.reduceAdd, Int.reduceMul, Int.reduceSub, BEq.rfl, decide_true, decide_false, Int.reduceBEq]
  refine ⟨h, 8, rfl, by decide, by decide, ok, fun kind M1 k0 k8 d1 => ?_⟩
  have x1 : Xt h M M1 := (Xt.refl ok).hd d1
  have plc : s__law_place [.ref h.a, .int m] M1 (endsT Q R).rt (fun x M' => (endsT Q R).ex x [some (.ref h.a), some (.int n), some (.int wide), some (.int m), some (.int kind), none, none] M') :=
    ⟨h, m, rfl, m0, m1, d1.1, fun l w M2 ok2 d2 => rtF (.refl _) (q (.place l w) M2 ok2 (Nat.zero_le _) (by unfold szP; show 1 ≤ _; omega) (d1.trans d2))⟩
  by_cases c : n = 0
  · subst c
    simp only [wSs, wS, wE, wEs, wO, wB, wBo, wI, wTg, gs, startT, List.map_cons, List.map_nil, List.length_cons, List.length_nil, List.cons_append, List.nil_append, List.replicate, Nat.reduceAdd, Nat.reduceSub, Nat.zero_add, exEq, wCop, wIx, wTru, bif_len, bif_abs, bif_int, bif_isi, bif_tuple, bif_list, bif_sum, bif_all, bif_any, bif_min2, bif_max2, bif_minl, bif_maxl, bop_add_i, bop_add_t, bop_add_l, bop_sub, bop_mul_i, bop_fdiv, bop_mod, bop_pow, aug_add, aug_sub, aug_mul, setAll, tailS, wipeT, List.set, tru_bl, tru_non, tru_int, tru_tup, if_true, if_false, Bool.false_eq_true, Bool.not_true, Bool.not_false, seqM_tup, ix_tup, len_tup, atI_0, atI_1, atI_2, atI_3, atI_4, Option.some.injEq, exists_eq_left', eq_int, cmp_lt, cmp_le, cmp_gt, cmp_ge, cmp_eq, cmp_ne, cmp_is, cmp_isn, cmp_in, cmp_nin, Option.map, is_nn, is_in, is_tn, tyn_int, tyn_str, tyn_tup, Int.cast_ofNat_Int, Int.reduceLT, Int.reduceLE, Int.reduceAdd, Int.reduceMul, Int.reduceSub, BEq.rfl, decide_true, decide_false, Int.reduceBEq]
    exact plc
  · obtain ⟨n, rfl⟩ := Nat.exists_eq_succ_of_ne_zero c
    cases d with
    | zero => omega
    | succ d =>
    have c0 : (((n.succ : Nat) : Int) == 0) = false := by simp; omega
    have en : ((n.succ : Nat) : Int) - 1 = (n : Int) := by omega
    simp only [wSs, wS, wE, wEs, wO, wB, wBo, wI, wTg, gs, startT, List.map_cons, List.map_nil, List.length_cons, List.length_nil, List.cons_append, List.nil_append, List.replicate, Nat.reduceAdd, Nat.reduceSub, Nat.zero_add, exEq, wCop, wIx, wTru, bif_len, bif_abs, bif_int, bif_isi, bif_tuple, bif_list, bif_sum, bif_all, bif_any, bif_min2, bif_max2, bif_minl, bif_maxl, bop_add_i, bop_add_t, bop_add_l, bop_sub, bop_mul_i, bop_fdiv, bop_mod, bop_pow, aug_add, aug_sub, aug_mul, setAll, tailS, wipeT, List.set, tru_bl, tru_non, tru_int, tru_tup, if_true, if_false, Bool.false_eq_true, Bool.not_true, Bool.not_false, seqM_tup, ix_tup, len_tup, atI_0, atI_1, atI_2, atI_3, atI_4, Option.some.injEq, exists_eq_left', eq_int, cmp_lt, cmp_le, cmp_gt, cmp_ge, cmp_eq, cmp_ne, cmp_is, cmp_isn, cmp_in, cmp_nin, Option.map, is_nn, is_in, is_tn, tyn_int, tyn_str, tyn_tup, Int.cast_ofNat_Int, Int.reduceLT, Int.reduceLE, Int.reduceAdd, Int.reduceMul, Int.reduceSub, BEq.rfl, decide_true, decide_false, Int.reduceBEq, c0]
    by_cases ck : kind = 0
    · subst ck
      simp only [wSs, wS, wE, wEs, wO, wB, wBo, wI, wTg, gs, startT, List.map_cons, List.map_nil, List.length_cons, List.length_nil, List.cons_append, List.nil_append, List.replicate, Nat.reduceAdd, Nat.reduceSub, Nat.zero_add, exEq, wCop, wIx, wTru, bif_len, bif_abs, bif_int, bif_isi, bif_tuple, bif_list, bif_sum, bif_all, bif_any, bif_min2, bif_max2, bif_minl, bif_maxl, bop_add_i, bop_add_t, bop_add_l, bop_sub, bop_mul_i, bop_fdiv, bop_mod, bop_pow, aug_add, aug_sub, aug_mul, setAll, tailS, wipeT, List.set, tru_bl, tru_non, tru_int, tru_tup, if_true, if_false, Bool.false_eq_true, Bool.not_true, Bool.not_false, seqM_tup, ix_tup, len_tup, atI_0, atI_1, atI_2, atI_3, atI_4, Option.some.injEq, exists_eq_left', eq_int, cmp_lt, cmp_le, cmp_gt, cmp_ge, cmp_eq, cmp_ne, cmp_is, cmp_isn, cmp_in, cmp_nin, Option.map, is_nn, is_in, is_tn, tyn_int, tyn_str, tyn_tup, Int.cast_ofNat_Int, Int.reduceLT, Int.reduceLE, Int.reduceAdd, Int.reduceMul, Int.reduceSub, BEq.rfl, decide_true, decide_false, Int.reduceBEq]
      exact plc
    · have c1 : (kind == 0) = false := by simpa using ck
      simp only [wSs, wS, wE, wEs, wO, wB, wBo, wI, wTg, gs, startT, List.map_cons, List.map_nil, List.length_cons, List.length_nil, List.cons_append, List.nil_append, List.replicate, Nat.reduceAdd, Nat.reduceSub, Nat.zero_add, exEq, wCop, wIx, wTru, bif_len, bif_abs, bif_int, bif_isi, bif_tuple, bif_list, bif_sum, bif_all, bif_any, bif_min2, bif_max2, bif_minl, bif_maxl, bop_add_i, bop_add_t, bop_add_l, bop_sub, bop_mul_i, bop_fdiv, bop_mod, bop_pow, aug_add, aug_sub, aug_mul, setAll, tailS, wipeT, List.set, tru_bl, tru_non, tru_int, tru_tup, if_true, if_false, Bool.false_eq_true, Bool.not_true, Bool.not_false, seqM_tup, ix_tup, len_tup, atI_0, atI_1, atI_2, atI_3, atI_4, Option.some.injEq, exists_eq_left', eq_int, cmp_lt, cmp_le, cmp_gt, cmp_ge, cmp_eq, cmp_ne, cmp_is, cmp_isn, cmp_in, cmp_nin, Option.map, is_nn, is_in, is_tn, tyn_int, tyn_str, tyn_tup, Int.cast_ofNat_Int, Int.reduceLT, Int.reduceLE, Int.reduceAdd, Int.reduceMul, Int.reduceSub, BEq.rfl, decide_true, decide_false, Int.reduceBEq, c1]
      by_cases ca : kind = 1
      · subst ca
        simp only [wSs, wS, wE, wEs, wO, wB, wBo, wI, wTg, gs, startT, List.map_cons, List.map_nil, List.length_cons, List.length_nil, List.cons_append, List.nil_append, List.replicate, Nat.reduceAdd, Nat.reduceSub, Nat.zero_add, exEq, wCop, wIx, wTru, bif_len, bif_abs, bif_int, bif_isi, bif_tuple, bif_list, bif_sum, bif_all, bif_any, bif_min2, bif_max2, bif_minl, bif_maxl, bop_add_i, bop_add_t, bop_add_l, bop_sub, bop_mul_i, bop_fdiv, bop_mod, bop_pow, aug_add, aug_sub, aug_mul, setAll, tailS, wipeT, List.set, tru_bl, tru_non, tru_int, tru_tup, if_true, if_false, Bool.false_eq_true, Bool.not_true, Bool.not_false, seqM_tup, ix_tup, len_tup, atI_0, atI_1, atI_2, atI_3, atI_4, Option.some.injEq, exists_eq_left', eq_int, cmp_lt, cmp_le, cmp_gt, cmp_ge, cmp_eq, cmp_ne, cmp_is, cmp_isn, cmp_in, cmp_nin, Option.map, is_nn, is_in, is_tn, tyn_int, tyn_str, tyn_tup, Int.cast_ofNat_Int, Int.reduceLT, Int.reduceLE, Int.reduceAdd, Int.reduceMul, Int.reduceSub, BEq.rfl, decide_true, decide_false, Int.reduceBEq]
        refine ⟨h, 3, rfl, by decide, by decide, d1.1, fun v M2 v0 v3 d2 => ?_⟩
        rw [en]
        refine ⟨h, n, 2, m, rfl, by omega, by omega, by omega, m0, m1, d2.1, fun p M3 o1 o2 o3 d3 => rtF (.refl _) (q (.rep false (1 + v) p) M3 ⟨by omega, by omega, o1⟩ (Nat.succ_le_succ o2) (Nat.le_trans (Nat.succ_le_succ o3) (szP_rep w1)) ((d1.trans d2).trans d3))⟩
      · have c2 : (kind == 1) = false := by simpa using ca
        simp only [wSs, wS, wE, wEs, wO, wB, wBo, wI, wTg, gs, startT, List.map_cons, List.map_nil, List.length_cons, List.length_nil, List.cons_append, List.nil_append, List.replicate, Nat.reduceAdd, Nat.reduceSub, Nat.zero_add, exEq, wCop, wIx, wTru, bif_len, bif_abs, bif_int, bif_isi, bif_tuple, bif_list, bif_sum, bif_all, bif_any, bif_min2, bif_max2, bif_minl, bif_maxl, bop_add_i, bop_add_t, bop_add_l, bop_sub, bop_mul_i, bop_fdiv, bop_mod, bop_pow, aug_add, aug_sub, aug_mul, setAll, tailS, wipeT, List.set, tru_bl, tru_non, tru_int, tru_tup, if_true, if_false, Bool.false_eq_true, Bool.not_true, Bool.not_false, seqM_tup, ix_tup, len_tup, atI_0, atI_1, atI_2, atI_3, atI_4, Option.some.injEq, exists_eq_left', eq_int, cmp_lt, cmp_le, cmp_gt, cmp_ge, cmp_eq, cmp_ne, cmp_is, cmp_isn, cmp_in, cmp_nin, Option.map, is_nn, is_in, is_tn, tyn_int, tyn_str, tyn_tup, Int.cast_ofNat_Int, Int.reduceLT, Int.reduceLE, Int.reduceAdd, Int.reduceMul, Int.reduceSub, BEq.rfl, decide_true, decide_false, Int.reduceBEq, c2]
        by_cases cb : kind = 2
        · subst cb
          simp only [wSs, wS, wE, wEs, wO, wB, wBo, wI, wTg, gs, startT, List.map_cons, List.map_nil, List.length_cons, List.length_nil, List.cons_append, List.nil_append, List.replicate, Nat.reduceAdd, Nat.reduceSub, Nat.zero_add, exEq, wCop, wIx, wTru, bif_len, bif_abs, bif_int, bif_isi, bif_tuple, bif_list, bif_sum, bif_all, bif_any, bif_min2, bif_max2, bif_minl, bif_maxl, bop_add_i, bop_add_t, bop_add_l, bop_sub, bop_mul_i, bop_fdiv, bop_mod, bop_pow, aug_add, aug_sub, aug_mul, setAll, tailS, wipeT, List.set, tru_bl, tru_non, tru_int, tru_tup, if_true, if_false, Bool.false_eq_true, Bool.not_true, Bool.not_false, seqM_tup, ix_tup, len_tup, atI_0, atI_1, atI_2, atI_3, atI_4, Option.some.injEq, exists_eq_left', eq_int, cmp_lt, cmp_le, cmp_gt, cmp_ge, cmp_eq, cmp_ne, cmp_is, cmp_isn, cmp_in, cmp_nin, Option.map, is_nn, is_in, is_tn, tyn_int, tyn_str, tyn_tup, Int.cast_ofNat_Int, Int.reduceLT, Int.reduceLE, Int.reduceAdd, Int.reduceMul, Int.reduceSub, BEq.rfl, decide_true, decide_false, Int.reduceBEq]
          refine ⟨h, 3, rfl, by decide, by decide, d1.1, fun v M2 v0 v3 d2 => ?_⟩
          rw [en]
          refine ⟨h, n, 2, m, rfl, by omega, by omega, by omega, m0, m1, d2.1, fun p M3 o1 o2 o3 d3 => rtF (.refl _) (q (.rep true (1 + v) p) M3 ⟨by omega, by omega, o1⟩ (Nat.succ_le_succ o2) (Nat.le_trans (Nat.succ_le_succ o3) (szP_rep w1)) ((d1.trans d2).trans d3))⟩
        · have c3 : (kind == 2) = false := by simpa using cb
          simp only [wSs, wS, wE, wEs, wO, wB, wBo, wI, wTg, gs, startT, List.map_cons, List.map_nil, List.length_cons, List.length_nil, List.cons_append, List.nil_append, List.replicate, Nat.reduceAdd, Nat.reduceSub, Nat.zero_add, exEq, wCop, wIx, wTru, bif_len, bif_abs, bif_int, bif_isi, bif_tuple, bif_list, bif_sum, bif_all, bif_any, bif_min2, bif_max2, bif_minl, bif_maxl, bop_add_i, bop_add_t, bop_add_l, bop_sub, bop_mul_i, bop_fdiv, bop_mod, bop_pow, aug_add, aug_sub, aug_mul, setAll, tailS, wipeT, List.set, tru_bl, tru_non, tru_int, tru_tup, if_true, if_false, Bool.false_eq_true, Bool.not_true, Bool.not_false, seqM_tup, ix_tup, len_tup, atI_0, atI_1, atI_2, atI_3, atI_4, Option.some.injEq, exists_eq_left', eq_int, cmp_lt, cmp_le, cmp_gt, cmp_ge, cmp_eq, cmp_ne, cmp_is, cmp_isn, cmp_in, cmp_nin, Option.map, is_nn, is_in, is_tn, tyn_int, tyn_str, tyn_tup, Int.cast_ofNat_Int, Int.reduceLT, Int.reduceLE, Int.reduceAdd, Int.reduceMul, Int.reduceSub, BEq.rfl, decide_true, decide_false, Int.reduceBEq, c3]
          refine ⟨h, wide, rfl, by omega, by omega, d1.1, fun v M2 v0 v3 d2 => ⟨1 + v, rfl, by omega, by omega, ?_⟩⟩
          refine drawn (h := h) (M := M) (n := n) (B := szP 2 n) (1 + v).toNat 0 (fun _ => trivial) (fun _ _ => trivial) (x1.hd d2) ?_ ?_
          · intro _ acc M3 k x3 hk
            rw [en]
            exact ⟨h, n, 2, m, rfl, by omega, by omega, by omega, m0, m1, x3.2.1, fun p M4 o1 o2 o3 d4 => hk p M4 o1 o2 o3 d4⟩
          · intro ps M3 hp x3 t ht
            have fin : ∀ r : Bool, (endsT Q R).rt (.tup [.str (wJoin r), .tup ps.tvs]) (updM M3 t (.lst ps.tvs)) := fun r =>
              rtH (x3.new ht) fun M4 d4 => q (.join r ps) M4 ⟨by have := hp.len; omega, by have := hp.len; omega, hp.ok⟩ (Nat.succ_le_succ hp.dep) (szP_join (c := (1 + v).toNat) (by omega) hp.size) d4
            by_cases c5 : kind < 5
            · rw [decide_eq_true c5]
              simp only [wSs, wS, wE, wEs, wO, wB, wBo, wI, wTg, gs, startT, List.map_cons, List.map_nil, List.length_cons, List.length_nil, List.cons_append, List.nil_append, List.replicate, Nat.reduceAdd, Nat.reduceSub, Nat.zero_add, exEq, wCop, wIx, wTru, bif_len, bif_abs, bif_int, bif_isi, bif_tuple, bif_list, bif_sum, bif_all, bif_any, bif_min2, bif_max2, bif_minl, bif_maxl, bop_add_i, bop_add_t, bop_add_l, bop_sub, bop_mul_i, bop_fdiv, bop_mod, bop_pow, aug_add, aug_sub, aug_mul, setAll, tailS, wipeT, List.set, tru_bl, tru_non, tru_int, tru_tup, if_true, if_false, Bool.false_eq_true, Bool.not_true, Bool.not_false, seqM_tup, ix_tup, len_tup, atI_0, atI_1, atI_2, atI_3, atI_4, Option.some.injEq, exists_eq_left', eq_int, cmp_lt, cmp_le, cmp_gt, cmp_ge, cmp_eq, cmp_ne, cmp_is, cmp_isn, cmp_in, cmp_nin, Option.map, is_nn, is_in, is_tn, tyn_int, tyn_str, tyn_tup, Int.cast_ofNat_Int, Int.reduceLT, Int.reduceLE, Int.reduceAdd, Int.reduceMul, Int.reduceSub, BEq.rfl, decide_true, decide_false, Int.reduceBEq]
              exact ⟨_, lsM_upd, fin true⟩
            · rw [decide_eq_false c5]
              simp only [wSs, wS, wE, wEs, wO, wB, wBo, wI, wTg, gs, startT, List.map_cons, List.map_nil, List.length_cons, List.length_nil, List.cons_append, List.nil_append, List.replicate, Nat.reduceAdd, Nat.reduceSub, Nat.zero_add, exEq, wCop, wIx, wTru, bif_len, bif_abs, bif_int, bif_isi, bif_tuple, bif_list, bif_sum, bif_all, bif_any, bif_min2, bif_max2, bif_minl, bif_maxl, bop_add_i, bop_add_t, bop_add_l, bop_sub, bop_mul_i, bop_fdiv, bop_mod, bop_pow, aug_add, aug_sub, aug_mul, setAll, tailS, wipeT, List.set, tru_bl, tru_non, tru_int, tru_tup, if_true, if_false, Bool.false_eq_true, Bool.not_true, Bool.not_false, seqM_tup, ix_tup, len_tup, atI_0, atI_1, atI_2, atI_3, atI_4, Option.some.injEq, exists_eq_left', eq_int, cmp_lt, cmp_le, cmp_gt, cmp_ge, cmp_eq, cmp_ne, cmp_is, cmp_isn, cmp_in, cmp_nin, Option.map, is_nn, is_in, is_tn, tyn_int, tyn_str, tyn_tup, Int.cast_ofNat_Int, Int.reduceLT, Int.reduceLE, Int.reduceAdd, Int.reduceMul, Int.reduceSub, BEq.rfl, decide_true, decide_false, Int.reduceBEq]
              exact ⟨_, lsM_upd, fin false⟩
theorem h__law_plan {G : Gx} (F : Facts G) (d : Nat) : HeldT G (4 + d) (adr G "_law_plan") (s__law_plan d) := by
  have := F.d__law_plan.recH (k0 := 3) sc__law_plan (fun s => b__law_plan G s__law_draw s s__law_place) (fun s => ck__law_plan) (fun k s hk h => ok__law_plan F ((h__law_draw F).mono (by omega)) h ((h__law_place F).mono hk)) nF s__law_plan (fun d xs M Q R ⟨_, _, _, p, e, _⟩ => by rw [e]; rfl) v__law_plan d
  exact this.mono (by omega)
def s__law_few : TSp := fun xs M Q _ => ∃ (h : Hn) (c m : Int), xs = [.ref h.a, .int c, .int m] ∧ 0 ≤ m ∧ m < 1000000000000 ∧ HandOk M h ∧ ∀ (p : Pl) M', p.ok → p.dep ≤ 3 → p.size ≤ 29 → Hd h M M' → Q p.tv M'
theorem v__law_few {G : Gx} : ∀ xs M Q R, s__law_few xs M Q R → wSs noF (b__law_few G s__law_place (s__law_count 3) s__law_draw (s__law_plan 3)) (endsT Q R) (startT n__law_few xs) M := by
  rintro xs M Q R ⟨h, c, m, rfl, m0, m1, ok, q⟩
  unfold b__law_few
  simp only [wSs, wS, wE, wEs, wO, wB, wBo, wI, wTg, gs, startT, List.map_cons, List.map_nil, List.length_cons, List.length_nil, List.cons_append, List.nil_append, List.replicate, Nat.reduceAdd, Nat.reduceSub, Nat.zero_add, exEq, wCop, wIx, wTru, bif_len, bif_abs, bif_int, bif_isi, bif_tuple, bif_list, bif_sum, bif_all, bif_any, bif_min2, bif_max2, bif_minl, bif_maxl, bop_add_i, bop_add_t, bop_add_l, bop_sub, bop_mul_i, bop_fdiv, bop_mod, bop_pow, aug_add, aug_sub, aug_mul, setAll, tailS, wipeT, List.set, tru_bl, tru_non, tru_int, tru_tup, if_true, if_false, Bool.false_eq_true, Bool.not_true, Bool.not_false, seqM_tup, ix_tup, len_tup, atI_0, atI_1, atI_2, atI_3, atI_4, Option.some.injEq, exists_eq_left', eq_int, cmp_lt, cmp_le, cmp_gt, cmp_ge, cmp_eq, cmp_ne, cmp_is, cmp_isn, cmp_in, cmp_nin, Option.map, is_nn, is_in, is_tn, tyn_int, tyn_str, tyn_tup, Int.cast_ofNat_Int, Int.reduceLT, Int.reduceLE, Int.reduceAdd, Int.reduceMul, Int.reduceSub, BEq.rfl, decide_true, decide_false, Int.reduceBEq, TV.int.injEq]
  refine ⟨by decide, by decide, ?_⟩
  refine foL_at (d := []) (fun _ _ σ M' => ∃ o3 o4, σ = [some (.ref h.a), some (.int c), some (.int m), o3, o4] ∧ Hd h M M') ⟨none, none, rfl, Hd.refl ok⟩ (fun _ _ _ _ _ => trivial) ?_ ?_
  · rintro _ x r k _ M1 ⟨o3, o4, rfl, d1⟩ hk
    simp only [wSs, wS, wE, wEs, wO, wB, wBo, wI, wTg, gs, startT, List.map_cons, List.map_nil, List.length_cons, List.length_nil, List.cons_append, List.nil_append, List.replicate, Nat.reduceAdd, Nat.reduceSub, Nat.zero_add, exEq, wCop, wIx, wTru, bif_len, bif_abs, bif_int, bif_isi, bif_tuple, bif_list, bif_sum, bif_all, bif_any, bif_min2, bif_max2, bif_minl, bif_maxl, bop_add_i, bop_add_t, bop_add_l, bop_sub, bop_mul_i, bop_fdiv, bop_mod, bop_pow, aug_add, aug_sub, aug_mul, setAll, tailS, wipeT, List.set, tru_bl, tru_non, tru_int, tru_tup, if_true, if_false, Bool.false_eq_true, Bool.not_true, Bool.not_false, seqM_tup, ix_tup, len_tup, atI_0, atI_1, atI_2, atI_3, atI_4, Option.some.injEq, exists_eq_left', eq_int, cmp_lt, cmp_le, cmp_gt, cmp_ge, cmp_eq, cmp_ne, cmp_is, cmp_isn, cmp_in, cmp_nin, Option.map, is_nn, is_in, is_tn, tyn_int, tyn_str, tyn_tup, Int.cast_ofNat_Int, Int.reduceLT, Int.reduceLE, Int.reduceAdd, Int.reduceMul, Int.reduceSub, BEq.rfl, decide_true, decide_false, Int.reduceBEq]
    refine ⟨h, 3, rfl, by decide, by decide, d1.1, fun v M2 v0 v3 d2 => ?_⟩
    obtain ⟨n, rfl⟩ := Int.eq_ofNat_of_zero_le v0
    refine ⟨h, 1 + n, 4, m, by rw [Int.natCast_add]; rfl, by omega, by decide, by decide, m0, m1, d2.1, fun p M3 o1 o2 o3 d3 => ?_⟩
    have hz : p.size ≤ 29 := by
      have : n = 0 ∨ n = 1 ∨ n = 2 := by omega
      rcases this with rfl | rfl | rfl <;> exact Nat.le_trans o3 (by decide)
    simp only [wSs, wS, wE, wEs, wO, wB, wBo, wI, wTg, gs, startT, List.map_cons, List.map_nil, List.length_cons, List.length_nil, List.cons_append, List.nil_append, List.replicate, Nat.reduceAdd, Nat.reduceSub, Nat.zero_add, exEq, wCop, wIx, wTru, bif_len, bif_abs, bif_int, bif_isi, bif_tuple, bif_list, bif_sum, bif_all, bif_any, bif_min2, bif_max2, bif_minl, bif_maxl, bop_add_i, bop_add_t, bop_add_l, bop_sub, bop_mul_i, bop_fdiv, bop_mod, bop_pow, aug_add, aug_sub, aug_mul, setAll, tailS, wipeT, List.set, tru_bl, tru_non, tru_int, tru_tup, if_true, if_false, Bool.false_eq_true, Bool.not_true, Bool.not_false, seqM_tup, ix_tup, len_tup, atI_0, atI_1, atI_2, atI_3, atI_4, Option.some.injEq, exists_eq_left', eq_int, cmp_lt, cmp_le, cmp_gt, cmp_ge, cmp_eq, cmp_ne, cmp_is, cmp_isn, cmp_in, cmp_nin, Option.map, is_nn, is_in, is_tn, tyn_int, tyn_str, tyn_tup, Int.cast_ofNat_Int, Int.reduceLT, Int.reduceLE, Int.reduceAdd, Int.reduceMul, Int.reduceSub, BEq.rfl, decide_true, decide_false, Int.reduceBEq]
    refine ⟨p, rfl, o1, by omega, by omega, ?_⟩
    by_cases e : p.cnt ≤ c
    · simp only [wSs, wS, wE, wEs, wO, wB, wBo, wI, wTg, gs, startT, List.map_cons, List.map_nil, List.length_cons, List.length_nil, List.cons_append, List.nil_append, List.replicate, Nat.reduceAdd, Nat.reduceSub, Nat.zero_add, exEq, wCop, wIx, wTru, bif_len, bif_abs, bif_int, bif_isi, bif_tuple, bif_list, bif_sum, bif_all, bif_any, bif_min2, bif_max2, bif_minl, bif_maxl, bop_add_i, bop_add_t, bop_add_l, bop_sub, bop_mul_i, bop_fdiv, bop_mod, bop_pow, aug_add, aug_sub, aug_mul, setAll, tailS, wipeT, List.set, tru_bl, tru_non, tru_int, tru_tup, if_true, if_false, Bool.false_eq_true, Bool.not_true, Bool.not_false, seqM_tup, ix_tup, len_tup, atI_0, atI_1, atI_2, atI_3, atI_4, Option.some.injEq, exists_eq_left', eq_int, cmp_lt, cmp_le, cmp_gt, cmp_ge, cmp_eq, cmp_ne, cmp_is, cmp_isn, cmp_in, cmp_nin, Option.map, is_nn, is_in, is_tn, tyn_int, tyn_str, tyn_tup, Int.cast_ofNat_Int, Int.reduceLT, Int.reduceLE, Int.reduceAdd, Int.reduceMul, Int.reduceSub, BEq.rfl, decide_true, decide_false, Int.reduceBEq, decide_eq_true e]
      exact rtF (.refl _) (q p M3 o1 (by omega) hz ((d1.trans d2).trans d3))
    · simp only [wSs, wS, wE, wEs, wO, wB, wBo, wI, wTg, gs, startT, List.map_cons, List.map_nil, List.length_cons, List.length_nil, List.cons_append, List.nil_append, List.replicate, Nat.reduceAdd, Nat.reduceSub, Nat.zero_add, exEq, wCop, wIx, wTru, bif_len, bif_abs, bif_int, bif_isi, bif_tuple, bif_list, bif_sum, bif_all, bif_any, bif_min2, bif_max2, bif_minl, bif_maxl, bop_add_i, bop_add_t, bop_add_l, bop_sub, bop_mul_i, bop_fdiv, bop_mod, bop_pow, aug_add, aug_sub, aug_mul, setAll, tailS, wipeT, List.set, tru_bl, tru_non, tru_int, tru_tup, if_true, if_false, Bool.false_eq_true, Bool.not_true, Bool.not_false, seqM_tup, ix_tup, len_tup, atI_0, atI_1, atI_2, atI_3, atI_4, Option.some.injEq, exists_eq_left', eq_int, cmp_lt, cmp_le, cmp_gt, cmp_ge, cmp_eq, cmp_ne, cmp_is, cmp_isn, cmp_in, cmp_nin, Option.map, is_nn, is_in, is_tn, tyn_int, tyn_str, tyn_tup, Int.cast_ofNat_Int, Int.reduceLT, Int.reduceLE, Int.reduceAdd, Int.reduceMul, Int.reduceSub, BEq.rfl, decide_true, decide_false, Int.reduceBEq, decide_eq_false e]
      exact hk _ _ ⟨_, _, rfl, (d1.trans d2).trans d3⟩
  · rintro _ _ M1 ⟨o3, o4, rfl, d1⟩
    simp only [wSs, wS, wE, wEs, wO, wB, wBo, wI, wTg, gs, startT, List.map_cons, List.map_nil, List.length_cons, List.length_nil, List.cons_append, List.nil_append, List.replicate, Nat.reduceAdd, Nat.reduceSub, Nat.zero_add, exEq, wCop, wIx, wTru, bif_len, bif_abs, bif_int, bif_isi, bif_tuple, bif_list, bif_sum, bif_all, bif_any, bif_min2, bif_max2, bif_minl, bif_maxl, bop_add_i, bop_add_t, bop_add_l, bop_sub, bop_mul_i, bop_fdiv, bop_mod, bop_pow, aug_add, aug_sub, aug_mul, setAll, tailS, wipeT, List.set, tru_bl, tru_non, tru_int, tru_tup, if_true, if_false, Bool.false_eq_true, Bool.not_true, Bool.not_false, seqM_tup, ix_tup, len_tup, atI_0, atI_1, atI_2, atI_3, atI_4, Option.some.injEq, exists_eq_left', eq_int, cmp_lt, cmp_le, cmp_gt, cmp_ge, cmp_eq, cmp_ne, cmp_is, cmp_isn, cmp_in, cmp_nin, Option.map, is_nn, is_in, is_tn, tyn_int, tyn_str, tyn_tup, Int.cast_ofNat_Int, Int.reduceLT, Int.reduceLE, Int.reduceAdd, Int.reduceMul, Int.reduceSub, BEq.rfl, decide_true, decide_false, Int.reduceBEq]
    exact ⟨h, m, rfl, m0, m1, d1.1, fun l w M2 ok2 d2 => rtF (.refl _) (q (.place l w) M2 ok2 (Nat.zero_le _) (by show 1 ≤ 29; decide) (d1.trans d2))⟩
theorem h__law_few {G : Gx} (F : Facts G) : HeldT G 8 (adr G "_law_few") s__law_few :=
  F.d__law_few.held (k := 7) sc__law_few ck__law_few (ok__law_few F ((h__law_place F).mono (by decide)) ((h__law_count F 3).mono (by decide)) ((h__law_draw F).mono (by decide)) (h__law_plan F 3)) nF (fun xs M Q R ⟨_, _, x, e, _⟩ => by rw [e]; rfl) v__law_few
end TL

/-! VcG: great plans; what is the same. -/
namespace TL
open PySem PySem.Spec PyProof.Rows L2
def gz : Nat → Nat
  | 0 => 1
  | n + 1 => 1 + 3 * gz n
theorem gz_pos : ∀ n, 1 ≤ gz n
  | 0 => Nat.le_refl _
  | n + 1 => Nat.le_add_right _ _
def s__law_great (d : Nat) : TSp := fun xs M Q _ => ∃ (h : Hn) (n : Nat), xs = [.ref h.a, .int n] ∧ n ≤ d ∧ HandOk M h ∧ ∀ (p : Pl) M', p.ok → p.dep ≤ n → p.size ≤ gz n → Hd h M M' → Q p.tv M'
theorem v__law_great {G : Gx} : ∀ d xs M Q R, s__law_great d xs M Q R → wSs noF (b__law_great G s__law_some s__law_draw (prevS s__law_great d) s__law_place) (endsT Q R) (startT n__law_great xs) M := by
  rintro d xs M Q R ⟨h, n, rfl, hn, ok, q⟩
  unfold b__law_great
  simp only [wSs, wS, wE, wEs, wO, wB, wBo, wI, wTg, gs, startT, List.map_cons, List.map_nil, List.length_cons, List.length_nil, List.cons_append, List.nil_append, List.replicate, Nat.reduceAdd, Nat.reduceSub, Nat.zero_add, exEq, wCop, wIx, wTru, bif_len, bif_abs, bif_int, bif_isi, bif_tuple, bif_list, bif_sum, bif_all, bif_any, bif_min2, bif_max2, bif_minl, bif_maxl, bop_add_i, bop_add_t, bop_add_l, bop_sub, bop_mul_i, bop_fdiv, bop_mod, bop_pow, aug_add, aug_sub, aug_mul, setAll, tailS, wipeT, List.set, tru_bl, tru_non, tru_int, tru_tup, if_true, if_false, Bool.false_eq_true, Bool.not_true, Bool.not_false, seqM_tup, ix_tup, len_tup, atI_0, atI_1, atI_2, atI_3, atI_4, Option.some.injEq, exists_eq_left', eq_int, cmp_lt, cmp_le, cmp_gt, cmp_ge, cmp_eq, cmp_ne, cmp_is, cmp_isn, cmp_in, cmp_nin, Option.map, is_nn, is_in, is_tn, tyn_int, tyn_str, tyn_tup, Int.cast_ofNat_Int, Int.reduceLT, Int.reduceLE, Int.reduceAdd, Int.reduceMul, Int.reduceSub, BEq.rfl, decide_true, decide_false, Int.reduceBEq]
  refine ⟨h, 6, rfl, by decide, by decide, ok, fun kind M1 k0 k8 d1 => ?_⟩
  have x1 : Xt h M M1 := (Xt.refl ok).hd d1
  have plc : ∀ σ : TSt, ∀ p, M1 p = none → s__law_some [.ref h.a, .ref p] (updM M1 p (.lst [.int 3, .int 50, .int (10 ^ Int.toNat 12 - 1)])) (fun x M1 => s__law_place [.ref h.a, x] M1 (endsT Q R).rt (fun x M1 => (endsT Q R).ex x σ M1)) (fun x M1 => (endsT Q R).ex x σ M1) := by
    intro σ t ht
    refine ⟨h, t, _, rfl, lsM_upd, (by simp), (by simp), d1.1.ne ht, d1.1.sub (Subm.new (.refl _) ht), fun y M2 hy d2 => ?_⟩
    have : ∃ m : Int, y = .int m ∧ 0 ≤ m ∧ m < 1000000000000 := by
      simp only [List.mem_cons, List.not_mem_nil, or_false] at hy
      rcases hy with rfl | rfl | rfl
      · exact ⟨3, rfl, by decide, by decide⟩
      · exact ⟨50, rfl, by decide, by decide⟩
      · exact ⟨_, rfl, by decide, by decide⟩
    obtain ⟨m, rfl, m0, m1⟩ := this
    exact ⟨h, m, rfl, m0, m1, d2.1, fun l w M3 ok2 d3 => rtH (((x1.new ht).hd d2).hd d3) fun M4 d4 => q (.place l w) M4 ok2 (Nat.zero_le _) (gz_pos _) d4⟩
  have pw : ((0 : Int) ≤ 12 ∧ (12 : Int) ≤ 1000000 ∧ (10 : Int).natAbs < 2 ^ 64) := ⟨by decide, by decide, by decide⟩
  by_cases c : n = 0
  · subst c
    simp only [wSs, wS, wE, wEs, wO, wB, wBo, wI, wTg, gs, startT, List.map_cons, List.map_nil, List.length_cons, List.length_nil, List.cons_append, List.nil_append, List.replicate, Nat.reduceAdd, Nat.reduceSub, Nat.zero_add, exEq, wCop, wIx, wTru, bif_len, bif_abs, bif_int, bif_isi, bif_tuple, bif_list, bif_sum, bif_all, bif_any, bif_min2, bif_max2, bif_minl, bif_maxl, bop_add_i, bop_add_t, bop_add_l, bop_sub, bop_mul_i, bop_fdiv, bop_mod, bop_pow, aug_add, aug_sub, aug_mul, setAll, tailS, wipeT, List.set, tru_bl, tru_non, tru_int, tru_tup, if_true, if_false, Bool.false_eq_true, Bool.not_true, Bool.not_false, seqM_tup, ix_tup, len_tup, atI_0, atI_1, atI_2, atI_3, atI_4, Option.some.injEq, exists_eq_left', eq_int, cmp_lt, cmp_le, cmp_gt, cmp_ge, cmp_eq, cmp_ne, cmp_is, cmp_isn, cmp_in, cmp_nin, Option.map, is_nn, is_in, is_tn, tyn_int, tyn_str, tyn_tup, Int.cast_ofNat_Int, Int.reduceLT, Int.reduceLE, Int.reduceAdd, Int.reduceMul, Int.reduceSub, BEq.rfl, decide_true, decide_false, Int.reduceBEq]
    exact ⟨⟨trivial, trivial, by decide⟩, plc _⟩
  · obtain ⟨n, rfl⟩ := Nat.exists_eq_succ_of_ne_zero c
    cases d with
    | zero => omega
    | succ d =>
    have c0 : (((n.succ : Nat) : Int) == 0) = false := by simp; omega
    have en : ((n.succ : Nat) : Int) - 1 = (n : Int) := by omega
    simp only [wSs, wS, wE, wEs, wO, wB, wBo, wI, wTg, gs, startT, List.map_cons, List.map_nil, List.length_cons, List.length_nil, List.cons_append, List.nil_append, List.replicate, Nat.reduceAdd, Nat.reduceSub, Nat.zero_add, exEq, wCop, wIx, wTru, bif_len, bif_abs, bif_int, bif_isi, bif_tuple, bif_list, bif_sum, bif_all, bif_any, bif_min2, bif_max2, bif_minl, bif_maxl, bop_add_i, bop_add_t, bop_add_l, bop_sub, bop_mul_i, bop_fdiv, bop_mod, bop_pow, aug_add, aug_sub, aug_mul, setAll, tailS, wipeT, List.set, tru_bl, tru_non, tru_int, tru_tup, if_true, if_false, Bool.false_eq_true, Bool.not_true, Bool.not_false, seqM_tup, ix_tup, len_tup, atI_0, atI_1, atI_2, atI_3, atI_4, Option.some.injEq, exists_eq_left', eq_int, cmp_lt, cmp_le, cmp_gt, cmp_ge, cmp_eq, cmp_ne, cmp_is, cmp_isn, cmp_in, cmp_nin, Option.map, is_nn, is_in, is_tn, tyn_int, tyn_str, tyn_tup, Int.cast_ofNat_Int, Int.reduceLT, Int.reduceLE, Int.reduceAdd, Int.reduceMul, Int.reduceSub, BEq.rfl, decide_true, decide_false, Int.reduceBEq, c0]
    by_cases ck : kind = 0
    · subst ck
      simp only [wSs, wS, wE, wEs, wO, wB, wBo, wI, wTg, gs, startT, List.map_cons, List.map_nil, List.length_cons, List.length_nil, List.cons_append, List.nil_append, List.replicate, Nat.reduceAdd, Nat.reduceSub, Nat.zero_add, exEq, wCop, wIx, wTru, bif_len, bif_abs, bif_int, bif_isi, bif_tuple, bif_list, bif_sum, bif_all, bif_any, bif_min2, bif_max2, bif_minl, bif_maxl, bop_add_i, bop_add_t, bop_add_l, bop_sub, bop_mul_i, bop_fdiv, bop_mod, bop_pow, aug_add, aug_sub, aug_mul, setAll, tailS, wipeT, List.set, tru_bl, tru_non, tru_int, tru_tup, if_true, if_false, Bool.false_eq_true, Bool.not_true, Bool.not_false, seqM_tup, ix_tup, len_tup, atI_0, atI_1, atI_2, atI_3, atI_4, Option.some.injEq, exists_eq_left', eq_int, cmp_lt, cmp_le, cmp_gt, cmp_ge, cmp_eq, cmp_ne, cmp_is, cmp_isn, cmp_in, cmp_nin, Option.map, is_nn, is_in, is_tn, tyn_int, tyn_str, tyn_tup, Int.cast_ofNat_Int, Int.reduceLT, Int.reduceLE, Int.reduceAdd, Int.reduceMul, Int.reduceSub, BEq.rfl, decide_true, decide_false, Int.reduceBEq]
      exact ⟨⟨trivial, trivial, by decide⟩, plc _⟩
    · have c1 : (kind == 0) = false := by simpa using ck
      simp only [wSs, wS, wE, wEs, wO, wB, wBo, wI, wTg, gs, startT, List.map_cons, List.map_nil, List.length_cons, List.length_nil, List.cons_append, List.nil_append, List.replicate, Nat.reduceAdd, Nat.reduceSub, Nat.zero_add, exEq, wCop, wIx, wTru, bif_len, bif_abs, bif_int, bif_isi, bif_tuple, bif_list, bif_sum, bif_all, bif_any, bif_min2, bif_max2, bif_minl, bif_maxl, bop_add_i, bop_add_t, bop_add_l, bop_sub, bop_mul_i, bop_fdiv, bop_mod, bop_pow, aug_add, aug_sub, aug_mul, setAll, tailS, wipeT, List.set, tru_bl, tru_non, tru_int, tru_tup, if_true, if_false, Bool.false_eq_true, Bool.not_true, Bool.not_false, seqM_tup, ix_tup, len_tup, atI_0, atI_1, atI_2, atI_3, atI_4, Option.some.injEq, exists_eq_left', eq_int, cmp_lt, cmp_le, cmp_gt, cmp_ge, cmp_eq, cmp_ne, cmp_is, cmp_isn, cmp_in, cmp_nin, Option.map, is_nn, is_in, is_tn, tyn_int, tyn_str, tyn_tup, Int.cast_ofNat_Int, Int.reduceLT, Int.reduceLE, Int.reduceAdd, Int.reduceMul, Int.reduceSub, BEq.rfl, decide_true, decide_false, Int.reduceBEq, c1]
      by_cases c4 : kind < 4
      · simp only [wSs, wS, wE, wEs, wO, wB, wBo, wI, wTg, gs, startT, List.map_cons, List.map_nil, List.length_cons, List.length_nil, List.cons_append, List.nil_append, List.replicate, Nat.reduceAdd, Nat.reduceSub, Nat.zero_add, exEq, wCop, wIx, wTru, bif_len, bif_abs, bif_int, bif_isi, bif_tuple, bif_list, bif_sum, bif_all, bif_any, bif_min2, bif_max2, bif_minl, bif_maxl, bop_add_i, bop_add_t, bop_add_l, bop_sub, bop_mul_i, bop_fdiv, bop_mod, bop_pow, aug_add, aug_sub, aug_mul, setAll, tailS, wipeT, List.set, tru_bl, tru_non, tru_int, tru_tup, if_true, if_false, Bool.false_eq_true, Bool.not_true, Bool.not_false, seqM_tup, ix_tup, len_tup, atI_0, atI_1, atI_2, atI_3, atI_4, Option.some.injEq, exists_eq_left', eq_int, cmp_lt, cmp_le, cmp_gt, cmp_ge, cmp_eq, cmp_ne, cmp_is, cmp_isn, cmp_in, cmp_nin, Option.map, is_nn, is_in, is_tn, tyn_int, tyn_str, tyn_tup, Int.cast_ofNat_Int, Int.reduceLT, Int.reduceLE, Int.reduceAdd, Int.reduceMul, Int.reduceSub, BEq.rfl, decide_true, decide_false, Int.reduceBEq, decide_eq_true c4]
        refine ⟨⟨trivial, trivial, by decide⟩, ⟨trivial, trivial, by decide⟩, ⟨trivial, trivial, by decide⟩, h, _, rfl, by decide, by decide, d1.1, fun v M2 v0 v1 d2 t ht => ?_⟩
        have x2 := x1.hd d2
        refine ⟨h, t, _, rfl, lsM_upd, (by simp), (by simp), d2.1.ne ht, d2.1.sub (Subm.new (.refl _) ht), fun y M3 hy d3 => ?_⟩
        have : ∃ m : Int, y = .int m ∧ 1 ≤ m ∧ m ≤ 1000000000000000000000000000000 := by
          have e : (10 : Int) ^ (Int.toNat 30) = 1000000000000000000000000000000 := by decide
          simp only [List.mem_cons, List.not_mem_nil, or_false] at hy
          rcases hy with rfl | rfl | rfl | rfl | rfl | rfl
          · exact ⟨1, rfl, by decide, by decide⟩
          · exact ⟨2, rfl, by decide, by decide⟩
          · exact ⟨7, rfl, by decide, by decide⟩
          · exact ⟨_, rfl, by decide, by decide⟩
          · exact ⟨_, rfl, by decide, by decide⟩
          · exact ⟨_, rfl, by omega, by omega⟩
        obtain ⟨m, rfl, m0, m1⟩ := this
        have x3 := (x2.new ht).hd d3
        intro t2 ht2
        refine ⟨h, t2, _, rfl, lsM_upd, (by simp), (by simp), d3.1.ne ht2, d3.1.sub (Subm.new (.refl _) ht2), fun y M4 hy d4 => ?_⟩
        have : ∃ c : Bool, y = .str (wRep c) := by
          simp only [List.mem_cons, List.not_mem_nil, or_false] at hy
          rcases hy with rfl | rfl
          · exact ⟨false, rfl⟩
          · exact ⟨true, rfl⟩
        obtain ⟨c, rfl⟩ := this
        have x4 := (x3.new ht2).hd d4
        rw [en]
        refine ⟨h, n, rfl, by omega, d4.1, fun p M5 o1 o2 o3 d5 => rtH (x4.hd d5) fun M6 d6 => q (.rep c m p) M6 ⟨m0, m1, o1⟩ (Nat.succ_le_succ o2) ?_ d6⟩
        simp only [Pl.size, gz]
        omega
      · simp only [wSs, wS, wE, wEs, wO, wB, wBo, wI, wTg, gs, startT, List.map_cons, List.map_nil, List.length_cons, List.length_nil, List.cons_append, List.nil_append, List.replicate, Nat.reduceAdd, Nat.reduceSub, Nat.zero_add, exEq, wCop, wIx, wTru, bif_len, bif_abs, bif_int, bif_isi, bif_tuple, bif_list, bif_sum, bif_all, bif_any, bif_min2, bif_max2, bif_minl, bif_maxl, bop_add_i, bop_add_t, bop_add_l, bop_sub, bop_mul_i, bop_fdiv, bop_mod, bop_pow, aug_add, aug_sub, aug_mul, setAll, tailS, wipeT, List.set, tru_bl, tru_non, tru_int, tru_tup, if_true, if_false, Bool.false_eq_true, Bool.not_true, Bool.not_false, seqM_tup, ix_tup, len_tup, atI_0, atI_1, atI_2, atI_3, atI_4, Option.some.injEq, exists_eq_left', eq_int, cmp_lt, cmp_le, cmp_gt, cmp_ge, cmp_eq, cmp_ne, cmp_is, cmp_isn, cmp_in, cmp_nin, Option.map, is_nn, is_in, is_tn, tyn_int, tyn_str, tyn_tup, Int.cast_ofNat_Int, Int.reduceLT, Int.reduceLE, Int.reduceAdd, Int.reduceMul, Int.reduceSub, BEq.rfl, decide_true, decide_false, Int.reduceBEq, decide_eq_false c4]
        refine ⟨h, 3, rfl, by decide, by decide, d1.1, fun v M2 v0 v3 d2 => ⟨1 + v, rfl, by omega, by omega, ?_⟩⟩
        refine drawn (h := h) (M := M) (n := n) (B := gz n) (1 + v).toNat 0 (fun _ => trivial) (fun _ _ => trivial) (x1.hd d2) ?_ ?_
        · intro _ acc M3 k x3 hk
          rw [en]
          exact ⟨h, n, rfl, by omega, x3.2.1, fun p M4 o1 o2 o3 d4 => hk p M4 o1 o2 o3 d4⟩
        · intro ps M3 hp x3 t ht t2 ht2
          have x4 : Xt h M (updM (updM M3 t (.lst ps.tvs)) t2 (.lst [.str "row", .str "beside"])) := (x3.new ht).new ht2
          have l4 : lsM (updM (updM M3 t (.lst ps.tvs)) t2 (.lst [.str "row", .str "beside"])) t = some ps.tvs := (Subm.new (.refl _) ht2).lsM lsM_upd
          have hnt : t ≠ h.a := x3.2.1.ne ht
          refine ⟨h, t2, _, rfl, lsM_upd, (by simp), (by simp), (x3.new ht).2.1.ne ht2, x4.2.1, fun y M5 hy d5 => ?_⟩
          have : ∃ r : Bool, y = .str (wJoin r) := by
            simp only [List.mem_cons, List.not_mem_nil, or_false] at hy
            rcases hy with rfl | rfl
            · exact ⟨true, rfl⟩
            · exact ⟨false, rfl⟩
          obtain ⟨r, rfl⟩ := this
          refine ⟨_, d5.ls hnt l4, rtH (x4.hd d5) fun M6 d6 => q (.join r ps) M6 ⟨by have := hp.len; omega, by have := hp.len; omega, hp.ok⟩ (Nat.succ_le_succ hp.dep) ?_ d6⟩
          have h1 := hp.size
          have h2 : (1 + v).toNat * gz n ≤ 3 * gz n := Nat.mul_le_mul_right _ (by omega)
          simp only [Pl.size, gz]
          omega
theorem h__law_great {G : Gx} (F : Facts G) (d : Nat) : HeldT G (4 + d) (adr G "_law_great") (s__law_great d) := by
  have := F.d__law_great.recH (k0 := 3) sc__law_great (fun s => b__law_great G s__law_some s__law_draw s s__law_place) (fun s => ck__law_great) (fun k s hk h => ok__law_great F ((h__law_some F).mono (by omega)) ((h__law_draw F).mono (by omega)) h ((h__law_place F).mono hk)) nF s__law_great (fun d xs M Q R ⟨_, _, e, _⟩ => by rw [e]; rfl) v__law_great d
  exact this.mono (by omega)
/-! the same -/
def Same (M : TM) : Nat → TV → TV → Prop
  | _, .int a, .int b => a = b
  | n + 1, .tup xs, .tup ys => xs.length = ys.length ∧ ∀ (i : Nat) (x y : TV), xs[i]? = some x → ys[i]? = some y → Same M n x y
  | n + 1, .ref a, .ref b => ∃ xs ys, lsM M a = some xs ∧ lsM M b = some ys ∧ xs.length = ys.length ∧ ∀ (i : Nat) (x y : TV), xs[i]? = some x → ys[i]? = some y → Same M n x y
  | _, _, _ => False
theorem Same.sub {M M' : TM} (s : Subm M M') : ∀ {n : Nat} {x y : TV}, Same M n x y → Same M' n x y
  | 0, .int _, .int _, h => by simpa only [Same] using h
  | n + 1, .int _, .int _, h => by simpa only [Same] using h
  | n + 1, .tup xs, .tup ys, h => ⟨h.1, fun i x y a b => Same.sub s (h.2 i x y a b)⟩
  | n + 1, .ref a, .ref b, ⟨xs, ys, h1, h2, h3, h4⟩ => ⟨xs, ys, s.lsM h1, s.lsM h2, h3, fun i x y a b => Same.sub s (h4 i x y a b)⟩
def s__law_is (d : Nat) : TSp := fun xs M Q _ => ∃ x y, xs = [x, y] ∧ Same M d x y ∧ Q (.bl true) M
theorem allB_true : ∀ l : List TV, allB (l.map fun _ => TV.bl true) = some (l.map fun _ => true)
  | [] => rfl
  | _ :: r => by simp only [List.map_cons, allB, allB_true r]
theorem v__law_is {G : Gx} : ∀ d xs M Q R, s__law_is d xs M Q R → wSs noF (b__law_is G (prevS s__law_is d)) (endsT Q R) (startT n__law_is xs) M := by
  rintro d xs M Q R ⟨x, y, rfl, h, q⟩
  unfold b__law_is
  have walk : ∀ {n : Nat} {M1 : TM} {zs ws : List TV} {chk : TM → Prop} {σ : TSt}, d = n + 1 → Subm M M1 → (∀ M2, Subm M1 M2 → chk M2) → (∀ (i : Nat) (x y : TV), zs[i]? = some x → ws[i]? = some y → Same M n x y) →
      ∀ {step : List TV → TV → TM → (List TV → TM → Prop) → Prop} {fin : List TV → TM → Prop}, (∀ a b acc M2 k, s__law_is n [a, b] M2 (fun y M5 => k (acc ++ [y]) M5) (fun _ _ => False) → step acc (.tup [a, b]) M2 k) →
      (∀ M2, Subm M1 M2 → fin ((zipT zs ws).map fun _ => .bl true) M2) → lcL chk step fin (zipT zs ws) [] M1 := by
    intro n M1 zs ws chk σ e s hc hs step fin hst hf
    refine lcL_map (fun _ => .bl true) (.refl _) hc ?_ (by simpa using hf)
    intro x hx acc M2 k s2 hk
    obtain ⟨i, hi, hx⟩ := List.getElem_of_mem hx
    obtain ⟨a, b, ha, hb, rfl⟩ := zipT_get (i := i) (xs := zs) (ys := ws) (by rw [List.getElem?_eq_getElem hi, hx])
    exact hst a b acc M2 k ⟨a, b, rfl, (hs i a b ha hb).sub (s.trans s2), hk _ (.refl _)⟩
  cases x <;> cases y <;> first | (cases d <;> exact h.elim) | skip
  case int.int a b =>
    have : a = b := by cases d <;> exact h
    subst this
    simp only [wSs, wS, wE, wEs, wO, wB, wBo, wI, wTg, gs, startT, List.map_cons, List.map_nil, List.length_cons, List.length_nil, List.cons_append, List.nil_append, List.replicate, Nat.reduceAdd, Nat.reduceSub, Nat.zero_add, exEq, wCop, wIx, wTru, bif_len, bif_abs, bif_int, bif_isi, bif_tuple, bif_list, bif_sum, bif_all, bif_any, bif_min2, bif_max2, bif_minl, bif_maxl, bop_add_i, bop_add_t, bop_add_l, bop_sub, bop_mul_i, bop_fdiv, bop_mod, bop_pow, aug_add, aug_sub, aug_mul, setAll, tailS, wipeT, List.set, tru_bl, tru_non, tru_int, tru_tup, if_true, if_false, Bool.false_eq_true, Bool.not_true, Bool.not_false, seqM_tup, ix_tup, len_tup, atI_0, atI_1, atI_2, atI_3, atI_4, Option.some.injEq, exists_eq_left', eq_int, cmp_lt, cmp_le, cmp_gt, cmp_ge, cmp_eq, cmp_ne, cmp_is, cmp_isn, cmp_in, cmp_nin, Option.map, is_nn, is_in, is_tn, tyn_int, tyn_str, tyn_tup, Int.cast_ofNat_Int, Int.reduceLT, Int.reduceLE, Int.reduceAdd, Int.reduceMul, Int.reduceSub, BEq.rfl, decide_true, decide_false, Int.reduceBEq, isiG_two, kit_int_tuple, kit_int_list, isi_int, kit_int_bool, kit_int_str, eq_bl]
    exact rtF (.refl _) q
  case tup.tup zs ws =>
    cases d with
    | zero => exact h.elim
    | succ d =>
    simp only [wSs, wS, wE, wEs, wO, wB, wBo, wI, wTg, gs, startT, List.map_cons, List.map_nil, List.length_cons, List.length_nil, List.cons_append, List.nil_append, List.replicate, Nat.reduceAdd, Nat.reduceSub, Nat.zero_add, exEq, wCop, wIx, wTru, bif_len, bif_abs, bif_int, bif_isi, bif_tuple, bif_list, bif_sum, bif_all, bif_any, bif_min2, bif_max2, bif_minl, bif_maxl, bop_add_i, bop_add_t, bop_add_l, bop_sub, bop_mul_i, bop_fdiv, bop_mod, bop_pow, aug_add, aug_sub, aug_mul, setAll, tailS, wipeT, List.set, tru_bl, tru_non, tru_int, tru_tup, if_true, if_false, Bool.false_eq_true, Bool.not_true, Bool.not_false, seqM_tup, ix_tup, len_tup, atI_0, atI_1, atI_2, atI_3, atI_4, Option.some.injEq, exists_eq_left', eq_int, cmp_lt, cmp_le, cmp_gt, cmp_ge, cmp_eq, cmp_ne, cmp_is, cmp_isn, cmp_in, cmp_nin, Option.map, is_nn, is_in, is_tn, tyn_int, tyn_str, tyn_tup, Int.cast_ofNat_Int, Int.reduceLT, Int.reduceLE, Int.reduceAdd, Int.reduceMul, Int.reduceSub, BEq.rfl, decide_true, decide_false, Int.reduceBEq, isiG_two, kit_tuple_tuple, kit_tuple_list, isi_tup, eq_bl, h.1]
    refine ⟨_, _, rfl, rfl, rfl, walk (σ := []) rfl (.refl _) (fun _ _ => ⟨trivial, trivial⟩) h.2 ?_ ?_⟩
    · intro a b acc M2 k hk
      simp only [wSs, wS, wE, wEs, wO, wB, wBo, wI, wTg, gs, startT, List.map_cons, List.map_nil, List.length_cons, List.length_nil, List.cons_append, List.nil_append, List.replicate, Nat.reduceAdd, Nat.reduceSub, Nat.zero_add, exEq, wCop, wIx, wTru, bif_len, bif_abs, bif_int, bif_isi, bif_tuple, bif_list, bif_sum, bif_all, bif_any, bif_min2, bif_max2, bif_minl, bif_maxl, bop_add_i, bop_add_t, bop_add_l, bop_sub, bop_mul_i, bop_fdiv, bop_mod, bop_pow, aug_add, aug_sub, aug_mul, setAll, tailS, wipeT, List.set, tru_bl, tru_non, tru_int, tru_tup, if_true, if_false, Bool.false_eq_true, Bool.not_true, Bool.not_false, seqM_tup, ix_tup, len_tup, atI_0, atI_1, atI_2, atI_3, atI_4, Option.some.injEq, exists_eq_left', eq_int, cmp_lt, cmp_le, cmp_gt, cmp_ge, cmp_eq, cmp_ne, cmp_is, cmp_isn, cmp_in, cmp_nin, Option.map, is_nn, is_in, is_tn, tyn_int, tyn_str, tyn_tup, Int.cast_ofNat_Int, Int.reduceLT, Int.reduceLE, Int.reduceAdd, Int.reduceMul, Int.reduceSub, BEq.rfl, decide_true, decide_false, Int.reduceBEq]
      exact ⟨trivial, hk⟩
    · intro M2 s p hp
      refine ⟨_, _, lsM_upd, allB_true _, ?_⟩
      have : ((zipT zs ws).map fun _ => true).all id = true := by simp
      rw [this]
      exact rtF (s.new hp) q
  case ref.ref a b =>
    cases d with
    | zero => exact h.elim
    | succ d =>
    obtain ⟨zs, ws, h1, h2, h3, h4⟩ := h
    have ty : ∀ {c : Addr} {vs : List TV}, lsM M c = some vs → tyN M (.ref c) = some "list" := by
      intro c vs hc
      unfold lsM at hc
      unfold tyN
      split at hc <;> rename_i qq <;> first | (cases hc; done) | (simp only [qq]; done)
    simp only [wSs, wS, wE, wEs, wO, wB, wBo, wI, wTg, gs, startT, List.map_cons, List.map_nil, List.length_cons, List.length_nil, List.cons_append, List.nil_append, List.replicate, Nat.reduceAdd, Nat.reduceSub, Nat.zero_add, exEq, wCop, wIx, wTru, bif_len, bif_abs, bif_int, bif_isi, bif_tuple, bif_list, bif_sum, bif_all, bif_any, bif_min2, bif_max2, bif_minl, bif_maxl, bop_add_i, bop_add_t, bop_add_l, bop_sub, bop_mul_i, bop_fdiv, bop_mod, bop_pow, aug_add, aug_sub, aug_mul, setAll, tailS, wipeT, List.set, tru_bl, tru_non, tru_int, tru_tup, if_true, if_false, Bool.false_eq_true, Bool.not_true, Bool.not_false, seqM_tup, ix_tup, len_tup, atI_0, atI_1, atI_2, atI_3, atI_4, Option.some.injEq, exists_eq_left', eq_int, cmp_lt, cmp_le, cmp_gt, cmp_ge, cmp_eq, cmp_ne, cmp_is, cmp_isn, cmp_in, cmp_nin, Option.map, is_nn, is_in, is_tn, tyn_int, tyn_str, tyn_tup, Int.cast_ofNat_Int, Int.reduceLT, Int.reduceLE, Int.reduceAdd, Int.reduceMul, Int.reduceSub, BEq.rfl, decide_true, decide_false, Int.reduceBEq, isiG_two, ty h2, kit_list_tuple, kit_list_list, isi_lst h1, isi_lst h2, eq_bl, len_lst h1, len_lst h2, h3]
    refine ⟨_, _, h1, h2, rfl, walk (σ := []) rfl (.refl _) (fun _ s => ⟨s.lsM h1, s.lsM h2⟩) h4 ?_ ?_⟩
    · intro a b acc M2 k hk
      simp only [wSs, wS, wE, wEs, wO, wB, wBo, wI, wTg, gs, startT, List.map_cons, List.map_nil, List.length_cons, List.length_nil, List.cons_append, List.nil_append, List.replicate, Nat.reduceAdd, Nat.reduceSub, Nat.zero_add, exEq, wCop, wIx, wTru, bif_len, bif_abs, bif_int, bif_isi, bif_tuple, bif_list, bif_sum, bif_all, bif_any, bif_min2, bif_max2, bif_minl, bif_maxl, bop_add_i, bop_add_t, bop_add_l, bop_sub, bop_mul_i, bop_fdiv, bop_mod, bop_pow, aug_add, aug_sub, aug_mul, setAll, tailS, wipeT, List.set, tru_bl, tru_non, tru_int, tru_tup, if_true, if_false, Bool.false_eq_true, Bool.not_true, Bool.not_false, seqM_tup, ix_tup, len_tup, atI_0, atI_1, atI_2, atI_3, atI_4, Option.some.injEq, exists_eq_left', eq_int, cmp_lt, cmp_le, cmp_gt, cmp_ge, cmp_eq, cmp_ne, cmp_is, cmp_isn, cmp_in, cmp_nin, Option.map, is_nn, is_in, is_tn, tyn_int, tyn_str, tyn_tup, Int.cast_ofNat_Int, Int.reduceLT, Int.reduceLE, Int.reduceAdd, Int.reduceMul, Int.reduceSub, BEq.rfl, decide_true, decide_false, Int.reduceBEq]
      exact ⟨trivial, hk⟩
    · intro M2 s p hp
      refine ⟨_, _, lsM_upd, allB_true _, ?_⟩
      have : ((zipT zs ws).map fun _ => true).all id = true := by simp
      rw [this]
      exact rtF (s.new hp) q
theorem h__law_is {G : Gx} (F : Facts G) (d : Nat) : HeldT G (1 + d) (adr G "_law_is") (s__law_is d) := by
  have := F.d__law_is.recH (k0 := 0) sc__law_is (fun s => b__law_is G s) (fun s => ck__law_is) (fun k s hk h => ok__law_is F h) nF s__law_is (fun d xs M Q R ⟨_, _, e, _⟩ => by rw [e]; rfl) v__law_is d
  exact this.mono (by omega)
end TL

/-! VcH: deep plans. -/
namespace TL
open PySem PySem.Spec PyProof.Rows L2
def s__law_deep : TSp := fun xs M Q _ => ∃ h : Hn, xs = [.ref h.a] ∧ HandOk M h ∧ ∀ (p : Pl) M', p.good → Hd h M M' → Q p.tv M'
theorem str_w4 {y : TV} (hy : y ∈ [TV.str "row", .str "beside", .str "times", .str "copies"]) : (∃ r, y = .str (wJoin r)) ∨ ∃ c, y = .str (wRep c) := by
  simp only [List.mem_cons, List.not_mem_nil, or_false] at hy
  rcases hy with rfl | rfl | rfl | rfl
  · exact .inl ⟨true, rfl⟩
  · exact .inl ⟨false, rfl⟩
  · exact .inr ⟨false, rfl⟩
  · exact .inr ⟨true, rfl⟩
theorem str_w2 {y : TV} (hy : y ∈ [TV.str "row", .str "beside"]) : ∃ r, y = .str (wJoin r) := by
  simp only [List.mem_cons, List.not_mem_nil, or_false] at hy
  rcases hy with rfl | rfl
  · exact ⟨true, rfl⟩
  · exact ⟨false, rfl⟩
/-- so many places -/
theorem places_drawn {h : Hn} {M M1 : TM} {c : Nat} {step : List TV → TV → TM → (List TV → TM → Prop) → Prop} {fin : List TV → TM → Prop} (x : Xt h M M1)
    (hs : ∀ x acc M2 k, s__law_place [.ref h.a, .int 9] M2 (fun y M3 => k (acc ++ [y]) M3) (fun _ _ => False) → step acc x M2 k)
    (hf : ∀ ps M2, Some' 0 1 c ps → Xt h M1 M2 → fin ps.tvs M2) : lcL (fun _ => True) step fin (rngT 0 c) [] M1 :=
  drawn (h := h) (M := M1) (n := 0) (B := 1) c 0 (fun _ => trivial) (fun _ _ => trivial) (.refl x.2.1) (fun x acc M2 k x2 hk => hs x acc M2 k ⟨h, 9, rfl, by decide, by decide, x2.2.1, fun l w M3 o d => hk (.place l w) M3 o (Nat.le_refl _) (Nat.le_refl _) d⟩) hf
theorem Xt.trans {h : Hn} {M M1 M2 : TM} (x : Xt h M M1) (y : Xt h M1 M2) : Xt h M M2 := ⟨x.1, y.2.1, fun b o n e => y.2.2 b o n (x.2.2 b o n e)⟩
def rowT (ps : Pls) : TV := .tup ps.tvs
theorem v__law_deep {G : Gx} : ∀ xs M Q R, s__law_deep xs M Q R → wSs noF (b__law_deep G s__law_place s__law_some s__law_draw) (endsT Q R) (startT n__law_deep xs) M := by
  rintro xs M Q R ⟨h, rfl, ok, q⟩
  unfold b__law_deep
  simp only [wSs, wS, wE, wEs, wO, wB, wBo, wI, wTg, gs, startT, List.map_cons, List.map_nil, List.length_cons, List.length_nil, List.cons_append, List.nil_append, List.replicate, Nat.reduceAdd, Nat.reduceSub, Nat.zero_add, exEq, wCop, wIx, wTru, bif_len, bif_abs, bif_int, bif_isi, bif_tuple, bif_list, bif_sum, bif_all, bif_any, bif_min2, bif_max2, bif_minl, bif_maxl, bop_add_i, bop_add_t, bop_add_l, bop_sub, bop_mul_i, bop_fdiv, bop_mod, bop_pow, aug_add, aug_sub, aug_mul, setAll, tailS, wipeT, List.set, tru_bl, tru_non, tru_int, tru_tup, if_true, if_false, Bool.false_eq_true, Bool.not_true, Bool.not_false, seqM_tup, ix_tup, len_tup, atI_0, atI_1, atI_2, atI_3, atI_4, Option.some.injEq, exists_eq_left', eq_int, cmp_lt, cmp_le, cmp_gt, cmp_ge, cmp_eq, cmp_ne, cmp_is, cmp_isn, cmp_in, cmp_nin, Option.map, is_nn, is_in, is_tn, tyn_int, tyn_str, tyn_tup, Int.cast_ofNat_Int, Int.reduceLT, Int.reduceLE, Int.reduceAdd, Int.reduceMul, Int.reduceSub, BEq.rfl, decide_true, decide_false, Int.reduceBEq]
  refine ⟨⟨trivial, trivial, by decide⟩, h, _, rfl, by decide, by decide, ok, fun l w M1 okp d1 => ⟨h, 2, rfl, by decide, by decide, d1.1, fun b M2 b0 b2 d2 => ?_⟩⟩
  have x2 : Xt h M M2 := ((Xt.refl ok).hd d1).hd d2
  by_cases cb : b = 0
  · subst cb
    simp only [wSs, wS, wE, wEs, wO, wB, wBo, wI, wTg, gs, startT, List.map_cons, List.map_nil, List.length_cons, List.length_nil, List.cons_append, List.nil_append, List.replicate, Nat.reduceAdd, Nat.reduceSub, Nat.zero_add, exEq, wCop, wIx, wTru, bif_len, bif_abs, bif_int, bif_isi, bif_tuple, bif_list, bif_sum, bif_all, bif_any, bif_min2, bif_max2, bif_minl, bif_maxl, bop_add_i, bop_add_t, bop_add_l, bop_sub, bop_mul_i, bop_fdiv, bop_mod, bop_pow, aug_add, aug_sub, aug_mul, setAll, tailS, wipeT, List.set, tru_bl, tru_non, tru_int, tru_tup, if_true, if_false, Bool.false_eq_true, Bool.not_true, Bool.not_false, seqM_tup, ix_tup, len_tup, atI_0, atI_1, atI_2, atI_3, atI_4, Option.some.injEq, exists_eq_left', eq_int, cmp_lt, cmp_le, cmp_gt, cmp_ge, cmp_eq, cmp_ne, cmp_is, cmp_isn, cmp_in, cmp_nin, Option.map, is_nn, is_in, is_tn, tyn_int, tyn_str, tyn_tup, Int.cast_ofNat_Int, Int.reduceLT, Int.reduceLE, Int.reduceAdd, Int.reduceMul, Int.reduceSub, BEq.rfl, decide_true, decide_false, Int.reduceBEq, TV.int.injEq]
    refine ⟨by decide, by decide, ?_⟩
    refine foL_at (d := []) (fun _ rest σ M' => ∃ (p : Pl) (o2 o3 o4 o5 o6 o7 : Option TV), σ = [some (.ref h.a), some p.tv, o2, o3, o4, o5, o6, o7] ∧ p.ok ∧ p.dep + rest.length ≤ 16 ∧ p.size + rest.length ≤ 17 ∧ Xt h M M') ?_ (fun _ _ _ _ _ => trivial) ?_ ?_
    · exact ⟨.place l w, _, _, _, _, _, _, rfl, okp, (by show 0 + (rngT 0 16).length ≤ 16; rw [rngT_len]; decide), (by show 1 + (rngT 0 16).length ≤ 17; rw [rngT_len]; decide), x2⟩
    · rintro _ x rest k _ M3 ⟨p, o2, o3, o4, o5, o6, o7, rfl, po, pd, pz, x3⟩ hk
      simp only [List.length_cons] at pd pz
      simp only [wSs, wS, wE, wEs, wO, wB, wBo, wI, wTg, gs, startT, List.map_cons, List.map_nil, List.length_cons, List.length_nil, List.cons_append, List.nil_append, List.replicate, Nat.reduceAdd, Nat.reduceSub, Nat.zero_add, exEq, wCop, wIx, wTru, bif_len, bif_abs, bif_int, bif_isi, bif_tuple, bif_list, bif_sum, bif_all, bif_any, bif_min2, bif_max2, bif_minl, bif_maxl, bop_add_i, bop_add_t, bop_add_l, bop_sub, bop_mul_i, bop_fdiv, bop_mod, bop_pow, aug_add, aug_sub, aug_mul, setAll, tailS, wipeT, List.set, tru_bl, tru_non, tru_int, tru_tup, if_true, if_false, Bool.false_eq_true, Bool.not_true, Bool.not_false, seqM_tup, ix_tup, len_tup, atI_0, atI_1, atI_2, atI_3, atI_4, Option.some.injEq, exists_eq_left', eq_int, cmp_lt, cmp_le, cmp_gt, cmp_ge, cmp_eq, cmp_ne, cmp_is, cmp_isn, cmp_in, cmp_nin, Option.map, is_nn, is_in, is_tn, tyn_int, tyn_str, tyn_tup, Int.cast_ofNat_Int, Int.reduceLT, Int.reduceLE, Int.reduceAdd, Int.reduceMul, Int.reduceSub, BEq.rfl, decide_true, decide_false, Int.reduceBEq]
      intro t ht
      refine ⟨h, t, _, rfl, lsM_upd, (by simp), (by simp), x3.2.1.ne ht, (x3.new ht).2.1, fun y M4 hy d4 => ?_⟩
      have x4 := (x3.new ht).hd d4
      rcases str_w4 hy with ⟨r, rfl⟩ | ⟨c, rfl⟩
      · simp only [wSs, wS, wE, wEs, wO, wB, wBo, wI, wTg, gs, startT, List.map_cons, List.map_nil, List.length_cons, List.length_nil, List.cons_append, List.nil_append, List.replicate, Nat.reduceAdd, Nat.reduceSub, Nat.zero_add, exEq, wCop, wIx, wTru, bif_len, bif_abs, bif_int, bif_isi, bif_tuple, bif_list, bif_sum, bif_all, bif_any, bif_min2, bif_max2, bif_minl, bif_maxl, bop_add_i, bop_add_t, bop_add_l, bop_sub, bop_mul_i, bop_fdiv, bop_mod, bop_pow, aug_add, aug_sub, aug_mul, setAll, tailS, wipeT, List.set, tru_bl, tru_non, tru_int, tru_tup, if_true, if_false, Bool.false_eq_true, Bool.not_true, Bool.not_false, seqM_tup, ix_tup, len_tup, atI_0, atI_1, atI_2, atI_3, atI_4, Option.some.injEq, exists_eq_left', eq_int, cmp_lt, cmp_le, cmp_gt, cmp_ge, cmp_eq, cmp_ne, cmp_is, cmp_isn, cmp_in, cmp_nin, Option.map, is_nn, is_in, is_tn, tyn_int, tyn_str, tyn_tup, Int.cast_ofNat_Int, Int.reduceLT, Int.reduceLE, Int.reduceAdd, Int.reduceMul, Int.reduceSub, BEq.rfl, decide_true, decide_false, Int.reduceBEq, in_join]
        exact hk _ _ ⟨.join r (.cons p .nil), _, _, _, _, _, _, rfl, ⟨(by show 1 ≤ 1; decide), (by show 1 ≤ 12; decide), po, trivial⟩, by simp only [Pl.dep, Pls.dep]; omega, by simp only [Pl.size, Pls.size]; omega, x4⟩
      · simp only [wSs, wS, wE, wEs, wO, wB, wBo, wI, wTg, gs, startT, List.map_cons, List.map_nil, List.length_cons, List.length_nil, List.cons_append, List.nil_append, List.replicate, Nat.reduceAdd, Nat.reduceSub, Nat.zero_add, exEq, wCop, wIx, wTru, bif_len, bif_abs, bif_int, bif_isi, bif_tuple, bif_list, bif_sum, bif_all, bif_any, bif_min2, bif_max2, bif_minl, bif_maxl, bop_add_i, bop_add_t, bop_add_l, bop_sub, bop_mul_i, bop_fdiv, bop_mod, bop_pow, aug_add, aug_sub, aug_mul, setAll, tailS, wipeT, List.set, tru_bl, tru_non, tru_int, tru_tup, if_true, if_false, Bool.false_eq_true, Bool.not_true, Bool.not_false, seqM_tup, ix_tup, len_tup, atI_0, atI_1, atI_2, atI_3, atI_4, Option.some.injEq, exists_eq_left', eq_int, cmp_lt, cmp_le, cmp_gt, cmp_ge, cmp_eq, cmp_ne, cmp_is, cmp_isn, cmp_in, cmp_nin, Option.map, is_nn, is_in, is_tn, tyn_int, tyn_str, tyn_tup, Int.cast_ofNat_Int, Int.reduceLT, Int.reduceLE, Int.reduceAdd, Int.reduceMul, Int.reduceSub, BEq.rfl, decide_true, decide_false, Int.reduceBEq, in_joinR]
        refine ⟨⟨trivial, trivial, by decide⟩, h, _, rfl, by decide, by decide, d4.1, fun v M5 v0 v1 d5 => ?_⟩
        have e : (10 : Int) ^ (Int.toNat 30) = 1000000000000000000000000000000 := by decide
        exact hk _ _ ⟨.rep c (1 + v) p, _, _, _, _, _, _, rfl, ⟨by omega, by omega, po⟩, by simp only [Pl.dep]; omega, by simp only [Pl.size]; omega, x4.hd d5⟩
    · rintro _ _ M3 ⟨p, o2, o3, o4, o5, o6, o7, rfl, po, pd, pz, x3⟩
      simp only [wSs, wS, wE, wEs, wO, wB, wBo, wI, wTg, gs, startT, List.map_cons, List.map_nil, List.length_cons, List.length_nil, List.cons_append, List.nil_append, List.replicate, Nat.reduceAdd, Nat.reduceSub, Nat.zero_add, exEq, wCop, wIx, wTru, bif_len, bif_abs, bif_int, bif_isi, bif_tuple, bif_list, bif_sum, bif_all, bif_any, bif_min2, bif_max2, bif_minl, bif_maxl, bop_add_i, bop_add_t, bop_add_l, bop_sub, bop_mul_i, bop_fdiv, bop_mod, bop_pow, aug_add, aug_sub, aug_mul, setAll, tailS, wipeT, List.set, tru_bl, tru_non, tru_int, tru_tup, if_true, if_false, Bool.false_eq_true, Bool.not_true, Bool.not_false, seqM_tup, ix_tup, len_tup, atI_0, atI_1, atI_2, atI_3, atI_4, Option.some.injEq, exists_eq_left', eq_int, cmp_lt, cmp_le, cmp_gt, cmp_ge, cmp_eq, cmp_ne, cmp_is, cmp_isn, cmp_in, cmp_nin, Option.map, is_nn, is_in, is_tn, tyn_int, tyn_str, tyn_tup, Int.cast_ofNat_Int, Int.reduceLT, Int.reduceLE, Int.reduceAdd, Int.reduceMul, Int.reduceSub, BEq.rfl, decide_true, decide_false, Int.reduceBEq]
      simp only [List.length_nil, Nat.add_zero] at pd pz
      exact rtH x3 fun M4 d4 => q p M4 ⟨po, pd, by omega⟩ d4
  · have c0 : (b == 0) = false := by simpa using cb
    simp only [wSs, wS, wE, wEs, wO, wB, wBo, wI, wTg, gs, startT, List.map_cons, List.map_nil, List.length_cons, List.length_nil, List.cons_append, List.nil_append, List.replicate, Nat.reduceAdd, Nat.reduceSub, Nat.zero_add, exEq, wCop, wIx, wTru, bif_len, bif_abs, bif_int, bif_isi, bif_tuple, bif_list, bif_sum, bif_all, bif_any, bif_min2, bif_max2, bif_minl, bif_maxl, bop_add_i, bop_add_t, bop_add_l, bop_sub, bop_mul_i, bop_fdiv, bop_mod, bop_pow, aug_add, aug_sub, aug_mul, setAll, tailS, wipeT, List.set, tru_bl, tru_non, tru_int, tru_tup, if_true, if_false, Bool.false_eq_true, Bool.not_true, Bool.not_false, seqM_tup, ix_tup, len_tup, atI_0, atI_1, atI_2, atI_3, atI_4, Option.some.injEq, exists_eq_left', eq_int, cmp_lt, cmp_le, cmp_gt, cmp_ge, cmp_eq, cmp_ne, cmp_is, cmp_isn, cmp_in, cmp_nin, Option.map, is_nn, is_in, is_tn, tyn_int, tyn_str, tyn_tup, Int.cast_ofNat_Int, Int.reduceLT, Int.reduceLE, Int.reduceAdd, Int.reduceMul, Int.reduceSub, BEq.rfl, decide_true, decide_false, Int.reduceBEq, c0, TV.int.injEq]
    refine ⟨by decide, by decide, ?_⟩
    refine lcL_at (fun r acc M' => r.length ≤ 11 ∧ Xt h M M' ∧ ∃ L : List Pls, acc = L.map rowT ∧ L.length = 11 - r.length ∧ ∀ ps ∈ L, Some' 0 1 12 ps) ⟨by rw [rngT_len]; decide, x2, [], rfl, by rw [rngT_len]; decide, fun _ hh => by cases hh⟩ (fun _ _ _ _ => trivial) ?_ ?_
    · rintro x r acc M3 k ⟨hr, x3, L, rfl, hL, hall⟩ hk
      refine ⟨by decide, by decide, places_drawn (c := 12) x3 ?_ ?_⟩
      · intro _ acc M4 k hh
        exact hh
      · intro ps M4 hp x4 t ht
        refine ⟨_, lsM_upd, hk _ _ ⟨by simp only [List.length_cons] at hr; omega, (x3.trans x4).new ht, L ++ [ps], by simp [rowT], by simp only [List.length_append, List.length_cons, List.length_nil] at hr hL ⊢; omega, fun z hz => ?_⟩⟩
        rcases List.mem_append.mp hz with hz | hz
        · exact hall z hz
        · rw [List.mem_singleton.mp hz]; exact hp
    · rintro acc M3 ⟨_, x3, L, rfl, hL, hall⟩ t ht
      simp only [List.length_nil, Nat.sub_zero] at hL
      have x4 : Xt h M (updM M3 t (.lst (L.map rowT))) := x3.new ht
      have nt : t ≠ h.a := x3.2.1.ne ht
      refine ⟨_, lsM_upd, ?_⟩
      refine lcL_at (fun r acc M' => Xt h M M' ∧ M' t = some (.lst (L.map rowT)) ∧ ∃ (L2 : List Pls) (qs : Pls), r = L2.map rowT ∧ (∀ ps ∈ L2, Some' 0 1 12 ps) ∧ acc = qs.tvs ∧ L2.length ≤ 11 ∧ Some' 1 13 (11 - L2.length) qs) ⟨x4, updM_same, L, .nil, rfl, hall, rfl, by omega, by rw [hL]; exact Some'.nil⟩ (fun _ _ _ hh => lsM_lst hh.2.1) ?_ ?_
      · rintro x r acc M5 k ⟨x5, e5, L2, qs, e, h2, rfl, hl, hq⟩ hk
        cases L2 with
        | nil => cases e
        | cons ps L2 =>
        cases e
        simp only [List.length_cons] at hl hq
        intro t2 ht2
        refine ⟨h, t2, _, rfl, lsM_upd, (by simp), (by simp), x5.2.1.ne ht2, (x5.new ht2).2.1, fun y M6 hy d6 => ?_⟩
        obtain ⟨r, rfl⟩ := str_w2 hy
        have hps := h2 ps List.mem_cons_self
        have n2 : t ≠ t2 := fun z => by subst z; rw [e5] at ht2; cases ht2
        refine hk _ _ ⟨(x5.new ht2).hd d6, by rw [d6.2 t nt, updM_ne n2]; exact e5, L2, qs.snoc (.join r ps), rfl, fun z hz => h2 z (List.mem_cons_of_mem _ hz), by rw [Pls.snoc_tvs]; rfl, by omega, ?_⟩
        have e11 : 11 - L2.length = (11 - (L2.length + 1)) + 1 := by omega
        rw [e11]
        refine hq.snoc ⟨by have := hps.len; omega, by have := hps.len; omega, hps.ok⟩ (Nat.succ_le_succ hps.dep) ?_
        have := hps.size
        simp only [Pl.size]
        omega
      · rintro acc M5 ⟨x5, e5, L2, qs, e, h2, rfl, hl, hq⟩ tp htp
        cases L2 with
        | cons _ _ => cases e
        | nil =>
        simp only [List.length_nil, Nat.sub_zero] at hq
        have x6 := x5.new (o := .lst qs.tvs) htp
        refine ⟨⟨trivial, trivial, by decide⟩, by decide, by decide, places_drawn (c := 4) x6 ?_ ?_⟩
        · intro _ acc M4 k hh
          exact hh
        · intro p4 M6 hp4 x7 t5 ht5
          have e6 : M6 tp = some (.lst qs.tvs) := x7.2.2 tp _ (x5.2.1.ne htp) updM_same
          refine ⟨_, lsM_upd, fun t6 ht6 => ?_⟩
          have s7 : Subm M6 (updM (updM M6 t5 (.lst p4.tvs)) t6 (.lst [.tup [.str "times", .int (10 ^ Int.toNat 30), .tup [.str "row", .tup p4.tvs]]])) := (Subm.new (.refl _) ht5).new ht6
          refine ⟨_, _, s7 _ _ e6, updM_same, ?_, fun t7 ht7 => ⟨_, lsM_upd, ?_⟩⟩
          · rw [Pls.tvs_len, hq.len]; exact (show 12 ≤ sizeLine by decide)
          · refine rtH (((x6.trans x7).sub s7).new ht7) fun M8 d8 => ?_
            have := q (.join true (qs.snoc (.rep false 1000000000000000000000000000000 (.join true p4)))) M8 ?_ d8
            · have e : (10 : Int) ^ (Int.toNat 30) = 1000000000000000000000000000000 := by decide
              rw [e]
              simp only [Pl.tv, Pls.snoc_tvs] at this
              exact this
            · refine ⟨⟨by rw [Pls.snoc_len, hq.len]; decide, by rw [Pls.snoc_len, hq.len]; decide, Pls.snoc_ok _ _ hq.ok ⟨by decide, by decide, by rw [hp4.len]; decide, by rw [hp4.len]; decide, hp4.ok⟩⟩, ?_, ?_⟩
              · have a := hq.dep
                have b := hp4.dep
                simp only [Pl.dep, Pls.snoc_dep]
                omega
              · have a := hq.size
                have b := hp4.size
                simp only [Pl.size, Pls.snoc_size]
                omega
theorem h__law_deep {G : Gx} (F : Facts G) : HeldT G 4 (adr G "_law_deep") s__law_deep :=
  F.d__law_deep.held (k := 3) sc__law_deep ck__law_deep (ok__law_deep F (h__law_place F) ((h__law_some F).mono (by decide)) ((h__law_draw F).mono (by decide))) nF (fun xs M Q R ⟨_, e, _⟩ => by rw [e]; rfl) v__law_deep
end TL

/-! VcI: what is right; the law. -/
namespace TL
open PySem PySem.Spec PyProof.Rows L2
theorem same_int {M : TM} {a : Int} : ∀ {n : Nat}, Same M n (.int a) (.int a)
  | 0 => by simp only [Same]
  | n + 1 => by simp only [Same]
theorem same_all {M : TM} {n : Nat} {zs : List TV} (h : ∀ x ∈ zs, Same M n x x) : ∀ (i : Nat) (x y : TV), zs[i]? = some x → zs[i]? = some y → Same M n x y := fun i x y e e2 => by
  rw [e] at e2
  cases e2
  exact h x (List.mem_of_getElem? e)
theorem same_pair {M : TM} {n : Nat} {a b : Int} : Same M (n + 1) (.tup [.int a, .int b]) (.tup [.int a, .int b]) := by
  simp only [Same]
  refine ⟨trivial, same_all fun x hx => ?_⟩
  simp only [List.mem_cons, List.not_mem_nil, or_false] at hx
  rcases hx with rfl | rfl <;> exact same_int
theorem same_lst {M : TM} {n : Nat} {a b : Addr} {zs : List TV} (h1 : lsM M a = some zs) (h2 : lsM M b = some zs) (h : ∀ x ∈ zs, Same M n x x) : Same M (n + 1) (.ref a) (.ref b) := by
  simp only [Same]
  exact ⟨zs, zs, h1, h2, rfl, same_all h⟩
def s__law_is_right : TSp := fun xs M Q _ => ∃ p : Pl, xs = [p.tv] ∧ p.good ∧ Q (.bl true) M
theorem v__law_is_right {G : Gx} : ∀ xs M Q R, s__law_is_right xs M Q R → wSs noF (b__law_is_right G s_listed s_total s_places s_size (s__law_is 2) (s_total_of 16) (s__law_count 16) (s__law_size 16)) (endsT Q R) (startT n__law_is_right xs) M := by
  rintro xs M Q R ⟨p, rfl, g, q⟩
  unfold b__law_is_right
  simp only [wSs, wS, wE, wEs, wO, wB, wBo, wI, wTg, gs, startT, List.map_cons, List.map_nil, List.length_cons, List.length_nil, List.cons_append, List.nil_append, List.replicate, Nat.reduceAdd, Nat.reduceSub, Nat.zero_add, exEq, wCop, wIx, wTru, bif_len, bif_abs, bif_int, bif_isi, bif_tuple, bif_list, bif_sum, bif_all, bif_any, bif_min2, bif_max2, bif_minl, bif_maxl, bop_add_i, bop_add_t, bop_add_l, bop_sub, bop_mul_i, bop_fdiv, bop_mod, bop_pow, aug_add, aug_sub, aug_mul, setAll, tailS, wipeT, List.set, tru_bl, tru_non, tru_int, tru_tup, if_true, if_false, Bool.false_eq_true, Bool.not_true, Bool.not_false, seqM_tup, ix_tup, len_tup, atI_0, atI_1, atI_2, atI_3, atI_4, Option.some.injEq, exists_eq_left', eq_int, cmp_lt, cmp_le, cmp_gt, cmp_ge, cmp_eq, cmp_ne, cmp_is, cmp_isn, cmp_in, cmp_nin, Option.map, is_nn, is_in, is_tn, tyn_int, tyn_str, tyn_tup, Int.cast_ofNat_Int, Int.reduceLT, Int.reduceLE, Int.reduceAdd, Int.reduceMul, Int.reduceSub, BEq.rfl, decide_true, decide_false, Int.reduceBEq]
  refine ⟨p, rfl, g.2.1, p, rfl, g.1, g.2.1, g.2.2, p, rfl, g.1, g.2.1, g.2.2, fun a ha => ?_⟩
  have s1 : Subm M (updM M a (.lst [.int p.size, .int p.cnt, p.pair])) := Subm.new (.refl _) ha
  have l1 : lsM (updM M a (.lst [.int p.size, .int p.cnt, p.pair])) a = some [.int p.size, .int p.cnt, p.pair] := lsM_upd
  generalize updM M a (.lst [.int p.size, .int p.cnt, p.pair]) = M1 at s1 l1 ⊢
  have each : ∀ M2 : TM, ∀ x ∈ [TV.int p.size, .int p.cnt, p.pair], Same M2 1 x x := by
    intro M2 x hx
    simp only [List.mem_cons, List.not_mem_nil, or_false] at hx
    rcases hx with rfl | rfl | rfl
    · exact same_int
    · exact same_int
    · exact same_pair
  refine foL_at (d := []) (fun _ _ σ M' => ∃ o2 o3 o4, σ = [some p.tv, some (.ref a), o2, o3, o4] ∧ Subm M1 M') ⟨none, none, none, rfl, .refl _⟩ (fun _ _ _ _ _ => trivial) ?_ ?_
  · rintro _ x r k _ M2 ⟨o2, o3, o4, rfl, s2⟩ hk
    simp only [wSs, wS, wE, wEs, wO, wB, wBo, wI, wTg, gs, startT, List.map_cons, List.map_nil, List.length_cons, List.length_nil, List.cons_append, List.nil_append, List.replicate, Nat.reduceAdd, Nat.reduceSub, Nat.zero_add, exEq, wCop, wIx, wTru, bif_len, bif_abs, bif_int, bif_isi, bif_tuple, bif_list, bif_sum, bif_all, bif_any, bif_min2, bif_max2, bif_minl, bif_maxl, bop_add_i, bop_add_t, bop_add_l, bop_sub, bop_mul_i, bop_fdiv, bop_mod, bop_pow, aug_add, aug_sub, aug_mul, setAll, tailS, wipeT, List.set, tru_bl, tru_non, tru_int, tru_tup, if_true, if_false, Bool.false_eq_true, Bool.not_true, Bool.not_false, seqM_tup, ix_tup, len_tup, atI_0, atI_1, atI_2, atI_3, atI_4, Option.some.injEq, exists_eq_left', eq_int, cmp_lt, cmp_le, cmp_gt, cmp_ge, cmp_eq, cmp_ne, cmp_is, cmp_isn, cmp_in, cmp_nin, Option.map, is_nn, is_in, is_tn, tyn_int, tyn_str, tyn_tup, Int.cast_ofNat_Int, Int.reduceLT, Int.reduceLE, Int.reduceAdd, Int.reduceMul, Int.reduceSub, BEq.rfl, decide_true, decide_false, Int.reduceBEq]
    refine ⟨p, rfl, g, p, rfl, g, p, rfl, g, fun t ht => ?_⟩
    have s3 : Subm M2 (updM M2 t (.lst [.int p.size, .int p.cnt, p.pair])) := Subm.new (.refl _) ht
    refine ⟨_, _, rfl, same_lst lsM_upd ((s2.trans s3).lsM l1) (each _), ?_⟩
    simp only [wSs, wS, wE, wEs, wO, wB, wBo, wI, wTg, gs, startT, List.map_cons, List.map_nil, List.length_cons, List.length_nil, List.cons_append, List.nil_append, List.replicate, Nat.reduceAdd, Nat.reduceSub, Nat.zero_add, exEq, wCop, wIx, wTru, bif_len, bif_abs, bif_int, bif_isi, bif_tuple, bif_list, bif_sum, bif_all, bif_any, bif_min2, bif_max2, bif_minl, bif_maxl, bop_add_i, bop_add_t, bop_add_l, bop_sub, bop_mul_i, bop_fdiv, bop_mod, bop_pow, aug_add, aug_sub, aug_mul, setAll, tailS, wipeT, List.set, tru_bl, tru_non, tru_int, tru_tup, if_true, if_false, Bool.false_eq_true, Bool.not_true, Bool.not_false, seqM_tup, ix_tup, len_tup, atI_0, atI_1, atI_2, atI_3, atI_4, Option.some.injEq, exists_eq_left', eq_int, cmp_lt, cmp_le, cmp_gt, cmp_ge, cmp_eq, cmp_ne, cmp_is, cmp_isn, cmp_in, cmp_nin, Option.map, is_nn, is_in, is_tn, tyn_int, tyn_str, tyn_tup, Int.cast_ofNat_Int, Int.reduceLT, Int.reduceLE, Int.reduceAdd, Int.reduceMul, Int.reduceSub, BEq.rfl, decide_true, decide_false, Int.reduceBEq]
    exact hk _ _ ⟨_, _, _, rfl, s2.trans s3⟩
  · rintro _ _ M2 ⟨o2, o3, o4, rfl, s2⟩
    have l2 := s2.lsM l1
    simp only [wSs, wS, wE, wEs, wO, wB, wBo, wI, wTg, gs, startT, List.map_cons, List.map_nil, List.length_cons, List.length_nil, List.cons_append, List.nil_append, List.replicate, Nat.reduceAdd, Nat.reduceSub, Nat.zero_add, exEq, wCop, wIx, wTru, bif_len, bif_abs, bif_int, bif_isi, bif_tuple, bif_list, bif_sum, bif_all, bif_any, bif_min2, bif_max2, bif_minl, bif_maxl, bop_add_i, bop_add_t, bop_add_l, bop_sub, bop_mul_i, bop_fdiv, bop_mod, bop_pow, aug_add, aug_sub, aug_mul, setAll, tailS, wipeT, List.set, tru_bl, tru_non, tru_int, tru_tup, if_true, if_false, Bool.false_eq_true, Bool.not_true, Bool.not_false, seqM_tup, ix_tup, len_tup, atI_0, atI_1, atI_2, atI_3, atI_4, Option.some.injEq, exists_eq_left', eq_int, cmp_lt, cmp_le, cmp_gt, cmp_ge, cmp_eq, cmp_ne, cmp_is, cmp_isn, cmp_in, cmp_nin, Option.map, is_nn, is_in, is_tn, tyn_int, tyn_str, tyn_tup, Int.cast_ofNat_Int, Int.reduceLT, Int.reduceLE, Int.reduceAdd, Int.reduceMul, Int.reduceSub, BEq.rfl, decide_true, decide_false, Int.reduceBEq, ix_lst l2]
    have fin : ∀ M3, Subm M2 M3 → (endsT Q R).rt (.bl true) M3 := fun M3 s3 => rtF ((s1.trans s2).trans s3) q
    by_cases c : p.cnt < 201
    · simp only [wSs, wS, wE, wEs, wO, wB, wBo, wI, wTg, gs, startT, List.map_cons, List.map_nil, List.length_cons, List.length_nil, List.cons_append, List.nil_append, List.replicate, Nat.reduceAdd, Nat.reduceSub, Nat.zero_add, exEq, wCop, wIx, wTru, bif_len, bif_abs, bif_int, bif_isi, bif_tuple, bif_list, bif_sum, bif_all, bif_any, bif_min2, bif_max2, bif_minl, bif_maxl, bop_add_i, bop_add_t, bop_add_l, bop_sub, bop_mul_i, bop_fdiv, bop_mod, bop_pow, aug_add, aug_sub, aug_mul, setAll, tailS, wipeT, List.set, tru_bl, tru_non, tru_int, tru_tup, if_true, if_false, Bool.false_eq_true, Bool.not_true, Bool.not_false, seqM_tup, ix_tup, len_tup, atI_0, atI_1, atI_2, atI_3, atI_4, Option.some.injEq, exists_eq_left', eq_int, cmp_lt, cmp_le, cmp_gt, cmp_ge, cmp_eq, cmp_ne, cmp_is, cmp_isn, cmp_in, cmp_nin, Option.map, is_nn, is_in, is_tn, tyn_int, tyn_str, tyn_tup, Int.cast_ofNat_Int, Int.reduceLT, Int.reduceLE, Int.reduceAdd, Int.reduceMul, Int.reduceSub, BEq.rfl, decide_true, decide_false, Int.reduceBEq, decide_eq_true c]
      refine ⟨p, rfl, g, by omega, fun b hb => ?_⟩
      have s3 : Subm M2 (updM M2 b (.lst p.lst)) := Subm.new (.refl _) hb
      have l3 : lsM (updM M2 b (.lst p.lst)) b = some p.lst := lsM_upd
      generalize updM M2 b (.lst p.lst) = M3 at s3 l3 ⊢
      have l4 := s3.lsM l2
      have len := p.lst_len g.1
      simp only [wSs, wS, wE, wEs, wO, wB, wBo, wI, wTg, gs, startT, List.map_cons, List.map_nil, List.length_cons, List.length_nil, List.cons_append, List.nil_append, List.replicate, Nat.reduceAdd, Nat.reduceSub, Nat.zero_add, exEq, wCop, wIx, wTru, bif_len, bif_abs, bif_int, bif_isi, bif_tuple, bif_list, bif_sum, bif_all, bif_any, bif_min2, bif_max2, bif_minl, bif_maxl, bop_add_i, bop_add_t, bop_add_l, bop_sub, bop_mul_i, bop_fdiv, bop_mod, bop_pow, aug_add, aug_sub, aug_mul, setAll, tailS, wipeT, List.set, tru_bl, tru_non, tru_int, tru_tup, if_true, if_false, Bool.false_eq_true, Bool.not_true, Bool.not_false, seqM_tup, ix_tup, len_tup, atI_0, atI_1, atI_2, atI_3, atI_4, Option.some.injEq, exists_eq_left', eq_int, cmp_lt, cmp_le, cmp_gt, cmp_ge, cmp_eq, cmp_ne, cmp_is, cmp_isn, cmp_in, cmp_nin, Option.map, is_nn, is_in, is_tn, tyn_int, tyn_str, tyn_tup, Int.cast_ofNat_Int, Int.reduceLT, Int.reduceLE, Int.reduceAdd, Int.reduceMul, Int.reduceSub, BEq.rfl, decide_true, decide_false, Int.reduceBEq, len_lst l3, ix_lst l4, len]
      obtain ⟨ns, e1, e2⟩ := p.lst_sum fst (fun l _ => l) (fun _ _ => rfl) g.1
      obtain ⟨ms, e3, e4⟩ := p.lst_sum snd (fun _ w => w) (fun _ _ => rfl) g.1
      refine ⟨_, l3, lcL_map fst (.refl _) (fun _ s => s.lsM l3) ?_ ?_⟩
      · intro x hx acc M4 k s4 hk
        obtain ⟨l, w, rfl⟩ := p.lst_mem x hx
        simp only [wSs, wS, wE, wEs, wO, wB, wBo, wI, wTg, gs, startT, List.map_cons, List.map_nil, List.length_cons, List.length_nil, List.cons_append, List.nil_append, List.replicate, Nat.reduceAdd, Nat.reduceSub, Nat.zero_add, exEq, wCop, wIx, wTru, bif_len, bif_abs, bif_int, bif_isi, bif_tuple, bif_list, bif_sum, bif_all, bif_any, bif_min2, bif_max2, bif_minl, bif_maxl, bop_add_i, bop_add_t, bop_add_l, bop_sub, bop_mul_i, bop_fdiv, bop_mod, bop_pow, aug_add, aug_sub, aug_mul, setAll, tailS, wipeT, List.set, tru_bl, tru_non, tru_int, tru_tup, if_true, if_false, Bool.false_eq_true, Bool.not_true, Bool.not_false, seqM_tup, ix_tup, len_tup, atI_0, atI_1, atI_2, atI_3, atI_4, Option.some.injEq, exists_eq_left', eq_int, cmp_lt, cmp_le, cmp_gt, cmp_ge, cmp_eq, cmp_ne, cmp_is, cmp_isn, cmp_in, cmp_nin, Option.map, is_nn, is_in, is_tn, tyn_int, tyn_str, tyn_tup, Int.cast_ofNat_Int, Int.reduceLT, Int.reduceLE, Int.reduceAdd, Int.reduceMul, Int.reduceSub, BEq.rfl, decide_true, decide_false, Int.reduceBEq]
        exact hk _ (.refl _)
      · intro M4 s4 t1 h1
        simp only [wSs, wS, wE, wEs, wO, wB, wBo, wI, wTg, gs, startT, List.map_cons, List.map_nil, List.length_cons, List.length_nil, List.cons_append, List.nil_append, List.replicate, Nat.reduceAdd, Nat.reduceSub, Nat.zero_add, exEq, wCop, wIx, wTru, bif_len, bif_abs, bif_int, bif_isi, bif_tuple, bif_list, bif_sum, bif_all, bif_any, bif_min2, bif_max2, bif_minl, bif_maxl, bop_add_i, bop_add_t, bop_add_l, bop_sub, bop_mul_i, bop_fdiv, bop_mod, bop_pow, aug_add, aug_sub, aug_mul, setAll, tailS, wipeT, List.set, tru_bl, tru_non, tru_int, tru_tup, if_true, if_false, Bool.false_eq_true, Bool.not_true, Bool.not_false, seqM_tup, ix_tup, len_tup, atI_0, atI_1, atI_2, atI_3, atI_4, Option.some.injEq, exists_eq_left', eq_int, cmp_lt, cmp_le, cmp_gt, cmp_ge, cmp_eq, cmp_ne, cmp_is, cmp_isn, cmp_in, cmp_nin, Option.map, is_nn, is_in, is_tn, tyn_int, tyn_str, tyn_tup, Int.cast_ofNat_Int, Int.reduceLT, Int.reduceLE, Int.reduceAdd, Int.reduceMul, Int.reduceSub, BEq.rfl, decide_true, decide_false, Int.reduceBEq, List.nil_append]
        refine ⟨_, _, lsM_upd, e1, ?_⟩
        have l5 := (s4.new (o := .lst (p.lst.map fst)) h1).lsM l3
        refine ⟨_, l5, lcL_map snd (.refl _) (fun _ s => s.lsM l5) ?_ ?_⟩
        · intro x hx acc M5 k s5 hk
          obtain ⟨l, w, rfl⟩ := p.lst_mem x hx
          simp only [wSs, wS, wE, wEs, wO, wB, wBo, wI, wTg, gs, startT, List.map_cons, List.map_nil, List.length_cons, List.length_nil, List.cons_append, List.nil_append, List.replicate, Nat.reduceAdd, Nat.reduceSub, Nat.zero_add, exEq, wCop, wIx, wTru, bif_len, bif_abs, bif_int, bif_isi, bif_tuple, bif_list, bif_sum, bif_all, bif_any, bif_min2, bif_max2, bif_minl, bif_maxl, bop_add_i, bop_add_t, bop_add_l, bop_sub, bop_mul_i, bop_fdiv, bop_mod, bop_pow, aug_add, aug_sub, aug_mul, setAll, tailS, wipeT, List.set, tru_bl, tru_non, tru_int, tru_tup, if_true, if_false, Bool.false_eq_true, Bool.not_true, Bool.not_false, seqM_tup, ix_tup, len_tup, atI_0, atI_1, atI_2, atI_3, atI_4, Option.some.injEq, exists_eq_left', eq_int, cmp_lt, cmp_le, cmp_gt, cmp_ge, cmp_eq, cmp_ne, cmp_is, cmp_isn, cmp_in, cmp_nin, Option.map, is_nn, is_in, is_tn, tyn_int, tyn_str, tyn_tup, Int.cast_ofNat_Int, Int.reduceLT, Int.reduceLE, Int.reduceAdd, Int.reduceMul, Int.reduceSub, BEq.rfl, decide_true, decide_false, Int.reduceBEq]
          exact hk _ (.refl _)
        · intro M5 s5 t2 h2
          simp only [wSs, wS, wE, wEs, wO, wB, wBo, wI, wTg, gs, startT, List.map_cons, List.map_nil, List.length_cons, List.length_nil, List.cons_append, List.nil_append, List.replicate, Nat.reduceAdd, Nat.reduceSub, Nat.zero_add, exEq, wCop, wIx, wTru, bif_len, bif_abs, bif_int, bif_isi, bif_tuple, bif_list, bif_sum, bif_all, bif_any, bif_min2, bif_max2, bif_minl, bif_maxl, bop_add_i, bop_add_t, bop_add_l, bop_sub, bop_mul_i, bop_fdiv, bop_mod, bop_pow, aug_add, aug_sub, aug_mul, setAll, tailS, wipeT, List.set, tru_bl, tru_non, tru_int, tru_tup, if_true, if_false, Bool.false_eq_true, Bool.not_true, Bool.not_false, seqM_tup, ix_tup, len_tup, atI_0, atI_1, atI_2, atI_3, atI_4, Option.some.injEq, exists_eq_left', eq_int, cmp_lt, cmp_le, cmp_gt, cmp_ge, cmp_eq, cmp_ne, cmp_is, cmp_isn, cmp_in, cmp_nin, Option.map, is_nn, is_in, is_tn, tyn_int, tyn_str, tyn_tup, Int.cast_ofNat_Int, Int.reduceLT, Int.reduceLE, Int.reduceAdd, Int.reduceMul, Int.reduceSub, BEq.rfl, decide_true, decide_false, Int.reduceBEq, List.nil_append]
          refine ⟨_, _, lsM_upd, e3, ?_⟩
          rw [e2, e4]
          simp only [wSs, wS, wE, wEs, wO, wB, wBo, wI, wTg, gs, startT, List.map_cons, List.map_nil, List.length_cons, List.length_nil, List.cons_append, List.nil_append, List.replicate, Nat.reduceAdd, Nat.reduceSub, Nat.zero_add, exEq, wCop, wIx, wTru, bif_len, bif_abs, bif_int, bif_isi, bif_tuple, bif_list, bif_sum, bif_all, bif_any, bif_min2, bif_max2, bif_minl, bif_maxl, bop_add_i, bop_add_t, bop_add_l, bop_sub, bop_mul_i, bop_fdiv, bop_mod, bop_pow, aug_add, aug_sub, aug_mul, setAll, tailS, wipeT, List.set, tru_bl, tru_non, tru_int, tru_tup, if_true, if_false, Bool.false_eq_true, Bool.not_true, Bool.not_false, seqM_tup, ix_tup, len_tup, atI_0, atI_1, atI_2, atI_3, atI_4, Option.some.injEq, exists_eq_left', eq_int, cmp_lt, cmp_le, cmp_gt, cmp_ge, cmp_eq, cmp_ne, cmp_is, cmp_isn, cmp_in, cmp_nin, Option.map, is_nn, is_in, is_tn, tyn_int, tyn_str, tyn_tup, Int.cast_ofNat_Int, Int.reduceLT, Int.reduceLE, Int.reduceAdd, Int.reduceMul, Int.reduceSub, BEq.rfl, decide_true, decide_false, Int.reduceBEq, Pl.pair, eq_pair, Bool.and_self]
          exact fin _ (((s3.trans (s4.new h1)).trans s5).new h2)
    · simp only [wSs, wS, wE, wEs, wO, wB, wBo, wI, wTg, gs, startT, List.map_cons, List.map_nil, List.length_cons, List.length_nil, List.cons_append, List.nil_append, List.replicate, Nat.reduceAdd, Nat.reduceSub, Nat.zero_add, exEq, wCop, wIx, wTru, bif_len, bif_abs, bif_int, bif_isi, bif_tuple, bif_list, bif_sum, bif_all, bif_any, bif_min2, bif_max2, bif_minl, bif_maxl, bop_add_i, bop_add_t, bop_add_l, bop_sub, bop_mul_i, bop_fdiv, bop_mod, bop_pow, aug_add, aug_sub, aug_mul, setAll, tailS, wipeT, List.set, tru_bl, tru_non, tru_int, tru_tup, if_true, if_false, Bool.false_eq_true, Bool.not_true, Bool.not_false, seqM_tup, ix_tup, len_tup, atI_0, atI_1, atI_2, atI_3, atI_4, Option.some.injEq, exists_eq_left', eq_int, cmp_lt, cmp_le, cmp_gt, cmp_ge, cmp_eq, cmp_ne, cmp_is, cmp_isn, cmp_in, cmp_nin, Option.map, is_nn, is_in, is_tn, tyn_int, tyn_str, tyn_tup, Int.cast_ofNat_Int, Int.reduceLT, Int.reduceLE, Int.reduceAdd, Int.reduceMul, Int.reduceSub, BEq.rfl, decide_true, decide_false, Int.reduceBEq, decide_eq_false c]
      exact fin _ (.refl _)
theorem h__law_is_right {G : Gx} (F : Facts G) : HeldT G 30 (adr G "_law_is_right") s__law_is_right :=
  F.d__law_is_right.held (k := 29) sc__law_is_right ck__law_is_right (ok__law_is_right F ((h_listed F).mono (by decide)) ((h_total F).mono (by decide)) ((h_places F).mono (by decide)) ((h_size F).mono (by decide)) ((h__law_is F 2).mono (by decide)) ((h__law_total F 16).mono (by decide)) ((h__law_count F 16).mono (by decide)) ((h__law_size F 16).mono (by decide))) nF (fun xs M Q R ⟨_, e, _⟩ => by rw [e]; rfl) v__law_is_right
def addP : TV → TV
  | .tup [.int a, .int b] => .int (a + b)
  | x => x
def s__law_two : TSp := fun xs M Q _ => ∃ (p q : Pl), xs = [p.tv, q.tv] ∧ p.good ∧ q.good ∧ (∀ r, (Pl.join r (.cons p (.cons q .nil))).good) ∧ Q (.bl true) M
theorem v__law_are_two_right {G : Gx} : ∀ xs M Q R, s__law_two xs M Q R → wSs noF (b__law_are_two_right G (s_two false) (s_two true) s_places s_size (s__law_is 2) s_total (s_total_of 16)) (endsT Q R) (startT n__law_are_two_right xs) M := by
  rintro xs M Q R ⟨p, q, rfl, g1, g2, g3, fin⟩
  unfold b__law_are_two_right
  simp only [wSs, wS, wE, wEs, wO, wB, wBo, wI, wTg, gs, startT, List.map_cons, List.map_nil, List.length_cons, List.length_nil, List.cons_append, List.nil_append, List.replicate, Nat.reduceAdd, Nat.reduceSub, Nat.zero_add, exEq, wCop, wIx, wTru, bif_len, bif_abs, bif_int, bif_isi, bif_tuple, bif_list, bif_sum, bif_all, bif_any, bif_min2, bif_max2, bif_minl, bif_maxl, bop_add_i, bop_add_t, bop_add_l, bop_sub, bop_mul_i, bop_fdiv, bop_mod, bop_pow, aug_add, aug_sub, aug_mul, setAll, tailS, wipeT, List.set, tru_bl, tru_non, tru_int, tru_tup, if_true, if_false, Bool.false_eq_true, Bool.not_true, Bool.not_false, seqM_tup, ix_tup, len_tup, atI_0, atI_1, atI_2, atI_3, atI_4, Option.some.injEq, exists_eq_left', eq_int, cmp_lt, cmp_le, cmp_gt, cmp_ge, cmp_eq, cmp_ne, cmp_is, cmp_isn, cmp_in, cmp_nin, Option.map, is_nn, is_in, is_tn, tyn_int, tyn_str, tyn_tup, Int.cast_ofNat_Int, Int.reduceLT, Int.reduceLE, Int.reduceAdd, Int.reduceMul, Int.reduceSub, BEq.rfl, decide_true, decide_false, Int.reduceBEq]
  refine ⟨p, q, rfl, g1, g2, g3 true, p, q, rfl, g1, g2, g3 false, ?_⟩
  refine foL_at (d := []) (fun _ rest σ M' => Subm M M' ∧ (∀ x ∈ rest, ∃ r, x = (Pl.join r (.cons p (.cons q .nil))).tv) ∧ ∃ o2 o3 o4 o5 o6, σ = [some p.tv, some q.tv, o2, o3, o4, o5, o6]) ⟨.refl _, ?_, none, none, none, none, none, rfl⟩ (fun _ _ _ _ _ => trivial) ?_ ?_
  · intro x hx
    simp only [List.mem_cons, List.not_mem_nil, or_false] at hx
    rcases hx with rfl | rfl
    · exact ⟨true, rfl⟩
    · exact ⟨false, rfl⟩
  · rintro _ x rest k _ M1 ⟨s1, hr, o2, o3, o4, o5, o6, rfl⟩ hk
    obtain ⟨r, rfl⟩ := hr x List.mem_cons_self
    have gj := g3 r
    generalize hJ : Pl.join r (.cons p (.cons q .nil)) = J at gj
    have jl : J.tl = p.tl + q.tl := by subst hJ; simp [Pl.tl, Pl.val, Pls.val]
    have jw : J.tw = p.tw + q.tw := by subst hJ; simp [Pl.tw, Pl.val, Pls.val]
    have jc : J.cnt = p.cnt + q.cnt := by subst hJ; simp [Pl.cnt, Pl.val, Pls.val]
    have jz : ((J.size : Nat) : Int) = 1 + p.size + q.size := by subst hJ; simp only [Pl.size, Pls.size]; omega
    simp only [wSs, wS, wE, wEs, wO, wB, wBo, wI, wTg, gs, startT, List.map_cons, List.map_nil, List.length_cons, List.length_nil, List.cons_append, List.nil_append, List.replicate, Nat.reduceAdd, Nat.reduceSub, Nat.zero_add, exEq, wCop, wIx, wTru, bif_len, bif_abs, bif_int, bif_isi, bif_tuple, bif_list, bif_sum, bif_all, bif_any, bif_min2, bif_max2, bif_minl, bif_maxl, bop_add_i, bop_add_t, bop_add_l, bop_sub, bop_mul_i, bop_fdiv, bop_mod, bop_pow, aug_add, aug_sub, aug_mul, setAll, tailS, wipeT, List.set, tru_bl, tru_non, tru_int, tru_tup, if_true, if_false, Bool.false_eq_true, Bool.not_true, Bool.not_false, seqM_tup, ix_tup, len_tup, atI_0, atI_1, atI_2, atI_3, atI_4, Option.some.injEq, exists_eq_left', eq_int, cmp_lt, cmp_le, cmp_gt, cmp_ge, cmp_eq, cmp_ne, cmp_is, cmp_isn, cmp_in, cmp_nin, Option.map, is_nn, is_in, is_tn, tyn_int, tyn_str, tyn_tup, Int.cast_ofNat_Int, Int.reduceLT, Int.reduceLE, Int.reduceAdd, Int.reduceMul, Int.reduceSub, BEq.rfl, decide_true, decide_false, Int.reduceBEq]
    refine ⟨p, rfl, g1.1, g1.2.1, g1.2.2, q, rfl, g2.1, g2.2.1, g2.2.2, ?_⟩
    refine ⟨_, _, rfl, rfl, rfl, lcL_map addP (.refl _) (fun _ _ => ⟨trivial, trivial⟩) ?_ ?_⟩
    · intro x hx acc M2 k2 s2 hk2
      simp only [zipT, List.mem_cons, List.not_mem_nil, or_false] at hx
      rcases hx with rfl | rfl
      · simp only [wSs, wS, wE, wEs, wO, wB, wBo, wI, wTg, gs, startT, List.map_cons, List.map_nil, List.length_cons, List.length_nil, List.cons_append, List.nil_append, List.replicate, Nat.reduceAdd, Nat.reduceSub, Nat.zero_add, exEq, wCop, wIx, wTru, bif_len, bif_abs, bif_int, bif_isi, bif_tuple, bif_list, bif_sum, bif_all, bif_any, bif_min2, bif_max2, bif_minl, bif_maxl, bop_add_i, bop_add_t, bop_add_l, bop_sub, bop_mul_i, bop_fdiv, bop_mod, bop_pow, aug_add, aug_sub, aug_mul, setAll, tailS, wipeT, List.set, tru_bl, tru_non, tru_int, tru_tup, if_true, if_false, Bool.false_eq_true, Bool.not_true, Bool.not_false, seqM_tup, ix_tup, len_tup, atI_0, atI_1, atI_2, atI_3, atI_4, Option.some.injEq, exists_eq_left', eq_int, cmp_lt, cmp_le, cmp_gt, cmp_ge, cmp_eq, cmp_ne, cmp_is, cmp_isn, cmp_in, cmp_nin, Option.map, is_nn, is_in, is_tn, tyn_int, tyn_str, tyn_tup, Int.cast_ofNat_Int, Int.reduceLT, Int.reduceLE, Int.reduceAdd, Int.reduceMul, Int.reduceSub, BEq.rfl, decide_true, decide_false, Int.reduceBEq]
        exact ⟨trivial, hk2 _ (.refl _)⟩
      · simp only [wSs, wS, wE, wEs, wO, wB, wBo, wI, wTg, gs, startT, List.map_cons, List.map_nil, List.length_cons, List.length_nil, List.cons_append, List.nil_append, List.replicate, Nat.reduceAdd, Nat.reduceSub, Nat.zero_add, exEq, wCop, wIx, wTru, bif_len, bif_abs, bif_int, bif_isi, bif_tuple, bif_list, bif_sum, bif_all, bif_any, bif_min2, bif_max2, bif_minl, bif_maxl, bop_add_i, bop_add_t, bop_add_l, bop_sub, bop_mul_i, bop_fdiv, bop_mod, bop_pow, aug_add, aug_sub, aug_mul, setAll, tailS, wipeT, List.set, tru_bl, tru_non, tru_int, tru_tup, if_true, if_false, Bool.false_eq_true, Bool.not_true, Bool.not_false, seqM_tup, ix_tup, len_tup, atI_0, atI_1, atI_2, atI_3, atI_4, Option.some.injEq, exists_eq_left', eq_int, cmp_lt, cmp_le, cmp_gt, cmp_ge, cmp_eq, cmp_ne, cmp_is, cmp_isn, cmp_in, cmp_nin, Option.map, is_nn, is_in, is_tn, tyn_int, tyn_str, tyn_tup, Int.cast_ofNat_Int, Int.reduceLT, Int.reduceLE, Int.reduceAdd, Int.reduceMul, Int.reduceSub, BEq.rfl, decide_true, decide_false, Int.reduceBEq]
        exact ⟨trivial, hk2 _ (.refl _)⟩
    · intro M2 s2 t ht
      rw [List.nil_append]
      have lt : lsM (updM M2 t (.lst ((zipT [TV.int p.tl, .int p.tw] [TV.int q.tl, .int q.tw]).map addP))) t = some [.int (p.tl + q.tl), .int (p.tw + q.tw)] := lsM_upd
      have s3 : Subm M2 (updM M2 t (.lst ((zipT [TV.int p.tl, .int p.tw] [TV.int q.tl, .int q.tw]).map addP))) := Subm.new (.refl _) ht
      refine ⟨_, lt, rfl, ?_⟩
      generalize updM M2 t (.lst ((zipT [TV.int p.tl, .int p.tw] [TV.int q.tl, .int q.tw]).map addP)) = M3 at lt s3 ⊢
      simp only [wSs, wS, wE, wEs, wO, wB, wBo, wI, wTg, gs, startT, List.map_cons, List.map_nil, List.length_cons, List.length_nil, List.cons_append, List.nil_append, List.replicate, Nat.reduceAdd, Nat.reduceSub, Nat.zero_add, exEq, wCop, wIx, wTru, bif_len, bif_abs, bif_int, bif_isi, bif_tuple, bif_list, bif_sum, bif_all, bif_any, bif_min2, bif_max2, bif_minl, bif_maxl, bop_add_i, bop_add_t, bop_add_l, bop_sub, bop_mul_i, bop_fdiv, bop_mod, bop_pow, aug_add, aug_sub, aug_mul, setAll, tailS, wipeT, List.set, tru_bl, tru_non, tru_int, tru_tup, if_true, if_false, Bool.false_eq_true, Bool.not_true, Bool.not_false, seqM_tup, ix_tup, len_tup, atI_0, atI_1, atI_2, atI_3, atI_4, Option.some.injEq, exists_eq_left', eq_int, cmp_lt, cmp_le, cmp_gt, cmp_ge, cmp_eq, cmp_ne, cmp_is, cmp_isn, cmp_in, cmp_nin, Option.map, is_nn, is_in, is_tn, tyn_int, tyn_str, tyn_tup, Int.cast_ofNat_Int, Int.reduceLT, Int.reduceLE, Int.reduceAdd, Int.reduceMul, Int.reduceSub, BEq.rfl, decide_true, decide_false, Int.reduceBEq]
      refine ⟨J, rfl, gj, _, _, rfl, ?_, ?_⟩
      · unfold Pl.pair
        rw [jl, jw]
        exact same_pair
      · simp only [wSs, wS, wE, wEs, wO, wB, wBo, wI, wTg, gs, startT, List.map_cons, List.map_nil, List.length_cons, List.length_nil, List.cons_append, List.nil_append, List.replicate, Nat.reduceAdd, Nat.reduceSub, Nat.zero_add, exEq, wCop, wIx, wTru, bif_len, bif_abs, bif_int, bif_isi, bif_tuple, bif_list, bif_sum, bif_all, bif_any, bif_min2, bif_max2, bif_minl, bif_maxl, bop_add_i, bop_add_t, bop_add_l, bop_sub, bop_mul_i, bop_fdiv, bop_mod, bop_pow, aug_add, aug_sub, aug_mul, setAll, tailS, wipeT, List.set, tru_bl, tru_non, tru_int, tru_tup, if_true, if_false, Bool.false_eq_true, Bool.not_true, Bool.not_false, seqM_tup, ix_tup, len_tup, atI_0, atI_1, atI_2, atI_3, atI_4, Option.some.injEq, exists_eq_left', eq_int, cmp_lt, cmp_le, cmp_gt, cmp_ge, cmp_eq, cmp_ne, cmp_is, cmp_isn, cmp_in, cmp_nin, Option.map, is_nn, is_in, is_tn, tyn_int, tyn_str, tyn_tup, Int.cast_ofNat_Int, Int.reduceLT, Int.reduceLE, Int.reduceAdd, Int.reduceMul, Int.reduceSub, BEq.rfl, decide_true, decide_false, Int.reduceBEq]
        refine ⟨J, rfl, gj, J, rfl, gj, fun t2 h2 => ⟨p, rfl, g1, ?_⟩⟩
        simp only [wSs, wS, wE, wEs, wO, wB, wBo, wI, wTg, gs, startT, List.map_cons, List.map_nil, List.length_cons, List.length_nil, List.cons_append, List.nil_append, List.replicate, Nat.reduceAdd, Nat.reduceSub, Nat.zero_add, exEq, wCop, wIx, wTru, bif_len, bif_abs, bif_int, bif_isi, bif_tuple, bif_list, bif_sum, bif_all, bif_any, bif_min2, bif_max2, bif_minl, bif_maxl, bop_add_i, bop_add_t, bop_add_l, bop_sub, bop_mul_i, bop_fdiv, bop_mod, bop_pow, aug_add, aug_sub, aug_mul, setAll, tailS, wipeT, List.set, tru_bl, tru_non, tru_int, tru_tup, if_true, if_false, Bool.false_eq_true, Bool.not_true, Bool.not_false, seqM_tup, ix_tup, len_tup, atI_0, atI_1, atI_2, atI_3, atI_4, Option.some.injEq, exists_eq_left', eq_int, cmp_lt, cmp_le, cmp_gt, cmp_ge, cmp_eq, cmp_ne, cmp_is, cmp_isn, cmp_in, cmp_nin, Option.map, is_nn, is_in, is_tn, tyn_int, tyn_str, tyn_tup, Int.cast_ofNat_Int, Int.reduceLT, Int.reduceLE, Int.reduceAdd, Int.reduceMul, Int.reduceSub, BEq.rfl, decide_true, decide_false, Int.reduceBEq]
        refine ⟨q, rfl, g2, ?_⟩
        simp only [wSs, wS, wE, wEs, wO, wB, wBo, wI, wTg, gs, startT, List.map_cons, List.map_nil, List.length_cons, List.length_nil, List.cons_append, List.nil_append, List.replicate, Nat.reduceAdd, Nat.reduceSub, Nat.zero_add, exEq, wCop, wIx, wTru, bif_len, bif_abs, bif_int, bif_isi, bif_tuple, bif_list, bif_sum, bif_all, bif_any, bif_min2, bif_max2, bif_minl, bif_maxl, bop_add_i, bop_add_t, bop_add_l, bop_sub, bop_mul_i, bop_fdiv, bop_mod, bop_pow, aug_add, aug_sub, aug_mul, setAll, tailS, wipeT, List.set, tru_bl, tru_non, tru_int, tru_tup, if_true, if_false, Bool.false_eq_true, Bool.not_true, Bool.not_false, seqM_tup, ix_tup, len_tup, atI_0, atI_1, atI_2, atI_3, atI_4, Option.some.injEq, exists_eq_left', eq_int, cmp_lt, cmp_le, cmp_gt, cmp_ge, cmp_eq, cmp_ne, cmp_is, cmp_isn, cmp_in, cmp_nin, Option.map, is_nn, is_in, is_tn, tyn_int, tyn_str, tyn_tup, Int.cast_ofNat_Int, Int.reduceLT, Int.reduceLE, Int.reduceAdd, Int.reduceMul, Int.reduceSub, BEq.rfl, decide_true, decide_false, Int.reduceBEq]
        refine ⟨p, rfl, g1, q, rfl, g2, ?_⟩
        simp only [wSs, wS, wE, wEs, wO, wB, wBo, wI, wTg, gs, startT, List.map_cons, List.map_nil, List.length_cons, List.length_nil, List.cons_append, List.nil_append, List.replicate, Nat.reduceAdd, Nat.reduceSub, Nat.zero_add, exEq, wCop, wIx, wTru, bif_len, bif_abs, bif_int, bif_isi, bif_tuple, bif_list, bif_sum, bif_all, bif_any, bif_min2, bif_max2, bif_minl, bif_maxl, bop_add_i, bop_add_t, bop_add_l, bop_sub, bop_mul_i, bop_fdiv, bop_mod, bop_pow, aug_add, aug_sub, aug_mul, setAll, tailS, wipeT, List.set, tru_bl, tru_non, tru_int, tru_tup, if_true, if_false, Bool.false_eq_true, Bool.not_true, Bool.not_false, seqM_tup, ix_tup, len_tup, atI_0, atI_1, atI_2, atI_3, atI_4, Option.some.injEq, exists_eq_left', eq_int, cmp_lt, cmp_le, cmp_gt, cmp_ge, cmp_eq, cmp_ne, cmp_is, cmp_isn, cmp_in, cmp_nin, Option.map, is_nn, is_in, is_tn, tyn_int, tyn_str, tyn_tup, Int.cast_ofNat_Int, Int.reduceLT, Int.reduceLE, Int.reduceAdd, Int.reduceMul, Int.reduceSub, BEq.rfl, decide_true, decide_false, Int.reduceBEq]
        intro t3 h3
        refine ⟨_, _, rfl, ?_, ?_⟩
        · refine same_lst (zs := [.int J.size, .int J.cnt]) ((Subm.new (.refl _) h3).lsM lsM_upd) ?_ ?_
          · rw [jz, jc]; exact lsM_upd
          · intro x hx
            simp only [List.mem_cons, List.not_mem_nil, or_false] at hx
            rcases hx with rfl | rfl <;> exact same_int
        · simp only [wSs, wS, wE, wEs, wO, wB, wBo, wI, wTg, gs, startT, List.map_cons, List.map_nil, List.length_cons, List.length_nil, List.cons_append, List.nil_append, List.replicate, Nat.reduceAdd, Nat.reduceSub, Nat.zero_add, exEq, wCop, wIx, wTru, bif_len, bif_abs, bif_int, bif_isi, bif_tuple, bif_list, bif_sum, bif_all, bif_any, bif_min2, bif_max2, bif_minl, bif_maxl, bop_add_i, bop_add_t, bop_add_l, bop_sub, bop_mul_i, bop_fdiv, bop_mod, bop_pow, aug_add, aug_sub, aug_mul, setAll, tailS, wipeT, List.set, tru_bl, tru_non, tru_int, tru_tup, if_true, if_false, Bool.false_eq_true, Bool.not_true, Bool.not_false, seqM_tup, ix_tup, len_tup, atI_0, atI_1, atI_2, atI_3, atI_4, Option.some.injEq, exists_eq_left', eq_int, cmp_lt, cmp_le, cmp_gt, cmp_ge, cmp_eq, cmp_ne, cmp_is, cmp_isn, cmp_in, cmp_nin, Option.map, is_nn, is_in, is_tn, tyn_int, tyn_str, tyn_tup, Int.cast_ofNat_Int, Int.reduceLT, Int.reduceLE, Int.reduceAdd, Int.reduceMul, Int.reduceSub, BEq.rfl, decide_true, decide_false, Int.reduceBEq]
          exact hk _ _ ⟨(((s1.trans s2).trans s3).new h2).new h3, fun x hx => hr x (List.mem_cons_of_mem _ hx), _, _, _, _, _, rfl⟩
  · rintro _ _ M1 ⟨s1, _, o2, o3, o4, o5, o6, rfl⟩
    exact rtF s1 fin
theorem h__law_are_two_right {G : Gx} (F : Facts G) : HeldT G 30 (adr G "_law_are_two_right") s__law_two :=
  F.d__law_are_two_right.held (k := 29) sc__law_are_two_right ck__law_are_two_right (ok__law_are_two_right F ((h_mixed F).mono (by decide)) ((h_joined F).mono (by decide)) ((h_places F).mono (by decide)) ((h_size F).mono (by decide)) ((h__law_is F 2).mono (by decide)) ((h_total F).mono (by decide)) ((h__law_total F 16).mono (by decide))) nF (fun xs M Q R ⟨_, _, e, _⟩ => by rw [e]; rfl) v__law_are_two_right
/-! the law -/
def known : Pl := .rep false 3 (.join false (.cons (.place 1 2) (.cons (.rep true 1000000000000000000000000000000 (.place 0 4)) .nil)))
theorem known_good : known.good := by
  refine ⟨⟨by decide, by decide, by decide, by decide, ⟨by decide, by decide, by decide, by decide, by decide⟩, ⟨by decide, by decide, ⟨by decide, by decide, by decide, by decide, by decide⟩⟩, trivial⟩, by decide, by decide⟩
theorem ten30 : (10 : Int) ^ (Int.toNat 30) = 1000000000000000000000000000000 := by decide
theorem v_law {G : Gx} : ∀ xs M Q R, lawS xs M Q R → wSs noF (b_law G s__law_two s__law_is_right (s__law_great 3) s__law_few s__law_deep s_total s_places s_size (s__law_is 2) s__law_hand) (endsT Q R) (startT n_law xs) M := by
  rintro xs M Q R ⟨x, ns, rfl, hl, hx, q⟩
  have yes : ∀ M', (endsT Q R).rt (.bl true) M' := fun M' => rtF (.refl _) (q M')
  unfold b_law
  simp only [wSs, wS, wE, wEs, wO, wB, wBo, wI, wTg, gs, startT, List.map_cons, List.map_nil, List.length_cons, List.length_nil, List.cons_append, List.nil_append, List.replicate, Nat.reduceAdd, Nat.reduceSub, Nat.zero_add, exEq, wCop, wIx, wTru, bif_len, bif_abs, bif_int, bif_isi, bif_tuple, bif_list, bif_sum, bif_all, bif_any, bif_min2, bif_max2, bif_minl, bif_maxl, bop_add_i, bop_add_t, bop_add_l, bop_sub, bop_mul_i, bop_fdiv, bop_mod, bop_pow, aug_add, aug_sub, aug_mul, setAll, tailS, wipeT, List.set, tru_bl, tru_non, tru_int, tru_tup, if_true, if_false, Bool.false_eq_true, Bool.not_true, Bool.not_false, seqM_tup, ix_tup, len_tup, atI_0, atI_1, atI_2, atI_3, atI_4, Option.some.injEq, exists_eq_left', eq_int, cmp_lt, cmp_le, cmp_gt, cmp_ge, cmp_eq, cmp_ne, cmp_is, cmp_isn, cmp_in, cmp_nin, Option.map, is_nn, is_in, is_tn, tyn_int, tyn_str, tyn_tup, Int.cast_ofNat_Int, Int.reduceLT, Int.reduceLE, Int.reduceAdd, Int.reduceMul, Int.reduceSub, BEq.rfl, decide_true, decide_false, Int.reduceBEq, ten30]
  refine ⟨x, ns, rfl, ?_, fun h M1 ok s1 => ?_⟩
  · rcases hx with ⟨a, rfl, rfl⟩ | ⟨rfl, rfl⟩
    · refine .inl ⟨a, rfl, ?_⟩
      unfold lsM onlyM
      rw [if_pos rfl]
    · exact .inr rfl
  · have sm : ((-(2 ^ 64) < (3 : Int) ∧ (3 : Int) < 2 ^ 64)) := ⟨by decide, by decide⟩
    refine ⟨⟨trivial, trivial, by decide⟩, known, rfl, known_good, known, rfl, known_good, known, rfl, known_good, fun t1 h1 => ⟨⟨trivial, trivial, by decide⟩, .inl (.inl ⟨by decide, by decide⟩), ⟨trivial, trivial, by decide⟩, .inl (.inl ⟨by decide, by decide⟩), fun t2 h2 => ?_⟩⟩
    refine ⟨_, _, rfl, same_lst (zs := [.int known.size, .int known.cnt, known.pair]) ((Subm.new (.refl _) h2).lsM lsM_upd) ?_ ?_, ?_⟩
    · exact lsM_upd
    · intro x hx
      simp only [List.mem_cons, List.not_mem_nil, or_false] at hx
      rcases hx with rfl | rfl | rfl
      · exact same_int
      · exact same_int
      · exact same_pair
    · simp only [wSs, wS, wE, wEs, wO, wB, wBo, wI, wTg, gs, startT, List.map_cons, List.map_nil, List.length_cons, List.length_nil, List.cons_append, List.nil_append, List.replicate, Nat.reduceAdd, Nat.reduceSub, Nat.zero_add, exEq, wCop, wIx, wTru, bif_len, bif_abs, bif_int, bif_isi, bif_tuple, bif_list, bif_sum, bif_all, bif_any, bif_min2, bif_max2, bif_minl, bif_maxl, bop_add_i, bop_add_t, bop_add_l, bop_sub, bop_mul_i, bop_fdiv, bop_mod, bop_pow, aug_add, aug_sub, aug_mul, setAll, tailS, wipeT, List.set, tru_bl, tru_non, tru_int, tru_tup, if_true, if_false, Bool.false_eq_true, Bool.not_true, Bool.not_false, seqM_tup, ix_tup, len_tup, atI_0, atI_1, atI_2, atI_3, atI_4, Option.some.injEq, exists_eq_left', eq_int, cmp_lt, cmp_le, cmp_gt, cmp_ge, cmp_eq, cmp_ne, cmp_is, cmp_isn, cmp_in, cmp_nin, Option.map, is_nn, is_in, is_tn, tyn_int, tyn_str, tyn_tup, Int.cast_ofNat_Int, Int.reduceLT, Int.reduceLE, Int.reduceAdd, Int.reduceMul, Int.reduceSub, BEq.rfl, decide_true, decide_false, Int.reduceBEq]
      refine ⟨h, rfl, ok.sub (Subm.new (Subm.new (.refl M1) h1) h2), fun p M2 g d2 => ⟨p, rfl, g, ?_⟩⟩
      simp only [wSs, wS, wE, wEs, wO, wB, wBo, wI, wTg, gs, startT, List.map_cons, List.map_nil, List.length_cons, List.length_nil, List.cons_append, List.nil_append, List.replicate, Nat.reduceAdd, Nat.reduceSub, Nat.zero_add, exEq, wCop, wIx, wTru, bif_len, bif_abs, bif_int, bif_isi, bif_tuple, bif_list, bif_sum, bif_all, bif_any, bif_min2, bif_max2, bif_minl, bif_maxl, bop_add_i, bop_add_t, bop_add_l, bop_sub, bop_mul_i, bop_fdiv, bop_mod, bop_pow, aug_add, aug_sub, aug_mul, setAll, tailS, wipeT, List.set, tru_bl, tru_non, tru_int, tru_tup, if_true, if_false, Bool.false_eq_true, Bool.not_true, Bool.not_false, seqM_tup, ix_tup, len_tup, atI_0, atI_1, atI_2, atI_3, atI_4, Option.some.injEq, exists_eq_left', eq_int, cmp_lt, cmp_le, cmp_gt, cmp_ge, cmp_eq, cmp_ne, cmp_is, cmp_isn, cmp_in, cmp_nin, Option.map, is_nn, is_in, is_tn, tyn_int, tyn_str, tyn_tup, Int.cast_ofNat_Int, Int.reduceLT, Int.reduceLE, Int.reduceAdd, Int.reduceMul, Int.reduceSub, BEq.rfl, decide_true, decide_false, Int.reduceBEq, TV.int.injEq]
      refine ⟨by decide, by decide, ?_⟩
      refine foL_at (d := []) (fun _ _ σ M' => HandOk M' h ∧ ∃ o0 o2 o3 o4 o5, σ = [o0, some (.ref h.a), o2, o3, o4, o5]) ⟨d2.1, _, _, _, _, _, rfl⟩ (fun _ _ _ _ _ => trivial) ?_ ?_
      · rintro _ x r k _ M3 ⟨ok3, o0, o2, o3, o4, o5, rfl⟩ hk
        simp only [wSs, wS, wE, wEs, wO, wB, wBo, wI, wTg, gs, startT, List.map_cons, List.map_nil, List.length_cons, List.length_nil, List.cons_append, List.nil_append, List.replicate, Nat.reduceAdd, Nat.reduceSub, Nat.zero_add, exEq, wCop, wIx, wTru, bif_len, bif_abs, bif_int, bif_isi, bif_tuple, bif_list, bif_sum, bif_all, bif_any, bif_min2, bif_max2, bif_minl, bif_maxl, bop_add_i, bop_add_t, bop_add_l, bop_sub, bop_mul_i, bop_fdiv, bop_mod, bop_pow, aug_add, aug_sub, aug_mul, setAll, tailS, wipeT, List.set, tru_bl, tru_non, tru_int, tru_tup, if_true, if_false, Bool.false_eq_true, Bool.not_true, Bool.not_false, seqM_tup, ix_tup, len_tup, atI_0, atI_1, atI_2, atI_3, atI_4, Option.some.injEq, exists_eq_left', eq_int, cmp_lt, cmp_le, cmp_gt, cmp_ge, cmp_eq, cmp_ne, cmp_is, cmp_isn, cmp_in, cmp_nin, Option.map, is_nn, is_in, is_tn, tyn_int, tyn_str, tyn_tup, Int.cast_ofNat_Int, Int.reduceLT, Int.reduceLE, Int.reduceAdd, Int.reduceMul, Int.reduceSub, BEq.rfl, decide_true, decide_false, Int.reduceBEq]
        refine ⟨⟨trivial, trivial, by decide⟩, h, 60, _, rfl, by decide, by decide, ok3, fun p M4 po pd pz d4 => ⟨h, 3, rfl, Nat.le_refl _, d4.1, fun q2 M5 qo qd qz d5 => ?_⟩⟩
        have gz3 : gz 3 = 40 := by decide
        have g1 : p.good := ⟨po, by omega, by omega⟩
        have g2 : q2.good := ⟨qo, by omega, by omega⟩
        have g3 : ∀ r, (Pl.join r (.cons p (.cons q2 .nil))).good := fun r => by
          refine ⟨⟨(show 1 ≤ 2 by decide), (show 2 ≤ 12 by decide), po, qo, trivial⟩, ?_, ?_⟩
          · simp only [Pl.dep, Pls.dep]; omega
          · simp only [Pl.size, Pls.size]; omega
        simp only [wSs, wS, wE, wEs, wO, wB, wBo, wI, wTg, gs, startT, List.map_cons, List.map_nil, List.length_cons, List.length_nil, List.cons_append, List.nil_append, List.replicate, Nat.reduceAdd, Nat.reduceSub, Nat.zero_add, exEq, wCop, wIx, wTru, bif_len, bif_abs, bif_int, bif_isi, bif_tuple, bif_list, bif_sum, bif_all, bif_any, bif_min2, bif_max2, bif_minl, bif_maxl, bop_add_i, bop_add_t, bop_add_l, bop_sub, bop_mul_i, bop_fdiv, bop_mod, bop_pow, aug_add, aug_sub, aug_mul, setAll, tailS, wipeT, List.set, tru_bl, tru_non, tru_int, tru_tup, if_true, if_false, Bool.false_eq_true, Bool.not_true, Bool.not_false, seqM_tup, ix_tup, len_tup, atI_0, atI_1, atI_2, atI_3, atI_4, Option.some.injEq, exists_eq_left', eq_int, cmp_lt, cmp_le, cmp_gt, cmp_ge, cmp_eq, cmp_ne, cmp_is, cmp_isn, cmp_in, cmp_nin, Option.map, is_nn, is_in, is_tn, tyn_int, tyn_str, tyn_tup, Int.cast_ofNat_Int, Int.reduceLT, Int.reduceLE, Int.reduceAdd, Int.reduceMul, Int.reduceSub, BEq.rfl, decide_true, decide_false, Int.reduceBEq]
        refine ⟨p, rfl, g1, ?_⟩
        simp only [wSs, wS, wE, wEs, wO, wB, wBo, wI, wTg, gs, startT, List.map_cons, List.map_nil, List.length_cons, List.length_nil, List.cons_append, List.nil_append, List.replicate, Nat.reduceAdd, Nat.reduceSub, Nat.zero_add, exEq, wCop, wIx, wTru, bif_len, bif_abs, bif_int, bif_isi, bif_tuple, bif_list, bif_sum, bif_all, bif_any, bif_min2, bif_max2, bif_minl, bif_maxl, bop_add_i, bop_add_t, bop_add_l, bop_sub, bop_mul_i, bop_fdiv, bop_mod, bop_pow, aug_add, aug_sub, aug_mul, setAll, tailS, wipeT, List.set, tru_bl, tru_non, tru_int, tru_tup, if_true, if_false, Bool.false_eq_true, Bool.not_true, Bool.not_false, seqM_tup, ix_tup, len_tup, atI_0, atI_1, atI_2, atI_3, atI_4, Option.some.injEq, exists_eq_left', eq_int, cmp_lt, cmp_le, cmp_gt, cmp_ge, cmp_eq, cmp_ne, cmp_is, cmp_isn, cmp_in, cmp_nin, Option.map, is_nn, is_in, is_tn, tyn_int, tyn_str, tyn_tup, Int.cast_ofNat_Int, Int.reduceLT, Int.reduceLE, Int.reduceAdd, Int.reduceMul, Int.reduceSub, BEq.rfl, decide_true, decide_false, Int.reduceBEq]
        refine ⟨q2, rfl, g2, ?_⟩
        simp only [wSs, wS, wE, wEs, wO, wB, wBo, wI, wTg, gs, startT, List.map_cons, List.map_nil, List.length_cons, List.length_nil, List.cons_append, List.nil_append, List.replicate, Nat.reduceAdd, Nat.reduceSub, Nat.zero_add, exEq, wCop, wIx, wTru, bif_len, bif_abs, bif_int, bif_isi, bif_tuple, bif_list, bif_sum, bif_all, bif_any, bif_min2, bif_max2, bif_minl, bif_maxl, bop_add_i, bop_add_t, bop_add_l, bop_sub, bop_mul_i, bop_fdiv, bop_mod, bop_pow, aug_add, aug_sub, aug_mul, setAll, tailS, wipeT, List.set, tru_bl, tru_non, tru_int, tru_tup, if_true, if_false, Bool.false_eq_true, Bool.not_true, Bool.not_false, seqM_tup, ix_tup, len_tup, atI_0, atI_1, atI_2, atI_3, atI_4, Option.some.injEq, exists_eq_left', eq_int, cmp_lt, cmp_le, cmp_gt, cmp_ge, cmp_eq, cmp_ne, cmp_is, cmp_isn, cmp_in, cmp_nin, Option.map, is_nn, is_in, is_tn, tyn_int, tyn_str, tyn_tup, Int.cast_ofNat_Int, Int.reduceLT, Int.reduceLE, Int.reduceAdd, Int.reduceMul, Int.reduceSub, BEq.rfl, decide_true, decide_false, Int.reduceBEq]
        refine ⟨p, q2, rfl, g1, g2, g3, ?_⟩
        simp only [wSs, wS, wE, wEs, wO, wB, wBo, wI, wTg, gs, startT, List.map_cons, List.map_nil, List.length_cons, List.length_nil, List.cons_append, List.nil_append, List.replicate, Nat.reduceAdd, Nat.reduceSub, Nat.zero_add, exEq, wCop, wIx, wTru, bif_len, bif_abs, bif_int, bif_isi, bif_tuple, bif_list, bif_sum, bif_all, bif_any, bif_min2, bif_max2, bif_minl, bif_maxl, bop_add_i, bop_add_t, bop_add_l, bop_sub, bop_mul_i, bop_fdiv, bop_mod, bop_pow, aug_add, aug_sub, aug_mul, setAll, tailS, wipeT, List.set, tru_bl, tru_non, tru_int, tru_tup, if_true, if_false, Bool.false_eq_true, Bool.not_true, Bool.not_false, seqM_tup, ix_tup, len_tup, atI_0, atI_1, atI_2, atI_3, atI_4, Option.some.injEq, exists_eq_left', eq_int, cmp_lt, cmp_le, cmp_gt, cmp_ge, cmp_eq, cmp_ne, cmp_is, cmp_isn, cmp_in, cmp_nin, Option.map, is_nn, is_in, is_tn, tyn_int, tyn_str, tyn_tup, Int.cast_ofNat_Int, Int.reduceLT, Int.reduceLE, Int.reduceAdd, Int.reduceMul, Int.reduceSub, BEq.rfl, decide_true, decide_false, Int.reduceBEq]
        exact hk _ _ ⟨d5.1, _, _, _, _, _, rfl⟩
      · rintro _ _ M3 ⟨ok3, o0, o2, o3, o4, o5, rfl⟩
        exact yes M3
theorem law_main {G : Gx} (F : Facts G) {fd : FuncData} {f : Addr} (Fu : Fun G.K "law" "law" t_law f fd) : FnOk G.prog G.w G.K G.mg G.base (L2.CX G.prog G.w) 100 f fd ["script"] (LSp G.K lawS) :=
  (held_fn (F := noF) (k := 50) Fu sc_law ck_law (ok_law F ((h__law_are_two_right F).mono (by decide)) ((h__law_is_right F).mono (by decide)) ((h__law_great F 3).mono (by decide)) ((h__law_few F).mono (by decide)) ((h__law_deep F).mono (by decide)) ((h_total F).mono (by decide)) ((h_places F).mono (by decide)) ((h_size F).mono (by decide)) ((h__law_is F 2).mono (by decide)) ((h__law_hand F).mono (by decide))) nF (fun xs M Q R ⟨_, _, e, _⟩ => by rw [e]; rfl) v_law).mono (by decide)
end TL

namespace TL
open PySem PySem.Spec PyProof.Rows L2
theorem law_fin {P : Program} {w : World} {K : PySem.W.Frag} {mg : Str → Option Value} {fa : Addr} {h : Heap} (KX : K.In h) (Gs : h.Ns mainGlobals mg) (hmg : mg "law" = some (.ref fa)) (fin : ∀ base : Heap, Facts ⟨P, w, K, mg, base⟩) :
    ∃ fd : FuncData, (∀ (s : Shared) (u : Value), BindsTo s fd ⟨[u], []⟩ [("script", u)]) ∧ ∀ base : Heap, K.In base → base.Ns mainGlobals mg → FnOk P w K mg base (L2.CX P w) 100 fa fd ["script"] (LSp K lawS) := by
  obtain ⟨fd, Fu, Bi⟩ := (fin h).d_law.fn
  have e : adr ⟨P, w, K, mg, h⟩ "law" = fa := adr_of hmg
  rw [e] at Fu
  refine ⟨fd, fun s u => ?_, fun base _ _ => ?_⟩
  · obtain ⟨oc, od, kV, doc, pm, an, cdv, ct, osl, rfl, lk, hcd⟩ := Fu.ex
    exact .of_eq rfl
  · exact law_main (G := ⟨P, w, K, mg, base⟩) (fin base) Fu
end TL
open PySem PySem.W PyProof.Rows
set_option maxHeartbeats 0 in
theorem PySem.Challenge.cw_soonfound_k03_whole_totals_and_sizes_holds : PySem.Challenge.rw_soonfound_k03_whole_totals_and_sizes.Holds := by
  w_on; o_law; k_head; (case hw => w_witness2)
  k_fill
  refine L2.walk_of (l := PySem.Challenge.rw_soonfound_k03_whole_totals_and_sizes) (n := 63) (k := 100) (x := "script") (CX := fun w => L2.CX PySem.Challenge.pw_soonfound_k03_whole_totals_and_sizes w) (sp := fun w => TL.LSp _ TL.lawS) rfl (by decide) rfl ⟨rfl, by decide, by decide⟩ (fun w h Y => PySem.W.kIn_of Y) ?F (fun _ _ a ns hl hO hS => TL.law_start hO hS hl) (fun _ _ _ _ _ h => TL.law_end h)
  case F =>
    intro w mg fa h KX G hmg
    have fin : ∀ base : Heap, TL.Facts ⟨PySem.Challenge.pw_soonfound_k03_whole_totals_and_sizes, w, _, mg, base⟩ := fun base => by
      refine' ⟨(TL.df_mk KX G (fun F => TL.bi_is_int F) ?h1 ?h2 ?h3 ?h4), (TL.df_mk KX G (fun F => TL.bi_is_within F) ?h5 ?h6 ?h7 ?h8), (TL.df_mk KX G (fun F => TL.bi_is_pair F) ?h9 ?h10 ?h11 ?h12), (TL.df_mk KX G (fun F => TL.bi_is_step F) ?h13 ?h14 ?h15 ?h16), (TL.df_mk KX G (fun F => TL.bi_is_place F) ?h17 ?h18 ?h19 ?h20), (TL.df_mk KX G (fun F => TL.bi_check_most F) ?h21 ?h22 ?h23 ?h24), (TL.df_mk KX G (fun F => TL.bi_counted F) ?h25 ?h26 ?h27 ?h28), (TL.df_mk KX G (fun F => TL.bi_has_form F) ?h29 ?h30 ?h31 ?h32), (TL.df_mk KX G (fun F => TL.bi_is_plan F) ?h33 ?h34 ?h35 ?h36), (TL.df_mk KX G (fun F => TL.bi_check_plan F) ?h37 ?h38 ?h39 ?h40), (TL.df_mk KX G (fun F => TL.bi_size F) ?h41 ?h42 ?h43 ?h44), (TL.df_mk KX G (fun F => TL.bi_places_of F) ?h45 ?h46 ?h47 ?h48), (TL.df_mk KX G (fun F => TL.bi_places F) ?h49 ?h50 ?h51 ?h52), (TL.df_mk KX G (fun F => TL.bi_total_of F) ?h53 ?h54 ?h55 ?h56), (TL.df_mk KX G (fun F => TL.bi_total F) ?h57 ?h58 ?h59 ?h60), (TL.df_mk KX G (fun F => TL.bi_spread_from F) ?h61 ?h62 ?h63 ?h64), (TL.df_mk KX G (fun F => TL.bi_spread F) ?h65 ?h66 ?h67 ?h68), (TL.df_mk KX G (fun F => TL.bi_leaves F) ?h69 ?h70 ?h71 ?h72), (TL.df_mk KX G (fun F => TL.bi_check_listed F) ?h73 ?h74 ?h75 ?h76), (TL.dfd_mk (y := "most") KX G 1 rfl (fun _ _ _ _ _ _ us ks hu hk => match us, ks, hu, hk with | [_], [_], _, _ => ⟨_, _, _, _, _, _, rfl, rfl, rfl⟩) ?h77 ?h78 ?h79 ?h80 ?h81), (TL.df_mk KX G (fun F => TL.bi_paired F) ?h82 ?h83 ?h84 ?h85), (TL.df_mk KX G (fun F => TL.bi_joined F) ?h86 ?h87 ?h88 ?h89), (TL.df_mk KX G (fun F => TL.bi_mixed F) ?h90 ?h91 ?h92 ?h93), (TL.df_mk KX G (fun F => TL.bi__law_hand F) ?h94 ?h95 ?h96 ?h97), (TL.df_mk KX G (fun F => TL.bi__law_draw F) ?h98 ?h99 ?h100 ?h101), (TL.df_mk KX G (fun F => TL.bi__law_some F) ?h102 ?h103 ?h104 ?h105), (TL.df_mk KX G (fun F => TL.bi__law_is F) ?h106 ?h107 ?h108 ?h109), (TL.df_mk KX G (fun F => TL.bi__law_place F) ?h110 ?h111 ?h112 ?h113), (TL.df_mk KX G (fun F => TL.bi__law_plan F) ?h114 ?h115 ?h116 ?h117), (TL.df_mk KX G (fun F => TL.bi__law_few F) ?h118 ?h119 ?h120 ?h121), (TL.df_mk KX G (fun F => TL.bi__law_count F) ?h122 ?h123 ?h124 ?h125), (TL.df_mk KX G (fun F => TL.bi__law_great F) ?h126 ?h127 ?h128 ?h129), (TL.df_mk KX G (fun F => TL.bi__law_size F) ?h130 ?h131 ?h132 ?h133), (TL.df_mk KX G (fun F => TL.bi__law_total F) ?h134 ?h135 ?h136 ?h137), (TL.df_mk KX G (fun F => TL.bi__law_is_right F) ?h138 ?h139 ?h140 ?h141), (TL.df_mk KX G (fun F => TL.bi__law_are_two_right F) ?h142 ?h143 ?h144 ?h145), (TL.df_mk KX G (fun F => TL.bi__law_deep F) ?h146 ?h147 ?h148 ?h149), (TL.df_mk KX G (fun F => TL.bi_law F) ?h150 ?h151 ?h152 ?h153), (TL.glv_int (PySem.W.mg_of KX G ?h154)), (TL.glv_int (PySem.W.mg_of KX G ?h155)), (TL.glv_int (PySem.W.mg_of KX G ?h156)), (TL.glv_two (PySem.W.mg_of KX G ?h157) ?h158 ?h159 ?h160), (TL.glv_int (PySem.W.mg_of KX G ?h161)), (TL.glv_int (PySem.W.mg_of KX G ?h162)), (TL.glv_two (PySem.W.mg_of KX G ?h163) ?h164 ?h165 ?h166), (TL.glv_str (PySem.W.mg_of KX G ?h167)), (TL.glv_str (PySem.W.mg_of KX G ?h168)), (TL.glv_str (PySem.W.mg_of KX G ?h169)), (TL.glv_str (PySem.W.mg_of KX G ?h170)), (TL.glv_int (PySem.W.mg_of KX G ?h171)), (PySem.W.mg_none_of KX G ?h172), (PySem.W.mg_none_of KX G ?h173), (PySem.W.mg_none_of KX G ?h174), (PySem.W.mg_none_of KX G ?h175), (PySem.W.mg_none_of KX G ?h176), (PySem.W.mg_none_of KX G ?h177), (PySem.W.mg_none_of KX G ?h178), (PySem.W.mg_none_of KX G ?h179), (PySem.W.mg_none_of KX G ?h180), (PySem.W.mg_none_of KX G ?h181), (PySem.W.mg_none_of KX G ?h182), (PySem.W.mg_none_of KX G ?h183)⟩
      case h1 => k_is
      case h2 => k_is
      case h3 => k_is
      case h4 => k_is
      case h5 => k_is
      case h6 => k_is
      case h7 => k_is
      case h8 => k_is
      case h9 => k_is
      case h10 => k_is
      case h11 => k_is
      case h12 => k_is
      case h13 => k_is
      case h14 => k_is
      case h15 => k_is
      case h16 => k_is
      case h17 => k_is
      case h18 => k_is
      case h19 => k_is
      case h20 => k_is
      case h21 => k_is
      case h22 => k_is
      case h23 => k_is
      case h24 => k_is
      case h25 => k_is
      case h26 => k_is
      case h27 => k_is
      case h28 => k_is
      case h29 => k_is
      case h30 => k_is
      case h31 => k_is
      case h32 => k_is
      case h33 => k_is
      case h34 => k_is
      case h35 => k_is
      case h36 => k_is
      case h37 => k_is
      case h38 => k_is
      case h39 => k_is
      case h40 => k_is
      case h41 => k_is
      case h42 => k_is
      case h43 => k_is
      case h44 => k_is
      case h45 => k_is
      case h46 => k_is
      case h47 => k_is
      case h48 => k_is
      case h49 => k_is
      case h50 => k_is
      case h51 => k_is
      case h52 => k_is
      case h53 => k_is
      case h54 => k_is
      case h55 => k_is
      case h56 => k_is
      case h57 => k_is
      case h58 => k_is
      case h59 => k_is
      case h60 => k_is
      case h61 => k_is
      case h62 => k_is
      case h63 => k_is
      case h64 => k_is
      case h65 => k_is
      case h66 => k_is
      case h67 => k_is
      case h68 => k_is
      case h69 => k_is
      case h70 => k_is
      case h71 => k_is
      case h72 => k_is
      case h73 => k_is
      case h74 => k_is
      case h75 => k_is
      case h76 => k_is
      case h77 => k_is
      case h78 => k_is
      case h79 => k_is
      case h80 => k_is
      case h81 => k_is
      case h82 => k_is
      case h83 => k_is
      case h84 => k_is
      case h85 => k_is
      case h86 => k_is
      case h87 => k_is
      case h88 => k_is
      case h89 => k_is
      case h90 => k_is
      case h91 => k_is
      case h92 => k_is
      case h93 => k_is
      case h94 => k_is
      case h95 => k_is
      case h96 => k_is
      case h97 => k_is
      case h98 => k_is
      case h99 => k_is
      case h100 => k_is
      case h101 => k_is
      case h102 => k_is
      case h103 => k_is
      case h104 => k_is
      case h105 => k_is
      case h106 => k_is
      case h107 => k_is
      case h108 => k_is
      case h109 => k_is
      case h110 => k_is
      case h111 => k_is
      case h112 => k_is
      case h113 => k_is
      case h114 => k_is
      case h115 => k_is
      case h116 => k_is
      case h117 => k_is
      case h118 => k_is
      case h119 => k_is
      case h120 => k_is
      case h121 => k_is
      case h122 => k_is
      case h123 => k_is
      case h124 => k_is
      case h125 => k_is
      case h126 => k_is
      case h127 => k_is
      case h128 => k_is
      case h129 => k_is
      case h130 => k_is
      case h131 => k_is
      case h132 => k_is
      case h133 => k_is
      case h134 => k_is
      case h135 => k_is
      case h136 => k_is
      case h137 => k_is
      case h138 => k_is
      case h139 => k_is
      case h140 => k_is
      case h141 => k_is
      case h142 => k_is
      case h143 => k_is
      case h144 => k_is
      case h145 => k_is
      case h146 => k_is
      case h147 => k_is
      case h148 => k_is
      case h149 => k_is
      case h150 => k_is
      case h151 => k_is
      case h152 => k_is
      case h153 => k_is
      case h154 => k_is
      case h155 => k_is
      case h156 => k_is
      case h157 => k_is
      case h158 => k_is
      case h159 => rfl
      case h160 => rfl
      case h161 => k_is
      case h162 => k_is
      case h163 => k_is
      case h164 => k_is
      case h165 => rfl
      case h166 => rfl
      case h167 => k_is
      case h168 => k_is
      case h169 => k_is
      case h170 => k_is
      case h171 => k_is
      case h172 => k_is
      case h173 => k_is
      case h174 => k_is
      case h175 => k_is
      case h176 => k_is
      case h177 => k_is
      case h178 => k_is
      case h179 => k_is
      case h180 => k_is
      case h181 => k_is
      case h182 => k_is
      case h183 => k_is
    exact TL.law_fin KX G hmg fin
