import PyProof.Rows.All
import Wide.All
import OpenK.AllK
import Wide.FinOn
import HandS.ForSpec
import HandS.ForMost
import HandS.Wide
import HandS.TupAny
import HandS.TupMul
import HandS.IsInst
import HandS.Flow
import HandS.TupLe
import HandS.Lambda
import HandS.Conv
import HandS.More
import HandS.Style
import HandS.CallLocal
import HandS.TryOnly
import HandS.Zip
import HandS.ExcIs
import HandS.ExcOwn
import HandS.WordsExc
import HandS.Defaults
import HandS.EndTab
import PySem.Challenge.RW_soonfound_k10_whole_bows_joined
set_option Elab.async false
set_option linter.all false
set_option maxRecDepth 100000
set_option maxHeartbeats 4000000
/-! TBase: tuples as trees; what a tree stands for in the abstract heap; readings lifted to trees. -/
namespace TL
open PySem PySem.Spec PyProof.Rows L2

/-- a value as a tree: tuples within, what may change by its address -/
inductive TV where
  | non | bl (b : Bool) | int (i : Int) | str (s : Str) | tup (l : List TV) | ref (a : Addr) | ty (n : String) | kl (l : List TV) | thk (a : Addr) (φ : Hp → Prop)
/-- what may change -/
inductive MO where
  | lst (xs : List TV)
  | rls (xs : List TV)
  | dic (kvs : List (TV × TV))
  | ins (C dx : Addr) (fs : List (Str × TV))
  /-- a code object's table, its items' name -/
  | tbl (q : Str)
abbrev TM := Addr → Option MO
def updM (M : TM) (a : Addr) (o : MO) : TM := fun b => if b = a then some o else M b
theorem updM_same {M : TM} {a : Addr} {o : MO} : updM M a o a = some o := if_pos rfl
theorem updM_ne {M : TM} {a b : Addr} {o : MO} (h : b ≠ a) : updM M a o b = M b := if_neg h
theorem updM_updM {M : TM} {a : Addr} {o u : MO} : updM (updM M a o) a u = updM M a u := by
  funext b; unfold updM; split <;> rfl
theorem updM_none {M : TM} {a b : Addr} {o : MO} : updM M a o b = none ↔ b ≠ a ∧ M b = none := by
  unfold updM
  by_cases h : b = a
  · simp [h]
  · simp [h]

/-- a tuple that is read: told by the heap, or of the written part -/
def TqT (K : PySem.W.Frag) (H : Hp) (a : Addr) (xs : List V) : Prop :=
  H a = some (.tup xs) ∨ ∃ (o : Obj) (its : Array Value) (n : Nat), K.lookup a = some o ∧ o.cls = .type "tuple" ∧ o.data = .seq its n ∧ its.size ≤ sizeLine ∧ Vals xs its.toList
theorem TqT.sq {K : PySem.W.Frag} {H : Hp} {a : Addr} {xs : List V} (h : TqT K H a xs) : SqT K H a xs := h.elim (fun h => .inl (.inl h)) .inr
theorem TqT.of {K : PySem.W.Frag} {H : Hp} {a : Addr} {xs : List V} (h : H a = some (.tup xs)) : TqT K H a xs := .inl h
/-- a list of the written part -/
def KlT (K : PySem.W.Frag) (a : Addr) (xs : List V) : Prop := ∃ (o : Obj) (its : Array Value) (n : Nat), K.lookup a = some o ∧ o.cls = .type "list" ∧ o.dict = none ∧ o.data = .seq its n ∧ its.size ≤ sizeLine ∧ Vals xs its.toList
theorem KlT.sq {K : PySem.W.Frag} {H : Hp} {a : Addr} {xs : List V} (h : KlT K a xs) : SqL K H a xs := .inr h
/-- code objects stay -/
def CodK (H H' : Hp) : Prop := ∀ c q, H c = some (LamX.CodeO c q) → H' c = some (LamX.CodeO c q)
def GrowT (K : PySem.W.Frag) (H H' : Hp) : Prop := (∀ p vs, TqT K H p vs → TqT K H' p vs) ∧ CodK H H'
mutual
inductive Rv (K : PySem.W.Frag) (H : Hp) : TV → V → Prop
  | non : Rv K H .non .non
  | bl (b : Bool) : Rv K H (.bl b) (.bl b)
  | int (i : Int) : Rv K H (.int i) (.int i)
  | str (s : Str) : Rv K H (.str s) (.str s)
  | ref (a : Addr) : Rv K H (.ref a) (.ref a)
  | ty (n : String) : Rv K H (.ty n) (.ty n)
  | thk (a : Addr) (φ : Hp → Prop) : (∀ H', GrowT K H H' → φ H') → Rv K H (.thk a φ) (.ref a)
  | tup {p : Addr} {xs : List TV} {vs : List V} : TqT K H p vs → Rvs K H xs vs → xs.length ≤ sizeLine → Rv K H (.tup xs) (.ref p)
  | kl {p : Addr} {xs : List TV} {vs : List V} : KlT K p vs → Rvs K H xs vs → xs.length ≤ sizeLine → Rv K H (.kl xs) (.ref p)
inductive Rvs (K : PySem.W.Frag) (H : Hp) : List TV → List V → Prop
  | nil : Rvs K H [] []
  | cons {x : TV} {v : V} {xs : List TV} {vs : List V} : Rv K H x v → Rvs K H xs vs → Rvs K H (x :: xs) (v :: vs)
end
theorem GrowT.refl (K : PySem.W.Frag) (H : Hp) : GrowT K H H := ⟨fun _ _ h => h, fun _ _ h => h⟩
theorem GrowT.trans {K : PySem.W.Frag} {H H1 H2 : Hp} (a : GrowT K H H1) (b : GrowT K H1 H2) : GrowT K H H2 := ⟨fun p vs h => b.1 _ _ (a.1 _ _ h), fun c q h => b.2 _ _ (a.2 _ _ h)⟩
section
variable {K : PySem.W.Frag} {H H' : Hp}
mutual
theorem Rv.mono (g : GrowT K H H') : ∀ {x : TV} {v : V}, Rv K H x v → Rv K H' x v
  | _, _, .non => .non
  | _, _, .bl b => .bl b
  | _, _, .int i => .int i
  | _, _, .str s => .str s
  | _, _, .ref a => .ref a
  | _, _, .ty n => .ty n
  | _, _, .thk a φ h => .thk a φ fun H'' g' => h H'' (g.trans g')
  | _, _, .tup s r z => .tup (g.1 _ _ s) (Rvs.mono g r) z
  | _, _, .kl s r z => .kl s (Rvs.mono g r) z
theorem Rvs.mono (g : GrowT K H H') : ∀ {xs : List TV} {vs : List V}, Rvs K H xs vs → Rvs K H' xs vs
  | _, _, .nil => .nil
  | _, _, .cons r t => .cons (Rv.mono g r) (Rvs.mono g t)
end
theorem Rvs.length : ∀ {xs : List TV} {vs : List V}, Rvs K H xs vs → xs.length = vs.length
  | _, _, .nil => rfl
  | _, _, .cons _ t => by simp [Rvs.length t]
theorem Rvs.append : ∀ {xs ys : List TV} {vs us : List V}, Rvs K H xs vs → Rvs K H ys us → Rvs K H (xs ++ ys) (vs ++ us)
  | _, _, _, _, .nil, h => h
  | _, _, _, _, .cons r t, h => .cons r (Rvs.append t h)
theorem Rvs.get : ∀ {xs : List TV} {vs : List V} {i : Nat} {x : TV}, Rvs K H xs vs → xs[i]? = some x → ∃ v, vs[i]? = some v ∧ Rv K H x v
  | _, _, _, _, .nil, e => by simp at e
  | _, _, 0, _, .cons r _, e => by simp at e; subst e; exact ⟨_, rfl, r⟩
  | _, _, i + 1, x, .cons _ t, e => by
    obtain ⟨v, h1, h2⟩ := Rvs.get (i := i) (x := x) t (by simpa using e)
    exact ⟨v, by simpa using h1, h2⟩
theorem Rvs.take : ∀ {xs : List TV} {vs : List V} (n : Nat), Rvs K H xs vs → Rvs K H (xs.take n) (vs.take n)
  | _, _, 0, _ => .nil
  | _, _, _ + 1, .nil => .nil
  | _, _, n + 1, .cons r t => .cons r (Rvs.take n t)
theorem Rvs.drop : ∀ {xs : List TV} {vs : List V} (n : Nat), Rvs K H xs vs → Rvs K H (xs.drop n) (vs.drop n)
  | _, _, 0, r => r
  | _, _, _ + 1, .nil => .nil
  | _, _, n + 1, .cons _ t => Rvs.drop n t
theorem Rvs.set : ∀ {xs : List TV} {vs : List V} {x : TV} {v : V} (i : Nat), Rv K H x v → Rvs K H xs vs → Rvs K H (xs.set i x) (vs.set i v)
  | _, _, _, _, _, _, .nil => .nil
  | _, _, _, _, 0, r, .cons _ t => .cons r t
  | _, _, _, _, i + 1, r, .cons q t => .cons q (Rvs.set i r t)
theorem Rvs.rep {x : TV} {v : V} (r : Rv K H x v) : ∀ n, Rvs K H (List.replicate n x) (List.replicate n v)
  | 0 => .nil
  | n + 1 => .cons r (Rvs.rep r n)
theorem Rvs.reverse : ∀ {xs : List TV} {vs : List V}, Rvs K H xs vs → Rvs K H xs.reverse vs.reverse
  | _, _, .nil => .nil
  | _, _, .cons r t => by
    simp only [List.reverse_cons]
    exact Rvs.append (Rvs.reverse t) (.cons r .nil)
theorem Rvs.flat_rep {xs : List TV} {vs : List V} (r : Rvs K H xs vs) : ∀ n, Rvs K H (List.replicate n xs).flatten (List.replicate n vs).flatten
  | 0 => .nil
  | n + 1 => by
    simp only [List.replicate_succ, List.flatten_cons]
    exact Rvs.append r (Rvs.flat_rep r n)
theorem Rvs.dropLast : ∀ {xs : List TV} {vs : List V}, Rvs K H xs vs → Rvs K H xs.dropLast vs.dropLast := fun {xs vs} r => by
  rw [List.dropLast_eq_take, List.dropLast_eq_take, r.length]
  exact r.take _
theorem Rvs.eraseIdx : ∀ {xs : List TV} {vs : List V} (i : Nat), Rvs K H xs vs → Rvs K H (xs.eraseIdx i) (vs.eraseIdx i)
  | _, _, _, .nil => .nil
  | _, _, 0, .cons _ t => t
  | _, _, i + 1, .cons r t => .cons r (Rvs.eraseIdx i t)
theorem Rvs.ints : ∀ {ns : List Int} {vs : List V}, Rvs K H (ns.map .int) vs → vs = ns.map .int
  | [], _, .nil => rfl
  | _ :: _, _, .cons (.int _) t => by rw [Rvs.ints t]; rfl
theorem Rvs.of_ints : ∀ (ns : List Int), Rvs K H (ns.map .int) (ns.map .int)
  | [] => .nil
  | _ :: r => .cons (.int _) (Rvs.of_ints r)
theorem Rvs.bls : ∀ {ns : List Bool} {vs : List V}, Rvs K H (ns.map .bl) vs → vs = ns.map .bl
  | [], _, .nil => rfl
  | _ :: _, _, .cons (.bl _) t => by rw [Rvs.bls t]; rfl
end

def kTV : Key → TV
  | .inl i => .int i
  | .inr s => .str s
def Ro (K : PySem.W.Frag) (H : Hp) (a : Addr) : MO → Prop
  | .lst xs => ∃ vs, H a = some (.lst vs) ∧ Rvs K H xs vs ∧ xs.length ≤ sizeLine
  | .rls xs => ∃ o vs, H a = some (.frz o (.lst vs)) ∧ Rvs K H xs vs ∧ xs.length ≤ sizeLine
  | .dic kvs => (∃ ks, H a = some (.dK ks) ∧ Paired (fun (p : TV × TV) (q : Key × V) => p.1 = kTV q.1 ∧ Rv K H p.2 q.2) kvs ks) ∨
      (∃ ks, H a = some (.dT ks) ∧ Paired (fun (p : TV × TV) (q : List Key × V) => p.1 = .tup (q.1.map kTV) ∧ Rv K H p.2 q.2) kvs ks)
  | .ins C dx fs => ∃ gs, H a = some (.ins C dx gs) ∧ Paired (fun (p : Str × TV) (q : Str × V) => p.1 = q.1 ∧ Rv K H p.2 q.2) fs gs
  | .tbl q => LamX.TabS H a q
/-- M tells of H -/
def RepM (K : PySem.W.Frag) (H : Hp) (M : TM) : Prop := ∀ a o, M a = some o → Ro K H a o
section
variable {K : PySem.W.Frag} {H H' H1 H2 : Hp} {M M' M1 M2 : TM} {a p : Addr}
theorem Ro.mono {o : MO} (g : GrowT K H H') (e : H' a = H a) (r : Ro K H a o) : Ro K H' a o := by
  cases o with
  | lst xs => obtain ⟨vs, h, q, z⟩ := r; exact ⟨vs, e.trans h, q.mono g, z⟩
  | rls xs => obtain ⟨o, vs, h, q, z⟩ := r; exact ⟨o, vs, e.trans h, q.mono g, z⟩
  | dic kvs =>
    rcases r with ⟨ks, h, q⟩ | ⟨ks, h, q⟩
    · exact .inl ⟨ks, e.trans h, Paired.mapP q fun _ _ z => ⟨z.1, z.2.mono g⟩⟩
    · exact .inr ⟨ks, e.trans h, Paired.mapP q fun _ _ z => ⟨z.1, z.2.mono g⟩⟩
  | ins C dx fs => obtain ⟨gs, h, q⟩ := r; exact ⟨gs, e.trans h, Paired.mapP q fun _ _ z => ⟨z.1, z.2.mono g⟩⟩
  | tbl q =>
    obtain ⟨ps, h1, h2, h3⟩ := r
    refine ⟨ps, e.trans h1, h2, fun pos cv hc => ?_⟩
    obtain ⟨c, e1, e2⟩ := h3 pos cv hc
    exact ⟨c, e1, g.2 _ _ e2⟩
theorem Ro.some {o : MO} (r : Ro K H a o) : H a ≠ none := by
  cases o with
  | lst xs => obtain ⟨vs, h, q⟩ := r; rw [h]; simp
  | rls xs => obtain ⟨o, vs, h, q⟩ := r; rw [h]; simp
  | dic kvs => rcases r with ⟨ks, h, q⟩ | ⟨ks, h, q⟩ <;> (rw [h]; simp)
  | ins C dx fs => obtain ⟨gs, h, q⟩ := r; rw [h]; simp
  | tbl q => obtain ⟨ps, h, _⟩ := r; rw [h]; simp
theorem Ro.notup {o : MO} {vs : List V} (r : Ro K H a o) : ¬ Rd H a (.tup vs) := by
  have key : ∀ u, (u = HO.tup vs ∨ ∃ ob, u = HO.frz ob (.tup vs)) → H a = Option.some u → False := by
    intro u hu h
    cases o with
    | lst xs => obtain ⟨vs, h', q⟩ := r; rw [h] at h'; cases h'; rcases hu with hu | ⟨_, hu⟩ <;> cases hu
    | rls xs => obtain ⟨o, vs, h', q⟩ := r; rw [h] at h'; cases h'; rcases hu with hu | ⟨_, hu⟩ <;> cases hu
    | dic kvs => rcases r with ⟨ks, h', q⟩ | ⟨ks, h', q⟩ <;> (rw [h] at h'; cases h'; rcases hu with hu | ⟨_, hu⟩ <;> cases hu)
    | ins C dx fs => obtain ⟨gs, h', q⟩ := r; rw [h] at h'; cases h'; rcases hu with hu | ⟨_, hu⟩ <;> cases hu
    | tbl q => obtain ⟨ps, h', _⟩ := r; rw [h] at h'; cases h'; rcases hu with hu | ⟨_, hu⟩ <;> cases hu
  rintro (h | ⟨ob, h⟩)
  · exact key _ (.inl rfl) h
  · exact key _ (.inr ⟨ob, rfl⟩) h
theorem RepM.fresh (r : RepM K H M) (h : H a = none) : M a = none := by
  cases q : M a with
  | none => rfl
  | some o => exact absurd h (r a o q).some
/-- behind a step: what M doesn't tell of stays, nothing that stood is told of anew -/
structure Post (K : PySem.W.Frag) (H : Hp) (M : TM) (H' : Hp) (M' : TM) : Prop where
  fix : ∀ a o, H a = some o → (∀ ps, o ≠ .tbl ps) → M a = none → H' a = some o
  rep : RepM K H' M'
  nnw : ∀ a o, H a = some o → (∀ ps, o ≠ .tbl ps) → M a = none → M' a = none
  cod : CodK H H'
theorem Post.refl (r : RepM K H M) : Post K H M H M := ⟨fun _ _ h _ _ => h, r, fun _ _ _ _ h => h, fun _ _ h => h⟩
theorem Post.trans (p : Post K H M H1 M1) (q : Post K H1 M1 H2 M2) : Post K H M H2 M2 where
  fix := fun a o h t n => q.fix a o (p.fix a o h t n) t (p.nnw a o h t n)
  rep := q.rep
  nnw := fun a o h t n => q.nnw a o (p.fix a o h t n) t (p.nnw a o h t n)
  cod := fun c n h => q.cod c n (p.cod c n h)
theorem growT (r : RepM K H M) (f : ∀ a o, H a = some o → (∀ ps, o ≠ .tbl ps) → M a = none → H' a = some o) (fc : CodK H H') : GrowT K H H' := by
  refine ⟨fun p vs h => ?_, fc⟩
  rcases h with h | h
  · refine .inl (f _ _ h (fun ps z => by cases z) ?_)
    cases q : M p with
    | none => rfl
    | some o => exact absurd (.inl h) (r p o q).notup
  · exact .inr h
theorem Post.grow (p : Post K H M H' M') (r : RepM K H M) : GrowT K H H' := growT r p.fix p.cod
theorem Post.sub {M0 : TM} (p : Post K H M H' M') (s : ∀ a o, M0 a = some o → M' a = some o) : Post K H M H' M0 :=
  ⟨p.fix, fun a o h => p.rep a o (s a o h), fun a u h t n => (by
    cases q : M0 a with
    | none => rfl
    | some o => have := p.nnw a u h t n; rw [s a o q] at this; cases this), p.cod⟩
theorem ne_fresh {o : HO} (h : H p = none) (q : H a = some o) : a ≠ p := fun e => by rw [e, h] at q; cases q
theorem fix_new {o : HO} (h : H p = none) : ∀ a u, H a = some u → (∀ ps, u ≠ .tbl ps) → M a = none → upd H p o a = some u := fun a u q _ _ => by
  rw [upd_ne (ne_fresh h q)]; exact q
theorem cod_new {o : HO} (h : H p = none) : CodK H (upd H p o) := fun c n q => by rw [upd_ne (ne_fresh h q)]; exact q
theorem cod_ne {o u : HO} (h : H p = some u) (n : ∀ c q, u ≠ LamX.CodeO c q) : CodK H (upd H p o) := fun c m q => by
  have e : c ≠ p := fun e => by
    subst e
    rw [h] at q
    exact n _ _ (Option.some.inj q)
  rw [upd_ne e]; exact q
theorem lst_cod {vs : List V} : ∀ c q, HO.lst vs ≠ LamX.CodeO c q := fun c q z => by cases z
/-- a new untold object -/
theorem RepM.new {o : HO} (r : RepM K H M) (h : H p = none) : RepM K (upd H p o) M := fun a u q => by
  have ra := r a u q
  refine ra.mono (growT r (fix_new h) (cod_new h)) ?_
  rw [upd_ne]
  intro e; subst e
  exact ra.some h
theorem Post.new {o : HO} (r : RepM K H M) (h : H p = none) : Post K H M (upd H p o) M := ⟨fix_new h, r.new h, fun _ _ _ _ n => n, cod_new h⟩
/-- a new told list -/
theorem Post.new_lst {xs : List TV} {vs : List V} (r : RepM K H M) (h : H p = none) (rv : Rvs K H xs vs) (hl : xs.length ≤ sizeLine) : Post K H M (upd H p (.lst vs)) (updM M p (.lst xs)) := by
  have g : GrowT K H (upd H p (.lst vs)) := growT r (fix_new h) (cod_new h)
  refine ⟨fix_new h, fun a u q => ?_, fun a u ha _ n => ?_, cod_new h⟩
  · by_cases e : a = p
    · subst e
      rw [updM_same] at q; cases q
      exact ⟨vs, upd_same, rv.mono g, hl⟩
    · rw [updM_ne e] at q
      exact (r a u q).mono g (upd_ne e)
  · rw [updM_ne]
    · exact n
    · intro e; subst e; rw [h] at ha; cases ha
/-- a new empty dict -/
theorem Post.new_dic0 (r : RepM K H M) (h : H p = none) : Post K H M (upd H p (.dK [])) (updM M p (.dic [])) := by
  refine ⟨fix_new h, fun a u q => ?_, fun a u ha _ n => ?_, cod_new h⟩
  · by_cases e : a = p
    · subst e
      rw [updM_same] at q; cases q
      exact .inl ⟨[], upd_same, .nil⟩
    · rw [updM_ne e] at q
      exact (r a u q).mono (growT r (fix_new h) (cod_new h)) (upd_ne e)
  · rw [updM_ne]
    · exact n
    · intro e; subst e; rw [h] at ha; cases ha
/-- a told list is written -/
theorem Post.set_lst {xs ys : List TV} {vs : List V} (r : RepM K H M) (h : M p = some (.lst ys)) (rv : Rvs K H xs vs) (hl : xs.length ≤ sizeLine) : Post K H M (upd H p (.lst vs)) (updM M p (.lst xs)) := by
  obtain ⟨ws, hp, _⟩ := r p _ h
  have fx : ∀ a u, H a = some u → (∀ ps, u ≠ .tbl ps) → M a = none → upd H p (.lst vs) a = some u := fun a u q _ n => by
    rw [upd_ne]
    · exact q
    · intro e; subst e; rw [h] at n; cases n
  have g : GrowT K H (upd H p (.lst vs)) := growT r fx (cod_ne hp lst_cod)
  refine ⟨fx, fun a u q => ?_, fun a u ha _ n => ?_, cod_ne hp lst_cod⟩
  · by_cases e : a = p
    · subst e
      rw [updM_same] at q; cases q
      exact ⟨vs, upd_same, rv.mono g, hl⟩
    · rw [updM_ne e] at q
      exact (r a u q).mono g (upd_ne e)
  · rw [updM_ne]
    · exact n
    · intro e; subst e; rw [h] at n; cases n
/-- an untold list is written -/
theorem Post.hid {vs : List V} {o : HO} (r : RepM K H M) (h : H p = some (.lst vs)) (n : M p = none) : RepM K (upd H p o) M := fun a u q => by
  have e : a ≠ p := fun e => by subst e; rw [n] at q; cases q
  have ra := r a u q
  have g : GrowT K H (upd H p o) := ⟨fun b us hb => by
    rcases hb with hb | hb
    · refine .inl ?_
      have ne : b ≠ p := by
        intro e; subst e
        rw [h] at hb; cases hb
      rw [upd_ne ne]; exact hb
    · exact .inr hb, cod_ne h lst_cod⟩
  exact ra.mono g (upd_ne e)
end

/-! ### slots -/
abbrev TSt := List (Option TV)
abbrev LSt := L2.St
def Ropt (K : PySem.W.Frag) (H : Hp) : Option TV → Option V → Prop
  | none, _ => True
  | some x, some v => Rv K H x v
  | some _, none => False
abbrev Rs (K : PySem.W.Frag) (H : Hp) : TSt → LSt → Prop := Paired (Ropt K H)
section
variable {K : PySem.W.Frag} {H H' : Hp}
theorem Ropt.mono (g : GrowT K H H') : ∀ {x : Option TV} {v : Option V}, Ropt K H x v → Ropt K H' x v
  | none, _, _ => True.intro
  | some x, some v, r => Rv.mono g r
  | some x, none, r => r.elim
theorem Rs.mono (g : GrowT K H H') {σ : TSt} {σ' : LSt} (r : Rs K H σ σ') : Rs K H' σ σ' := Paired.mapP r fun _ _ z => z.mono g
theorem Rs.get : ∀ {σ : TSt} {σ' : LSt} {i : Nat} {x : TV}, Rs K H σ σ' → σ[i]? = some (some x) → ∃ v, σ'[i]? = some (some v) ∧ Rv K H x v
  | _, _, _, _, .nil, e => by simp at e
  | _, _, 0, x, .cons (b := v) r _, e => by
    simp at e; subst e
    cases v with
    | none => exact r.elim
    | some v => exact ⟨v, rfl, r⟩
  | _, _, i + 1, x, .cons _ t, e => by
    obtain ⟨v, h1, h2⟩ := Rs.get (i := i) (x := x) t (by simpa using e)
    exact ⟨v, by simpa using h1, h2⟩
theorem Rs.set : ∀ {σ : TSt} {σ' : LSt} {x : Option TV} {v : Option V} (i : Nat), Ropt K H x v → Rs K H σ σ' → Rs K H (σ.set i x) (σ'.set i v)
  | _, _, _, _, _, _, .nil => .nil
  | _, _, _, _, 0, r, .cons _ t => .cons r t
  | _, _, _, _, i + 1, r, .cons q t => .cons q (Rs.set i r t)
def wipeT (σ : TSt) : List Nat → TSt
  | [] => σ
  | v :: vs => (wipeT σ vs).set v none
theorem Rs.wipe {σ : TSt} {σ' : LSt} (r : Rs K H σ σ') : ∀ vs : List Nat, Rs K H (wipeT σ vs) (wipe σ' vs)
  | [] => r
  | v :: vs => Rs.set v (show Ropt K H none none from True.intro) (Rs.wipe r vs)
theorem Rs.start : ∀ {xs : List TV} {vs : List V} (n : Nat), Rvs K H xs vs → Rs K H (xs.map some ++ List.replicate n none) (vs.map some ++ List.replicate n none)
  | _, _, 0, .nil => .nil
  | _, _, n + 1, .nil => .cons True.intro (Rs.start n .nil)
  | _, _, n, .cons r t => .cons r (Rs.start n t)
end

/-! ### exceptions -/
structure TX where
  cls : Value
  fs : List (Str × TV)
def Rx (K : PySem.W.Frag) (H : Hp) (x : TX) (cls : Value) (d : Option Addr) : Prop :=
  cls = x.cls ∧ match x.fs, d with
    | [], none => True
    | [], some _ => False
    | fs, some dx => ∃ gs, H dx = some (.xd gs) ∧ Paired (fun (p : Str × TV) (q : Str × V) => p.1 = q.1 ∧ Rv K H p.2 q.2) fs gs
    | _, _ => False

/-! ### lifted readings -/
abbrev TK := TV → TM → Prop
abbrev TR := TX → TM → Prop
abbrev WE := TSt → TM → TK → TR → Prop
abbrev WT := TSt → TM → (Bool → TM → Prop) → TR → Prop
abbrev WA := TSt → TM → (List TV → TM → Prop) → TR → Prop
structure TEnds where
  nx : TSt → TM → Prop
  rt : TV → TM → Prop
  bk : TSt → TM → Prop
  ct : TSt → TM → Prop
  ex : TX → TSt → TM → Prop
abbrev WS := TEnds → TSt → TM → Prop
section
variable (K : PySem.W.Frag) (W : WX)
def LX (σ' : LSt) (H : Hp) (M : TM) (R : TR) : Prop := ∀ x cls d H' M', Post K H M H' M' → Rx K H' x cls d → R x M' → W cls d σ' H'
def Cont (K : PySem.W.Frag) (H : Hp) (M : TM) (Q : TK) (Q' : VK) : Prop := ∀ z z' H' M', Post K H M H' M' → Rv K H' z z' → Q z M' → Q' z' H'
def LE (w : WE) : TE := fun σ' H Q' => ∃ σ M Q R, Rs K H σ σ' ∧ RepM K H M ∧ w σ M Q R ∧ Cont K H M Q Q' ∧ LX K W σ' H M R
def LT (w : WT) : TT := fun σ' H Q' => ∃ σ M Q R, Rs K H σ σ' ∧ RepM K H M ∧ w σ M Q R ∧ (∀ b H' M', Post K H M H' M' → Q b M' → Q' b H') ∧ LX K W σ' H M R
def LA (n : Nat) (w : WA) : TA := fun σ' H Q' => ∃ σ M Q R, Rs K H σ σ' ∧ RepM K H M ∧ w σ M Q R ∧ (∀ xs vs H' M', xs.length = n → Post K H M H' M' → Rvs K H' xs vs → Q xs M' → Q' vs H') ∧ LX K W σ' H M R
structure Below (H : Hp) (M : TM) (D : TEnds) (D' : Ends) : Prop where
  nx : ∀ σ σ' H' M', Post K H M H' M' → Rs K H' σ σ' → D.nx σ M' → D'.nx σ' H'
  rt : ∀ x v H' M', Post K H M H' M' → Rv K H' x v → D.rt x M' → D'.rt v H'
  bk : ∀ σ σ' H' M', Post K H M H' M' → Rs K H' σ σ' → D.bk σ M' → D'.bk σ' H'
  ct : ∀ σ σ' H' M', Post K H M H' M' → Rs K H' σ σ' → D.ct σ M' → D'.ct σ' H'
  ex : ∀ x cls d σ σ' H' M', Post K H M H' M' → Rs K H' σ σ' → Rx K H' x cls d → D.ex x σ M' → W cls d σ' H'
def LS (w : WS) : TS := fun D' σ' H => ∃ σ M D, Rs K H σ σ' ∧ RepM K H M ∧ w D σ M ∧ Below K W H M D D'
end
section
variable {K : PySem.W.Frag} {W : WX} {H H1 : Hp} {M M1 : TM}
theorem LX.on {σ' : LSt} {R : TR} (l : LX K W σ' H M R) (p : Post K H M H1 M1) : LX K W σ' H1 M1 R := fun x cls d H' M' q rx r => l x cls d H' M' (p.trans q) rx r
theorem Below.on {D : TEnds} {D' : Ends} (b : Below K W H M D D') (p : Post K H M H1 M1) : Below K W H1 M1 D D' :=
  ⟨fun σ σ' H' M' q => b.nx σ σ' H' M' (p.trans q), fun x v H' M' q => b.rt x v H' M' (p.trans q), fun σ σ' H' M' q => b.bk σ σ' H' M' (p.trans q), fun σ σ' H' M' q => b.ct σ σ' H' M' (p.trans q), fun x c d σ σ' H' M' q => b.ex x c d σ σ' H' M' (p.trans q)⟩
theorem Below.lx {D : TEnds} {D' : Ends} {σ : TSt} {σ' : LSt} (b : Below K W H M D D') (r : RepM K H M) (rs : Rs K H σ σ') : LX K W σ' H M (fun x M' => D.ex x σ M') :=
  fun x cls d H' M' q rx e => b.ex x cls d σ σ' H' M' q (rs.mono (q.grow r)) rx e
end

/-! ### judgements over trees -/
def EJ (X : Cx) (e : Expr) (w : WE) : Prop := ∀ W, Takes X W → PE X e (LE X.K W w)
def TJ (X : Cx) (e : Expr) (w : WT) : Prop := ∀ W, Takes X W → PT X e (LT X.K W w)
def UJ (X : Cx) (e : Expr) (w : WT) : Prop := ∀ W, Takes X W → PW X e (LT X.K W w)
def AJ (X : Cx) (es : List Expr) (w : WA) : Prop := ∀ W, Takes X W → PA X es (LA X.K W es.length w)
def SJ (X : Cx) (st : Stmt) (w : WS) : Prop := ∀ W, Takes X W → PS X st (LS X.K W w)
def SsJ (X : Cx) (st : List Stmt) (w : WS) : Prop := ∀ W, Takes X W → PSs X st (LS X.K W w)
section
variable {X : Cx}
theorem _root_.L2.PE.by {e : Expr} {t t' : TE} (h : PE X e t) (i : ∀ σ H Q, t' σ H Q → t σ H Q) : PE X e t' := ⟨fun pins s σ H Q I q => h.run pins s σ H Q I (i _ _ _ q)⟩
theorem _root_.L2.PT.by {e : Expr} {t t' : TT} (h : PT X e t) (i : ∀ σ H Q, t' σ H Q → t σ H Q) : PT X e t' := ⟨fun pins s σ H Q I q => h.run pins s σ H Q I (i _ _ _ q)⟩
theorem _root_.L2.PW.by {e : Expr} {t t' : TT} (h : PW X e t) (i : ∀ σ H Q, t' σ H Q → t σ H Q) : PW X e t' := ⟨fun wh pins s σ H Q I q => h.run wh pins s σ H Q I (i _ _ _ q)⟩
theorem _root_.L2.PA.by {es : List Expr} {t t' : TA} (h : PA X es t) (i : ∀ σ H Q, t' σ H Q → t σ H Q) : PA X es t' := ⟨fun pos pins s σ H Q I q => h.run pos pins s σ H Q I (i _ _ _ q)⟩
theorem _root_.L2.PS.by {st : Stmt} {t t' : TS} (h : PS X st t) (i : ∀ D σ H, t' D σ H → t D σ H) : PS X st t' := ⟨fun pins s σ H D I q => h.run pins s σ H D I (i _ _ _ q)⟩
theorem _root_.L2.PSs.by {st : List Stmt} {t t' : TS} (h : PSs X st t) (i : ∀ D σ H, t' D σ H → t D σ H) : PSs X st t' := ⟨fun pins s σ H D I q => h.run pins s σ H D I (i _ _ _ q)⟩
end
end TL

/-! TOps: operations on trees, by values. -/
namespace TL
open PySem PySem.Spec PyProof.Rows L2

/-! ### data -/
def optAll {α β : Type} (f : α → Option β) : List α → Option (List β)
  | [] => some []
  | x :: r => match f x with
    | none => none
    | some y => match optAll f r with
      | none => none
      | some ys => some (y :: ys)
/-- the list at a, told -/
def lsM (M : TM) (a : Addr) : Option (List TV) := match M a with
  | some (.lst xs) => some xs
  | some (.rls xs) => some xs
  | _ => none
def dat (M : TM) : Nat → TV → Option PyData
  | _, .non => some .none
  | _, .bl b => some (.bool b)
  | _, .int i => some (.int i)
  | _, .str s => some (.str s)
  | n + 1, .tup xs => match optAll (dat M n) xs with
    | some ds => some (.tuple ds)
    | none => none
  | n + 1, .ref a => match lsM M a with
    | some xs => match optAll (dat M n) xs with
      | some ds => some (.list ds)
      | none => none
    | none => none
  | _, _ => none
section
variable {K : PySem.W.Frag} {H H' : Hp} {M : TM} {a p : Addr}
theorem lsM_seq {xs : List TV} (r : RepM K H M) (h : lsM M a = some xs) : ∃ vs, SqL K H a vs ∧ Rvs K H xs vs ∧ xs.length ≤ sizeLine := by
  unfold lsM at h
  cases q : M a with
  | none => rw [q] at h; cases h
  | some o =>
    rw [q] at h
    cases o with
    | lst ys =>
      cases h
      obtain ⟨vs, e, rv, z⟩ := r a _ q
      exact ⟨vs, .inl (.inl e), rv, z⟩
    | rls ys =>
      cases h
      obtain ⟨o, vs, e, rv, z⟩ := r a _ q
      exact ⟨vs, .inl (.inr ⟨o, e⟩), rv, z⟩
    | dic _ => cases h
    | ins _ _ _ => cases h
    | tbl _ => cases h
theorem lsM_lst {xs : List TV} (h : M a = some (.lst xs)) : lsM M a = some xs := by unfold lsM; rw [h]
theorem dat_all {n : Nat} (ih : ∀ {x : TV} {v : V} {d : PyData}, Rv K H x v → dat M n x = some d → Dp K H v d) :
    ∀ {xs : List TV} {vs : List V} {ds : List PyData}, Rvs K H xs vs → optAll (dat M n) xs = some ds → DpAll K H vs ds
  | [], _, _, .nil, e => by cases e; exact .nil
  | x :: r, _, _, .cons rv t, e => by
    unfold optAll at e
    cases q : dat M n x with
    | none => rw [q] at e; cases e
    | some y =>
      rw [q] at e
      cases q2 : optAll (dat M n) r with
      | none => rw [q2] at e; cases e
      | some ys =>
        rw [q2] at e
        cases e
        exact .cons (ih rv q) (dat_all ih t q2)
theorem dat_ok (r : RepM K H M) : ∀ (n : Nat) {x : TV} {v : V} {d : PyData}, Rv K H x v → dat M n x = some d → Dp K H v d := by
  intro n
  induction n with
  | zero =>
    intro x v d rv e
    cases rv <;> simp [dat] at e <;> subst e <;> constructor
  | succ n ih =>
    intro x v d rv e
    cases rv with
    | non => simp [dat] at e; subst e; constructor
    | bl b => simp [dat] at e; subst e; constructor
    | int b => simp [dat] at e; subst e; constructor
    | str b => simp [dat] at e; subst e; constructor
    | ty b => simp [dat] at e
    | thk _ _ _ => simp [dat] at e
    | kl _ _ _ => simp [dat] at e
    | ref a =>
      simp only [dat] at e
      cases q : lsM M a with
      | none => rw [q] at e; cases e
      | some xs =>
        rw [q] at e
        dsimp only at e
        cases q2 : optAll (dat M n) xs with
        | none => rw [q2] at e; cases e
        | some ds =>
          rw [q2] at e
          cases e
          obtain ⟨vs, s, rvs, _⟩ := lsM_seq r q
          exact .lst s (dat_all ih rvs q2)
    | tup s rvs z =>
      simp only [dat] at e
      rename_i xs vs
      cases q2 : optAll (dat M n) xs with
      | none => rw [q2] at e; cases e
      | some ds =>
        rw [q2] at e
        cases e
        exact .tup s.sq (dat_all ih rvs q2)
end
/-- == where it is known -/
def eqD (M : TM) (x y : TV) : Option Bool := match dat M 65 x, dat M 65 y with
  | some d, some e => if SeqAt.shaped d && SeqAt.shaped e then some (PyData.eqv d e) else none
  | _, _ => none
def eqF (M : TM) : TV → TV → Option Bool
  | .str a, .str b => some (a == b)
  | x, y => eqD M x y
theorem eqF_cases {M : TM} {x y : TV} {b : Bool} (h : eqF M x y = some b) : (∃ s t, x = .str s ∧ y = .str t ∧ b = (s == t)) ∨ eqD M x y = some b := by
  unfold eqF at h
  split at h
  · rename_i s t
    exact .inl ⟨s, t, rfl, rfl, (Option.some.inj h).symm⟩
  · exact .inr h
/-- flat values, == of them, for in -/
def flT : TV → Bool
  | .non => true
  | .bl _ => true
  | .int _ => true
  | .str _ => true
  | _ => false
def eqT : TV → TV → Bool
  | .non, .non => true
  | .bl a, .bl b => a == b
  | .bl a, .int b => (if a then 1 else 0) == b
  | .int a, .bl b => a == (if b then 1 else 0)
  | .int a, .int b => a == b
  | .str a, .str b => a == b
  | _, _ => false
theorem flT_of {K : PySem.W.Frag} {H : Hp} {x : TV} {v : V} (r : Rv K H x v) (h : flT x = true) : flatV v = true := by
  cases r <;> first | rfl | cases h
theorem eqT_of {K : PySem.W.Frag} {H : Hp} {x y : TV} {v u : V} (r : Rv K H x v) (q : Rv K H y u) (h : flT x = true) (h' : flT y = true) : eqV v u = eqT x y := by
  cases r <;> cases q <;> first | rfl | cases h | cases h'
theorem flT_all {K : PySem.W.Frag} {H : Hp} : ∀ {xs : List TV} {vs : List V}, Rvs K H xs vs → xs.all flT = true → vs.all flatV = true
  | _, _, .nil, _ => rfl
  | _, _, .cons r t, h => by
    simp only [List.all_cons, Bool.and_eq_true] at h ⊢
    exact ⟨flT_of r h.1, flT_all t h.2⟩
theorem inT_of {K : PySem.W.Frag} {H : Hp} {x : TV} {v : V} (r : Rv K H x v) (hx : flT x = true) : ∀ {xs : List TV} {vs : List V}, Rvs K H xs vs → xs.all flT = true → inV v vs = xs.any fun y => eqT y x
  | _, _, .nil, _ => rfl
  | _, _, .cons q t, h => by
    simp only [List.all_cons, Bool.and_eq_true] at h
    have ih := inT_of r hx t h.2
    unfold inV at ih ⊢
    simp only [List.any_cons]
    rw [eqT_of q r h.1 hx, ih]
/-- x in y -/
def inF (M : TM) (x y : TV) : Option Bool := match x, y with
  | x, .tup ys => if flT x && ys.all flT then some (ys.any fun y => eqT y x) else none
  | x, .ref a => match lsM M a with
    | some ys => if flT x && ys.all flT then some (ys.any fun y => eqT y x) else none
    | none => none
  | .str s, .str z => match s.cps.toList with
    | [c] => some (decide (c ∈ z.cps.toList))
    | _ => none
  | _, _ => none

/-! ### comparisons -/
inductive COp where
  | lt | le | gt | ge | eq | ne | is | isn | in | nin
def COp.op : COp → CmpOp
  | .lt => .Lt | .le => .LtE | .gt => .Gt | .ge => .GtE | .eq => .Eq | .ne => .NotEq | .is => .Is | .isn => .IsNot | .in => .In | .nin => .NotIn
def isF (x y : TV) : Option Bool := match x, y with
  | .non, .non => some true
  | .bl a, .bl b => some (a == b)
  | .bl _, .non => some false
  | .int _, .non => some false
  | .str _, .non => some false
  | .tup _, .non => some false
  | .ref _, .non => some false
  | .ty _, .non => some false
  | _, _ => none
def cmpF : COp → TM → TV → TV → Option Bool
  | .lt, _, .int i, .int j => some (decide (i < j))
  | .le, _, .int i, .int j => some (decide (i ≤ j))
  | .gt, _, .int i, .int j => some (decide (j < i))
  | .ge, _, .int i, .int j => some (decide (j ≤ i))
  | .eq, M, x, y => eqF M x y
  | .ne, M, x, y => (eqF M x y).map not
  | .is, _, x, y => isF x y
  | .isn, _, x, y => (isF x y).map not
  | .in, M, x, y => inF M x y
  | .nin, M, x, y => (inF M x y).map not
  | _, _, _, _ => none

/-! ### the lifted value readings -/
abbrev W2 := TV → TV → TM → TK → Prop
abbrev W1 := TV → TM → TK → Prop
abbrev WC := List TV → TM → TK → Prop
section
variable (K : PySem.W.Frag)
def lift2 (w : W2) : R2 := fun v u H Q' => ∃ x y M Q, RepM K H M ∧ Rv K H x v ∧ Rv K H y u ∧ w x y M Q ∧ Cont K H M Q Q'
def lift1 (w : W1) : V → Hp → VK → Prop := fun v H Q' => ∃ x M Q, RepM K H M ∧ Rv K H x v ∧ w x M Q ∧ Cont K H M Q Q'
def liftC (w : WC) : List V → Hp → VK → Prop := fun vs H Q' => ∃ xs M Q, RepM K H M ∧ Rvs K H xs vs ∧ w xs M Q ∧ Cont K H M Q Q'
def liftB (w : TV → TM → (Bool → TM → Prop) → Prop) : V → Hp → (Bool → Hp → Prop) → Prop := fun v H Q' => ∃ x M Q, RepM K H M ∧ Rv K H x v ∧ w x M Q ∧ ∀ b H' M', Post K H M H' M' → Q b M' → Q' b H'
def liftM (w : TV → List TV → TM → TK → Prop) : V → List V → Hp → VK → Prop := fun v vs H Q' => ∃ x xs M Q, RepM K H M ∧ Rv K H x v ∧ Rvs K H xs vs ∧ w x xs M Q ∧ Cont K H M Q Q'
def liftSl (w : TV → Option Int → Option Int → TM → TK → Prop) : V → Option Int → Option Int → Hp → VK → Prop := fun v lo hi H Q' => ∃ x M Q, RepM K H M ∧ Rv K H x v ∧ w x lo hi M Q ∧ Cont K H M Q Q'
end
def OpJ (X : Cx) (f : Value → Value → Sem Value) (w : W2) : Prop := OpR X f (lift2 X.K w)
def UnJ (X : Cx) (f : Value → Sem Value) (w : W1) : Prop := UnR X f (lift1 X.K w)
def CaJ (X : Cx) (f : Value) (w : WC) : Prop := CallR X f (liftC X.K w)
def IxJ (X : Cx) (w : W2) : Prop := IxR X (lift2 X.K w)
def SlJ (X : Cx) (w : TV → Option Int → Option Int → TM → TK → Prop) : Prop := SlR X (liftSl X.K w)
def TrJ (X : Cx) (w : TV → TM → (Bool → TM → Prop) → Prop) : Prop := TruR X (liftB X.K w)
def MtJ (X : Cx) (id : String) (w : TV → List TV → TM → TK → Prop) : Prop := MtR X id (liftM X.K w)
section
variable {K : PySem.W.Frag} {H : Hp} {M : TM} {Q : TK} {Q' : VK}
theorem Cont.here (c : Cont K H M Q Q') (r : RepM K H M) {z : TV} {z' : V} (rv : Rv K H z z') (q : Q z M) : Q' z' H := c z z' H M (Post.refl r) rv q
theorem Cont.tup (c : Cont K H M Q Q') (r : RepM K H M) {xs : List TV} {vs : List V} (rv : Rvs K H xs vs) (z : xs.length ≤ sizeLine) (q : Q (.tup xs) M) {p : Addr} (h : H p = none) : Q' (.ref p) (upd H p (.tup vs)) :=
  c _ _ _ _ (Post.new r h) (.tup (.of upd_same) (rv.mono ((Post.new (o := .tup vs) r h).grow r)) z) q
theorem Cont.lst (c : Cont K H M Q Q') (r : RepM K H M) {xs : List TV} {vs : List V} (rv : Rvs K H xs vs) (z : xs.length ≤ sizeLine) (q : ∀ p, M p = none → Q (.ref p) (updM M p (.lst xs))) {p : Addr} (h : H p = none) : Q' (.ref p) (upd H p (.lst vs)) :=
  c _ _ _ _ (Post.new_lst r h rv z) (.ref p) (q p (r.fresh h))
end

def wCop (o : COp) : W2 := fun x y M Q => ∃ b, cmpF o M x y = some b ∧ Q (.bl b) M
section
variable {X : Cx}
theorem dec_strV {a b : Str} : decide (V.str a = V.str b) = (a == b) := by
  by_cases h : a = b
  · subst h; simp
  · have : V.str a ≠ V.str b := fun z => h (V.str.inj z)
    simp [h]
theorem inF_ok {K : PySem.W.Frag} {H : Hp} {M : TM} {x y : TV} {v u : V} {b : Bool} (hM : RepM K H M) (hx : Rv K H x v) (hy : Rv K H y u) (h : inF M x y = some b) :
    (∃ p xs, u = .ref p ∧ (SqL K H p xs ∨ SqT K H p xs) ∧ flatV v = true ∧ xs.all flatV = true ∧ inV v xs = b) ∨ (∃ (c : Nat) (z : Str), v = .str ⟨#[c]⟩ ∧ u = .str z ∧ decide (c ∈ z.cps.toList) = b) := by
  cases hy with
  | @tup p ys us s rs _ =>
    simp only [inF] at h
    split at h
    · rename_i c
      simp only [Bool.and_eq_true] at c
      cases h
      exact .inl ⟨p, us, rfl, .inr s.sq, flT_of hx c.1, flT_all rs c.2, inT_of hx c.1 rs c.2⟩
    · cases h
  | ref a =>
    simp only [inF] at h
    cases q : lsM M a with
    | none => rw [q] at h; cases h
    | some ys =>
      rw [q] at h
      dsimp only at h
      obtain ⟨us, s, rs, _⟩ := lsM_seq hM q
      split at h
      · rename_i c
        simp only [Bool.and_eq_true] at c
        cases h
        exact .inl ⟨a, us, rfl, .inl s, flT_of hx c.1, flT_all rs c.2, inT_of hx c.1 rs c.2⟩
      · cases h
  | str z =>
    cases hx with
    | str s =>
      simp only [inF] at h
      split at h
      · rename_i c e
        cases h
        refine .inr ⟨c, z, ?_, rfl, rfl⟩
        congr 1
        cases s with
        | mk cps =>
          congr 1
          exact Array.toList_inj.mp (by rw [show cps.toList = [c] from e])
      · cases h
    | _ => simp only [inF] at h; cases h
  | _ => cases hx <;> simp only [inF] at h <;> cases h
theorem opj_cop (hu : X.A.units + 64 < cLine) : ∀ o : COp, OpJ X (compareOp o.op) (wCop o)
  | .lt => by
    intro pins s σ H v u vv uu Q' I rv ru ⟨x, y, M, Q, hM, hx, hy, ⟨b, e, hq⟩, hk⟩
    cases hx <;> cases hy <;> first | (simp only [cmpF] at e; cases e; done) | skip
    simp only [cmpF] at e; cases e
    exact op_lt pins s σ H _ _ _ _ Q' I rv ru ⟨_, _, rfl, rfl, hk.here hM (.bl _) hq⟩
  | .le => by
    intro pins s σ H v u vv uu Q' I rv ru ⟨x, y, M, Q, hM, hx, hy, ⟨b, e, hq⟩, hk⟩
    cases hx <;> cases hy <;> first | (simp only [cmpF] at e; cases e; done) | skip
    simp only [cmpF] at e; cases e
    exact op_le pins s σ H _ _ _ _ Q' I rv ru ⟨_, _, rfl, rfl, hk.here hM (.bl _) hq⟩
  | .gt => by
    intro pins s σ H v u vv uu Q' I rv ru ⟨x, y, M, Q, hM, hx, hy, ⟨b, e, hq⟩, hk⟩
    cases hx <;> cases hy <;> first | (simp only [cmpF] at e; cases e; done) | skip
    simp only [cmpF] at e; cases e
    exact op_gt pins s σ H _ _ _ _ Q' I rv ru ⟨_, _, rfl, rfl, hk.here hM (.bl _) hq⟩
  | .ge => by
    intro pins s σ H v u vv uu Q' I rv ru ⟨x, y, M, Q, hM, hx, hy, ⟨b, e, hq⟩, hk⟩
    cases hx <;> cases hy <;> first | (simp only [cmpF] at e; cases e; done) | skip
    simp only [cmpF] at e; cases e
    exact op_ge pins s σ H _ _ _ _ Q' I rv ru ⟨_, _, rfl, rfl, hk.here hM (.bl _) hq⟩
  | .eq => by
    intro pins s σ H v u vv uu Q' I rv ru ⟨x, y, M, Q, hM, hx, hy, ⟨b, e, hq⟩, hk⟩
    simp only [cmpF] at e
    rcases eqF_cases e with ⟨s1, t1, rfl, rfl, rfl⟩ | e
    · cases hx
      cases hy
      refine op_eq pins s σ H _ _ _ _ Q' I rv ru ⟨rfl, ?_⟩
      rw [dec_strV]
      exact hk.here hM (.bl _) hq
    unfold eqD at e
    split at e
    · rename_i d d' e1 e2
      split at e
      · rename_i c
        simp only [Bool.and_eq_true] at c
        cases e
        exact op_eqD hu pins s σ H _ _ _ _ Q' I rv ru ⟨d, d', dat_ok hM _ hx e1, dat_ok hM _ hy e2, c.1, c.2, hk.here hM (.bl _) hq⟩
      · cases e
    · cases e
  | .ne => by
    intro pins s σ H v u vv uu Q' I rv ru ⟨x, y, M, Q, hM, hx, hy, ⟨b, e, hq⟩, hk⟩
    simp only [cmpF] at e
    cases e0 : eqF M x y with
    | none => rw [e0] at e; cases e
    | some b0 =>
    rw [e0] at e
    obtain rfl : (!b0) = b := Option.some.inj e
    rcases eqF_cases e0 with ⟨s1, t1, rfl, rfl, rfl⟩ | e
    · cases hx
      cases hy
      refine op_ne pins s σ H _ _ _ _ Q' I rv ru ⟨rfl, ?_⟩
      rw [dec_strV]
      exact hk.here hM (.bl _) hq
    unfold eqD at e
    split at e
    · rename_i d d' e1 e2
      split at e
      · rename_i c
        simp only [Bool.and_eq_true] at c
        cases e
        exact op_neD hu pins s σ H _ _ _ _ Q' I rv ru ⟨d, d', dat_ok hM _ hx e1, dat_ok hM _ hy e2, c.1, c.2, hk.here hM (.bl _) hq⟩
      · cases e
    · cases e
  | .is => by
    intro pins s σ H v u vv uu Q' I rv ru ⟨x, y, M, Q, hM, hx, hy, ⟨b, e, hq⟩, hk⟩
    cases hx <;> cases hy <;> first | (simp only [cmpF, isF] at e; cases e; done) | skip
    all_goals (simp only [cmpF, isF] at e; cases e)
    all_goals first
      | exact op_isN pins s σ H _ _ _ _ Q' I rv ru ⟨rfl, hk.here hM (by simp; exact .bl _) hq⟩
      | exact op_is_bl pins s σ H _ _ _ _ Q' I rv ru ⟨_, _, rfl, rfl, hk.here hM (by rw [← Bool.beq_eq_decide_eq]; exact .bl _) hq⟩
  | .isn => by
    intro pins s σ H v u vv uu Q' I rv ru ⟨x, y, M, Q, hM, hx, hy, ⟨b, e, hq⟩, hk⟩
    cases hx <;> cases hy <;> first | (simp only [cmpF, isF] at e; cases e; done) | skip
    all_goals (simp only [cmpF, isF] at e; cases e)
    all_goals first
      | exact op_notN pins s σ H _ _ _ _ Q' I rv ru ⟨rfl, hk.here hM (by simp; exact .bl _) hq⟩
      | exact op_isnot_bl pins s σ H _ _ _ _ Q' I rv ru ⟨_, _, rfl, rfl, hk.here hM (by rw [← Bool.beq_eq_decide_eq]; exact .bl _) hq⟩
  | .in => by
    intro pins s σ H v u vv uu Q' I rv ru ⟨x, y, M, Q, hM, hx, hy, ⟨b, e, hq⟩, hk⟩
    rcases inF_ok hM hx hy (show inF M x y = some b from e) with ⟨p, xs, rfl, hs, h1, h2, rfl⟩ | ⟨c, z, rfl, rfl, rfl⟩
    · exact op_in_seq pins s σ H _ _ _ _ Q' I rv ru ⟨p, xs, rfl, hs, h1, h2, hk.here hM (.bl _) hq⟩
    · exact op_in_sign pins s σ H _ _ _ _ Q' I rv ru ⟨c, z, rfl, rfl, hk.here hM (.bl _) hq⟩
  | .nin => by
    intro pins s σ H v u vv uu Q' I rv ru ⟨x, y, M, Q, hM, hx, hy, ⟨b, e, hq⟩, hk⟩
    simp only [cmpF, Option.map_eq_some_iff] at e
    obtain ⟨b', e, rfl⟩ := e
    rcases inF_ok hM hx hy e with ⟨p, xs, rfl, hs, h1, h2, rfl⟩ | ⟨c, z, rfl, rfl, rfl⟩
    · exact op_notIn_seq pins s σ H _ _ _ _ Q' I rv ru ⟨p, xs, rfl, hs, h1, h2, hk.here hM (.bl _) hq⟩
    · exact op_notIn_sign pins s σ H _ _ _ _ Q' I rv ru ⟨c, z, rfl, rfl, hk.here hM (.bl _) hq⟩
end

/-! ### arithmetic -/
theorem tuple_mul1 (l : Addr) (items : Array Value) (n : Nat) (dd : Option Addr) (sl : Array (Option Value)) (u : Tok) :
    Meets (Builtin.«tuple.__mul__» ⟨[.ref l, .int 1 u], []⟩) (fun _ R s => s.heap.get? l = some { cls := .type "tuple", dict := dd, data := .seq items n, slots := sl } ∧ R (.ok (.ret (Value.ref l))) s) :=
  .of_wp fun prog w A R s h => by
    obtain ⟨hp, g, d, tk, os⟩ := s
    obtain ⟨hl, h⟩ := h
    have f1 := AutoSeq1.idx_int
    have hor : (items.isEmpty || (1 : Int) == 1) = true := by simp
    wp_walk using wpAny_loadPart' hl
    all_goals first
      | (refine wpAny_ite_true (by rw [hor]) ?_; wp_walk using wpAny_loadPart' hl; exact ⟨_, rfl, h⟩)
      | exact ⟨_, rfl, h⟩
theorem op_repT1 {X : Cx} : OpR X (binaryOp .Mult) (fun x y H Q => ∃ l xs, x = .ref l ∧ y = .int 1 ∧ SqT X.K H l xs ∧ Q (.ref l) H) := by
  intro pins s σ H x y v u Q I rx ry h
  obtain ⟨l, xs, rfl, rfl, hT, q⟩ := h
  cases rx
  obtain ⟨t, rfl⟩ := ry
  obtain ⟨its, r, ⟨⟨cls, dd, data, sl⟩, ho, hc, n, hd⟩, hs⟩ := I.tuple hT
  simp only at hc hd
  subst hc hd
  refine wpAny_binaryOp_repeat_ref (T := "tuple") (U := "int") (by decide) ⟨_, ho, rfl⟩ (fun s' => typeIs_int s' 1 t) noFill_tuple_mul F.fills_int_mul F.slot_int_rmul repeat_tuple F.slot_int_index.lookup
    (call_meets F.slot_int_rmul (typeIs_int s 1 t) F.entry_int_rmul (F.args_int_rmul_2 _ _) (int_rmul_tuple 1 t l its.toArray n dd sl)
      ⟨ho, rfl, ⟨_, ho, rfl⟩, call_meets F.slot_tuple_mul ⟨_, ho, rfl⟩ F.entry_tuple_mul (F.args_tuple_mul_2 _ _) (tuple_mul1 l its.toArray n dd sl t) ⟨ho, ?_⟩⟩)
  exact ⟨.ref l, H, I, rfl, q⟩
inductive BOp where
  | add | sub | mul | fdiv | mod | pow
def BOp.op : BOp → Operator
  | .add => .Add | .sub => .Sub | .mul => .Mult | .fdiv => .FloorDiv | .mod => .Mod | .pow => .Pow
def wBop : BOp → W2
  | .add, .int i, .int j, M, Q => Q (.int (i + j)) M
  | .add, .str a, .str b, M, Q => a.length + b.length ≤ sizeLine ∧ Q (.str (a ++ b)) M
  | .add, .tup a, .tup b, M, Q => a.length + b.length ≤ sizeLine ∧ Q (.tup (a ++ b)) M
  | .add, .ref a, .ref b, M, Q => ∃ xs ys, M a = some (.lst xs) ∧ M b = some (.lst ys) ∧ xs.length + ys.length ≤ sizeLine ∧ ∀ p, M p = none → Q (.ref p) (updM M p (.lst (xs ++ ys)))
  | .sub, .int i, .int j, M, Q => Q (.int (i - j)) M
  | .mul, .int i, .int j, M, Q => (((-(2 ^ 64) < i ∧ i < 2 ^ 64) ∨ (-(2 ^ 64) < j ∧ j < 2 ^ 64)) ∨ i.natAbs.log2 + j.natAbs.log2 < 1000000) ∧ Q (.int (i * j)) M
  | .mul, .tup a, .int k, M, Q => if k = 1 then Q (.tup a) M else (a ≠ [] ∧ 2 ≤ k ∧ k ≤ 1000 ∧ a.length ≤ 1000) ∧ Q (.tup (List.replicate k.toNat a).flatten) M
  | .mul, .ref a, .int k, M, Q => ∃ xs, M a = some (.lst xs) ∧ -(2 ^ 63) ≤ k ∧ k < 2 ^ 63 ∧ xs.length * k.toNat ≤ sizeLine ∧ ∀ p, M p = none → Q (.ref p) (updM M p (.lst (List.replicate k.toNat xs).flatten))
  | .fdiv, .int i, .int j, M, Q => (0 < j ∧ j.natAbs.log2 < 9000) ∧ Q (.int (i / j)) M
  | .mod, .int i, .int j, M, Q => 0 < j ∧ Q (.int (i % j)) M
  | .pow, .int i, .int j, M, Q => (0 ≤ j ∧ j ≤ 1000000 ∧ i.natAbs < 2 ^ 64) ∧ Q (.int (i ^ j.toNat)) M
  | _, _, _, _, _ => False
section
variable {X : Cx}
theorem opj_bop : ∀ o : BOp, OpJ X (binaryOp o.op) (wBop o)
  | .add => by
    intro pins s σ H v u vv uu Q' I rv ru ⟨x, y, M, Q, hM, hx, hy, hw, hk⟩
    cases hx <;> cases hy <;> first | exact (show False from hw).elim | skip
    case int.int => exact op_add pins s σ H _ _ _ _ Q' I rv ru ⟨_, _, rfl, rfl, hk.here hM (.int _) hw⟩
    case str.str =>
      have hw : _ ∧ _ := hw
      exact op_add_str pins s σ H _ _ _ _ Q' I rv ru ⟨_, _, rfl, rfl, hw.1, hk.here hM (.str _) hw.2⟩
    case ref.ref a b =>
      obtain ⟨xs, ys, ha, hb, hl, hq⟩ := hw
      obtain ⟨vs, e1, r1, _⟩ := hM a _ ha
      obtain ⟨us, e2, r2, _⟩ := hM b _ hb
      refine op_cat pins s σ H _ _ _ _ Q' I rv ru ⟨a, b, vs, us, rfl, rfl, e1, e2, by rw [← r1.length, ← r2.length]; exact hl, fun p hp => hk.lst hM (r1.append r2) (by rw [List.length_append]; exact hl) hq hp⟩
    case tup.tup p xs vs s1 r1 z1 q ys us s2 r2 z2 =>
      have hw : _ ∧ _ := hw
      refine op_catA pins s σ H _ _ _ _ Q' I rv ru ⟨p, q, vs, us, rfl, rfl, s1.sq, s2.sq, by rw [← r1.length, ← r2.length]; exact hw.1, fun e => ?_, fun _ e => ?_, fun _ _ p' hp => hk.tup hM (r1.append r2) (by rw [List.length_append]; exact hw.1) hw.2 hp⟩
      · subst e
        cases r1
        exact hk.here hM (.tup s2 r2 z2) hw.2
      · subst e
        cases r2
        have q2 := hw.2
        rw [List.append_nil] at q2
        exact hk.here hM (.tup s1 r1 z1) q2
  | .sub => by
    intro pins s σ H v u vv uu Q' I rv ru ⟨x, y, M, Q, hM, hx, hy, hw, hk⟩
    cases hx <;> cases hy <;> first | exact (show False from hw).elim | skip
    exact op_sub pins s σ H _ _ _ _ Q' I rv ru ⟨_, _, rfl, rfl, hk.here hM (.int _) hw⟩
  | .mul => by
    intro pins s σ H v u vv uu Q' I rv ru ⟨x, y, M, Q, hM, hx, hy, hw, hk⟩
    cases hx <;> cases hy <;> first | exact (show False from hw).elim | skip
    case int.int =>
      have hw : _ ∧ _ := hw
      rcases hw.1 with h1 | h1
      · exact op_mul pins s σ H _ _ _ _ Q' I rv ru ⟨_, _, rfl, rfl, h1, hk.here hM (.int _) hw.2⟩
      · exact op_mulW pins s σ H _ _ _ _ Q' I rv ru ⟨_, _, rfl, rfl, h1, hk.here hM (.int _) hw.2⟩
    case ref.int a k =>
      obtain ⟨xs, ha, h1, h2, h3, hq⟩ := hw
      obtain ⟨vs, e1, r1, _⟩ := hM a _ ha
      exact op_rep pins s σ H _ _ _ _ Q' I rv ru ⟨a, k, vs, rfl, rfl, e1, h1, h2, by rw [← r1.length]; exact h3, fun p hp => hk.lst hM (r1.flat_rep _) (by rw [List.length_flatten, List.map_replicate, List.sum_replicate_nat, Nat.mul_comm]; exact h3) hq hp⟩
    case tup.int p xs vs s1 r1 z1 k =>
      have hw : if k = 1 then Q (.tup xs) M else _ := hw
      by_cases hk1 : k = 1
      · subst hk1
        rw [if_pos rfl] at hw
        exact op_repT1 pins s σ H _ _ _ _ Q' I rv ru ⟨p, vs, rfl, rfl, s1.sq, hk.here hM (.tup s1 r1 z1) hw⟩
      rw [if_neg hk1] at hw
      obtain ⟨⟨h1, h2, h3, h4⟩, hq⟩ := hw
      refine op_repT pins s σ H _ _ _ _ Q' I rv ru ⟨p, k, vs, rfl, rfl, s1.sq, fun e => h1 ?_, h2, h3, by rw [← r1.length]; exact h4, fun p' hp => hk.tup hM (r1.flat_rep _) (by
        rw [List.length_flatten, List.map_replicate, List.sum_replicate_nat, sizeLine_eq]
        have a1 : k.toNat * xs.length ≤ 1000 * 1000 := Nat.mul_le_mul (by omega) h4
        omega) hq hp⟩
      subst e
      cases r1
      rfl
  | .fdiv => by
    intro pins s σ H v u vv uu Q' I rv ru ⟨x, y, M, Q, hM, hx, hy, hw, hk⟩
    cases hx <;> cases hy <;> first | exact (show False from hw).elim | skip
    have hw : _ ∧ _ := hw
    exact op_fdivW pins s σ H _ _ _ _ Q' I rv ru ⟨_, _, rfl, rfl, hw.1, hk.here hM (.int _) hw.2⟩
  | .mod => by
    intro pins s σ H v u vv uu Q' I rv ru ⟨x, y, M, Q, hM, hx, hy, hw, hk⟩
    cases hx <;> cases hy <;> first | exact (show False from hw).elim | skip
    have hw : _ ∧ _ := hw
    exact op_mod pins s σ H _ _ _ _ Q' I rv ru ⟨_, _, rfl, rfl, hw.1, hk.here hM (.int _) hw.2⟩
  | .pow => by
    intro pins s σ H v u vv uu Q' I rv ru ⟨x, y, M, Q, hM, hx, hy, hw, hk⟩
    cases hx <;> cases hy <;> first | exact (show False from hw).elim | skip
    have hw : _ ∧ _ := hw
    exact op_pow pins s σ H _ _ _ _ Q' I rv ru ⟨_, _, rfl, rfl, hw.1, hk.here hM (.int _) hw.2⟩
end

/-! ### truth -/
def truT (M : TM) : TV → Option Bool
  | .non => some false
  | .bl b => some b
  | .int i => some (i != 0)
  | .str y => if y.length ≤ sizeLine then some ((y.length : Int) != 0) else none
  | .tup xs => some (!xs.isEmpty)
  | .ref a => match lsM M a with
    | some xs => some (!xs.isEmpty)
    | none => none
  | .ty _ => none
  | .kl _ => none
  | .thk _ _ => none
theorem Rvs.isEmpty {K : PySem.W.Frag} {H : Hp} {xs : List TV} {vs : List V} (r : Rvs K H xs vs) : vs.isEmpty = xs.isEmpty := by cases r <;> rfl
theorem truT_ok {K : PySem.W.Frag} {H : Hp} {M : TM} {x : TV} {v : V} {b : Bool} (hM : RepM K H M) (hx : Rv K H x v) (h : truT M x = some b) : TruV K v H b := by
  cases hx with
  | non => simp [truT] at h; subst h; rfl
  | bl c => simp [truT] at h; exact h.symm
  | int i => simp only [truT, Option.some.injEq] at h; exact h.symm
  | str s =>
    simp only [truT] at h
    split at h
    · cases h
      exact ⟨by assumption, rfl⟩
    · cases h
  | ref a =>
    simp only [truT] at h
    split at h
    · rename_i xs e
      cases h
      obtain ⟨vs, s, r, _⟩ := lsM_seq hM e
      exact .inl ⟨vs, s, by rw [r.isEmpty]⟩
    · cases h
  | ty n => simp [truT] at h
  | thk _ _ _ => simp [truT] at h
  | kl _ _ _ => simp [truT] at h
  | tup s r _ =>
    simp only [truT, Option.some.injEq] at h
    cases h
    exact .inr (.inl ⟨_, s.sq, by rw [r.isEmpty]⟩)
def wTru : TV → TM → (Bool → TM → Prop) → Prop := fun x M Q => ∃ b, truT M x = some b ∧ Q b M
theorem trj {X : Cx} : TrJ X wTru := by
  intro pins s σ H v vv Q' I rv ⟨x, M, Q, hM, hx, ⟨b, e, hq⟩, hk⟩
  exact tru_ok pins s σ H _ _ Q' I rv ⟨b, truT_ok hM hx e, hk b H M (.refl hM) hq⟩
end TL

/-! TCalls: built-in functions, subscripts, slices, methods of lists, over trees. -/
namespace TL
open PySem PySem.Spec PyProof.Rows L2

def allI : List TV → Option (List Int)
  | [] => some []
  | .int i :: r => match allI r with
    | some ns => some (i :: ns)
    | none => none
  | _ :: _ => none
def allB : List TV → Option (List Bool)
  | [] => some []
  | .bl i :: r => match allB r with
    | some ns => some (i :: ns)
    | none => none
  | _ :: _ => none
theorem allI_eq : ∀ {xs : List TV} {ns : List Int}, allI xs = some ns → xs = ns.map .int
  | [], _, h => by cases h; rfl
  | x :: r, ns, h => by
    cases x with
    | int i =>
      simp only [allI] at h
      cases q : allI r with
      | none => rw [q] at h; cases h
      | some ms =>
        rw [q] at h
        cases h
        rw [allI_eq q]; rfl
    | _ => simp only [allI] at h; cases h
theorem allB_eq : ∀ {xs : List TV} {ns : List Bool}, allB xs = some ns → xs = ns.map .bl
  | [], _, h => by cases h; rfl
  | x :: r, ns, h => by
    cases x with
    | bl i =>
      simp only [allB] at h
      cases q : allB r with
      | none => rw [q] at h; cases h
      | some ms =>
        rw [q] at h
        cases h
        rw [allB_eq q]; rfl
    | _ => simp only [allB] at h; cases h
theorem allI_map : ∀ (ns : List Int), allI (ns.map .int) = some ns
  | [] => rfl
  | n :: r => by simp only [List.map_cons, allI, allI_map r]
theorem allB_map : ∀ (ns : List Bool), allB (ns.map .bl) = some ns
  | [] => rfl
  | n :: r => by simp only [List.map_cons, allB, allB_map r]
def maxL : List Int → Int
  | [] => 0
  | [a] => a
  | a :: b :: r => max a (maxL (b :: r))
def minL : List Int → Int
  | [] => 0
  | [a] => a
  | a :: b :: r => min a (minL (b :: r))
theorem maxL_mem : ∀ {ns : List Int}, 0 < ns.length → maxL ns ∈ ns
  | [], h => by simp at h
  | [a], _ => by simp [maxL]
  | a :: b :: r, _ => by
    have ih := maxL_mem (ns := b :: r) (by simp)
    unfold maxL
    by_cases h : a ≤ maxL (b :: r)
    · rw [Int.max_eq_right h]; exact List.mem_cons_of_mem _ ih
    · rw [Int.max_eq_left (by omega)]; exact List.mem_cons_self
theorem le_maxL : ∀ {ns : List Int} {y : Int}, y ∈ ns → y ≤ maxL ns
  | [a], y, h => by simp at h; simp [maxL, h]
  | a :: b :: r, y, h => by
    unfold maxL
    rcases List.mem_cons.mp h with h | h
    · subst h; omega
    · have := le_maxL h; omega
theorem minL_mem : ∀ {ns : List Int}, 0 < ns.length → minL ns ∈ ns
  | [], h => by simp at h
  | [a], _ => by simp [minL]
  | a :: b :: r, _ => by
    have ih := minL_mem (ns := b :: r) (by simp)
    unfold minL
    by_cases h : a ≤ minL (b :: r)
    · rw [Int.min_eq_left h]; exact List.mem_cons_self
    · rw [Int.min_eq_right (by omega)]; exact List.mem_cons_of_mem _ ih
theorem minL_le : ∀ {ns : List Int} {y : Int}, y ∈ ns → minL ns ≤ y
  | [a], y, h => by simp at h; simp [minL, h]
  | a :: b :: r, y, h => by
    unfold minL
    rcases List.mem_cons.mp h with h | h
    · subst h; omega
    · have := minL_le h; omega

/-! ### kinds -/
def tyN (M : TM) : TV → Option String
  | .non => some "NoneType"
  | .bl _ => some "bool"
  | .int _ => some "int"
  | .str _ => some "str"
  | .tup _ => some "tuple"
  | .ref a => match M a with
    | some (.lst _) => some "list"
    | some (.rls _) => some "list"
    | some (.dic _) => some "dict"
    | _ => none
  | .ty _ => none
  | .kl _ => none
  | .thk _ _ => none
theorem tyN_ok {K : PySem.W.Frag} {H : Hp} {M : TM} {x : TV} {v : V} {n : String} (hM : RepM K H M) (hx : Rv K H x v) (h : tyN M x = some n) : TyX K H v (.type n) := by
  cases hx with
  | non => cases h; exact .base .non
  | bl b => cases h; exact .base (.bl b)
  | int b => cases h; exact .base (.int b)
  | str b => cases h; exact .base (.str b)
  | ty b => cases h
  | thk _ _ _ => cases h
  | kl _ _ _ => cases h
  | tup s r _ =>
    cases h
    rcases s with s | ⟨o, its, n, e, c, _⟩
    · exact .base (.tup s)
    · exact .kTuple e c
  | ref a =>
    simp only [tyN] at h
    cases q : M a with
    | none => rw [q] at h; cases h
    | some o =>
      rw [q] at h
      cases o with
      | lst xs => cases h; obtain ⟨vs, e, _⟩ := hM a _ q; exact .base (.lst e)
      | rls xs => cases h; obtain ⟨o, vs, e, _⟩ := hM a _ q; exact .base (.frz e)
      | dic xs =>
        cases h
        rcases hM a _ q with ⟨ks, e, _⟩ | ⟨ks, e, _⟩
        · exact .base (.dK e)
        · exact .base (.dT e)
      | ins _ _ _ => cases h
      | tbl _ => cases h
def isi1 (t : String) : TV → Option Bool
  | .ty n => kitB t n
  | _ => none
def isiL (t : String) : List TV → Option Bool
  | [] => some false
  | c :: r => match isi1 t c with
    | some true => some true
    | some false => isiL t r
    | none => none
def isiF (M : TM) (x c : TV) : Option Bool := match tyN M x with
  | none => none
  | some t => match c with
    | .tup cs => isiL t cs
    | c => isi1 t c
theorem isi1_ok {K : PySem.W.Frag} {H : Hp} {t : String} {c : TV} {v : V} {b : Bool} (hc : Rv K H c v) (h : isi1 t c = some b) : ∃ u, ClsV v u ∧ PySem.W.kitOne K (.type t) u = some b := by
  cases hc with
  | ty n => exact ⟨_, .ty n, kit_ty h⟩
  | _ => simp only [isi1] at h; cases h
theorem isi1_ty {t : String} {c : TV} {b : Bool} (h : isi1 t c = some b) : ∃ n, c = .ty n := by
  cases c with
  | ty n => exact ⟨n, rfl⟩
  | _ => simp only [isi1] at h; cases h
/-- all of them classes of the language -/
def tysL : List TV → Option (List String)
  | [] => some []
  | .ty n :: r => match tysL r with
    | some ns => some (n :: ns)
    | none => none
  | _ :: _ => none
def isiG (M : TM) (x c : TV) : Option Bool := match c with
  | .tup cs => if (tysL cs).isSome then isiF M x c else none
  | _ => isiF M x c
theorem tysL_ok {K : PySem.W.Frag} {H : Hp} : ∀ {cs : List TV} {vs : List V} {ns : List String}, Rvs K H cs vs → tysL cs = some ns → vs = ns.map .ty ∧ cs = ns.map .ty
  | [], _, _, .nil, h => by cases h; exact ⟨rfl, rfl⟩
  | c :: r, _, _, .cons rc t, h => by
    cases rc with
    | ty n =>
      simp only [tysL] at h
      cases q : tysL r with
      | none => rw [q] at h; cases h
      | some ns =>
        rw [q] at h
        cases h
        obtain ⟨e1, e2⟩ := tysL_ok t q
        rw [e1, e2]
        exact ⟨rfl, rfl⟩
    | _ => simp only [tysL] at h; cases h
theorem isiL_ok {K : PySem.W.Frag} {t : String} : ∀ {ns : List String} {b : Bool}, isiL t (ns.map .ty) = some b → PySem.W.kitAny K (.type t) (ns.map .type) = some b
  | [], b, h => by
    cases h
    exact kitAny_nil
  | n :: r, b, h => by
    simp only [List.map_cons, isiL, isi1] at h
    cases q : kitB t n with
    | none => rw [q] at h; cases h
    | some c =>
      rw [q] at h
      cases c with
      | true =>
        cases h
        exact kitAny_cons (kit_ty q) (fun z => nomatch z) (fun _ => rfl)
      | false => exact kitAny_cons (kit_ty q) (fun _ => isiL_ok h) (fun z => nomatch z)
theorem clsTy : ∀ ns : List String, Paired ClsV (ns.map V.ty) (ns.map Value.type)
  | [] => .nil
  | n :: r => .cons (.ty n) (clsTy r)

/-! ### built-in functions -/
inductive Bif where
  | len | abs | int | isi | tuple | list | sum | all | any | min2 | max2 | minl | maxl | str
def Bif.name : Bif → Str
  | .len => "len" | .abs => "abs" | .int => "int" | .isi => "isinstance" | .tuple => "tuple" | .list => "list" | .sum => "sum" | .all => "all" | .any => "any"
  | .min2 => "min" | .max2 => "max" | .minl => "min" | .maxl => "max" | .str => "str"
def Bif.val : Bif → Value
  | .len => .builtin "len" | .abs => .builtin "abs" | .int => .type "int" | .isi => .builtin "isinstance" | .tuple => .type "tuple" | .list => .type "list" | .sum => .builtin "sum" | .all => .builtin "all" | .any => .builtin "any"
  | .min2 => .builtin "min" | .max2 => .builtin "max" | .minl => .builtin "min" | .maxl => .builtin "max" | .str => .type "str"
def lenF (M : TM) : TV → Option Nat
  | .tup xs => some xs.length
  | .str s => if s.length ≤ sizeLine then some s.length else none
  | .ref a => match lsM M a with
    | some xs => some xs.length
    | none => none
  | _ => none
def intText : TV → Option Int
  | .int i => some i
  | .bl k => some (if k then 1 else 0)
  | .str a => if a.length ≤ 640 then PySem.intText? a else none
  | _ => none
def seqM (M : TM) : TV → Option (List TV)
  | .tup xs => some xs
  | .ref a => lsM M a
  | _ => none
def wBif : Bif → WC
  | .len, [x], M, Q => ∃ n, lenF M x = some n ∧ Q (.int n) M
  | .abs, [.int i], M, Q => Q (.int i.natAbs) M
  | .int, [x], M, Q => ∃ n, intText x = some n ∧ Q (.int n) M
  | .isi, [x, c], M, Q => ∃ b, isiG M x c = some b ∧ Q (.bl b) M
  | .tuple, [x], M, Q => ∃ xs, seqM M x = some xs ∧ Q (.tup xs) M
  | .list, [x], M, Q => ∃ xs, seqM M x = some xs ∧ ∀ p, M p = none → Q (.ref p) (updM M p (.lst xs))
  | .sum, [.ref a], M, Q => ∃ xs ns, lsM M a = some xs ∧ allI xs = some ns ∧ Q (.int ns.sum) M
  | .all, [.ref a], M, Q => ∃ xs ns, lsM M a = some xs ∧ allB xs = some ns ∧ Q (.bl (ns.all id)) M
  | .any, [.ref a], M, Q => ∃ xs ns, lsM M a = some xs ∧ allB xs = some ns ∧ Q (.bl (ns.any id)) M
  | .min2, [.int i, .int j], M, Q => Q (.int (min i j)) M
  | .max2, [.int i, .int j], M, Q => Q (.int (max i j)) M
  | .minl, [.ref a], M, Q => ∃ xs ns, lsM M a = some xs ∧ allI xs = some ns ∧ 0 < ns.length ∧ Q (.int (minL ns)) M
  | .maxl, [.ref a], M, Q => ∃ xs ns, lsM M a = some xs ∧ allI xs = some ns ∧ 0 < ns.length ∧ Q (.int (maxL ns)) M
  | .str, [.int i], M, Q => i.natAbs.log2 < 1920 ∧ Q (.str (toString i)) M
  | _, _, _, _ => False
section
variable {K : PySem.W.Frag} {H : Hp} {M : TM}
theorem seqM_ok {x : TV} {v : V} {xs : List TV} (hM : RepM K H M) (hx : Rv K H x v) (h : seqM M x = some xs) : ∃ p vs, v = .ref p ∧ Rvs K H xs vs ∧ xs.length ≤ sizeLine ∧ ((x = .ref p ∧ SqL K H p vs) ∨ (x = .tup xs ∧ TqT K H p vs)) := by
  cases hx with
  | ref a =>
    obtain ⟨vs, s, r, z⟩ := lsM_seq hM (show lsM M a = some xs from h)
    exact ⟨a, vs, rfl, r, z, .inl ⟨rfl, s⟩⟩
  | tup s r z => cases h; exact ⟨_, _, rfl, r, z, .inr ⟨rfl, s⟩⟩
  | _ => simp only [seqM] at h; cases h
theorem lenF_ok {x : TV} {v : V} {n : Nat} (hM : RepM K H M) (hx : Rv K H x v) (h : lenF M x = some n) : LenV K v H n := by
  cases hx with
  | ref a =>
    simp only [lenF] at h
    cases q : lsM M a with
    | none => rw [q] at h; cases h
    | some xs =>
      rw [q] at h
      cases h
      obtain ⟨vs, s, r, _⟩ := lsM_seq hM q
      exact .inl ⟨vs, s, r.length⟩
  | tup s r _ => cases h; exact .inr ⟨_, s.sq, r.length⟩
  | str s =>
    simp only [lenF] at h
    split at h
    · cases h; exact ⟨by assumption, rfl⟩
    · cases h
  | _ => simp only [lenF] at h; cases h
theorem ints_seq {a : Addr} {xs : List TV} {ns : List Int} (hM : RepM K H M) (h : lsM M a = some xs) (hi : allI xs = some ns) : SqL K H a (ns.map V.int) := by
  obtain ⟨vs, s, r, _⟩ := lsM_seq hM h
  rw [allI_eq hi] at r
  rw [r.ints] at s
  exact s
theorem bls_seq {a : Addr} {xs : List TV} {ns : List Bool} (hM : RepM K H M) (h : lsM M a = some xs) (hi : allB xs = some ns) : SqL K H a (ns.map V.bl) := by
  obtain ⟨vs, s, r, _⟩ := lsM_seq hM h
  rw [allB_eq hi] at r
  rw [r.bls] at s
  exact s
end
theorem Rvs.one {K : PySem.W.Frag} {H : Hp} {x : TV} {vs : List V} (r : Rvs K H [x] vs) : ∃ v, vs = [v] ∧ Rv K H x v := by
  cases r with
  | cons r t => cases t; exact ⟨_, rfl, r⟩
theorem Rvs.two {K : PySem.W.Frag} {H : Hp} {x y : TV} {vs : List V} (r : Rvs K H [x, y] vs) : ∃ v u, vs = [v, u] ∧ Rv K H x v ∧ Rv K H y u := by
  cases r with
  | cons r t =>
    obtain ⟨u, rfl, q⟩ := t.one
    exact ⟨_, _, rfl, r, q⟩
section
variable {X : Cx}
theorem caj_bif (hc : X.calm = true) : ∀ f : Bif, CaJ X f.val (wBif f)
  | .len => by
    intro pins s σ H vs us Q' I rv ⟨xs, M, Q, hM, hx, hw, hk⟩
    match xs, hw with
    | [x], ⟨n, e, hq⟩ =>
      obtain ⟨v, rfl, r⟩ := hx.one
      exact call_len pins s σ H _ us Q' I rv ⟨v, n, rfl, lenF_ok hM r e, hk.here hM (.int _) hq⟩
  | .abs => by
    intro pins s σ H vs us Q' I rv ⟨xs, M, Q, hM, hx, hw, hk⟩
    match xs, hw with
    | [.int i], hq =>
      obtain ⟨v, rfl, r⟩ := hx.one
      cases r
      refine call_abs pins s σ H _ us Q' I rv ⟨i, rfl, hk.here hM ?_ hq⟩
      have e : (i.natAbs : Int) = if i < 0 then -i else i := by split <;> omega
      rw [e]
      exact .int _
  | .int => by
    intro pins s σ H vs us Q' I rv ⟨xs, M, Q, hM, hx, hw, hk⟩
    match xs, hw with
    | [x], ⟨n, e, hq⟩ =>
      obtain ⟨v, rfl, r⟩ := hx.one
      cases r with
      | int i =>
        simp only [intText, Option.some.injEq] at e
        subst e
        exact call_int1 pins s σ H _ us Q' I rv (.inl ⟨i, rfl, hk.here hM (.int _) hq⟩)
      | bl k =>
        simp only [intText, Option.some.injEq] at e
        subst e
        exact call_int1 pins s σ H _ us Q' I rv (.inr ⟨k, rfl, hk.here hM (.int _) hq⟩)
      | str a =>
        simp only [intText] at e
        split at e
        · exact call_int_str pins s σ H _ us Q' I rv ⟨a, n, rfl, e, by assumption, hk.here hM (.int _) hq⟩
        · cases e
      | _ => simp only [intText] at e; cases e
  | .isi => by
    intro pins s σ H vs us Q' I rv ⟨xs, M, Q, hM, hx, hw, hk⟩
    match xs, hw with
    | [x, c], ⟨b, e, hq⟩ =>
      obtain ⟨v, u, rfl, r1, r2⟩ := hx.two
      cases r2 with
      | @tup p cs ws sq rs _ =>
        simp only [isiG] at e
        split at e
        · rename_i hs
          obtain ⟨ns, hns⟩ := Option.isSome_iff_exists.mp hs
          obtain ⟨e1, e2⟩ := tysL_ok rs hns
          subst e1 e2
          simp only [isiF] at e
          cases q : tyN M x with
          | none => rw [q] at e; cases e
          | some t =>
            rw [q] at e
            have k := isiL_ok (K := X.K) (show isiL t (ns.map .ty) = some b from e)
            rcases sq with sq | ⟨o, its, n, lk, c1, c2, c3, c4⟩
            · exact call_isiT pins s σ H _ us Q' I rv ⟨v, p, _, .type t, _, b, rfl, sq, clsTy ns, tyN_ok hM r1 q, k, hk.here hM (.bl _) hq⟩
            · obtain ⟨oc, od, odt, osl⟩ := o
              dsimp only at c1 c2
              subst c1 c2
              have ei : its = (ns.map Value.type).toArray := by
                have := ClsV.all (clsTy ns) c4
                rw [← this]
              exact call_isiK pins s σ H _ us Q' I rv ⟨v, p, od, ns.map Value.type, n, osl, .type t, b, rfl, by rw [← ei]; exact lk, tyN_ok hM r1 q, k, hk.here hM (.bl _) hq⟩
        · cases e
      | ty n =>
        simp only [isiG, isiF] at e
        cases q : tyN M x with
        | none => rw [q] at e; cases e
        | some t =>
          rw [q] at e
          exact call_isi pins s σ H _ us Q' I rv ⟨v, .ty n, .type t, .type n, b, rfl, .ty n, tyN_ok hM r1 q, kit_ty e, hk.here hM (.bl _) hq⟩
      | _ =>
        simp only [isiG, isiF] at e
        cases q : tyN M x with
        | none => rw [q] at e; cases e
        | some t => rw [q] at e; simp only [isi1] at e; cases e
  | .tuple => by
    intro pins s σ H vs us Q' I rv ⟨xs, M, Q, hM, hx, hw, hk⟩
    match xs, hw with
    | [x], ⟨ys, e, hq⟩ =>
      obtain ⟨v, rfl, r⟩ := hx.one
      obtain ⟨p, ws, rfl, rw', z1, ⟨rfl, s1⟩ | ⟨rfl, s1⟩⟩ := seqM_ok hM r e
      · exact call_tuple_of pins s σ H _ us Q' I rv ⟨p, ws, rfl, .inl ⟨s1, fun l hl => hk.tup hM rw' z1 hq hl⟩⟩
      · exact call_tuple_of pins s σ H _ us Q' I rv ⟨p, ws, rfl, .inr ⟨s1.sq, hk.here hM r hq⟩⟩
  | .list => by
    intro pins s σ H vs us Q' I rv ⟨xs, M, Q, hM, hx, hw, hk⟩
    match xs, hw with
    | [x], ⟨ys, e, hq⟩ =>
      obtain ⟨v, rfl, r⟩ := hx.one
      obtain ⟨p, ws, rfl, rw', z1, ⟨rfl, s1⟩ | ⟨rfl, s1⟩⟩ := seqM_ok hM r e
      · exact call_list_of pins s σ H _ us Q' I rv ⟨p, ws, rfl, .inl s1, fun l hl => hk.lst hM rw' z1 hq hl⟩
      · exact call_list_of pins s σ H _ us Q' I rv ⟨p, ws, rfl, .inr s1.sq, fun l hl => hk.lst hM rw' z1 hq hl⟩
  | .sum => by
    intro pins s σ H vs us Q' I rv ⟨xs, M, Q, hM, hx, hw, hk⟩
    match xs, hw with
    | [.ref a], ⟨ys, ns, e1, e2, hq⟩ =>
      obtain ⟨v, rfl, r⟩ := hx.one
      cases r
      exact cr_sum hc pins s σ H _ us Q' I rv ⟨a, ns, rfl, ints_seq hM e1 e2, hk.here hM (.int _) hq⟩
  | .all => by
    intro pins s σ H vs us Q' I rv ⟨xs, M, Q, hM, hx, hw, hk⟩
    match xs, hw with
    | [.ref a], ⟨ys, ns, e1, e2, hq⟩ =>
      obtain ⟨v, rfl, r⟩ := hx.one
      cases r
      exact cr_all hc pins s σ H _ us Q' I rv ⟨a, ns, rfl, bls_seq hM e1 e2, hk.here hM (.bl _) hq⟩
  | .any => by
    intro pins s σ H vs us Q' I rv ⟨xs, M, Q, hM, hx, hw, hk⟩
    match xs, hw with
    | [.ref a], ⟨ys, ns, e1, e2, hq⟩ =>
      obtain ⟨v, rfl, r⟩ := hx.one
      cases r
      exact cr_any hc pins s σ H _ us Q' I rv ⟨a, ns, rfl, bls_seq hM e1 e2, hk.here hM (.bl _) hq⟩
  | .min2 => by
    intro pins s σ H vs us Q' I rv ⟨xs, M, Q, hM, hx, hw, hk⟩
    match xs, hw with
    | [.int i, .int j], hq =>
      obtain ⟨v, u, rfl, r1, r2⟩ := hx.two
      cases r1; cases r2
      refine call_min2 hc pins s σ H _ us Q' I rv ⟨i, j, rfl, hk.here hM ?_ hq⟩
      have e : min i j = if j < i then j else i := by split <;> omega
      rw [e]
      exact .int _
  | .max2 => by
    intro pins s σ H vs us Q' I rv ⟨xs, M, Q, hM, hx, hw, hk⟩
    match xs, hw with
    | [.int i, .int j], hq =>
      obtain ⟨v, u, rfl, r1, r2⟩ := hx.two
      cases r1; cases r2
      refine call_max2 hc pins s σ H _ us Q' I rv ⟨i, j, rfl, hk.here hM ?_ hq⟩
      have e : max i j = if j > i then j else i := by split <;> omega
      rw [e]
      exact .int _
  | .minl => by
    intro pins s σ H vs us Q' I rv ⟨xs, M, Q, hM, hx, hw, hk⟩
    match xs, hw with
    | [.ref a], ⟨ys, ns, e1, e2, hl, hq⟩ =>
      obtain ⟨v, rfl, r⟩ := hx.one
      cases r
      refine cr_min hc pins s σ H _ us Q' I rv ⟨a, ns, rfl, ints_seq hM e1 e2, hl, fun m h1 h2 => hk.here hM ?_ hq⟩
      have := h2 _ (minL_mem hl)
      have := minL_le h1
      rw [show m = minL ns by omega]
      exact .int _
  | .maxl => by
    intro pins s σ H vs us Q' I rv ⟨xs, M, Q, hM, hx, hw, hk⟩
    match xs, hw with
    | [.ref a], ⟨ys, ns, e1, e2, hl, hq⟩ =>
      obtain ⟨v, rfl, r⟩ := hx.one
      cases r
      refine cr_max hc pins s σ H _ us Q' I rv ⟨a, ns, rfl, ints_seq hM e1 e2, hl, fun m h1 h2 => hk.here hM ?_ hq⟩
      have := h2 _ (maxL_mem hl)
      have := le_maxL h1
      rw [show m = maxL ns by omega]
      exact .int _
  | .str => by
    intro pins s σ H vs us Q' I rv ⟨xs, M, Q, hM, hx, hw, hk⟩
    match xs, hw with
    | [.int i], ⟨h1, hq⟩ =>
      obtain ⟨v, rfl, r⟩ := hx.one
      cases r
      exact call_str_int pins s σ H _ us Q' I rv ⟨i, rfl, h1, hk.here hM (.str _) hq⟩
theorem caj_none (f : Bif) : (f.val = .builtin "x" → False) := by cases f <;> decide
theorem bif_boot (f : Bif) : bootBuiltins f.name = some f.val := by cases f <;> decide +kernel

/-! ### subscripts and slices -/
def ixF (M : TM) : TV → TV → Option TV
  | .tup xs, .int i => atI xs i
  | .ref a, .int i => match lsM M a with
    | some xs => atI xs i
    | none => none
  | .str z, .int i => if z.length ≤ sizeLine then (match atI z.cps.toList i with
    | some c => some (.str ⟨#[c]⟩)
    | none => none) else none
  | _, _ => none
def wIx : W2 := fun x y M Q => ∃ z, ixF M x y = some z ∧ Q z M
theorem Rvs.atI {K : PySem.W.Frag} {H : Hp} {xs : List TV} {vs : List V} {i : Int} {x : TV} (r : Rvs K H xs vs) (h : L2.atI xs i = some x) : ∃ v, L2.atI vs i = some v ∧ Rv K H x v := by
  unfold L2.atI at h ⊢
  rw [← r.length]
  cases q : ixN xs.length i with
  | none => rw [q] at h; cases h
  | some j =>
    rw [q] at h
    exact r.get h
theorem ixj : IxJ X wIx := by
  intro value slice pins s σ H v u vv uu Q' I rv ru ⟨x, y, M, Q, hM, hx, hy, ⟨z, e, hq⟩, hk⟩ hsub
  cases hx with
  | tup sq r _ =>
    cases hy with
    | int i =>
      obtain ⟨w, e2, rw'⟩ := r.atI (show L2.atI _ i = some z from e)
      exact ix_tup value slice pins s σ H _ _ _ _ Q' I rv ru ⟨_, _, i, w, rfl, rfl, sq.sq, e2, hk.here hM rw' hq⟩ hsub
    | _ => simp only [ixF] at e; cases e
  | ref a =>
    cases hy with
    | int i =>
      simp only [ixF] at e
      cases q : lsM M a with
      | none => rw [q] at e; cases e
      | some xs =>
        rw [q] at e
        obtain ⟨vs, sq, r, _⟩ := lsM_seq hM q
        obtain ⟨w, e2, rw'⟩ := r.atI (show L2.atI _ i = some z from e)
        exact ix_list value slice pins s σ H _ _ _ _ Q' I rv ru ⟨_, _, i, w, rfl, rfl, sq, e2, hk.here hM rw' hq⟩ hsub
    | _ => simp only [ixF] at e; cases e
  | str t =>
    cases hy with
    | int i =>
      simp only [ixF] at e
      split at e
      · cases q : L2.atI t.cps.toList i with
        | none => rw [q] at e; cases e
        | some c =>
          rw [q] at e
          cases e
          exact ix_str value slice pins s σ H _ _ _ _ Q' I rv ru ⟨t, i, c, rfl, rfl, by assumption, q, hk.here hM (.str _) hq⟩ hsub
      · cases e
    | _ => simp only [ixF] at e; cases e
  | _ => simp only [ixF] at e; cases e
def cutT (xs : List TV) (lo hi : Option Int) : List TV := (xs.drop (HT.sIx xs.length 0 lo)).take (HT.sIx xs.length xs.length hi - HT.sIx xs.length 0 lo)
theorem Rvs.cut {K : PySem.W.Frag} {H : Hp} {xs : List TV} {vs : List V} (r : Rvs K H xs vs) (lo hi : Option Int) : Rvs K H (cutT xs lo hi) (cutV vs lo hi) := by
  unfold cutT cutV
  rw [← r.length]
  exact (r.drop _).take _
theorem cutT_len (xs : List TV) (lo hi : Option Int) : (cutT xs lo hi).length ≤ xs.length := by
  unfold cutT
  rw [List.length_take, List.length_drop]
  omega
def wSl : TV → Option Int → Option Int → TM → TK → Prop
  | .tup xs, lo, hi, M, Q => Q (.tup (cutT xs lo hi)) M
  | .ref a, lo, hi, M, Q => ∃ xs, lsM M a = some xs ∧ ∀ p, M p = none → Q (.ref p) (updM M p (.lst (cutT xs lo hi)))
  | .kl xs, lo, hi, M, Q => ∀ p, M p = none → Q (.ref p) (updM M p (.lst (cutT xs lo hi)))
  | .str z, lo, hi, M, Q => z.length ≤ sizeLine ∧ Q (.str (cutS z lo hi)) M
  | _, _, _, _, _ => False
theorem slj : SlJ X wSl := by
  intro pins s σ H v vv vl vu lo hi sl Q' I rv hs pl pu ⟨x, M, Q, hM, hx, hw, hk⟩
  cases hx with
  | tup sq r z =>
    have hq : Q _ M := hw
    refine sl_tupA pins s σ H _ vv vl vu lo hi sl Q' I rv hs pl pu ⟨_, _, rfl, sq.sq, fun e => ?_, fun _ p hp => hk.tup hM (r.cut lo hi) (Nat.le_trans (cutT_len _ _ _) z) hq hp⟩
    rename_i xs vs
    have ec : cutT xs lo hi = xs := by
      unfold cutT
      rw [r.length, e.1, e.2]
      simp [← r.length]
    rw [ec] at hq
    exact hk.here hM (.tup sq r z) hq
  | ref a =>
    obtain ⟨xs, e, hq⟩ := hw
    obtain ⟨vs, sq, r, z⟩ := lsM_seq hM e
    exact sl_list pins s σ H _ vv vl vu lo hi sl Q' I rv hs pl pu ⟨_, _, rfl, sq, fun p hp => hk.lst hM (r.cut lo hi) (Nat.le_trans (cutT_len _ _ _) z) hq hp⟩
  | kl sq r z =>
    have hq : ∀ p, M p = none → Q (.ref p) (updM M p (.lst (cutT _ lo hi))) := hw
    exact sl_list pins s σ H _ vv vl vu lo hi sl Q' I rv hs pl pu ⟨_, _, rfl, sq.sq, fun p hp => hk.lst hM (r.cut lo hi) (Nat.le_trans (cutT_len _ _ _) z) hq hp⟩
  | str z =>
    obtain ⟨h1, hq⟩ := hw
    exact sl_str pins s σ H _ vv vl vu lo hi sl Q' I rv hs pl pu ⟨_, rfl, h1, hk.here hM (.str _) hq⟩
  | _ => exact (show False from hw).elim
theorem unj_neg : UnJ X (unaryOp .USub) (fun x M Q => match x with | .int i => Q (.int (-i)) M | _ => False) := by
  intro pins s σ H v vv Q' I rv ⟨x, M, Q, hM, hx, hw, hk⟩
  cases hx with
  | int i => exact un_neg pins s σ H _ _ Q' I rv ⟨i, rfl, hk.here hM (.int _) hw⟩
  | _ => exact (show False from hw).elim

/-! ### methods of lists -/
theorem eqU_countP {y : V} : ∀ {ys : List V} {us : List Value}, Vals ys us → ys.all flatV = true → us.countP (eqU y) = ys.countP fun z => eqV z y
  | _, _, .nil, _ => rfl
  | z :: ys, u :: us, .cons r t, f => by
    rw [List.all_cons, Bool.and_eq_true] at f
    rw [List.countP_cons, List.countP_cons, eqU_countP t f.2, eqU_of r f.1]
def rCountF (K : PySem.W.Frag) : V → List V → Hp → VK → Prop := fun x xs H Q => ∃ (a : Addr) (ys : List V) (y : V), x = V.ref a ∧ xs = [y] ∧ SqL K H a ys ∧ flatV y = true ∧ ys.all flatV = true ∧ Q (.int (ys.countP fun z => eqV z y : Nat)) H
theorem mt_countF : MtR X "list.count" (rCountF X.K) := by
  intro pins s σ H x xs v us Q I rx rxs h
  obtain ⟨a, ys, y, rfl, rfl, hs, fy, fys, q⟩ := h
  cases rx
  obtain ⟨u, rfl, ru⟩ := rxs.one
  obtain ⟨its, rv, ⟨⟨cls, dd, data, sl⟩, n, ho, hc, hdn, hd⟩, hlen⟩ := I.list hs
  simp only at hc hd
  subst hc hd
  refine call_meets PySem.F.slot_list_count ⟨_, ho, rfl⟩ PySem.F.entry_list_count (PySem.F.args_list_count_2 _ _) (SeqAt.list_countAt a its.toArray n dd sl u (eqU y)) ⟨ho, fun z hz => mem_eqAt ru fy rv fys z (by simpa using hz), ?_⟩
  have ec : its.toArray.toList.countP (eqU y) = ys.countP fun z => eqV z y := eqU_countP rv fys
  refine ⟨.int (ys.countP fun z => eqV z y : Nat), H, I.tok _, ⟨s.toks, ?_⟩, q⟩
  show Value.int ((its.toArray.toList.countP (eqU y) : Nat) : Int) s.toks = Value.int ((ys.countP fun z => eqV z y : Nat) : Int) s.toks
  rw [ec]
theorem flat_bls : ∀ bs : List Bool, (bs.map V.bl).all flatV = true
  | [] => rfl
  | b :: bs => by rw [List.map_cons, List.all_cons, flat_bls bs]; rfl
theorem count_bls (b : Bool) : ∀ bs : List Bool, ((bs.map V.bl).countP fun z => eqV z (.bl b)) = bs.count b
  | [] => rfl
  | c :: bs => by
    rw [List.map_cons, List.countP_cons, List.count_cons, count_bls b bs]
    rfl
inductive Mth where
  | append | pop0 | pop1 | extend | insert | count | index
def Mth.name : Mth → Str
  | .append => "append" | .pop0 => "pop" | .pop1 => "pop" | .extend => "extend" | .insert => "insert" | .count => "count" | .index => "index"
def Mth.id : Mth → String
  | .append => "list.append" | .pop0 => "list.pop" | .pop1 => "list.pop" | .extend => "list.extend" | .insert => "list.insert" | .count => "list.count" | .index => "list.index"
def wMth : Mth → TV → List TV → TM → TK → Prop
  | .append, .ref a, [y], M, Q => ∃ xs, M a = some (.lst xs) ∧ xs.length < sizeLine ∧ Q .non (updM M a (.lst (xs ++ [y])))
  | .pop0, .ref a, [], M, Q => ∃ xs y, M a = some (.lst xs) ∧ xs[xs.length - 1]? = some y ∧ Q y (updM M a (.lst xs.dropLast))
  | .pop1, .ref a, [.int i], M, Q => ∃ xs k y, M a = some (.lst xs) ∧ ixN xs.length i = some k ∧ xs[k]? = some y ∧ Q y (updM M a (.lst (xs.eraseIdx k)))
  | .extend, .ref a, [.ref b], M, Q => ∃ xs ys, M a = some (.lst xs) ∧ M b = some (.lst ys) ∧ xs.length + ys.length ≤ sizeLine ∧ Q .non (updM M a (.lst (xs ++ ys)))
  | .insert, .ref a, [.int i, y], M, Q => ∃ xs, M a = some (.lst xs) ∧ xs.length < sizeLine ∧ 0 ≤ i ∧ i < 2 ^ 63 ∧ Q .non (updM M a (.lst (xs.take i.toNat ++ [y] ++ xs.drop i.toNat)))
  | .count, .ref a, [.bl b], M, Q => ∃ xs bs, lsM M a = some xs ∧ allB xs = some bs ∧ Q (.int (bs.count b : Nat)) M
  | .index, .ref a, [.bl b], M, Q => ∃ xs bs j, lsM M a = some xs ∧ allB xs = some bs ∧ bs[j]? = some b ∧ (∀ m c, m < j → bs[m]? = some c → c ≠ b) ∧ Q (.int (j : Nat)) M
  | _, _, _, _, _ => False
theorem mtj : ∀ m : Mth, MtJ X m.id (wMth m)
  | .append => by
    intro pins s σ H v vs vv us Q' I rv rvs ⟨x, xs, M, Q, hM, hx, hxs, hw, hk⟩
    match x, xs, hx, hxs, hw with
    | .ref a, [y], hx, hxs, ⟨ys, e, hl, hq⟩ =>
      cases hx
      obtain ⟨w, rfl, r⟩ := hxs.one
      obtain ⟨ws, e1, r1, z1⟩ := hM a _ e
      exact mt_append pins s σ H _ _ vv us Q' I rv rvs ⟨a, ws, w, rfl, rfl, e1, by rw [← r1.length]; exact hl, hk _ _ _ _ (Post.set_lst hM e (r1.append (.cons r .nil)) (by rw [List.length_append]; exact hl)) .non hq⟩
  | .pop0 => by
    intro pins s σ H v vs vv us Q' I rv rvs ⟨x, xs, M, Q, hM, hx, hxs, hw, hk⟩
    match x, xs, hx, hxs, hw with
    | .ref a, [], hx, hxs, ⟨ys, y, e, hl, hq⟩ =>
      cases hx
      cases hxs
      obtain ⟨ws, e1, r1, z1⟩ := hM a _ e
      obtain ⟨w, e2, r⟩ := r1.get hl
      rw [r1.length] at e2
      have p := Post.set_lst hM e r1.dropLast (by rw [List.length_dropLast]; omega)
      exact mt_pop pins s σ H _ _ vv us Q' I rv rvs ⟨a, ws, w, rfl, rfl, e1, e2, hk _ _ _ _ p (r.mono (p.grow hM)) hq⟩
  | .pop1 => by
    intro pins s σ H v vs vv us Q' I rv rvs ⟨x, xs, M, Q, hM, hx, hxs, hw, hk⟩
    match x, xs, hx, hxs, hw with
    | .ref a, [.int i], hx, hxs, ⟨ys, k, y, e, hl, hy, hq⟩ =>
      cases hx
      obtain ⟨w0, rfl, r0⟩ := hxs.one
      cases r0
      obtain ⟨ws, e1, r1, z1⟩ := hM a _ e
      obtain ⟨w, e2, r⟩ := r1.get hy
      obtain ⟨h1, h2, h3, h4⟩ := ixN_seq hl
      obtain ⟨its, _, _, hz⟩ := I.list (SqL.of e1)
      have hs : sizeLine = 16777216 := sizeLine_eq
      rw [← r1.length] at hz
      have p := Post.set_lst hM e (r1.eraseIdx k) (Nat.le_trans (List.length_eraseIdx_le _ _) z1)
      exact mt_popAt pins s σ H _ _ vv us Q' I rv rvs ⟨a, ws, i, k, w, rfl, rfl, e1, by omega, by omega, by rw [← r1.length]; exact h1, e2, hk _ _ _ _ p (r.mono (p.grow hM)) hq⟩
  | .extend => by
    intro pins s σ H v vs vv us Q' I rv rvs ⟨x, xs, M, Q, hM, hx, hxs, hw, hk⟩
    match x, xs, hx, hxs, hw with
    | .ref a, [.ref b], hx, hxs, ⟨ys, zs, e, e', hl, hq⟩ =>
      cases hx
      obtain ⟨w, rfl, r⟩ := hxs.one
      cases r
      obtain ⟨ws, e1, r1, z1⟩ := hM a _ e
      obtain ⟨us', e2, r2, z2⟩ := hM b _ e'
      exact mt_extend pins s σ H _ _ vv us Q' I rv rvs ⟨a, b, ws, us', rfl, rfl, e1, e2, by rw [← r1.length, ← r2.length]; exact hl, hk _ _ _ _ (Post.set_lst hM e (r1.append r2) (by rw [List.length_append]; exact hl)) .non hq⟩
  | .count => by
    intro pins s σ H v vs vv us Q' I rv rvs ⟨x, xs, M, Q, hM, hx, hxs, hw, hk⟩
    match x, xs, hx, hxs, hw with
    | .ref a, [.bl b], hx, hxs, ⟨ys, bs, e, eb, hq⟩ =>
      cases hx
      obtain ⟨w, rfl, r⟩ := hxs.one
      cases r
      exact mt_countF pins s σ H _ _ vv us Q' I rv rvs ⟨a, _, _, rfl, rfl, bls_seq hM e eb, rfl, flat_bls bs, hk.here hM (by rw [count_bls]; exact .int _) hq⟩
  | .index => by
    intro pins s σ H v vs vv us Q' I rv rvs ⟨x, xs, M, Q, hM, hx, hxs, hw, hk⟩
    match x, xs, hx, hxs, hw with
    | .ref a, [.bl b], hx, hxs, ⟨ys, bs, j, e, eb, ej, en, hq⟩ =>
      cases hx
      obtain ⟨w, rfl, r⟩ := hxs.one
      cases r
      refine mt_index pins s σ H _ _ vv us Q' I rv rvs ⟨a, _, _, j, .bl b, rfl, rfl, bls_seq hM e eb, rfl, flat_bls bs, by rw [List.getElem?_map, ej]; rfl, by show (b == b) = true; simp, fun m z hm hz => ?_, hk.here hM (.int _) hq⟩
      rw [List.getElem?_map] at hz
      cases q : bs[m]? with
      | none => rw [q] at hz; cases hz
      | some c =>
        rw [q] at hz
        cases hz
        show (c == b) = false
        simpa using en m c hm q
  | .insert => by
    intro pins s σ H v vs vv us Q' I rv rvs ⟨x, xs, M, Q, hM, hx, hxs, hw, hk⟩
    match x, xs, hx, hxs, hw with
    | .ref a, [.int i, y], hx, hxs, ⟨ys, e, hl, h0, h1, hq⟩ =>
      cases hx
      obtain ⟨w0, w, rfl, r0, r⟩ := hxs.two
      cases r0
      obtain ⟨ws, e1, r1, z1⟩ := hM a _ e
      exact mt_insert pins s σ H _ _ vv us Q' I rv rvs ⟨a, ws, i, w, rfl, rfl, e1, by rw [← r1.length]; exact hl, h0, h1, hk _ _ _ _ (Post.set_lst hM e (((r1.take _).append (.cons r .nil)).append (r1.drop _)) (by simp only [List.length_append, List.length_take, List.length_drop, List.length_cons, List.length_nil]; omega)) .non hq⟩
end
end TL

/-! TRev: t[::-1], t * 1. -/
namespace TL
open PySem PySem.Spec PyProof.Rows L2

section
variable {prog : Program} {w : World} {A : Around} {E : Value → Shared → Prop} {s : Shared}
theorem adjust_rev (n : Nat) : Builtin.Slice.sliceAdjust none none (-1) (n : Int) = ((n : Int) - 1, -1) := rfl
theorem places_rev (n : Nat) : Builtin.Slice.slicePlaces ((n : Int) - 1) (-1) (-1) = n := by
  unfold Builtin.Slice.slicePlaces
  have h1 : ¬ ((-1 : Int) > 0) := by omega
  simp only [h1, if_false]
  rw [show (- -1 : Int) = 1 by decide, Int.ediv_one]
  split <;> omega
theorem sliceApplied_rev {sl : Addr} {vs : Value} {n : Nat} {Q : Int × Int × Nat → Shared → Prop} (hs : s.heap.IsSliceOf sl .none .none vs) (pk : IsPart vs (some (-1)))
    (h : Q ((n : Int) - 1, -1, n) s) : wpAny (model prog w) A (Builtin.Slice.sliceApplied (.ref sl) (pure (n : Int))) Q E s := by
  obtain ⟨os, hos, hcs, hds⟩ := id hs
  unfold Builtin.Slice.sliceApplied Builtin.Slice.sliceFields
  refine wpAny_bind (wpAny_bind (wpAny_field hos hds (x := .none) rfl (wpAny_bind (wpAny_field hos hds (x := .none) rfl (wpAny_bind (wpAny_field hos hds (x := vs) rfl (wpAny_pure ?_)))))))
  refine wpAny_bind (HT.slicePart_ pk ?_)
  show wpAny _ _ (if ((-1 : Int) == 0) = true then _ else _) _ _ s
  rw [if_neg (by decide)]
  refine wpAny_bind (HT.slicePart_ .none (wpAny_bind (HT.slicePart_ .none (wpAny_bind (wpAny_pure ?_)))))
  show wpAny _ _ (pure ((n : Int) - 1, (-1 : Int), Builtin.Slice.slicePlaces ((n : Int) - 1) (-1) (-1))) _ _ s
  rw [places_rev]
  exact wpAny_pure h
theorem fm_congr {α β : Type} {f g : α → Option β} : ∀ (l : List α), (∀ x ∈ l, f x = g x) → l.filterMap f = l.filterMap g
  | [], _ => rfl
  | a :: l, h => by
    rw [List.filterMap_cons, List.filterMap_cons, h a (by simp), fm_congr l fun x hx => h x (by simp [hx])]
theorem pick_rev (xs : Array Value) : ((List.range xs.size).filterMap fun (m : Nat) => xs[((xs.size : Int) - 1 + (m : Int) * -1).toNat]?).toArray = xs.toList.reverse.toArray := by
  congr 1
  have e : (List.range xs.size).filterMap (fun (m : Nat) => xs[((xs.size : Int) - 1 + (m : Int) * -1).toNat]?) = (List.range xs.size).filterMap ((xs[·]?) ∘ fun m => xs.size - 1 - m) := by
    refine fm_congr _ fun m hm => ?_
    have h1 := List.mem_range.mp hm
    have h2 : ((xs.size : Int) - 1 + (m : Int) * -1).toNat = xs.size - 1 - m := by omega
    show xs[_]? = xs[_]?
    rw [h2]
  rw [e, ← List.filterMap_map, PySem.W.krv_range, List.filterMap_reverse, PySem.W.krv_all]
theorem getItem_tuple_rev {t sl : Addr} {items : Array Value} {vs : Value} {Q : Value → Shared → Prop} (ht : IsTup s.heap t items) (hs : s.heap.IsSliceOf sl .none .none vs) (pk : IsPart vs (some (-1)))
    (h : Q (.ref s.heap.objs.size) { s with heap := s.heap.push { cls := .type "tuple", data := .seq items.toList.reverse.toArray } })
    (hsz : items.size ≤ sizeLine) : wpAny (model prog w) A (getItem (.ref t) (.ref sl)) Q E s := by
  have htake : sizeOk (.seq items.toList.reverse.toArray) := by
    show items.toList.reverse.toArray.size ≤ sizeLine
    rw [List.size_toArray, List.length_reverse, Array.length_toList]
    exact hsz
  obtain ⟨os, hos, hcs, hds⟩ := id hs
  have hTs : s.TypeIs (.ref sl) "slice" := ⟨os, hos, hcs⟩
  unfold getItem
  try with_reducible refine wpAny_holding ?_
  first | refine wpAny_bind (wpAny_pure ?_) | skip
  refine wpAny_bind (wpAny_sequenceKey ht.typeIs (by decide) ?_)
  refine wpAny_bind (wpAny_callSpecial?_slot (name := Str.ofString "__getitem__") ht.typeIs PyProof.Rows.slot_tuple_getitem
    (wpAny_call_entry PyProof.Rows.slot_tuple_getitem ht.typeIs entry_tuple_getitem ?_ (args_tuple_getitem _ _)))
  show wpAny _ _ (Builtin.Tuple.tupleItemsOf (.ref t) >>= _) _ _ s
  refine wpAny_bind (tupleItemsOf_ ht ?_)
  refine wpAny_bind (wpAny_typeOf hTs ?_)
  rw [if_pos (by decide)]
  refine wpAny_bind (sliceApplied_rev hs pk ?_)
  have hno : ¬ ((((items.size : Int) - 1) == 0 && (-1 : Int) == 1 && items.size == items.size) = true) := by
    intro q
    rw [Bool.and_eq_true, Bool.and_eq_true] at q
    exact absurd q.1.2 (by decide)
  show wpAny _ _ (if (((items.size : Int) - 1) == 0 && (-1 : Int) == 1 && items.size == items.size) = true then _ else _) _ _ s
  rw [if_neg hno, pick_rev]
  first
    | exact wpAny_bind (m := Builtin.Tuple.tupleExact _) (wpAny_newObj_type (wpAny_pure ⟨_, rfl, wpAny_pure h⟩) htake)
    | exact wpAny_bind (m := Builtin.Tuple.tupleExact _) (wpAny_newObj_type (wpAny_bind (wpAny_pure (wpAny_pure ⟨_, rfl, wpAny_pure h⟩))) htake)
    | exact wpAny_bind (wpAny_bind (m := Builtin.Tuple.tupleExact _) (wpAny_newObj_type (wpAny_pure (wpAny_pure ⟨_, rfl, wpAny_pure h⟩)) htake))
    | exact wpAny_bind (wpAny_bind (m := Builtin.Tuple.tupleExact _) (wpAny_newObj_type (wpAny_pure ⟨_, rfl, wpAny_pure h⟩) htake))
end
section
variable {X : Cx}
def tRevA (K : PySem.W.Frag) (te : TE) : TE := fun σ H Q => te σ H fun x H1 =>
  (∃ a xs, x = .ref a ∧ SqL K H1 a xs ∧ ∀ p, H1 p = none → Q (.ref p) (upd H1 p (.lst xs.reverse))) ∨ (∃ a xs, x = .ref a ∧ SqT K H1 a xs ∧ ∀ p, H1 p = none → Q (.ref p) (upd H1 p (.tup xs.reverse)))
theorem pe_revA {e : Expr} {te : TE} {k : Nat} {p1 p2 p3 pos : Pos} (he : PE X e te) : PE X (.Subscript e (.Slice none none (some (.UnaryOp .USub (.Constant (.int 1) k p1) p2)) p3) pos) (tRevA X.K te) := by
  refine ⟨fun pins s σ H Q I h => ?_⟩
  refine Subscript_ (thn (he.run pins s σ H _ I h) fun v s1 ⟨x, H1, I1, r1, q1⟩ => ?_)
  have hst : PO X (some (.UnaryOp .USub (.Constant (.int 1) k p1) p2)) (tPart (tUn (rU fun i => .int (-i)) (tC (.int 1)))) := po_some (pe_un un_neg pe_int)
  refine wpAny_Slice (thn (po_none.run pins s1 σ H1 (fun o H2 => o = none ∧ H2 = H1) I1 ⟨rfl, rfl⟩) fun vl s2 ⟨l, H2, I2, pl, el, e2⟩ => ?_)
  subst el e2
  cases pl
  refine thn (po_none.run pins s2 σ H2 (fun o H3 => o = none ∧ H3 = H2) I2 ⟨rfl, rfl⟩) fun vu s3 ⟨u, H3, I3, pu, eu, e3⟩ => ?_
  subst eu e3
  cases pu
  refine thn (hst.run pins s3 σ H3 (fun o H4 => o = some (-1) ∧ H4 = H3) I3 ⟨1, rfl, -1, rfl, rfl, rfl⟩) fun vs s4 ⟨o, H4, I4, ps, eo, e4⟩ => ?_
  subst eo e4
  have I5 : Inv X pins σ H4 { s4 with heap := s4.heap.push { cls := .type "slice", data := .fields #[.none, .none, vs] } } := I4.kept (t' := s4.toks) fun b ob q => Heap.get?_push_of_some _ q
  rcases q1 with ⟨a, xs, ex, hx, q⟩ | ⟨a, xs, ex, hx, q⟩
  · subst ex
    cases r1
    obtain ⟨its, r, ht, hz⟩ := I5.list hx
    have hlen := r.length
    show wpAny (model X.prog X.w) X.A (subscriptTail e (.Slice none none (some (.UnaryOp .USub (.Constant (.int 1) k p1) p2)) p3) (.ref a) (.ref s4.heap.objs.size)) (EP X pins σ Q) X.xe { s4 with heap := s4.heap.push { cls := .type "slice", data := .fields #[.none, .none, vs] } }
    refine tail_any (ops := [.ref a, .ref s4.heap.objs.size]) ht.isList.typeIs (PySem.slot_list_getitem.lookup) ?_ (by with_unfolding_all rfl)
    refine wpAny_getItem_list_slice ht.isList (Heap.IsSliceOf.new _ .none .none vs) .none .none ps (by decide) ?_ (by rw [List.size_toArray]; omega)
    rw [PySem.W.krv_pick]
    refine ⟨.ref _, _, I5.laid (t' := s4.toks) (o := .lst xs.reverse) (fun b ob q => Heap.get?_push_of_some _ q) (Nat.le_refl _) ?_, rfl, q _ (I5.hok.fresh (Nat.le_refl _))⟩
    exact ⟨by rw [List.length_reverse]; exact hz, _, 0, r.reverse, Heap.get?_push_size _ rfl⟩
  · subst ex
    cases r1
    obtain ⟨its, r, ht, hz⟩ := I5.tuple hx
    have hlen := r.length
    show wpAny (model X.prog X.w) X.A (subscriptTail e (.Slice none none (some (.UnaryOp .USub (.Constant (.int 1) k p1) p2)) p3) (.ref a) (.ref s4.heap.objs.size)) (EP X pins σ Q) X.xe { s4 with heap := s4.heap.push { cls := .type "slice", data := .fields #[.none, .none, vs] } }
    refine tail_any (ops := [.ref a, .ref s4.heap.objs.size]) ht.typeIs (PyProof.Rows.slot_tuple_getitem.lookup) ?_ (by with_unfolding_all rfl)
    refine getItem_tuple_rev ht (Heap.IsSliceOf.new _ .none .none vs) ps ?_ (by rw [List.size_toArray]; omega)
    refine ⟨.ref _, _, I5.laid (t' := s4.toks) (o := .tup xs.reverse) (fun b ob q => Heap.get?_push_of_some _ q) (Nat.le_refl _) ?_, rfl, q _ (I5.hok.fresh (Nat.le_refl _))⟩
    exact ⟨by rw [List.length_reverse]; exact hz, _, r.reverse, IsTup.new _ _⟩
def wRv : TV → TM → TK → Prop
  | .tup xs, M, Q => Q (.tup xs.reverse) M
  | .ref a, M, Q => ∃ xs, lsM M a = some xs ∧ ∀ p, M p = none → Q (.ref p) (updM M p (.lst xs.reverse))
  | .kl xs, M, Q => ∀ p, M p = none → Q (.ref p) (updM M p (.lst xs.reverse))
  | _, _, _ => False
theorem Rvs.rev {K : PySem.W.Frag} {H : Hp} : ∀ {xs : List TV} {vs : List V}, Rvs K H xs vs → Rvs K H xs.reverse vs.reverse
  | _, _, .nil => .nil
  | _, _, .cons h r => by
    rw [List.reverse_cons, List.reverse_cons]
    exact r.rev.append (.cons h .nil)
end
end TL

/-! TAst: bodies of defs as trees, and what must hold so that they end well. -/
namespace TL
open PySem PySem.Spec PyProof.Rows L2

abbrev TSp := List TV → TM → TK → TR → Prop
/-- a call without arguments; what a def makes of one -/
abbrev Thk := TM → TK → TR → Prop
abbrev TLam := Thk → TM → TK → Prop
def gs : TSt → Nat → Option TV
  | [], _ => none
  | o :: _, 0 => o
  | _ :: r, i + 1 => gs r i
theorem gs_eq : ∀ {σ : TSt} {i : Nat} {x : TV}, gs σ i = some x → σ[i]? = some (some x)
  | [], _, _, h => by cases h
  | o :: _, 0, _, h => by simp only [gs] at h; simp [h]
  | _ :: r, i + 1, _, h => by simp only [gs] at h; simpa using gs_eq h
def setAll : TSt → List Nat → List TV → TSt
  | σ, i :: is, x :: xs => setAll (σ.set i (some x)) is xs
  | σ, _, _ => σ
/-- a target: a name, a tuple of names -/
inductive Tg where
  | name (i : Nat)
  | tup (is : List Nat)
def wTg : Tg → TV → TSt → TM → (TSt → TM → Prop) → Prop
  | .name i, v, σ, M, Q => Q (σ.set i (some v)) M
  | .tup is, v, σ, M, Q => ∃ xs, seqM M v = some xs ∧ xs.length = is.length ∧ Q (setAll σ is xs) M
/-- what is walked: the items, and what must stay -/
structure Itm where
  items : List TV
  chk : TM → Prop
mutual
inductive Ex where
  | loc (i : Nat)
  | cst (v : TV)
  | glb (x : Str) (v : TV)
  | bin (o : BOp) (a b : Ex)
  | cmp (o : COp) (a b : Ex)
  | chn (o p : COp) (a b c : Ex)
  | neg (a : Ex)
  | nt (a : Ex)
  | and (a b : Ex)
  | or (a b : Ex)
  | ite (c : Bx) (a b : Ex)
  | tup (es : Exs)
  | lst (es : Exs)
  | dic0
  | ix (a b : Ex)
  | sl (a : Ex) (lo hi : Exo)
  | rv (a : Ex)
  | bi (f : Bif) (es : Exs)
  | call (x : Str) (f : Addr) (sp : TSp) (es : Exs)
  | cav (i : Nat) (es : Exs)
  | mth (m : Mth) (o : Ex) (es : Exs)
  | lam (x : Str) (g : Addr) (Φ : TLam) (P : Addr) (q : Str) (e : Ex)
  | lamd (x : Str) (g : Addr) (Φ : TLam) (P : Addr) (q : Str) (e : Ex)
  | rep (e : Ex)
  | ise (i : Nat) (a : Addr) (D : Value) (y : Str) (cv : Value) (kt : Value → Option Bool)
  | lc (tg : Tg) (it : It) (c : Bo) (el : Ex) (own : List (Str × Nat))
  | lc2 (tg : Tg) (it : It) (c : Bo) (tg1 : Tg) (it1 : It) (c1 : Bo) (el : Ex) (own : List (Str × Nat)) (vs1 : List Nat)
inductive Exs where
  | nil
  | cons (e : Ex) (r : Exs)
inductive Exo where
  | no
  | so (e : Ex)
inductive Bx where
  | val (e : Ex)
  | and (a b : Bx)
  | or (a b : Bx)
  | nt (a : Bx)
inductive Bo where
  | no
  | so (b : Bx)
inductive It where
  | seq (e : Ex)
  | rng1 (a : Ex)
  | rng2 (a b : Ex)
  | zip (a b : Ex)
  | enum (a : Ex)
end
/-- a comprehension's loop: the items, what is made so far -/
def lcL (chk : TM → Prop) (step : List TV → TV → TM → (List TV → TM → Prop) → Prop) (fin : List TV → TM → Prop) : List TV → List TV → TM → Prop
  | [], acc, M => chk M ∧ fin acc M
  | x :: r, acc, M => chk M ∧ step acc x M fun acc' M' => lcL chk step fin r acc' M'
def rngT (lo : Int) (n : Nat) : List TV := (List.range n).map fun k => .int (lo + (k : Nat))
def zipT : List TV → List TV → List TV
  | x :: xs, y :: ys => .tup [x, y] :: zipT xs ys
  | _, _ => []
def enuT : Nat → List TV → List TV
  | _, [] => []
  | i, x :: r => .tup [.int (i : Nat), x] :: enuT (i + 1) r
def alikeT : TV → TV → Bool
  | .tup _, .tup _ => true
  | .ref _, .ref _ => true
  | _, _ => false
def isRefT : TV → Bool
  | .ref _ => true
  | _ => false
def chkS (M : TM) : TV → List TV → TM → Prop
  | .ref a, xs, M' => lsM M' a = some xs
  | _, _, _ => True
/-- repr of a tuple, of a list -/
def isRT : TV → Bool
  | .tup _ => true
  | .ref _ => true
  | _ => false
def wRpr : TV → TM → TK → Prop := fun x M Q => isRT x = true ∧ ∃ n d, n ≤ 40 ∧ dat M n x = some d ∧ d.showable = true ∧ d.shown.length ≤ sizeLine ∧ Q (.str d.shown) M
section
variable (F : Addr → TSp → Prop)
mutual
def wE : Ex → WE
  | .loc i => fun σ M Q R => ∃ x, gs σ i = some x ∧ Q x M
  | .cst v => fun _ M Q _ => Q v M
  | .glb _ v => fun _ M Q _ => Q v M
  | .bin o a b => fun σ M Q R => wE a σ M (fun x M1 => wE b σ M1 (fun y M2 => wBop o x y M2 Q) R) R
  | .cmp o a b => fun σ M Q R => wE a σ M (fun x M1 => wE b σ M1 (fun y M2 => wCop o x y M2 Q) R) R
  | .chn o p a b c => fun σ M Q R => wE a σ M (fun x M1 => wE b σ M1 (fun y M2 => ∃ k, cmpF o M2 x y = some k ∧
      (if k = true then wE c σ M2 (fun z M3 => wCop p y z M3 Q) R else Q (.bl false) M2)) R) R
  | .neg a => fun σ M Q R => wE a σ M (fun x M1 => ∃ i, x = .int i ∧ Q (.int (-i)) M1) R
  | .nt a => fun σ M Q R => wE a σ M (fun x M1 => ∃ k, truT M1 x = some k ∧ Q (.bl (!k)) M1) R
  | .and a b => fun σ M Q R => wE a σ M (fun x M1 => ∃ k, truT M1 x = some k ∧ (if k = true then wE b σ M1 Q R else Q x M1)) R
  | .or a b => fun σ M Q R => wE a σ M (fun x M1 => ∃ k, truT M1 x = some k ∧ (if k = true then Q x M1 else wE b σ M1 Q R)) R
  | .ite c a b => fun σ M Q R => wB c σ M (fun k M1 => if k = true then wE a σ M1 Q R else wE b σ M1 Q R) R
  | .tup es => fun σ M Q R => wEs es σ M (fun xs M1 => Q (.tup xs) M1) R
  | .lst es => fun σ M Q R => wEs es σ M (fun xs M1 => ∀ p, M1 p = none → Q (.ref p) (updM M1 p (.lst xs))) R
  | .dic0 => fun _ M Q _ => ∀ p, M p = none → Q (.ref p) (updM M p (.dic []))
  | .ix a b => fun σ M Q R => wE a σ M (fun x M1 => wE b σ M1 (fun y M2 => wIx x y M2 Q) R) R
  | .rv a => fun σ M Q R => wE a σ M (fun x M1 => wRv x M1 Q) R
  | .sl a lo hi => fun σ M Q R => wE a σ M (fun x M1 => wO lo σ M1 (fun l M2 => wO hi σ M2 (fun h M3 => wSl x l h M3 Q) R) R) R
  | .bi f es => fun σ M Q R => wEs es σ M (fun xs M1 => wBif f xs M1 Q) R
  | .call _ _ sp es => fun σ M Q R => wEs es σ M (fun xs M1 => sp xs M1 Q R) R
  | .cav i es => fun σ M Q R => ∃ f sp, gs σ i = some (.ref f) ∧ F f sp ∧ wEs es σ M (fun xs M1 => sp xs M1 Q R) R
  | .mth m o es => fun σ M Q R => wE o σ M (fun x M1 => (∃ a xs, x = .ref a ∧ lsM M1 a = some xs) ∧ wEs es σ M1 (fun ys M2 => wMth m x ys M2 Q) R) R
  | .lam _ _ Φ P q e => fun σ M Q _ => M P = some (.tbl q) ∧ Φ (fun M1 Q1 R1 => wE e σ M1 Q1 R1) M Q
  | .lamd _ _ Φ P q e => fun σ M Q _ => M P = some (.tbl q) ∧ Φ (fun M1 Q1 R1 => wE e σ M1 Q1 R1) M Q
  | .rep e => fun σ M Q R => wE e σ M (fun x M1 => wRpr x M1 Q) R
  | .ise i a D _ _ kt => fun σ M Q _ => gs σ i = some (.ref a) ∧ ∃ b, kt D = some b ∧ Q (.bl b) M
  | .lc tg it c el own => fun σ M Q R => wI it σ M (fun J M1 =>
      lcL J.chk (fun acc x M2 k => wTg tg x (wipeT σ (own.map (·.2))) M2 (fun σ2 M3 => wBo c σ2 M3 (fun b M4 => if b = true then wE el σ2 M4 (fun y M5 => k (acc ++ [y]) M5) (fun _ _ => False) else k acc M4) (fun _ _ => False)))
        (fun acc M2 => ∀ p, M2 p = none → Q (.ref p) (updM M2 p (.lst acc))) J.items [] M1) R
  | .lc2 tg it c tg1 it1 c1 el own vs1 => fun σ M Q R => wI it σ M (fun J M1 =>
      lcL J.chk (fun acc x M2 k => wTg tg x (wipeT σ (own.map (·.2))) M2 (fun σ2 M3 => wBo c σ2 M3 (fun b M4 => if b = true then wI it1 σ2 M4 (fun J1 M5 =>
          lcL J1.chk (fun acc y M6 k1 => wTg tg1 y (wipeT σ2 vs1) M6 (fun σ3 M7 => wBo c1 σ3 M7 (fun b1 M8 => if b1 = true then wE el σ3 M8 (fun z M9 => acc.length < sizeLine ∧ k1 (acc ++ [z]) M9) (fun _ _ => False) else k1 acc M8) (fun _ _ => False)))
            k J1.items acc M5) (fun _ _ => False) else k acc M4) (fun _ _ => False)))
        (fun acc M2 => ∀ p, M2 p = none → Q (.ref p) (updM M2 p (.lst acc))) J.items [] M1) R
def wEs : Exs → WA
  | .nil => fun _ M Q _ => Q [] M
  | .cons e r => fun σ M Q R => wE e σ M (fun x M1 => wEs r σ M1 (fun xs M2 => Q (x :: xs) M2) R) R
def wO : Exo → TSt → TM → (Option Int → TM → Prop) → TR → Prop
  | .no => fun _ M Q _ => Q none M
  | .so e => fun σ M Q R => wE e σ M (fun x M1 => ∃ i, x = .int i ∧ Q (some i) M1) R
def wB : Bx → WT
  | .val e => fun σ M Q R => wE e σ M (fun x M1 => wTru x M1 Q) R
  | .and a b => fun σ M Q R => wB a σ M (fun k M1 => if k = true then wB b σ M1 Q R else Q false M1) R
  | .or a b => fun σ M Q R => wB a σ M (fun k M1 => if k = true then Q true M1 else wB b σ M1 Q R) R
  | .nt a => fun σ M Q R => wB a σ M (fun k M1 => Q (!k) M1) R
def wBo : Bo → WT
  | .no => fun _ M Q _ => Q true M
  | .so b => wB b
def wI : It → TSt → TM → (Itm → TM → Prop) → TR → Prop
  | .seq e => fun σ M Q R => wE e σ M (fun x M1 => ∃ xs, seqM M1 x = some xs ∧ Q ⟨xs, chkS M1 x xs⟩ M1) R
  | .rng1 a => fun σ M Q R => wE a σ M (fun x M1 => ∃ j : Int, x = .int j ∧ -(2 ^ 62) ≤ j ∧ j ≤ 16777216 ∧ Q ⟨rngT 0 j.toNat, fun _ => True⟩ M1) R
  | .rng2 a b => fun σ M Q R => wE a σ M (fun x M1 => wE b σ M1 (fun y M2 => ∃ i j : Int, x = .int i ∧ y = .int j ∧ -(2 ^ 61) ≤ i ∧ i < 2 ^ 61 ∧ -(2 ^ 61) ≤ j ∧ j < 2 ^ 61 ∧ j - i ≤ 16777216 ∧ Q ⟨rngT i (j - i).toNat, fun _ => True⟩ M2) R) R
  | .zip a b => fun σ M Q R => wE a σ M (fun x M1 => wE b σ M1 (fun y M2 => ∃ xs ys, seqM M2 x = some xs ∧ seqM M2 y = some ys ∧ alikeT x y = true ∧ Q ⟨zipT xs ys, fun M' => chkS M2 x xs M' ∧ chkS M2 y ys M'⟩ M2) R) R
  | .enum a => fun σ M Q R => wE a σ M (fun x M1 => ∃ xs, seqM M1 x = some xs ∧ isRefT x = true ∧ Q ⟨enuT 0 xs, chkS M1 x xs⟩ M1) R
end
end
/-! ### statements -/
/-- what a try's body does with what was called -/
inductive TMode where
  | exp
  | ret (v : TV)
  | set (j : Nat) (v : TV)
def wMode (m : TMode) (D : TEnds) (σ : TSt) : TK := match m with
  | .exp => fun _ M => D.nx σ M
  | .ret v => fun x M => D.rt (.tup [v, x]) M
  | .set j v => fun x M => D.nx (σ.set j (some (.tup [v, x]))) M
mutual
inductive Sm where
  | set (i : Nat) (e : Ex)
  | asg (is : List Nat) (e : Ex)
  | par (is : List Nat) (es : Exs)
  | sti (o i e : Ex)
  | aug (i : Nat) (o : BOp) (e : Ex)
  | augx (o i : Ex) (p : BOp) (e : Ex)
  | exp (e : Ex)
  | ife (c : Bx) (a b : Sms)
  | whl (c : Bx) (b : Sms)
  | fr (tg : Tg) (it : It) (b : Sms)
  | ret (e : Ex)
  | retn
  | pass
  | brk
  | cnt
  | rais (c : Str) (C : Addr)
  | tri (m : TMode) (x : Str) (f : Addr) (φ : Hp → Prop) (θ : Thk) (c : Str) (cv : Value) (cm : Value → Option Bool) (i : Nat) (h : Addr → Value → Sms)
  | never
inductive Sms where
  | nil
  | cons (s : Sm) (r : Sms)
end
/-- o[i] = y -/
def wSti : TV → TV → TV → TM → (TM → Prop) → Prop
  | .ref a, .int i, y, M, Q => ∃ xs j, M a = some (.lst xs) ∧ ixN xs.length i = some j ∧ Q (updM M a (.lst (xs.set j y)))
  | _, _, _, _, _ => False
/-- x op= y -/
def wAug : BOp → W2
  | .add, .int i, .int j, M, Q => Q (.int (i + j)) M
  | .add, .str a, .str b, M, Q => a.length + b.length ≤ sizeLine ∧ Q (.str (a ++ b)) M
  | .sub, .int i, .int j, M, Q => Q (.int (i - j)) M
  | .mul, .int i, .int j, M, Q => ((-(2 ^ 64) < i ∧ i < 2 ^ 64) ∨ (-(2 ^ 64) < j ∧ j < 2 ^ 64)) ∧ Q (.int (i * j)) M
  | .fdiv, .int i, .int j, M, Q => (0 < j ∧ j < 1073741824) ∧ Q (.int (i / j)) M
  | .mod, .int i, .int j, M, Q => 0 < j ∧ Q (.int (i % j)) M
  | _, _, _, _, _ => False
/-- a list's item, for an item that is written anew -/
def wGet : TV → TV → TM → (TV → Prop) → Prop
  | .ref a, .int i, M, Q => ∃ xs z, lsM M a = some xs ∧ 0 ≤ i ∧ xs[i.toNat]? = some z ∧ Q z
  | _, _, _, _ => False
def whL (c : WT) (b : WS) : Nat → WS
  | 0 => fun _ _ _ => False
  | n + 1 => fun D σ M => c σ M (fun k M1 => if k = true then b { D with nx := whL c b n D, ct := whL c b n D, bk := D.nx } σ M1 else D.nx σ M1) (fun x M1 => D.ex x σ M1)
def foL (chk : TM → Prop) (step : TV → (TSt → TM → Prop) → TSt → TM → Prop) (fin : TSt → TM → Prop) : List TV → TSt → TM → Prop
  | [], σ, M => chk M ∧ fin σ M
  | x :: r, σ, M => chk M ∧ step x (foL chk step fin r) σ M
section
variable (F : Addr → TSp → Prop)
mutual
def wS : Sm → WS
  | .set i e => fun D σ M => wE F e σ M (fun x M1 => D.nx (σ.set i (some x)) M1) (fun x M1 => D.ex x σ M1)
  | .asg is e => fun D σ M => wE F e σ M (fun x M1 => wTg (.tup is) x σ M1 D.nx) (fun x M1 => D.ex x σ M1)
  | .par is es => fun D σ M => wEs F es σ M (fun xs M1 => D.nx (setAll σ is xs) M1) (fun x M1 => D.ex x σ M1)
  | .sti o i e => fun D σ M => wE F e σ M (fun y M1 => wE F o σ M1 (fun x M2 => wE F i σ M2 (fun k M3 => wSti x k y M3 (fun M4 => D.nx σ M4)) (fun x M3 => D.ex x σ M3)) (fun x M2 => D.ex x σ M2)) (fun x M1 => D.ex x σ M1)
  | .aug i o e => fun D σ M => ∃ x, gs σ i = some x ∧ wE F e σ M (fun y M1 => wAug o x y M1 (fun z M2 => D.nx (σ.set i (some z)) M2)) (fun x M1 => D.ex x σ M1)
  | .augx o i p e => fun D σ M => wE F o σ M (fun x M1 => wE F i σ M1 (fun k M2 => wGet x k M2 fun old => wE F e σ M2 (fun y M3 => wAug p old y M3 (fun z M4 => wSti x k z M4 (fun M5 => D.nx σ M5)))
      (fun x M3 => D.ex x σ M3)) (fun x M2 => D.ex x σ M2)) (fun x M1 => D.ex x σ M1)
  | .exp e => fun D σ M => wE F e σ M (fun _ M1 => D.nx σ M1) (fun x M1 => D.ex x σ M1)
  | .ife c a b => fun D σ M => wB F c σ M (fun k M1 => if k = true then wSs a D σ M1 else wSs b D σ M1) (fun x M1 => D.ex x σ M1)
  | .whl c b => fun D σ M => ∃ n, whL (wB F c) (wSs b) n D σ M
  | .fr tg it b => fun D σ M => wI F it σ M (fun J M1 => foL J.chk (fun x k σ1 M2 => wTg tg x σ1 M2 (fun σ2 M3 => wSs b { D with nx := k, ct := k, bk := D.nx } σ2 M3)) D.nx J.items σ M1) (fun x M1 => D.ex x σ M1)
  | .ret e => fun D σ M => wE F e σ M D.rt (fun x M1 => D.ex x σ M1)
  | .retn => fun D _ M => D.rt .non M
  | .pass => fun D σ M => D.nx σ M
  | .brk => fun D σ M => D.bk σ M
  | .cnt => fun D σ M => D.ct σ M
  | .rais _ C => fun D σ M => D.ex ⟨.ref C, []⟩ σ M
  | .tri m _ f φ θ _ _ cm i h => fun D σ M => gs σ 0 = some (.thk f φ) ∧ θ M (wMode m D σ) (fun x M1 => x.fs = [] ∧ cm x.cls = some true ∧
      ∀ a, wSs (h a x.cls) { nx := fun σ2 M2 => D.nx (σ2.set i none) M2, rt := D.rt, bk := fun σ2 M2 => D.bk (σ2.set i none) M2, ct := fun σ2 M2 => D.ct (σ2.set i none) M2, ex := fun _ _ _ => False } ((List.replicate σ.length none).set i (some (.ref a))) M1)
  | .never => fun _ _ _ => False
def wSs : Sms → WS
  | .nil => fun D σ M => D.nx σ M
  | .cons s r => fun D σ M => wS s { D with nx := fun σ' M' => wSs r D σ' M' } σ M
end
end
end TL

/-! TView: shapes of the text, and the check that a tree tells of it. -/
namespace TL
open PySem PySem.Spec PyProof.Rows L2

def vName : Expr → Option (Str × Pos)
  | .Name x p => some (x, p)
  | _ => none
theorem vName_eq {e : Expr} {r : Str × Pos} (h : vName e = some r) : e = .Name r.1 r.2 := by
  cases e <;> simp only [vName, reduceCtorEq, Option.some.injEq] at h; subst h; rfl
def vCst : Expr → Option (Const × Nat × Pos)
  | .Constant c k p => some (c, k, p)
  | _ => none
theorem vCst_eq {e : Expr} {r : Const × Nat × Pos} (h : vCst e = some r) : e = .Constant r.1 r.2.1 r.2.2 := by
  cases e <;> simp only [vCst, reduceCtorEq, Option.some.injEq] at h; subst h; rfl
def vBin : Expr → Option (Expr × Operator × Expr × Pos)
  | .BinOp a o b p => some (a, o, b, p)
  | _ => none
theorem vBin_eq {e : Expr} {r : Expr × Operator × Expr × Pos} (h : vBin e = some r) : e = .BinOp r.1 r.2.1 r.2.2.1 r.2.2.2 := by
  cases e <;> simp only [vBin, reduceCtorEq, Option.some.injEq] at h; subst h; rfl
def vUn : Expr → Option (UnaryOp × Expr × Pos)
  | .UnaryOp o a p => some (o, a, p)
  | _ => none
theorem vUn_eq {e : Expr} {r : UnaryOp × Expr × Pos} (h : vUn e = some r) : e = .UnaryOp r.1 r.2.1 r.2.2 := by
  cases e <;> simp only [vUn, reduceCtorEq, Option.some.injEq] at h; subst h; rfl
def vRev : Expr → Option (Expr × Nat × Pos × Pos × Pos × Pos)
  | .Subscript e (.Slice none none (some (.UnaryOp .USub (.Constant (.int 1) k p1) p2)) p3) p => some (e, k, p1, p2, p3, p)
  | _ => none
theorem vRev_eq {e : Expr} {r : Expr × Nat × Pos × Pos × Pos × Pos} (h : vRev e = some r) : e = .Subscript r.1 (.Slice none none (some (.UnaryOp .USub (.Constant (.int 1) r.2.1 r.2.2.1) r.2.2.2.1)) r.2.2.2.2.1) r.2.2.2.2.2 := by
  unfold vRev at h
  split at h
  · cases h; rfl
  · cases h
def vCmp : Expr → Option (Expr × List CmpOp × List Expr × Pos)
  | .Compare a o b p => some (a, o, b, p)
  | _ => none
theorem vCmp_eq {e : Expr} {r : Expr × List CmpOp × List Expr × Pos} (h : vCmp e = some r) : e = .Compare r.1 r.2.1 r.2.2.1 r.2.2.2 := by
  cases e <;> simp only [vCmp, reduceCtorEq, Option.some.injEq] at h; subst h; rfl
def vBool : Expr → Option (BoolOp × List Expr × Pos)
  | .BoolOp o a p => some (o, a, p)
  | _ => none
theorem vBool_eq {e : Expr} {r : BoolOp × List Expr × Pos} (h : vBool e = some r) : e = .BoolOp r.1 r.2.1 r.2.2 := by
  cases e <;> simp only [vBool, reduceCtorEq, Option.some.injEq] at h; subst h; rfl
def vIf : Expr → Option (Expr × Expr × Expr × Pos)
  | .IfExp a b c p => some (a, b, c, p)
  | _ => none
theorem vIf_eq {e : Expr} {r : Expr × Expr × Expr × Pos} (h : vIf e = some r) : e = .IfExp r.1 r.2.1 r.2.2.1 r.2.2.2 := by
  cases e <;> simp only [vIf, reduceCtorEq, Option.some.injEq] at h; subst h; rfl
def vTup : Expr → Option (List Expr × Nat × Pos)
  | .Tuple a b p => some (a, b, p)
  | _ => none
theorem vTup_eq {e : Expr} {r : List Expr × Nat × Pos} (h : vTup e = some r) : e = .Tuple r.1 r.2.1 r.2.2 := by
  cases e <;> simp only [vTup, reduceCtorEq, Option.some.injEq] at h; subst h; rfl
def vLst : Expr → Option (List Expr × Pos)
  | .List a p => some (a, p)
  | _ => none
theorem vLst_eq {e : Expr} {r : List Expr × Pos} (h : vLst e = some r) : e = .List r.1 r.2 := by
  cases e <;> simp only [vLst, reduceCtorEq, Option.some.injEq] at h; subst h; rfl
def vDic0 : Expr → Bool
  | .Dict [] [] _ => true
  | _ => false
theorem vDic0_eq {e : Expr} (h : vDic0 e = true) : ∃ p, e = .Dict [] [] p := by
  unfold vDic0 at h
  split at h
  · exact ⟨_, rfl⟩
  · cases h
def vSub : Expr → Option (Expr × Expr × Pos)
  | .Subscript a b p => some (a, b, p)
  | _ => none
theorem vSub_eq {e : Expr} {r : Expr × Expr × Pos} (h : vSub e = some r) : e = .Subscript r.1 r.2.1 r.2.2 := by
  cases e <;> simp only [vSub, reduceCtorEq, Option.some.injEq] at h; subst h; rfl
def vSli : Expr → Option (Option Expr × Option Expr × Option Expr × Pos)
  | .Slice a b c p => some (a, b, c, p)
  | _ => none
theorem vSli_eq {e : Expr} {r : Option Expr × Option Expr × Option Expr × Pos} (h : vSli e = some r) : e = .Slice r.1 r.2.1 r.2.2.1 r.2.2.2 := by
  cases e <;> simp only [vSli, reduceCtorEq, Option.some.injEq] at h; subst h; rfl
def vCall : Expr → Option (Expr × List Expr × List Keyword × Pos)
  | .Call a b c p => some (a, b, c, p)
  | _ => none
theorem vCall_eq {e : Expr} {r : Expr × List Expr × List Keyword × Pos} (h : vCall e = some r) : e = .Call r.1 r.2.1 r.2.2.1 r.2.2.2 := by
  cases e <;> simp only [vCall, reduceCtorEq, Option.some.injEq] at h; subst h; rfl
def vAtt : Expr → Option (Expr × Str × Pos)
  | .Attribute a b p => some (a, b, p)
  | _ => none
theorem vAtt_eq {e : Expr} {r : Expr × Str × Pos} (h : vAtt e = some r) : e = .Attribute r.1 r.2.1 r.2.2 := by
  cases e <;> simp only [vAtt, reduceCtorEq, Option.some.injEq] at h; subst h; rfl
def vLC : Expr → Option (Expr × List Comprehension × Scope × Pos)
  | .ListComp a b c p => some (a, b, c, p)
  | _ => none
theorem vLC_eq {e : Expr} {r : Expr × List Comprehension × Scope × Pos} (h : vLC e = some r) : e = .ListComp r.1 r.2.1 r.2.2.1 r.2.2.2 := by
  cases e <;> simp only [vLC, reduceCtorEq, Option.some.injEq] at h; subst h; rfl

def vLam : Expr → Option (Arguments × Expr × Scope × Pos)
  | .Lambda a b c p => some (a, b, c, p)
  | _ => none
theorem vLam_eq {e : Expr} {r : Arguments × Expr × Scope × Pos} (h : vLam e = some r) : e = .Lambda r.1 r.2.1 r.2.2.1 r.2.2.2 := by
  cases e <;> simp only [vLam, reduceCtorEq, Option.some.injEq] at h; subst h; rfl
/-- no parameters -/
def noArgs : Arguments → Bool
  | ⟨[], [], none, [], [], none, []⟩ => true
  | _ => false
theorem noArgs_eq {a : Arguments} (h : noArgs a = true) : a = ⟨[], [], none, [], [], none, []⟩ := by
  unfold noArgs at h
  split at h
  · rfl
  · cases h
/-- its names: the parameter, else captured ones and globals -/
structure LamD (o : Str) (sc scope : Scope) : Prop where
  kd : scope.kind = .function
  ct : scope.isCoroutine = false
  gt : scope.isGenerator = false
  nm : ∀ y ∈ scope.names, y.2 ≠ .cell ∧ (y.2 = .local → y.1 = o)
  pr : scope.names.lookup o = some .local
  fr : ∀ y ∈ scope.names, y.2 = .free → sc.names.lookup y.1 = some .cell ∨ sc.names.lookup y.1 = some .free
def lamDB (o : Str) (sc scope : Scope) : Bool :=
  decide (scope.kind = .function) && !scope.isCoroutine && !scope.isGenerator && decide (scope.names.lookup o = some .local) && scope.names.all fun y => !decide (y.2 = .cell) && (!decide (y.2 = .local) || decide (y.1 = o)) && (!decide (y.2 = .free) || (decide (sc.names.lookup y.1 = some .cell) || decide (sc.names.lookup y.1 = some .free)))
theorem lamD_by {o : Str} {sc scope : Scope} (h : lamDB o sc scope = true) : LamD o sc scope := by
  unfold lamDB at h
  simp only [Bool.and_eq_true, Bool.or_eq_true, Bool.not_eq_true', decide_eq_true_eq, decide_eq_false_iff_not, List.all_eq_true] at h
  obtain ⟨⟨⟨⟨a1, a2⟩, a3⟩, a4⟩, a5⟩ := h
  refine ⟨a1, a2, a3, fun y hy => ⟨(a5 y hy).1.1, fun e => (a5 y hy).1.2.resolve_left fun z => z e⟩, a4, fun y hy e => ?_⟩
  rcases (a5 y hy).2 with z | z
  · exact (z e).elim
  · exact z
/-- its parameters -/
abbrev dPar (o : Str) (ap : Pos) (d : Expr) : Arguments := ⟨[], [⟨o, none, ap⟩], none, [], [], none, [d]⟩
def dArg : Arguments → Option Str
  | ⟨[], [⟨o, none, _⟩], none, [], [], none, [.Constant (.int _) _ _]⟩ => some o
  | _ => none
theorem dArg_eq {a : Arguments} {o : Str} (h : dArg a = some o) : ∃ ap i j dp, a = dPar o ap (.Constant (.int i) j dp) := by
  unfold dArg at h
  split at h
  · cases h
    exact ⟨_, _, _, _, rfl⟩
  · cases h
/-! ### what an expression is not -/
def noStar : Expr → Bool
  | .Starred .. => false
  | _ => true
def noComp : Expr → Bool
  | .ListComp .. => false
  | .SetComp .. => false
  | .DictComp .. => false
  | _ => true
def noSet : Expr → Bool
  | .Set .. => false
  | _ => true
def noSli : Expr → Bool
  | .Slice .. => false
  | _ => true
def noSup : Expr → Bool
  | .Call .. => false
  | _ => true
/-- its test is its value's truth -/
def plainT : Expr → Bool
  | .UnaryOp .. => false
  | .BoolOp .. => false
  | .IfExp .. => false
  | .Compare .. => false
  | _ => true
theorem starEach_cons {e : Expr} {es : List Expr} {env : Env} (h : noStar e = true) : starEach (e :: es) env = (false, eval e env) :: starEach es env := by
  cases e <;> first | rfl | cases h
theorem backTo_any {pos : Pos} {env : Env} : ∀ {es : List Expr}, es.all noStar = true → (backTo pos (starEach es env)).any (·.1) = false
  | [], _ => rfl
  | e :: es, h => by
    simp only [List.all_cons, Bool.and_eq_true] at h
    rw [starEach_cons h.1]
    have := backTo_any (pos := pos) (env := env) h.2
    show (false || (backTo pos (starEach es env)).any (·.1)) = false
    rw [this]; rfl
theorem backTo_all {pos : Pos} {env : Env} : ∀ {es : List Expr}, es.all noStar = true → (backTo pos (starEach es env)).all (fun x => !x.1) = true
  | [], _ => rfl
  | e :: es, h => by
    simp only [List.all_cons, Bool.and_eq_true] at h
    rw [starEach_cons h.1]
    have := backTo_all (pos := pos) (env := env) h.2
    show (!false && (backTo pos (starEach es env)).all (fun x => !x.1)) = true
    rw [this]; rfl
theorem swaps_no {e : Expr} {t : Option Expr} {l : Nat} {env : Env} (h : noComp e = true) : swapsWith e t l env = pure false := by
  cases e <;> first | rfl | cases h
theorem folded_no {e : Expr} {env : Env} (h : noSet e = true) (x : Value) : foldedSetIterable e env x = pure x := by
  cases e <;> first | rfl | cases h
theorem marks_no {op : CmpOp} {e : Expr} (h : noSet e = true) : behindInMarks op e = false := by
  cases e <;> first | rfl | cases h
theorem plainIx {e : Expr} (h : noSli e = true) : PlainIx e := fun o i => by
  cases e <;> first | rfl | cases h
theorem attBase {e : Expr} {n : Str} {env : Env} (h : noSup e = true) : attributeBase e n env (eval e env) = eval e env := by
  cases e <;> first | rfl | cases h
theorem plain_true {e : Expr} {env : Env} (h : plainT e = true) (whole : Sem Value) : isTrue e env whole = (do let v ← whole; standAt e.pos; holding [v] (truthy v)) := by
  cases e <;> first | rfl | cases h

/-! ### names -/
def okN (x : Str) : Bool := !(x == ("__debug__" : Str)) && !(x == ("__classdict__" : Str))
theorem okN_d {x : Str} (h : okN x = true) : (x == ("__debug__" : Str)) = false := by
  unfold okN at h
  simp only [Bool.and_eq_true, Bool.not_eq_true'] at h
  exact h.1
theorem okN_c {x : Str} (h : okN x = true) : (x == ("__classdict__" : Str)) = false := by
  unfold okN at h
  simp only [Bool.and_eq_true, Bool.not_eq_true'] at h
  exact h.2
def visB (sc : Scope) (x : Str) : Bool := match sc.names.lookup x with
  | some .local => true
  | some .cell => true
  | some .free => true
  | _ => false
theorem visB_ok {sc : Scope} {x : Str} (h : visB sc x = true) : Vis sc x := by
  unfold visB at h
  unfold Vis
  split at h <;> simp_all
def celB (blk : Option Scope) (x : Str) : Bool := match blk with
  | none => true
  | some raw => match raw.names.lookup x with
    | some .cell => true
    | _ => false
def locB (blk : Option Scope) (sc : Scope) (x : Str) : Bool := match sc.names.lookup x with
  | some .local => true
  | some .cell => celB blk x
  | _ => false
theorem locB_ok {blk : Option Scope} {sc : Scope} {x : Str} (h : locB blk sc x = true) : L2.Loc sc x ∧ (celB blk x = true ∨ sc.names.lookup x = some .local) := by
  unfold locB at h
  unfold L2.Loc
  split at h <;> simp_all
def glB (sc : Scope) (x : Str) : Bool := match sc.names.lookup x with
  | some .globalImplicit => true
  | _ => false
theorem glB_ok {sc : Scope} {x : Str} (h : glB sc x = true) : sc.names.lookup x = some .globalImplicit := by
  unfold glB at h
  split at h <;> simp_all

/-! ### the check -/
def cstB : TV → Const → Bool
  | .non, .none => true
  | .bl a, .bool b => a == b
  | .int i, .int j => decide (i = j)
  | .str s, .str t => decide (s = t)
  | _, _ => false
def ckTg (blk : Option Scope) (N : List Str) (sc : Scope) : Tg → Expr → Bool
  | .name i, e => match vName e with
    | some (x, _) => decide (N[i]? = some x) && locB blk sc x
    | none => false
  | .tup is, e => match vTup e with
    | some (es, _, _) => ckNs blk N sc is es
    | none => false
where
  ckNs (blk : Option Scope) (N : List Str) (sc : Scope) : List Nat → List Expr → Bool
    | [], [] => true
    | i :: is, e :: es => (match vName e with
      | some (x, _) => decide (N[i]? = some x) && locB blk sc x
      | none => false) && ckNs blk N sc is es
    | _, _ => false
def Tg.slots : Tg → List Nat
  | .name i => [i]
  | .tup is => is
mutual
def ckE (N : List Str) : Ex → Scope → Expr → Bool
  | .loc i, sc, e => match vName e with
    | some (x, _) => decide (N[i]? = some x) && visB sc x && okN x
    | none => false
  | .cst v, _, e => match vCst e with
    | some (c, _, _) => cstB v c
    | none => false
  | .glb x _, sc, e => match vName e with
    | some (y, _) => decide (y = x) && glB sc x && okN x && decide (x ≠ ("__name__" : Str))
    | none => false
  | .bin o a b, sc, e => match vBin e with
    | some (x, op, y, _) => decide (op = o.op) && ckE N a sc x && ckE N b sc y
    | none => false
  | .cmp o a b, sc, e => match vCmp e with
    | some (x, [op], [y], _) => decide (op = o.op) && noSet y && ckE N a sc x && ckE N b sc y
    | _ => false
  | .chn o p a b c, sc, e => match vCmp e with
    | some (x, [op, op'], [y, z], _) => decide (op = o.op) && decide (op' = p.op) && noSet z && ckE N a sc x && ckE N b sc y && ckE N c sc z
    | _ => false
  | .neg a, sc, e => match vUn e with
    | some (op, x, _) => decide (op = .USub) && ckE N a sc x
    | none => false
  | .nt a, sc, e => match vUn e with
    | some (op, x, _) => decide (op = .Not) && ckE N a sc x
    | none => false
  | .and a b, sc, e => match vBool e with
    | some (op, x :: y :: r, p) => decide (op = .And) && ckE N a sc x && (match r with
      | [] => ckE N b sc y
      | _ => ckE N b sc (.BoolOp .And (y :: r) p))
    | _ => false
  | .or a b, sc, e => match vBool e with
    | some (op, x :: y :: r, p) => decide (op = .Or) && ckE N a sc x && (match r with
      | [] => ckE N b sc y
      | _ => ckE N b sc (.BoolOp .Or (y :: r) p))
    | _ => false
  | .ite c a b, sc, e => match vIf e with
    | some (z, x, y, _) => ckB N c sc z && ckE N a sc x && ckE N b sc y
    | none => false
  | .tup es, sc, e => match vTup e with
    | some (xs, _, _) => decide (xs.length ≤ 1000) && xs.all noStar && ckEs N es sc xs
    | none => false
  | .lst es, sc, e => match vLst e with
    | some (xs, _) => decide (xs.length ≤ 1000) && xs.all noStar && ckEs N es sc xs
    | none => false
  | .dic0, sc, e => vDic0 e
  | .ix a b, sc, e => match vSub e with
    | some (x, y, _) => noSli y && ckE N a sc x && ckE N b sc y
    | none => false
  | .rv a, sc, e => match vRev e with
    | some (x, _) => ckE N a sc x
    | none => false
  | .sl a lo hi, sc, e => match vSub e with
    | some (x, y, _) => (match vSli y with
      | some (l, h, st, _) => st.isNone && ckE N a sc x && ckO N lo sc l && ckO N hi sc h
      | none => false)
    | none => false
  | .bi f es, sc, e => match vCall e with
    | some (g, x :: xs, [], _) => (match vName g with
      | some (y, _) => decide (y = f.name) && glB sc f.name && (x :: xs).all noStar && ckEs N es sc (x :: xs)
      | none => false)
    | _ => false
  | .call n _ _ es, sc, e => match vCall e with
    | some (g, x :: xs, [], _) => (match vName g with
      | some (y, _) => decide (y = n) && glB sc n && okN n && (x :: xs).all noStar && ckEs N es sc (x :: xs)
      | none => false)
    | _ => false
  | .cav i es, sc, e => match vCall e with
    | some (g, x :: xs, [], _) => (match vName g with
      | some (y, _) => decide (N[i]? = some y) && visB sc y && okN y && (x :: xs).all noStar && ckEs N es sc (x :: xs)
      | none => false)
    | _ => false
  | .mth m o es, sc, e => match vCall e with
    | some (g, xs, [], p) => (match vAtt g with
      | some (x, n, ap) => decide (n = m.name) && noSup x && (ap.endLine == p.line) && decide (xs.length < 25) && xs.all noStar && ckE N o sc x && ckEs N es sc xs
      | none => false)
    | _ => false
  | .lam x _ _ _ _ e, sc, ex => match vCall ex with
    | some (g, [l], [], _) => (match vName g, vLam l with
      | some (y, _), some (ps, b, scope, _) => decide (y = x) && glB sc x && okN x && noArgs ps && LamX.lamSB sc scope && ckE N e scope b
      | _, _ => false)
    | _ => false
  | .lamd x _ _ _ _ e, sc, ex => match vCall ex with
    | some (g, [l], [], _) => (match vName g, vLam l with
      | some (y, _), some (ps, b, scope, _) => (match dArg ps with
        | some o => decide (y = x) && glB sc x && okN x && (decide (o = ("of" : Str)) || decide (o = ("size" : Str))) && !(N.contains o) && lamDB o sc scope && ckE N e scope b
        | none => false)
      | _, _ => false)
    | _ => false
  | .rep e, sc, ex => match vCall ex with
    | some (g, [u], [], _) => (match vName g with
      | some (z, _) => decide (z = ("repr" : Str)) && glB sc "repr" && noStar u && ckE N e sc u
      | _ => false)
    | _ => false
  | .ise i _ _ y _ _, sc, ex => match vCall ex with
    | some (g, [u, v], [], _) => (match vName g, vName u, vName v with
      | some (z, _), some (n, _), some (w, _) => decide (z = ("isinstance" : Str)) && glB sc "isinstance" && decide (N[i]? = some n) && visB sc n && okN n && decide (w = y) && glB sc y && okN y && decide (y ≠ ("__name__" : Str))
      | _, _, _ => false)
    | _ => false
  | .lc tg it c el own, sc, e => match vLC e with
    | some (x, [⟨t, i, fs, a⟩], bs, _) => decide (a = 0) && noSet i && blkC N sc bs own && tg.slots.all (fun j => (own.map (·.2)).contains j) && ckTg (some bs) N (relS bs sc) tg t && ckI N it sc (vTup t).isSome i &&
        ckBo N c (relS bs sc) fs && ckE N el (relS bs sc) x
    | _ => false
  | .lc2 tg it c tg1 it1 c1 el own vs1, sc, e => match vLC e with
    | some (x, [⟨t, i, fs, a⟩, ⟨t1, i1, fs1, a1⟩], bs, _) => decide (a = 0) && decide (a1 = 0) && noSet i && noSet i1 && blkC N sc bs own && tg.slots.all (fun j => (own.map (·.2)).contains j) && tg1.slots.all (fun j => vs1.contains j) &&
        vs1.all (fun j => (own.map (·.2)).contains j) && ckTg (some bs) N (relS bs sc) tg t && ckTg (some bs) N (relS bs sc) tg1 t1 && ckI N it sc (vTup t).isSome i && ckI N it1 (relS bs sc) (vTup t1).isSome i1 && ckBo N c (relS bs sc) fs && ckBo N c1 (relS bs sc) fs1 && ckE N el (relS bs sc) x
    | _ => false
def ckEs (N : List Str) : Exs → Scope → List Expr → Bool
  | .nil, _, [] => true
  | .cons e r, sc, x :: xs => ckE N e sc x && ckEs N r sc xs
  | _, _, _ => false
def ckO (N : List Str) : Exo → Scope → Option Expr → Bool
  | .no, _, none => true
  | .so e, sc, some x => ckE N e sc x
  | _, _, _ => false
def ckB (N : List Str) : Bx → Scope → Expr → Bool
  | .val e, sc, x => ckE N e sc x && (plainT x || (vCmp x).isSome)
  | .and a b, sc, e => match vBool e with
    | some (op, x :: y :: r, p) => decide (op = .And) && ckB N a sc x && (match r with
      | [] => ckB N b sc y
      | _ => ckB N b sc (.BoolOp .And (y :: r) p))
    | _ => false
  | .or a b, sc, e => match vBool e with
    | some (op, x :: y :: r, p) => decide (op = .Or) && ckB N a sc x && (match r with
      | [] => ckB N b sc y
      | _ => ckB N b sc (.BoolOp .Or (y :: r) p))
    | _ => false
  | .nt a, sc, e => match vUn e with
    | some (op, x, _) => decide (op = .Not) && ckB N a sc x
    | none => false
def ckBo (N : List Str) : Bo → Scope → List Expr → Bool
  | .no, _, [] => true
  | .so b, sc, [x] => ckB N b sc x
  | _, _, _ => false
def ckI (N : List Str) : It → Scope → Bool → Expr → Bool
  | .seq e, sc, _, x => ckE N e sc x
  | .rng1 a, sc, _, e => match vCall e with
    | some (g, [x], [], _) => (match vName g with
      | some (y, _) => decide (y = ("range" : Str)) && glB sc "range" && noStar x && ckE N a sc x
      | none => false)
    | _ => false
  | .rng2 a b, sc, _, e => match vCall e with
    | some (g, [x, z], [], _) => (match vName g with
      | some (y, _) => decide (y = ("range" : Str)) && glB sc "range" && noStar x && noStar z && ckE N a sc x && ckE N b sc z
      | none => false)
    | _ => false
  | .zip a b, sc, tu, e => match vCall e with
    | some (g, [x, z], [], _) => (match vName g with
      | some (y, _) => tu && decide (y = ("zip" : Str)) && glB sc "zip" && noStar x && noStar z && ckE N a sc x && ckE N b sc z
      | none => false)
    | _ => false
  | .enum a, sc, tu, e => match vCall e with
    | some (g, [x], [], _) => (match vName g with
      | some (y, _) => tu && decide (y = ("enumerate" : Str)) && glB sc "enumerate" && noStar x && ckE N a sc x
      | none => false)
    | _ => false
end
end TL

/-! TSound1: contexts, calls, targets, what is walked. -/
namespace TL
open PySem PySem.Spec PyProof.Rows L2

/-- what stands through a whole law -/
structure Gx where
  prog : Program
  w : World
  K : PySem.W.Frag
  mg : Str → Option Value
  base : Heap
/-- what is known of the def: how deep, its name, its code, what is handled, what was handed in -/
structure CtI where
  k : Nat
  q : Str
  c : Value
  hot : Option (Addr × Value)
  thk : Option (Str × Addr × (Hp → Prop) × Thk)
  grd : Bool
/-- a context of the check -/
structure Sta (G : Gx) (N : List Str) (k : CtI) (sc : Scope) (blk : Option Scope) (X : Cx) : Prop where
  hP : X.prog = G.prog
  hw : X.w = G.w
  hK : X.K = G.K
  hm : X.mg = G.mg
  hb : X.base = G.base
  hN : X.N = N
  nd : N.Nodup
  hsc : X.env.scope = sc
  calm : k.hot = none → X.calm = true
  room : k.hot = none → Room k.k X.A
  units : X.A.units + 64 < cLine
  grd : k.grd = true → X.A.guards = some []
  fn : ∀ x, celB blk x = true → X.fn x = true
  hq : k.c ≠ .none → X.env.qual = k.q
  hcd : k.c ≠ .none → X.env.code = k.c
  exn : ∀ a D, k.hot = some (a, D) → ∃ (Y : Cx) (oe : Obj) (pn : List (Addr × Obj)), X = Y.suite a ((a, oe) :: pn) ∧ Zc D none oe ∧ ∃ vs, oe.data = .fields vs
section
variable {G : Gx} {N : List Str} {k : CtI} {sc : Scope} {blk : Option Scope} {X : Cx}
theorem Sta.vis (S : Sta G N k sc blk X) {x : Str} (h : visB sc x = true) : Vis X.env.scope x := by rw [S.hsc]; exact visB_ok h
theorem Sta.gl (S : Sta G N k sc blk X) {x : Str} (h : glB sc x = true) : Gl X x := by
  show X.env.scope.names.lookup x = some .globalImplicit
  rw [S.hsc]; exact glB_ok h
theorem Sta.loc (S : Sta G N k sc blk X) {x : Str} (h : locB blk sc x = true) : L2.Loc X.env.scope x ∧ (X.fn x = true ∨ X.env.scope.names.lookup x = some .local) := by
  obtain ⟨h1, h2⟩ := locB_ok h
  rw [S.hsc]
  refine ⟨h1, ?_⟩
  rcases h2 with h2 | h2
  · exact .inl (S.fn x h2)
  · exact .inr h2
theorem Sta.slot (S : Sta G N k sc blk X) {i : Nat} {x : Str} (h : decide (N[i]? = some x) = true) : X.N[i]? = some x := by rw [S.hN]; exact of_decide_eq_true h
theorem Sta.ndX (S : Sta G N k sc blk X) : X.N.Nodup := by rw [S.hN]; exact S.nd
/-- the context of a comprehension's block -/
theorem Sta.block (S : Sta G N k sc blk X) (hk : k.hot = none) (s : Shared) (H : Hp) (scope : Scope) (C : Addr) (cl : List (Str × Addr)) (fp : List Addr) : Sta G N k (relS scope sc) (some scope) (X.blk s H scope (compEnvC scope cl C X.env) fp) :=
  ⟨S.hP, S.hw, S.hK, S.hm, S.hb, S.hN, S.nd, by rw [← S.hsc]; rfl, S.calm, S.room, S.units, S.grd, (fun x h => by
    show (scope.names.lookup x == some .cell) = true
    unfold celB at h
    dsimp only at h
    split at h
    · rename_i e; rw [e]; rfl
    · cases h), S.hq, S.hcd, fun a D z => (by rw [hk] at z; cases z)⟩
end

/-! ### calls -/
def LSp (K : PySem.W.Frag) (sp : TSp) : Sp := fun vs H Q' E' => ∃ xs M Q R, Rvs K H xs vs ∧ RepM K H M ∧ sp xs M Q R ∧ Cont K H M Q Q' ∧ (∀ x cls d H' M', Post K H M H' M' → Rx K H' x cls d → R x M' → E' cls d H')
/-- the def at f keeps a promise over trees -/
def HeldT (G : Gx) (k : Nat) (f : Addr) (sp : TSp) : Prop := ∃ fd ps ds dvs dv sp0, PySem.W.keepIn G.K (.ref f) = true ∧ Binds G.K fd ps ds ∧ Vals dvs ds ∧ (∀ H, Rvs G.K H dv dvs) ∧ FnOk G.prog G.w G.K G.mg G.base (L2.CX G.prog G.w) k f fd ps (LSp G.K sp0) ∧ ∀ xs M Q R, sp xs M Q R → sp0 (xs ++ dv) M Q R
theorem HeldT.mono {G : Gx} {j k : Nat} {f : Addr} {sp : TSp} (h : HeldT G j f sp) (l : j ≤ k) : HeldT G k f sp := by
  obtain ⟨fd, ps, ds, dvs, dv, sp0, h1, h2, h3, h4, h5, h6⟩ := h
  exact ⟨fd, ps, ds, dvs, dv, sp0, h1, h2, h3, h4, h5.mono l, h6⟩
theorem HeldT.imp {G : Gx} {k : Nat} {f : Addr} {sp sp' : TSp} (h : HeldT G k f sp) (i : ∀ xs M Q R, sp' xs M Q R → sp xs M Q R) : HeldT G k f sp' := by
  obtain ⟨fd, ps, ds, dvs, dv, sp0, h1, h2, h3, h4, h5, h6⟩ := h
  exact ⟨fd, ps, ds, dvs, dv, sp0, h1, h2, h3, h4, h5, fun xs M Q R q => h6 _ _ _ _ (i _ _ _ _ q)⟩
/-- a def's promise where no guard stands around -/
structure FnG (P : Program) (w : World) (K : PySem.W.Frag) (mg : Str → Option Value) (base : Heap) (k : Nat) (f : Addr) (fd : FuncData) (ps : List Str) (sp : Sp) : Prop where
  len : ∀ vs H Q E, sp vs H Q E → vs.length = ps.length
  run : ∀ (A : Around) (outer : List Env) (s : Shared) (H : Hp) (args : Args) (us : List Value) (vs : List V) (Q : VK) (E : XK), Room k A → A.guards = some [] → Env0 P w K mg base A outer s H → BindsTo s fd args (ps.zip us) → Vals vs us → sp vs H Q E → codeAny (model P w) A (.call (.ref f) args) (CR (L2.CX P w) outer P w H s Q E) s
theorem FnG.mono {P : Program} {w : World} {K : PySem.W.Frag} {mg : Str → Option Value} {base : Heap} {j k : Nat} {f : Addr} {fd : FuncData} {ps : List Str} {sp : Sp} (F : FnG P w K mg base j f fd ps sp) (h : j ≤ k) : FnG P w K mg base k f fd ps sp := ⟨F.len, fun A outer s H args us vs Q E hr => F.run A outer s H args us vs Q E (hr.mono h)⟩
/-- the def at f keeps a promise over trees, where no guard stands around -/
def HeldG (G : Gx) (k : Nat) (f : Addr) (sp : TSp) : Prop := ∃ fd ps ds dvs dv sp0, PySem.W.keepIn G.K (.ref f) = true ∧ Binds G.K fd ps ds ∧ Vals dvs ds ∧ (∀ H, Rvs G.K H dv dvs) ∧ FnG G.prog G.w G.K G.mg G.base k f fd ps (LSp G.K sp0) ∧ ∀ xs M Q R, sp xs M Q R → sp0 (xs ++ dv) M Q R
theorem HeldG.mono {G : Gx} {j k : Nat} {f : Addr} {sp : TSp} (h : HeldG G j f sp) (l : j ≤ k) : HeldG G k f sp := by
  obtain ⟨fd, ps, ds, dvs, dv, sp0, h1, h2, h3, h4, h5, h6⟩ := h
  exact ⟨fd, ps, ds, dvs, dv, sp0, h1, h2, h3, h4, h5.mono l, h6⟩
theorem HeldT.g {G : Gx} {k : Nat} {f : Addr} {sp : TSp} (h : HeldT G k f sp) : HeldG G k f sp := by
  obtain ⟨fd, ps, ds, dvs, dv, sp0, h1, h2, h3, h4, h5, h6⟩ := h
  exact ⟨fd, ps, ds, dvs, dv, sp0, h1, h2, h3, h4, ⟨h5.len, fun A outer s H args us vs Q E hr _ => h5.run A outer s H args us vs Q E hr⟩, h6⟩
def HeldX (G : Gx) : Bool → Nat → Addr → TSp → Prop
  | true => HeldG G
  | false => HeldT G
theorem HeldT.x {G : Gx} {k : Nat} {f : Addr} {sp : TSp} (h : HeldT G k f sp) : ∀ b, HeldX G b k f sp
  | true => h.g
  | false => h
theorem HeldX.mono {G : Gx} {j k : Nat} {f : Addr} {sp : TSp} : ∀ {b : Bool}, HeldX G b j f sp → j ≤ k → HeldX G b k f sp
  | true, h, l => HeldG.mono h l
  | false, h, l => HeldT.mono h l
/-- the callee runs, its defaults filled up -/
theorem run_T {X : Cx} {k : Nat} {f : Addr} {fd : FuncData} {ps : List Str} {sp : Sp} {E : L2.St → XK} {pins : List (Addr × Obj)} {σ : L2.St} {H : Hp} {s : Shared} {Q : VK} {us ds : List Value} {vs dvs : List V} (F : FnOk X.prog X.w X.K X.mg X.base (L2.CX X.prog X.w) k f fd ps sp) (hr : Room k X.A) (hb : Binds X.K fd ps ds) (hd : Vals dvs ds) (hx : PassesAt (L2.CX X.prog X.w) X σ (E σ))
    (I : Inv X pins σ H s) (r : Vals vs us) (h : sp (vs ++ dvs) H Q (E σ)) : wpAny (model X.prog X.w) X.A (call (.ref f) us) (EP X pins σ Q) X.xe s := by
  have r2 := r.append hd
  refine wpAny_call (codeAny_mono (F.run X.A X.stack s H ⟨us, []⟩ (us ++ ds) (vs ++ dvs) Q (E σ) hr I.env0 (hb s us I.kIn (by rw [← r2.length]; exact F.len _ _ _ _ h)) r2 h) fun r s' hq => ?_)
  match r, hq with
  | .error e, hq => exact hx pins H s e s' I hq
  | .ok (.ret u), hq => exact I.after hq
  | .ok .next, hq => exact hq.elim
  | .ok .brk, hq => exact hq.elim
  | .ok .cont, hq => exact hq.elim
theorem run_G {X : Cx} {k : Nat} {f : Addr} {fd : FuncData} {ps : List Str} {sp : Sp} {E : L2.St → XK} {pins : List (Addr × Obj)} {σ : L2.St} {H : Hp} {s : Shared} {Q : VK} {us ds : List Value} {vs dvs : List V} (F : FnG X.prog X.w X.K X.mg X.base k f fd ps sp) (hr : Room k X.A) (hgd : X.A.guards = some []) (hb : Binds X.K fd ps ds) (hd : Vals dvs ds) (hx : PassesAt (L2.CX X.prog X.w) X σ (E σ))
    (I : Inv X pins σ H s) (r : Vals vs us) (h : sp (vs ++ dvs) H Q (E σ)) : wpAny (model X.prog X.w) X.A (call (.ref f) us) (EP X pins σ Q) X.xe s := by
  have r2 := r.append hd
  refine wpAny_call (codeAny_mono (F.run X.A X.stack s H ⟨us, []⟩ (us ++ ds) (vs ++ dvs) Q (E σ) hr hgd I.env0 (hb s us I.kIn (by rw [← r2.length]; exact F.len _ _ _ _ h)) r2 h) fun r s' hq => ?_)
  match r, hq with
  | .error e, hq => exact hx pins H s e s' I hq
  | .ok (.ret u), hq => exact I.after hq
  | .ok .next, hq => exact hq.elim
  | .ok .brk, hq => exact hq.elim
  | .ok .cont, hq => exact hq.elim
/-- what a name of the module holds -/
def GlV (G : Gx) (x : Str) (v : TV) : Prop :=
  (∃ u, G.mg x = some u ∧ ∃ v', RelV v' u ∧ ∀ H, Rv G.K H v v') ∨ (∃ u, G.mg x = none ∧ bootBuiltins x = some u ∧ ∃ v', RelV v' u ∧ ∀ H, Rv G.K H v v')

section
variable {K : PySem.W.Frag} {W : WX} {H H1 : Hp} {M M1 : TM} {Q : TK} {Q' : VK}
theorem Cont.on (c : Cont K H M Q Q') (p : Post K H M H1 M1) : Cont K H1 M1 Q Q' := fun z z' H' M' q rv h => c z z' H' M' (p.trans q) rv h
end

section
variable {X : Cx}
theorem ej_var {i : Nat} {x : Str} {pos : Pos} (hN : X.N[i]? = some x) (hv : Vis X.env.scope x) (hd : (x == ("__debug__" : Str)) = false) (hcd : (x == ("__classdict__" : Str)) = false) :
    EJ X (.Name x pos) (fun σ M Q R => ∃ z, gs σ i = some z ∧ Q z M) := fun W tk => (pe_var hN hv hd hcd).by fun σ' H Q' ⟨σ, M, Q, R, hs, hM, ⟨z, e, q⟩, c, l⟩ => by
  obtain ⟨v, h1, h2⟩ := hs.get (gs_eq e)
  exact ⟨v, h1, c.here hM h2 q⟩
theorem ej_const {e : Expr} {v : TV} {v' : V} (h : PE X e (tC v')) (r : ∀ H, Rv X.K H v v') : EJ X e (fun _ M Q _ => Q v M) := fun W tk => h.by fun σ' H Q' ⟨σ, M, Q, R, hs, hM, q, c, l⟩ => c.here hM (r H) q
theorem ej_bin2 {a b e : Expr} {wa wb : WE} {f : Value → Value → Sem Value} {w : W2} (hf : OpJ X f w) (ha : EJ X a wa) (hb : EJ X b wb)
    (mk : ∀ {ta tb : TE} {r : R2}, OpR X f r → PE X a ta → PE X b tb → PE X e (tOp r ta tb)) :
    EJ X e (fun σ M Q R => wa σ M (fun x M1 => wb σ M1 (fun y M2 => w x y M2 Q) R) R) := fun W tk => (mk hf (ha W tk) (hb W tk)).by fun σ' H Q' ⟨σ, M, Q, R, hs, hM, q, c, l⟩ =>
  ⟨σ, M, _, R, hs, hM, q, fun x v H1 M1 p1 r1 q1 => ⟨σ, M1, _, R, hs.mono (p1.grow hM), p1.rep, q1, fun y u H2 M2 p2 r2 q2 =>
    ⟨x, y, M2, Q, p2.rep, r1.mono (p2.grow p1.rep), r2, q2, (c.on p1).on p2⟩, l.on p1⟩, l⟩
theorem ej_ix {a b : Expr} {wa wb : WE} {pos : Pos} (ha : EJ X a wa) (hb : EJ X b wb) (hs : PlainIx b) :
    EJ X (.Subscript a b pos) (fun σ M Q R => wa σ M (fun x M1 => wb σ M1 (fun y M2 => wIx x y M2 Q) R) R) := fun W tk => (pe_ix ixj (ha W tk) (hb W tk) hs).by fun σ' H Q' ⟨σ, M, Q, R, hs, hM, q, c, l⟩ =>
  ⟨σ, M, _, R, hs, hM, q, fun x v H1 M1 p1 r1 q1 => ⟨σ, M1, _, R, hs.mono (p1.grow hM), p1.rep, q1, fun y u H2 M2 p2 r2 q2 =>
    ⟨x, y, M2, Q, p2.rep, r1.mono (p2.grow p1.rep), r2, q2, (c.on p1).on p2⟩, l.on p1⟩, l⟩
theorem ej_neg {a : Expr} {wa : WE} {pos : Pos} (ha : EJ X a wa) : EJ X (.UnaryOp .USub a pos) (fun σ M Q R => wa σ M (fun x M1 => ∃ i, x = .int i ∧ Q (.int (-i)) M1) R) := fun W tk =>
  (pe_un unj_neg (ha W tk)).by fun σ' H Q' ⟨σ, M, Q, R, hs, hM, q, c, l⟩ =>
  ⟨σ, M, _, R, hs, hM, q, fun x v H1 M1 p1 r1 ⟨i, e, q1⟩ => ⟨x, M1, Q, p1.rep, r1, by subst e; exact q1, c.on p1⟩, l⟩
theorem ej_call {x : Str} {p pos : Pos} {e : Expr} {es : List Expr} {f : Addr} {sp : TSp} {w : WA} {G : Gx} {k : CtI} {N : List Str} {sc : Scope} {blk : Option Scope} (S : Sta G N k sc blk X) (hk : k.hot = none) (hf : HeldT G k.k f sp) (hg : Gl X x) (hm : X.mg x = some (.ref f)) (hx : okN x = true)
    (ha : AJ X (e :: es) w) (he : (e :: es).all noStar = true) : EJ X (.Call (.Name x p) (e :: es) [] pos) (fun σ M Q R => w σ M (fun xs M1 => sp xs M1 Q R) R) := fun W tk => by
  obtain ⟨fd, ps, ds, dvs, dv, sp0, h1, h2, hv, hv2, h3, h4⟩ := hf
  rw [← S.hP, ← S.hw, ← S.hK, ← S.hm, ← S.hb] at h3
  rw [← S.hK] at h1 h2
  simp only [List.all_cons, Bool.and_eq_true] at he
  refine ⟨fun pins s σ' H Q' I h => ?_⟩
  obtain ⟨σ, M, Q, R, hs, hM, q, c, l⟩ := h
  refine wpAny_Call_Name_kw (ld_glob I hg hm ?_ (okN_d hx))
  refine PySem.W.callWith_K (h₀ := X.base) I.ok.mod.kin h1 (thn ((ha W tk).run pos pins s σ' _ (fun vs H2 => LSp X.K sp0 (vs ++ dvs) H2 Q' (L2.WE W σ')) I ?_) fun us s2 ⟨vs, H2, I2, r, q2⟩ => ⟨I2.kIn, ?_⟩) (starEach_cons he.1) (backTo_any he.2)
  · exact ⟨σ, M, _, R, hs, hM, q, fun xs vs H1 M1 hl p1 r1 q1 => ⟨xs ++ dv, M1, Q, R, Rvs.append r1 (by rw [S.hK]; exact hv2 H1), p1.rep, h4 _ _ _ _ q1, c.on p1, fun x cls d H' M' p2 rx hR => l x cls d H' M' (p1.trans p2) rx hR⟩, l⟩
  · exact run_T (E := L2.WE W) h3 (S.room hk) h2 hv (passAt tk σ') I2 r q2
theorem ej_callG {x : Str} {p pos : Pos} {e : Expr} {es : List Expr} {f : Addr} {sp : TSp} {w : WA} {G : Gx} {k : CtI} {N : List Str} {sc : Scope} {blk : Option Scope} (S : Sta G N k sc blk X) (hk : k.hot = none) (hgd : X.A.guards = some []) (hf : HeldG G k.k f sp) (hg : Gl X x) (hm : X.mg x = some (.ref f)) (hx : okN x = true)
    (ha : AJ X (e :: es) w) (he : (e :: es).all noStar = true) : EJ X (.Call (.Name x p) (e :: es) [] pos) (fun σ M Q R => w σ M (fun xs M1 => sp xs M1 Q R) R) := fun W tk => by
  obtain ⟨fd, ps, ds, dvs, dv, sp0, h1, h2, hv, hv2, h3, h4⟩ := hf
  rw [← S.hP, ← S.hw, ← S.hK, ← S.hm, ← S.hb] at h3
  rw [← S.hK] at h1 h2
  simp only [List.all_cons, Bool.and_eq_true] at he
  refine ⟨fun pins s σ' H Q' I h => ?_⟩
  obtain ⟨σ, M, Q, R, hs, hM, q, c, l⟩ := h
  refine wpAny_Call_Name_kw (ld_glob I hg hm ?_ (okN_d hx))
  refine PySem.W.callWith_K (h₀ := X.base) I.ok.mod.kin h1 (thn ((ha W tk).run pos pins s σ' _ (fun vs H2 => LSp X.K sp0 (vs ++ dvs) H2 Q' (L2.WE W σ')) I ?_) fun us s2 ⟨vs, H2, I2, r, q2⟩ => ⟨I2.kIn, ?_⟩) (starEach_cons he.1) (backTo_any he.2)
  · exact ⟨σ, M, _, R, hs, hM, q, fun xs vs H1 M1 hl p1 r1 q1 => ⟨xs ++ dv, M1, Q, R, Rvs.append r1 (by rw [S.hK]; exact hv2 H1), p1.rep, h4 _ _ _ _ q1, c.on p1, fun x cls d H' M' p2 rx hR => l x cls d H' M' (p1.trans p2) rx hR⟩, l⟩
  · exact run_G (E := L2.WE W) h3 (S.room hk) hgd h2 hv (passAt tk σ') I2 r q2
theorem ej_bif {f : Bif} {p pos : Pos} {e : Expr} {es : List Expr} {w : WA} (hc : X.calm = true) (hg : Gl X f.name) (hm : X.mg f.name = none) (ha : AJ X (e :: es) w) (he : (e :: es).all noStar = true) :
    EJ X (.Call (.Name f.name p) (e :: es) [] pos) (fun σ M Q R => w σ M (fun xs M1 => wBif f xs M1 Q) R) := fun W tk => by
  simp only [List.all_cons, Bool.and_eq_true] at he
  have hv := bif_boot f
  have hn : f.name ≠ ("__name__" : Str) := by cases f <;> decide
  have hd : (f.name == ("__debug__" : Str)) = false := by cases f <;> decide
  have key : PE X (.Call (.Name f.name p) (e :: es) [] pos) (tCB (liftC X.K (wBif f)) (LA X.K W (e :: es).length w)) := by
    have cj := caj_bif hc f
    have st := starEach_cons (es := es) (env := X.env) he.1
    have bk := backTo_any (pos := pos) (env := X.env) he.2
    have hA := ha W tk
    unfold CaJ at cj
    cases hvv : f.val with
    | builtin id => rw [hvv] at hv cj; exact pe_callB cj hg hm hv hA hn hd st bk
    | type T => rw [hvv] at hv cj; exact pe_callTy cj hg hm hv hA hn hd st bk
    | _ => exfalso; cases f <;> cases hvv
  exact key.by fun σ' H Q' ⟨σ, M, Q, R, hs, hM, q, c, l⟩ => ⟨σ, M, _, R, hs, hM, q, fun xs vs H1 M1 hl p1 r1 q1 => ⟨xs, M1, Q, p1.rep, r1, q1, c.on p1⟩, l⟩
/-- a def that a slot holds -/
theorem ej_cav {F : Addr → TSp → Prop} {i : Nat} {x : Str} {p pos : Pos} {e : Expr} {es : List Expr} {w : WA} {G : Gx} {k : CtI} {N : List Str} {sc : Scope} {blk : Option Scope} (S : Sta G N k sc blk X) (hk : k.hot = none) (hF : ∀ f sp, F f sp → HeldT G k.k f sp) (hN : X.N[i]? = some x) (hv : Vis X.env.scope x) (hx : okN x = true)
    (ha : AJ X (e :: es) w) (he : (e :: es).all noStar = true) : EJ X (.Call (.Name x p) (e :: es) [] pos) (fun σ M Q R => ∃ f sp, gs σ i = some (.ref f) ∧ F f sp ∧ w σ M (fun xs M1 => sp xs M1 Q R) R) := fun W tk => by
  simp only [List.all_cons, Bool.and_eq_true] at he
  refine ⟨fun pins s σ' H Q' I h => ?_⟩
  obtain ⟨σ, M, Q, R, hs, hM, ⟨f, sp, e1, hf, q⟩, c, l⟩ := h
  obtain ⟨v, h1, h2⟩ := hs.get (gs_eq e1)
  cases h2
  obtain ⟨fd, ps, ds, dvs, dv, sp0, g1, g2, gv, gv2, g3, g4⟩ := hF f sp hf
  rw [← S.hP, ← S.hw, ← S.hK, ← S.hm, ← S.hb] at g3
  rw [← S.hK] at g1 g2
  refine wpAny_Call_Name_kw (thn ((pe_var (pos := p) hN hv (okN_d hx) (okN_c hx)).run pins s σ' H (fun v H1 => v = .ref f ∧ H1 = H) I ⟨.ref f, h1, rfl, rfl⟩) fun u s1 ⟨v, H1, I1, r1, q1⟩ => ?_)
  obtain ⟨rfl, rfl⟩ := q1
  cases r1
  refine PySem.W.callWith_K (h₀ := X.base) I.ok.mod.kin g1 (thn ((ha W tk).run pos pins s1 σ' _ (fun vs H2 => LSp X.K sp0 (vs ++ dvs) H2 Q' (L2.WE W σ')) I1 ?_) fun us s2 ⟨vs, H2, I2, r, q2⟩ => ⟨I2.kIn, ?_⟩) (starEach_cons he.1) (backTo_any he.2)
  · exact ⟨σ, M, _, R, hs, hM, q, fun xs vs H1 M1 hl p1 r1 q1 => ⟨xs ++ dv, M1, Q, R, Rvs.append r1 (by rw [S.hK]; exact gv2 H1), p1.rep, g4 _ _ _ _ q1, c.on p1, fun x cls d H' M' p2 rx hR => l x cls d H' M' (p1.trans p2) rx hR⟩, l⟩
  · exact run_T (E := L2.WE W) g3 (S.room hk) g2 gv (passAt tk σ') I2 r q2
theorem aj_nil : AJ X [] (fun _ M Q _ => Q [] M) := fun W tk => pa_nil.by fun σ' H Q' ⟨σ, M, Q, R, hs, hM, q, c, l⟩ => c [] [] H M rfl (.refl hM) .nil q
theorem aj_cons {e : Expr} {es : List Expr} {we : WE} {wr : WA} (he : EJ X e we) (hr : AJ X es wr) (hs : noStar e = true) : AJ X (e :: es) (fun σ M Q R => we σ M (fun x M1 => wr σ M1 (fun xs M2 => Q (x :: xs) M2) R) R) := fun W tk =>
  (pa_cons (he W tk) (hr W tk) (starEach_cons hs)).by fun σ' H Q' ⟨σ, M, Q, R, hs, hM, q, c, l⟩ =>
  ⟨σ, M, _, R, hs, hM, q, fun x v H1 M1 p1 r1 q1 => ⟨σ, M1, _, R, hs.mono (p1.grow hM), p1.rep, q1, fun xs vs H2 M2 hl p2 r2 q2 =>
    c (x :: xs) (v :: vs) H2 M2 (by simp [hl]) (p1.trans p2) (.cons (r1.mono (p2.grow p1.rep)) r2) q2, l.on p1⟩, l⟩
theorem few_line {n : Nat} (h : n ≤ 1000) : n ≤ sizeLine := by
  have : (1000 : Nat) ≤ sizeLine := by decide
  omega
theorem ej_tup {es : List Expr} {w : WA} {n : Nat} {pos : Pos} (h : AJ X es w) (hz : es.length ≤ 1000) : EJ X (.Tuple es n pos) (fun σ M Q R => w σ M (fun xs M1 => Q (.tup xs) M1) R) := fun W tk =>
  (pe_tup (h W tk)).by fun σ' H Q' ⟨σ, M, Q, R, hs, hM, q, c, l⟩ =>
  ⟨σ, M, _, R, hs, hM, q, fun xs vs H1 M1 hl p1 r1 q1 => ⟨by rw [← r1.length, hl]; exact few_line hz, fun p hp => (c.on p1).tup p1.rep r1 (by rw [hl]; exact few_line hz) q1 hp⟩, l⟩
theorem ej_lst {es : List Expr} {w : WA} {pos : Pos} (h : AJ X es w) (hz : es.length ≤ 1000) : EJ X (.List es pos) (fun σ M Q R => w σ M (fun xs M1 => ∀ p, M1 p = none → Q (.ref p) (updM M1 p (.lst xs))) R) := fun W tk =>
  (pe_lst (h W tk)).by fun σ' H Q' ⟨σ, M, Q, R, hs, hM, q, c, l⟩ =>
  ⟨σ, M, _, R, hs, hM, q, fun xs vs H1 M1 hl p1 r1 q1 => ⟨by rw [← r1.length, hl]; exact few_line hz, fun p hp => (c.on p1).lst p1.rep r1 (by rw [hl]; exact few_line hz) q1 hp⟩, l⟩

theorem ej_dic0 {pos : Pos} : EJ X (.Dict [] [] pos) (fun σ M Q R => ∀ p, M p = none → Q (.ref p) (updM M p (.dic []))) := fun W tk =>
  (pe_dnewK (pos := pos)).by fun σ' H Q' ⟨σ, M, Q, R, hs, hM, q, c, l⟩ => fun p hp => c _ _ _ _ (Post.new_dic0 hM hp) (.ref p) (q p (hM.fresh hp))
/-! ### tests -/
theorem tj_val {e : Expr} {w : WE} (h : EJ X e w) (hp : plainT e = true) : TJ X e (fun σ M Q R => w σ M (fun x M1 => wTru x M1 Q) R) := fun W tk =>
  (pt_truth (h W tk) (plain_true hp)).by fun σ' H Q' ⟨σ, M, Q, R, hs, hM, q, c, l⟩ =>
  ⟨σ, M, _, R, hs, hM, q, fun x v H1 M1 p1 r1 ⟨b, e, q1⟩ => ⟨b, truT_ok p1.rep r1 e, c b H1 M1 p1 q1⟩, l⟩
theorem wCop_tru {o : COp} {x y : TV} {M : TM} {Q : Bool → TM → Prop} (h : wCop o x y M (fun z M3 => wTru z M3 Q)) : wCop o x y M (fun z M3 => ∃ b, z = .bl b ∧ Q b M3) := by
  obtain ⟨b, e, b', e', q⟩ := h
  cases e'
  exact ⟨b, e, b, rfl, q⟩
theorem tj_cmp {o : COp} {a b : Expr} {wa wb : WE} {pos : Pos} (hu : X.A.units + 64 < cLine) (ha : EJ X a wa) (hb : EJ X b wb) (hn : noSet b = true) :
    TJ X (.Compare a [o.op] [b] pos) (fun σ M Q R => wa σ M (fun x M1 => wb σ M1 (fun y M2 => wCop o x y M2 (fun z M3 => wTru z M3 Q)) R) R) := fun W tk =>
  (pt_cmpR (opj_cop hu o) (ha W tk) (hb W tk) (marks_no hn)).by fun σ' H Q' ⟨σ, M, Q, R, hs, hM, q, c, l⟩ =>
  ⟨σ, M, _, R, hs, hM, q, fun x v H1 M1 p1 r1 q1 => ⟨σ, M1, _, R, hs.mono (p1.grow hM), p1.rep, q1, fun y u H2 M2 p2 r2 q2 =>
    ⟨x, y, M2, _, p2.rep, r1.mono (p2.grow p1.rep), r2, wCop_tru q2, fun z z' H3 M3 p3 r3 ⟨b, e, q3⟩ => by
      subst e
      cases r3
      exact ⟨b, rfl, c b H3 M3 ((p1.trans p2).trans p3) q3⟩⟩, l.on p1⟩, l⟩
/-- a comparison's answer, chained -/
theorem ej_chn {o p : COp} {a b d : Expr} {wa wb wd : WE} {pos : Pos} (hu : X.A.units + 64 < cLine) (ha : EJ X a wa) (hb : EJ X b wb) (hd : EJ X d wd) (hn : noSet d = true) :
    EJ X (.Compare a [o.op, p.op] [b, d] pos) (fun σ M Q R => wa σ M (fun x M1 => wb σ M1 (fun y M2 => ∃ k, cmpF o M2 x y = some k ∧
      (if k = true then wd σ M2 (fun z M3 => wCop p y z M3 Q) R else Q (.bl false) M2)) R) R) := fun W tk =>
  (pe_chain (opj_cop hu o) (opj_cop hu p) (ha W tk) (hb W tk) (hd W tk) (marks_no (op := p.op) hn)).by fun σ' H Q' ⟨σ, M, Q, R, hs, hM, q, c, l⟩ =>
  ⟨σ, M, _, R, hs, hM, q, fun x v H1 M1 p1 r1 q1 => ⟨σ, M1, _, R, hs.mono (p1.grow hM), p1.rep, q1, fun y u H2 M2 p2 r2 ⟨kk, e, q2⟩ =>
    ⟨x, y, M2, fun z M3 => z = .bl kk ∧ (if kk = true then wd σ M3 (fun z M4 => wCop p y z M4 Q) R else Q (.bl false) M3), p2.rep, r1.mono (p2.grow p1.rep), r2, ⟨kk, e, rfl, q2⟩, fun z z' H3 M3 p3 r3 ⟨ez, q3⟩ => by
      subst ez
      cases r3
      refine ⟨kk, rfl, ?_⟩
      have p13 := (p1.trans p2).trans p3
      cases kk with
      | false => exact c _ _ H3 M3 p13 (.bl _) q3
      | true =>
        rw [if_pos rfl] at q3 ⊢
        exact ⟨σ, M3, _, R, hs.mono (p13.grow hM), p3.rep, q3, fun z u3 H4 M4 p4 r4 q4 => ⟨y, z, M4, Q, p4.rep, (r2.mono (p3.grow p2.rep)).mono (p4.grow p3.rep), r4, q4, (c.on p13).on p4⟩, l.on p13⟩⟩, l.on p1⟩, l⟩
theorem tj_chn {o p : COp} {a b d : Expr} {wa wb wd : WE} {pos : Pos} (hu : X.A.units + 64 < cLine) (ha : EJ X a wa) (hb : EJ X b wb) (hd : EJ X d wd) (hn : noSet d = true) :
    TJ X (.Compare a [o.op, p.op] [b, d] pos) (fun σ M Q R => wa σ M (fun x M1 => wb σ M1 (fun y M2 => ∃ k, cmpF o M2 x y = some k ∧
      (if k = true then wd σ M2 (fun z M3 => wCop p y z M3 (fun z M4 => wTru z M4 Q)) R else wTru (.bl false) M2 Q)) R) R) := fun W tk =>
  (pt_chain (opj_cop hu o) (opj_cop hu p) (ha W tk) (hb W tk) (hd W tk) (marks_no (op := p.op) hn)).by fun σ' H Q' ⟨σ, M, Q, R, hs, hM, q, c, l⟩ =>
  ⟨σ, M, _, R, hs, hM, q, fun x v H1 M1 p1 r1 q1 => ⟨σ, M1, _, R, hs.mono (p1.grow hM), p1.rep, q1, fun y u H2 M2 p2 r2 ⟨kk, e, q2⟩ =>
    ⟨x, y, M2, fun z M3 => z = .bl kk ∧ (if kk = true then wd σ M3 (fun z M4 => wCop p y z M4 (fun z M5 => wTru z M5 Q)) R else wTru (.bl false) M3 Q), p2.rep, r1.mono (p2.grow p1.rep), r2, ⟨kk, e, rfl, q2⟩, fun z z' H3 M3 p3 r3 ⟨ez, q3⟩ => by
      subst ez
      cases r3
      refine ⟨kk, rfl, ?_⟩
      have p13 := (p1.trans p2).trans p3
      cases kk with
      | false =>
        obtain ⟨b', e', q4⟩ := q3
        cases e'
        exact ⟨false, rfl, c _ H3 M3 p13 q4⟩
      | true =>
        rw [if_pos rfl] at q3 ⊢
        exact ⟨σ, M3, _, R, hs.mono (p13.grow hM), p3.rep, q3, fun z u3 H4 M4 p4 r4 q4 => ⟨y, z, M4, _, p4.rep, (r2.mono (p3.grow p2.rep)).mono (p4.grow p3.rep), r4, wCop_tru q4, fun z2 z2' H5 M5 p5 r5 ⟨b, e5, q5⟩ => by
          subst e5
          cases r5
          exact ⟨b, rfl, c b H5 M5 ((p13.trans p4).trans p5) q5⟩⟩, l.on p13⟩⟩, l.on p1⟩, l⟩
theorem tj_not {a : Expr} {w : WT} {pos : Pos} (h : TJ X a w) : TJ X (.UnaryOp .Not a pos) (fun σ M Q R => w σ M (fun k M1 => Q (!k) M1) R) := fun W tk =>
  (pt_not (h W tk)).by fun σ' H Q' ⟨σ, M, Q, R, hs, hM, q, c, l⟩ => ⟨σ, M, _, R, hs, hM, q, fun b H1 M1 p1 q1 => c (!b) H1 M1 p1 q1, l⟩
theorem uj_and1 {a : Expr} {w : WT} {pos : Pos} (h : TJ X a w) : UJ X (.BoolOp .And [a] pos) w := fun W tk => pw_and1 (h W tk)
theorem uj_or1 {a : Expr} {w : WT} {pos : Pos} (h : TJ X a w) : UJ X (.BoolOp .Or [a] pos) w := fun W tk => pw_or1 (h W tk)
theorem uj_and {a b : Expr} {r : List Expr} {w w' : WT} {pos : Pos} (h : TJ X a w) (h' : UJ X (.BoolOp .And (b :: r) pos) w') :
    UJ X (.BoolOp .And (a :: b :: r) pos) (fun σ M Q R => w σ M (fun k M1 => if k = true then w' σ M1 Q R else Q false M1) R) := fun W tk =>
  (pw_and (h W tk) (h' W tk)).by fun σ' H Q' ⟨σ, M, Q, R, hs, hM, q, c, l⟩ => ⟨σ, M, _, R, hs, hM, q, fun b H1 M1 p1 q1 => by
    cases b with
    | false => exact c false H1 M1 p1 q1
    | true => exact ⟨σ, M1, Q, R, hs.mono (p1.grow hM), p1.rep, q1, fun b H2 M2 p2 q2 => c b H2 M2 (p1.trans p2) q2, l.on p1⟩, l⟩
theorem uj_or {a b : Expr} {r : List Expr} {w w' : WT} {pos : Pos} (h : TJ X a w) (h' : UJ X (.BoolOp .Or (b :: r) pos) w') :
    UJ X (.BoolOp .Or (a :: b :: r) pos) (fun σ M Q R => w σ M (fun k M1 => if k = true then Q true M1 else w' σ M1 Q R) R) := fun W tk =>
  (pw_or (h W tk) (h' W tk)).by fun σ' H Q' ⟨σ, M, Q, R, hs, hM, q, c, l⟩ => ⟨σ, M, _, R, hs, hM, q, fun b H1 M1 p1 q1 => by
    cases b with
    | true => exact c true H1 M1 p1 q1
    | false => exact ⟨σ, M1, Q, R, hs.mono (p1.grow hM), p1.rep, q1, fun b H2 M2 p2 q2 => c b H2 M2 (p1.trans p2) q2, l.on p1⟩, l⟩
theorem UJ.tj {e : Expr} {w : WT} (h : UJ X e w) : TJ X e w := fun W tk => (h W tk).pt
theorem ej_ite {c a b : Expr} {wc : WT} {wa wb : WE} {pos : Pos} (hc : TJ X c wc) (ha : EJ X a wa) (hb : EJ X b wb) :
    EJ X (.IfExp c a b pos) (fun σ M Q R => wc σ M (fun k M1 => if k = true then wa σ M1 Q R else wb σ M1 Q R) R) := fun W tk =>
  (pe_ifExp (hc W tk) (ha W tk) (hb W tk)).by fun σ' H Q' ⟨σ, M, Q, R, hs, hM, q, c, l⟩ => ⟨σ, M, _, R, hs, hM, q, fun b H1 M1 p1 q1 => by
    cases b with
    | true => exact ⟨σ, M1, Q, R, hs.mono (p1.grow hM), p1.rep, q1, c.on p1, l.on p1⟩
    | false => exact ⟨σ, M1, Q, R, hs.mono (p1.grow hM), p1.rep, q1, c.on p1, l.on p1⟩, l⟩
/-! ### and, or, not as values -/
theorem ej_nt {a : Expr} {wa : WE} {pos : Pos} (ha : EJ X a wa) : EJ X (.UnaryOp .Not a pos) (fun σ M Q R => wa σ M (fun x M1 => ∃ k, truT M1 x = some k ∧ Q (.bl (!k)) M1) R) := fun W tk =>
  (pe_notT (ha W tk)).by fun σ' H Q' ⟨σ, M, Q, R, hs, hM, q, c, l⟩ =>
  ⟨σ, M, _, R, hs, hM, q, fun x v H1 M1 p1 r1 ⟨k, e, q1⟩ => ⟨k, truT_ok p1.rep r1 e, c _ _ H1 M1 p1 (.bl _) q1⟩, l⟩
theorem ej_one {op : BoolOp} {a : Expr} {wa : WE} {pos : Pos} (ha : EJ X a wa) : EJ X (.BoolOp op [a] pos) wa := fun W tk => pe_one (ha W tk)
theorem ej_and {a b : Expr} {r : List Expr} {wa wb : WE} {pos : Pos} (ha : EJ X a wa) (hb : EJ X (.BoolOp .And (b :: r) pos) wb) :
    EJ X (.BoolOp .And (a :: b :: r) pos) (fun σ M Q R => wa σ M (fun x M1 => ∃ k, truT M1 x = some k ∧ (if k = true then wb σ M1 Q R else Q x M1)) R) := fun W tk =>
  (pe_andT (ha W tk) (hb W tk)).by fun σ' H Q' ⟨σ, M, Q, R, hs, hM, q, c, l⟩ =>
  ⟨σ, M, _, R, hs, hM, q, fun x v H1 M1 p1 r1 ⟨k, e, q1⟩ => ⟨k, truT_ok p1.rep r1 e, by
    cases k with
    | true => exact ⟨σ, M1, Q, R, hs.mono (p1.grow hM), p1.rep, q1, c.on p1, l.on p1⟩
    | false => exact c x v H1 M1 p1 r1 q1⟩, l⟩
theorem ej_or {a b : Expr} {r : List Expr} {wa wb : WE} {pos : Pos} (ha : EJ X a wa) (hb : EJ X (.BoolOp .Or (b :: r) pos) wb) :
    EJ X (.BoolOp .Or (a :: b :: r) pos) (fun σ M Q R => wa σ M (fun x M1 => ∃ k, truT M1 x = some k ∧ (if k = true then Q x M1 else wb σ M1 Q R)) R) := fun W tk =>
  (pe_orT (ha W tk) (hb W tk)).by fun σ' H Q' ⟨σ, M, Q, R, hs, hM, q, c, l⟩ =>
  ⟨σ, M, _, R, hs, hM, q, fun x v H1 M1 p1 r1 ⟨k, e, q1⟩ => ⟨k, truT_ok p1.rep r1 e, by
    cases k with
    | false => exact ⟨σ, M1, Q, R, hs.mono (p1.grow hM), p1.rep, q1, c.on p1, l.on p1⟩
    | true => exact c x v H1 M1 p1 r1 q1⟩, l⟩
/-! ### slices -/
def OJ (X : Cx) (e : Option Expr) (w : TSt → TM → (Option Int → TM → Prop) → TR → Prop) : Prop := ∀ W, Takes X W → PO X e (fun σ' H Q' => ∃ σ M Q R, Rs X.K H σ σ' ∧ RepM X.K H M ∧ w σ M Q R ∧ (∀ o H' M', Post X.K H M H' M' → Q o M' → Q' o H') ∧ LX X.K W σ' H M R)
theorem _root_.L2.PO.by {e : Option Expr} {t t' : TO} (h : PO X e t) (i : ∀ σ H Q, t' σ H Q → t σ H Q) : PO X e t' := ⟨fun pins s σ H Q I q => h.run pins s σ H Q I (i _ _ _ q)⟩
theorem oj_no : OJ X none (fun _ M Q _ => Q none M) := fun W tk => po_none.by fun σ' H Q' ⟨σ, M, Q, R, hs, hM, q, c, l⟩ => c none H M (.refl hM) q
theorem oj_so {e : Expr} {w : WE} (h : EJ X e w) : OJ X (some e) (fun σ M Q R => w σ M (fun x M1 => ∃ i, x = .int i ∧ Q (some i) M1) R) := fun W tk => (po_some (h W tk)).by fun σ' H Q' ⟨σ, M, Q, R, hs, hM, q, c, l⟩ =>
  ⟨σ, M, _, R, hs, hM, q, fun x v H1 M1 p1 r1 ⟨i, e, q1⟩ => by
    subst e
    cases r1
    exact ⟨i, rfl, c _ H1 M1 p1 q1⟩, l⟩
theorem ej_sl {a : Expr} {lo hi : Option Expr} {wa : WE} {wl wh : TSt → TM → (Option Int → TM → Prop) → TR → Prop} {p2 pos : Pos} (ha : EJ X a wa) (hl : OJ X lo wl) (hh : OJ X hi wh) :
    EJ X (.Subscript a (.Slice lo hi none p2) pos) (fun σ M Q R => wa σ M (fun x M1 => wl σ M1 (fun l M2 => wh σ M2 (fun h M3 => wSl x l h M3 Q) R) R) R) := fun W tk =>
  (pe_slice slj (ha W tk) (hl W tk) (hh W tk)).by fun σ' H Q' ⟨σ, M, Q, R, hs, hM, q, c, l⟩ =>
  ⟨σ, M, _, R, hs, hM, q, fun x v H1 M1 p1 r1 q1 => ⟨σ, M1, _, R, hs.mono (p1.grow hM), p1.rep, q1, fun lo H2 M2 p2 q2 => ⟨σ, M2, _, R, hs.mono ((p1.trans p2).grow hM), p2.rep, q2, fun hi H3 M3 p3 q3 =>
    ⟨x, M3, Q, p3.rep, r1.mono ((p2.trans p3).grow p1.rep), q3, ((c.on p1).on p2).on p3⟩, (l.on p1).on p2⟩, l.on p1⟩, l⟩
theorem ej_rv {a : Expr} {wa : WE} {k : Nat} {p1 p2 p3 pos : Pos} (ha : EJ X a wa) :
    EJ X (.Subscript a (.Slice none none (some (.UnaryOp .USub (.Constant (.int 1) k p1) p2)) p3) pos) (fun σ M Q R => wa σ M (fun x M1 => wRv x M1 Q) R) := fun W tk =>
  (pe_revA (ha W tk)).by fun σ' H Q' ⟨σ, M, Q, R, hs, hM, q, c, l⟩ =>
  ⟨σ, M, _, R, hs, hM, q, fun x v H1 M1 p1 r1 q1 => by
    have cc := c.on p1
    cases r1 with
    | tup sq r z => exact .inr ⟨_, _, rfl, sq.sq, fun p hp => cc.tup p1.rep r.rev (by rw [List.length_reverse]; exact z) q1 hp⟩
    | ref a =>
      obtain ⟨xs, e, hq⟩ := q1
      obtain ⟨vs, sq, r, z⟩ := lsM_seq p1.rep e
      exact .inl ⟨_, _, rfl, sq, fun p hp => cc.lst p1.rep r.rev (by rw [List.length_reverse]; exact z) hq hp⟩
    | kl sq r z =>
      have hq : ∀ p, M1 p = none → Q (.ref p) (updM M1 p (.lst _)) := q1
      exact .inl ⟨_, _, rfl, sq.sq, fun p hp => cc.lst p1.rep r.rev (by rw [List.length_reverse]; exact z) hq hp⟩
    | _ => exact (show False from q1).elim, l⟩
/-! ### methods of lists -/
theorem Mth.slot (m : Mth) : Slot "list" m.name m.id := by
  cases m
  · exact PySem.F.slot_list_append
  · exact PySem.F.slot_list_pop
  · exact PySem.F.slot_list_pop
  · exact PySem.F.slot_list_extend
  · exact PySem.F.slot_list_insert
  · exact PySem.F.slot_list_count
  · exact PySem.F.slot_list_index
theorem Mth.hty (m : Mth) : typeOf (.builtin m.id) = pure (.type "method_descriptor") := by
  cases m
  · exact PySem.F.type_list_append
  · exact PySem.F.type_list_pop
  · exact PySem.F.type_list_pop
  · exact PySem.F.type_list_extend
  · exact PySem.F.type_list_insert
  · exact PySem.F.type_list_count
  · exact PySem.F.type_list_index
theorem mth_ty {x : TV} {v : V} {H : Hp} {M : TM} (hM : RepM X.K H M) (r : Rv X.K H x v) : (∃ a xs, x = .ref a ∧ lsM M a = some xs) → tyV X.K "list" v H := fun ⟨a, xs, e, h⟩ => by
  subst e
  cases r
  obtain ⟨vs, s, _⟩ := lsM_seq hM h
  exact .inl ⟨rfl, vs, s⟩
theorem ej_mth0 {m : Mth} {o : Expr} {wo : WE} {apos cpos : Pos} (ho : EJ X o wo) (hb : noSup o = true) (hl : (apos.endLine == cpos.line) = true) :
    EJ X (.Call (.Attribute o m.name apos) [] [] cpos) (fun σ M Q R => wo σ M (fun x M1 => (∃ a xs, x = .ref a ∧ lsM M1 a = some xs) ∧ wMth m x [] M1 Q) R) := fun W tk =>
  (pe_bm0 PySem.F.plainAttrs_list m.slot m.hty (mtj m) (ho W tk) (attBase hb) hl).by fun σ' H Q' ⟨σ, M, Q, R, hs, hM, q, c, l⟩ =>
    ⟨σ, M, _, R, hs, hM, q, fun x v H1 M1 p1 r1 ⟨t1, q1⟩ => ⟨mth_ty p1.rep r1 t1, x, [], M1, Q, p1.rep, r1, .nil, q1, c.on p1⟩, l⟩
theorem ej_mth {m : Mth} {o e : Expr} {es : List Expr} {wo : WE} {w : WA} {apos cpos : Pos} (ho : EJ X o wo) (ha : AJ X (e :: es) w) (hb : noSup o = true) (he' : (e :: es).all noStar = true) (hl : (apos.endLine == cpos.line) = true) (hn : (e :: es).length < 25) :
    EJ X (.Call (.Attribute o m.name apos) (e :: es) [] cpos) (fun σ M Q R => wo σ M (fun x M1 => (∃ a xs, x = .ref a ∧ lsM M1 a = some xs) ∧ w σ M1 (fun ys M2 => wMth m x ys M2 Q) R) R) := fun W tk => by
  have he := he'
  simp only [List.all_cons, Bool.and_eq_true] at he
  refine (pe_bm PySem.F.plainAttrs_list m.slot m.hty (mtj m) (ho W tk) (ha W tk) (attBase hb) ?_ hl (starEach_cons he.1) (backTo_any he.2)).by fun σ' H Q' ⟨σ, M, Q, R, hs, hM, q, c, l⟩ => ?_
  · rw [backTo_all he']
    show (true && true && decide ((e :: es).length + 0 + 0 < 30)) = true
    simp only [Bool.and_self, Bool.true_and, decide_eq_true_eq]
    omega
  · exact ⟨σ, M, _, R, hs, hM, q, fun x v H1 M1 p1 r1 ⟨t1, q1⟩ => ⟨mth_ty p1.rep r1 t1, σ, M1, _, R, hs.mono (p1.grow hM), p1.rep, q1, fun ys us H2 M2 hl p2 r2 q2 => ⟨x, ys, M2, Q, p2.rep, r1.mono (p2.grow p1.rep), r2, q2, (c.on p1).on p2⟩, l.on p1⟩, l⟩
end
end TL

/-! TIter: targets; what is walked; comprehensions. -/
namespace TL
open PySem PySem.Spec PyProof.Rows L2

theorem wipe_set {σ : LSt} {i : Nat} {o : Option V} : ∀ {vs : List Nat}, i ∈ vs → wipe (σ.set i o) vs = wipe σ vs
  | [], h => by cases h
  | v :: vs, h => by
    show (wipe (σ.set i o) vs).set v none = (wipe σ vs).set v none
    by_cases e : i ∈ vs
    · rw [wipe_set e]
    · have e2 : i = v := by
        rcases List.mem_cons.mp h with q | q
        · exact q
        · exact absurd q e
      subst e2
      have key : ∀ {us : List Nat} {τ : LSt}, i ∉ us → wipe (τ.set i o) us = (wipe τ us).set i o := by
        intro us
        induction us with
        | nil => intro τ _; rfl
        | cons u us ih =>
          intro τ hu
          have h1 : u ≠ i := fun e => hu (by rw [e]; exact List.mem_cons_self)
          show (wipe (τ.set i o) us).set u none = ((wipe τ us).set u none).set i o
          rw [ih fun m => hu (List.mem_cons_of_mem _ m), List.set_comm _ _ (Ne.symm h1)]
      rw [key e, List.set_set]

/-! ### targets -/
def LG (K : PySem.W.Frag) (T : Tg) : TG := fun v σ' H Q' => ∃ x σ M Q, Rv K H x v ∧ Rs K H σ σ' ∧ RepM K H M ∧ wTg T x σ M Q ∧
  ∀ σ2 σ2', Rs K H σ2 σ2' → (∀ vs : List Nat, (∀ j ∈ T.slots, j ∈ vs) → wipe σ2' vs = wipe σ' vs) → Q σ2 M → Q' σ2' H
def LGs (K : PySem.W.Frag) (is : List Nat) : TGs := fun vs σ' H Q' => ∃ (xs : List TV) (σ : TSt) (Q : TSt → Prop), Rvs K H xs vs ∧ Rs K H σ σ' ∧ xs.length = is.length ∧ Q (setAll σ is xs) ∧
  ∀ σ2 σ2', Rs K H σ2 σ2' → (∀ us : List Nat, (∀ j ∈ is, j ∈ us) → wipe σ2' us = wipe σ' us) → Q σ2 → Q' σ2' H
theorem _root_.L2.PG.by {X : Cx} {e : Expr} {t t' : TG} (h : PG X e t) (i : ∀ v σ H Q, t' v σ H Q → t v σ H Q) : PG X e t' := ⟨fun pins s σ H v u Q I r q => h.run pins s σ H v u Q I r (i _ _ _ _ q)⟩
theorem _root_.L2.PGs.by {X : Cx} {es : List Expr} {t t' : TGs} (h : PGs X es t) (i : ∀ v σ H Q, t' v σ H Q → t v σ H Q) : PGs X es t' := ⟨fun pins s σ H v u Q I r q => h.run pins s σ H v u Q I r (i _ _ _ _ q)⟩
section
variable {G : Gx} {N : List Str} {k : CtI} {sc : Scope} {blk : Option Scope} {X : Cx}
theorem ckN1 {blk : Option Scope} {N : List Str} {sc : Scope} {i : Nat} {e : Expr} (h : (match vName e with
    | some (x, _) => decide (N[i]? = some x) && locB blk sc x
    | none => false) = true) : ∃ x p, e = .Name x p ∧ N[i]? = some x ∧ locB blk sc x = true := by
  cases q : vName e with
  | none => rw [q] at h; cases h
  | some r =>
    obtain ⟨x, p⟩ := r
    rw [q] at h
    simp only [Bool.and_eq_true] at h
    exact ⟨x, p, vName_eq q, of_decide_eq_true h.1, h.2⟩
theorem pgs_ns (S : Sta G N k sc blk X) : ∀ {is : List Nat} {es : List Expr}, ckTg.ckNs blk N sc is es = true → PGs X es (LGs X.K is) ∧ (assignEach es X.env).length = is.length ∧ (assignEach es X.env).findIdx? (·.1) = none
  | [], [], _ => by
    refine ⟨pgs_nil.by fun vs σ' H Q' ⟨xs, σ, Q, rv, hs, hl, q, c⟩ => ?_, rfl, rfl⟩
    cases rv with
    | nil => exact ⟨rfl, c σ σ' hs (fun _ _ => rfl) q⟩
    | cons _ _ => cases hl
  | i :: is, e :: es, h => by
    unfold ckTg.ckNs at h
    simp only [Bool.and_eq_true] at h
    obtain ⟨x, p, e1, hN, hl⟩ := ckN1 h.1
    subst e1
    obtain ⟨ih, il, ii⟩ := pgs_ns S h.2
    have hL := S.loc hl
    have hn : X.N[i]? = some x := by rw [S.hN]; exact hN
    refine ⟨(pgs_cons (pg_name S.ndX hn hL.1 hL.2) ih rfl).by fun vs σ' H Q' ⟨xs, σ, Q, rv, hs, hl, q, c⟩ => ?_, ?_, ?_⟩
    · cases rv with
      | nil => cases hl
      | @cons y v ys us r rr =>
        refine ⟨v, us, rfl, ys, σ.set i (some y), Q, rr, hs.set i (show Ropt X.K H (some y) (some v) from r), by simpa using hl, q, fun σ2 σ2' h2 hw q2 => c σ2 σ2' h2 (fun us hu => ?_) q2⟩
        rw [hw us fun j hj => hu j (List.mem_cons_of_mem _ hj)]
        exact wipe_set (hu i List.mem_cons_self)
    · show (assignEach es X.env).length + 1 = is.length + 1
      rw [il]
    · show List.findIdx? (·.1) ((false, _) :: assignEach es X.env) = none
      rw [List.findIdx?_cons]
      simp [ii]
  | [], _ :: _, h => by cases h
  | _ :: _, [], h => by cases h
theorem pg_tg (S : Sta G N k sc blk X) (hk : k.hot = none) {T : Tg} {e : Expr} (h : ckTg blk N sc T e = true) : PG X e (LG X.K T) := by
  cases T with
  | name i =>
    obtain ⟨x, p, e1, hN, hl⟩ := ckN1 h
    subst e1
    have hL := S.loc hl
    have hn : X.N[i]? = some x := by rw [S.hN]; exact hN
    exact (pg_name S.ndX hn hL.1 hL.2).by fun v σ' H Q' ⟨x, σ, M, Q, rv, hs, hM, q, c⟩ => c _ _ (hs.set i (show Ropt X.K H (some x) (some v) from rv)) (fun vs hv => wipe_set (hv i (by simp [Tg.slots]))) q
  | tup is =>
    unfold ckTg at h
    cases qv : vTup e with
    | none => simp only [qv] at h; cases h
    | some r =>
      obtain ⟨es, n, p⟩ := r
      simp only [qv] at h
      have e1 := vTup_eq qv
      subst e1
      obtain ⟨hg, hn, hi⟩ := pgs_ns S h
      refine ⟨fun pins s σ' H v u Q' I r q => ?_⟩
      obtain ⟨x, σ, M, Q, rv, hs, hM, ⟨xs, e2, hl, q⟩, c⟩ := q
      obtain ⟨p', vs, ev, rvs, hz, kind⟩ := seqM_ok hM rv e2
      subst ev
      have body : LGs X.K is vs σ' H Q' := ⟨xs, σ, (fun σ => Q σ M), rvs, hs, hl, q, c⟩
      have hlv : vs.length = is.length := by rw [← rvs.length]; exact hl
      rcases kind with ⟨_, s⟩ | ⟨_, s⟩
      · exact (pg_lst (S.calm hk) hg hn hi).run pins _ σ' H _ u Q' I r ⟨p', vs, rfl, s, hlv, body⟩
      · exact (pg_tup (S.calm hk) hg hn hi).run pins _ σ' H _ u Q' I r ⟨p', vs, rfl, s.sq, hlv, body⟩
end

/-! ### what is walked -/
structure Aft (K : PySem.W.Frag) (H0 H : Hp) (M : TM) : Prop where
  grow : GrowT K H0 H
  rep : RepM K H M
structure IOk (K : PySem.W.Frag) (H0 : Hp) (J : Itm) (I : L2.It) : Prop where
  len : J.items.length ≤ sizeLine
  go : ∀ i x H M, J.items[i]? = some x → Aft K H0 H M → J.chk M → I.go i H
  yld : ∀ i x H M v H', J.items[i]? = some x → Aft K H0 H M → J.chk M → I.yld i H v H' → Post K H M H' M ∧ Rv K H' x v
  stop : ∀ i H M, J.items.length ≤ i → Aft K H0 H M → J.chk M → I.stop i H
theorem Post.aft {K : PySem.W.Frag} {H0 H : Hp} {M0 M : TM} (r : RepM K H0 M0) (p : Post K H0 M0 H M) : Aft K H0 H M := ⟨p.grow r, p.rep⟩
def LI (K : PySem.W.Frag) (W : WX) (w : TSt → TM → (Itm → TM → Prop) → TR → Prop) : TI := fun σ' H Q' => ∃ σ M Q R, Rs K H σ σ' ∧ RepM K H M ∧ w σ M Q R ∧ (∀ J I H' M', Post K H M H' M' → IOk K H' J I → Q J M' → Q' I H') ∧ LX K W σ' H M R
def IJ (X : Cx) (tg it : Expr) (w : TSt → TM → (Itm → TM → Prop) → TR → Prop) : Prop := ∀ W, Takes X W → PI X tg it (LI X.K W w)
theorem _root_.L2.PI.by {X : Cx} {tg it : Expr} {t t' : TI} (h : PI X tg it t) (i : ∀ σ H Q, t' σ H Q → t σ H Q) : PI X tg it t' := ⟨fun pins s σ H R I q => h.run pins s σ H R I (i _ _ _ q)⟩
section
variable {K : PySem.W.Frag} {H : Hp} {M : TM} {a b : Addr} {xs ys : List TV}
theorem Rvs.getI {i : Nat} {x : TV} {vs : List V} (r : Rvs K H xs vs) (h : xs[i]? = some x) : ∃ v, vs[i]? = some v ∧ Rv K H x v := by
  induction xs generalizing i vs with
  | nil => simp at h
  | cons y ys ih =>
    cases r with
    | cons r rr =>
      cases i with
      | zero => simp at h; subst h; exact ⟨_, rfl, r⟩
      | succ i =>
        obtain ⟨v, h1, h2⟩ := ih rr (by simpa using h)
        exact ⟨v, by simpa using h1, h2⟩
theorem iok_list (hz : xs.length ≤ sizeLine) (h : lsM M a = some xs) : IOk K H ⟨xs, chkS M (.ref a) xs⟩ (Itl K a) where
  len := hz
  go := fun i x H M e p c => by
    obtain ⟨vs, s, r, _⟩ := lsM_seq p.rep (show lsM M a = some xs from c)
    obtain ⟨v, h1, _⟩ := r.getI e
    exact ⟨vs, v, s, h1⟩
  yld := fun i x H M v H' e p c y => by
    obtain ⟨vs, s, r, _⟩ := lsM_seq p.rep (show lsM M a = some xs from c)
    obtain ⟨rfl, y⟩ := y
    obtain ⟨v', h1, h2⟩ := r.getI e
    have := y vs s
    rw [h1] at this
    cases this
    exact ⟨Post.refl p.rep, h2⟩
  stop := fun i H M e p c => by
    obtain ⟨vs, s, r, _⟩ := lsM_seq p.rep (show lsM M a = some xs from c)
    exact ⟨vs, s, by rw [← r.length]; exact e⟩
theorem iok_tup {p : Addr} {vs : List V} (hM : RepM K H M) (h : TqT K H p vs) (r : Rvs K H xs vs) (hz : xs.length ≤ sizeLine) : IOk K H ⟨xs, chkS M (.tup xs) xs⟩ (Itt K p) where
  len := hz
  go := fun i x H' M' e q c => by
    obtain ⟨v, h1, _⟩ := r.getI e
    exact ⟨vs, v, (q.grow.1 _ _ h).sq, h1⟩
  yld := fun i x H' M' v H'' e q c y => by
    obtain ⟨rfl, y⟩ := y
    obtain ⟨v', h1, h2⟩ := r.getI e
    have := y vs (q.grow.1 _ _ h).sq
    rw [h1] at this
    cases this
    exact ⟨Post.refl q.rep, h2.mono (q.grow)⟩
  stop := fun i H' M' e q c => ⟨vs, (q.grow.1 _ _ h).sq, by rw [← r.length]; exact e⟩
theorem rngT_get {lo : Int} {n i : Nat} {x : TV} (h : (rngT lo n)[i]? = some x) : i < n ∧ x = .int (lo + (i : Nat)) := by
  unfold rngT at h
  rw [List.getElem?_map] at h
  by_cases c : i < n
  · rw [List.getElem?_range c] at h
    simp at h
    exact ⟨c, h.symm⟩
  · rw [List.getElem?_eq_none (by simp; omega)] at h
    cases h
theorem rngT_len {lo : Int} {n : Nat} : (rngT lo n).length = n := by simp [rngT]
theorem iok_rng {lo : Int} {n : Nat} (hz : n ≤ 16777216) : IOk K H ⟨rngT lo n, fun _ => True⟩ (Itr lo n) where
  len := by rw [show (rngT lo n).length = n from rngT_len]; exact hz
  go := fun i x H M e _ _ => (rngT_get e).1
  yld := fun i x H M v H' e p _ y => by
    obtain ⟨rfl, rfl⟩ := y
    rw [(rngT_get e).2]
    exact ⟨Post.refl p.rep, .int _⟩
  stop := fun i H M e _ _ => by
    show n ≤ i
    rw [show (rngT lo n).length = n from rngT_len] at e
    exact e
theorem zipT_get : ∀ {xs ys : List TV} {i : Nat} {z : TV}, (zipT xs ys)[i]? = some z → ∃ x y, xs[i]? = some x ∧ ys[i]? = some y ∧ z = .tup [x, y]
  | [], _, _, _, h => by simp [zipT] at h
  | _ :: _, [], _, _, h => by simp [zipT] at h
  | x :: xs, y :: ys, 0, z, h => by simp [zipT] at h; exact ⟨x, y, rfl, rfl, h.symm⟩
  | x :: xs, y :: ys, i + 1, z, h => by
    obtain ⟨a, b, h1, h2, h3⟩ := zipT_get (xs := xs) (ys := ys) (i := i) (z := z) (by simpa [zipT] using h)
    exact ⟨a, b, by simpa using h1, by simpa using h2, h3⟩
theorem zipT_len : ∀ (xs ys : List TV), (zipT xs ys).length = min xs.length ys.length
  | [], _ => by simp [zipT]
  | _ :: _, [] => by simp [zipT]
  | x :: xs, y :: ys => by simp only [zipT, List.length_cons, zipT_len xs ys]; omega
theorem enuT_get : ∀ {xs : List TV} {k i : Nat} {z : TV}, (enuT k xs)[i]? = some z → ∃ x, xs[i]? = some x ∧ z = .tup [.int ((k + i : Nat) : Int), x]
  | [], _, _, _, h => by simp [enuT] at h
  | x :: xs, k, 0, z, h => by simp [enuT] at h; exact ⟨x, rfl, h.symm⟩
  | x :: xs, k, i + 1, z, h => by
    obtain ⟨a, h1, h2⟩ := enuT_get (xs := xs) (k := k + 1) (i := i) (z := z) (by simpa [enuT] using h)
    exact ⟨a, by simpa using h1, by rw [h2]; congr 4; omega⟩
theorem enuT_len : ∀ (xs : List TV) (k : Nat), (enuT k xs).length = xs.length
  | [], _ => rfl
  | x :: xs, k => by simp [enuT, enuT_len xs]
theorem pair_new {x y : TV} {v u : V} {p : Addr} (hM : RepM K H M) (h : H p = none) (hx : Rv K H x v) (hy : Rv K H y u) : Post K H M (upd H p (.tup [v, u])) M ∧ Rv K (upd H p (.tup [v, u])) (.tup [x, y]) (.ref p) := by
  have q := Post.new (o := .tup [v, u]) hM h
  exact ⟨q, .tup (.of upd_same) (.cons (hx.mono (q.grow hM)) (.cons (hy.mono (q.grow hM)) .nil)) (show 2 ≤ sizeLine by decide)⟩
theorem iok_enum (hz : xs.length ≤ sizeLine) (h : lsM M a = some xs) : IOk K H ⟨enuT 0 xs, chkS M (.ref a) xs⟩ (Ite K a) where
  len := by rw [show (enuT 0 xs).length = xs.length from enuT_len xs 0]; exact hz
  go := fun i x H M e p c => by
    obtain ⟨vs, s, r, _⟩ := lsM_seq p.rep (show lsM M a = some xs from c)
    obtain ⟨z, e', _⟩ := enuT_get e
    obtain ⟨v, h1, _⟩ := r.getI e'
    exact ⟨vs, v, s, h1⟩
  yld := fun i x H M v H' e p c y => by
    obtain ⟨vs, s, r, _⟩ := lsM_seq p.rep (show lsM M a = some xs from c)
    obtain ⟨z, e', e2⟩ := enuT_get e
    obtain ⟨T, u, rfl, hn, rfl, y⟩ := y
    obtain ⟨v', h1, h2⟩ := r.getI e'
    have := y vs s
    rw [h1] at this
    cases this
    subst e2
    rw [Nat.zero_add]
    exact pair_new p.rep hn (.int _) h2
  stop := fun i H M e p c => by
    obtain ⟨vs, s, r, _⟩ := lsM_seq p.rep (show lsM M a = some xs from c)
    exact ⟨vs, s, by rw [← r.length]; rw [show (enuT 0 xs).length = xs.length from enuT_len xs 0] at e; exact e⟩
theorem iok_zip (hz : xs.length ≤ sizeLine) (h : lsM M a = some xs) (h' : lsM M b = some ys) : IOk K H ⟨zipT xs ys, fun M' => chkS M (.ref a) xs M' ∧ chkS M (.ref b) ys M'⟩ (Itz K a b) where
  len := by rw [show (zipT xs ys).length = _ from zipT_len xs ys]; omega
  go := fun i x H M e p c => by
    obtain ⟨vs, s, r, _⟩ := lsM_seq p.rep (show lsM M a = some xs from c.1)
    obtain ⟨us, s', r', _⟩ := lsM_seq p.rep (show lsM M b = some ys from c.2)
    obtain ⟨x1, y1, e1, e2, _⟩ := zipT_get e
    obtain ⟨v, h1, _⟩ := r.getI e1
    obtain ⟨u, h2, _⟩ := r'.getI e2
    exact ⟨vs, us, v, u, s, s', h1, h2⟩
  yld := fun i x H M v H' e p c y => by
    obtain ⟨vs, s, r, _⟩ := lsM_seq p.rep (show lsM M a = some xs from c.1)
    obtain ⟨us, s', r', _⟩ := lsM_seq p.rep (show lsM M b = some ys from c.2)
    obtain ⟨x1, y1, e1, e2, e3⟩ := zipT_get e
    obtain ⟨T, v1, v2, rfl, hn, rfl, ya, yb⟩ := y
    obtain ⟨w1, h1, r1⟩ := r.getI e1
    obtain ⟨w2, h2, r2⟩ := r'.getI e2
    have t1 := ya vs s
    have t2 := yb us s'
    rw [h1] at t1
    rw [h2] at t2
    cases t1
    cases t2
    subst e3
    exact pair_new p.rep hn r1 r2
  stop := fun i H M e p c => by
    obtain ⟨vs, s, r, _⟩ := lsM_seq p.rep (show lsM M a = some xs from c.1)
    obtain ⟨us, s', r', _⟩ := lsM_seq p.rep (show lsM M b = some ys from c.2)
    rw [show (zipT xs ys).length = _ from zipT_len xs ys] at e
    exact ⟨vs, us, s, s', by rw [← r.length, ← r'.length]; omega⟩
theorem iok_zipT (hz : xs.length ≤ sizeLine) {p q : Addr} {vs us : List V} (hM : RepM K H M) (h : TqT K H p vs) (r : Rvs K H xs vs) (h' : TqT K H q us) (r' : Rvs K H ys us) : IOk K H ⟨zipT xs ys, fun M' => chkS M (.tup xs) xs M' ∧ chkS M (.tup ys) ys M'⟩ (RZ.ItzT K p q) where
  len := by rw [show (zipT xs ys).length = _ from zipT_len xs ys]; omega
  go := fun i x H M e p c => by
    obtain ⟨x1, y1, e1, e2, _⟩ := zipT_get e
    obtain ⟨v, h1, _⟩ := r.getI e1
    obtain ⟨u, h2, _⟩ := r'.getI e2
    exact ⟨vs, us, v, u, (p.grow.1 _ _ h).sq, (p.grow.1 _ _ h').sq, h1, h2⟩
  yld := fun i x H M v H' e p c y => by
    obtain ⟨x1, y1, e1, e2, e3⟩ := zipT_get e
    obtain ⟨T, v1, v2, rfl, hn, rfl, ya, yb⟩ := y
    obtain ⟨w1, h1, r1⟩ := r.getI e1
    obtain ⟨w2, h2, r2⟩ := r'.getI e2
    have t1 := ya vs (p.grow.1 _ _ h).sq
    have t2 := yb us (p.grow.1 _ _ h').sq
    rw [h1] at t1
    rw [h2] at t2
    cases t1
    cases t2
    subst e3
    exact pair_new p.rep hn (r1.mono (p.grow)) (r2.mono (p.grow))
  stop := fun i H M e p c => by
    rw [show (zipT xs ys).length = _ from zipT_len xs ys] at e
    exact ⟨vs, us, (p.grow.1 _ _ h).sq, (p.grow.1 _ _ h').sq, by rw [← r.length, ← r'.length]; omega⟩
end
section
variable {X : Cx} {tg : Expr}
/-- a list or a tuple, as it comes -/
theorem pi_any {l : Expr} {tl : TE} (hl : PE X l tl) : PI X tg l (fun σ H R => tl σ H fun x H1 => ∃ a, x = .ref a ∧ (((∃ xs, SqL X.K H1 a xs) ∧ R (Itl X.K a) H1) ∨ ((∃ xs, SqT X.K H1 a xs) ∧ R (Itt X.K a) H1))) := by
  refine ⟨fun pins s σ H R I h => thn (hl.run pins s σ H _ I h) fun v s1 ⟨x, H1, I1, r1, a, e, q⟩ => ?_⟩
  subst e
  cases r1
  have new : ∀ b ∈ [s1.heap.objs.size], FpOk X pins H1 b := fun b hb => by
    have e := List.mem_singleton.mp hb
    subst e
    exact I1.fpOk (Nat.le_refl _) (I1.hok.fresh (Nat.le_refl _))
  have old : ∀ (o : Obj), Inv X pins σ H1 { s1 with heap := s1.heap.push o } := fun ob => I1.kept (t' := s1.toks) fun b o e => Heap.get?_push_of_some _ e
  rcases q with ⟨⟨xs, hq⟩, q⟩ | ⟨⟨xs, hq⟩, q⟩
  · obtain ⟨its, rv, p, hz⟩ := I1.list hq
    exact wpAny_pyIter_list p.isList ⟨_, [s1.heap.objs.size], _, _, H1, rfl, old _, turn_list a s1.heap.objs.size, ⟨_, Heap.get?_push_size _ rfl, rfl, rfl⟩, new, q⟩
  · obtain ⟨its, rv, p, hz⟩ := I1.tuple hq
    exact wpAny_pyIter_tuple (show s1.heap.IsTuple a its.toArray from p) ⟨_, [s1.heap.objs.size], _, _, H1, rfl, old _, turn_tuple a s1.heap.objs.size, ⟨_, Heap.get?_push_size _ rfl, rfl, rfl⟩, new, q⟩
theorem ij_seq {e : Expr} {w : WE} (h : EJ X e w) : IJ X tg e (fun σ M Q R => w σ M (fun x M1 => ∃ xs, seqM M1 x = some xs ∧ Q ⟨xs, chkS M1 x xs⟩ M1) R) := fun W tk =>
  (pi_any (h W tk)).by fun σ' H Q' ⟨σ, M, Q, R, hs, hM, q, c, l⟩ =>
  ⟨σ, M, _, R, hs, hM, q, fun x v H1 M1 p1 r1 ⟨xs, e, q1⟩ => by
    obtain ⟨p, vs, ev, rvs, hz, kind⟩ := seqM_ok p1.rep r1 e
    subst ev
    rcases kind with ⟨rfl, s⟩ | ⟨rfl, s⟩
    · exact ⟨p, rfl, .inl ⟨⟨vs, s⟩, c _ _ _ _ p1 (iok_list hz e) q1⟩⟩
    · exact ⟨p, rfl, .inr ⟨⟨vs, s.sq⟩, c _ _ _ _ p1 (iok_tup p1.rep s rvs hz) q1⟩⟩, l⟩
theorem aj_one {e : Expr} {w : WE} (h : EJ X e w) (hs : noStar e = true) : AJ X [e] (fun σ M Q R => w σ M (fun x M1 => Q [x] M1) R) := aj_cons h aj_nil hs
theorem aj_two {e e2 : Expr} {w w2 : WE} (h : EJ X e w) (h2 : EJ X e2 w2) (hs : noStar e = true) (hs2 : noStar e2 = true) : AJ X [e, e2] (fun σ M Q R => w σ M (fun x M1 => w2 σ M1 (fun y M2 => Q [x, y] M2) R) R) := aj_cons h (aj_one h2 hs2) hs
theorem ij_rng1 {e : Expr} {w : WE} {p pos : Pos} (hg : Gl X "range") (hm : X.mg "range" = none) (h : EJ X e w) (hs : noStar e = true) :
    IJ X tg (.Call (.Name "range" p) [e] [] pos) (fun σ M Q R => w σ M (fun x M1 => ∃ j : Int, x = .int j ∧ -(2 ^ 62) ≤ j ∧ j ≤ 16777216 ∧ Q ⟨rngT 0 j.toNat, fun _ => True⟩ M1) R) := fun W tk =>
  (pi_range1 hg hm (aj_one h hs W tk) (by rw [starEach_cons hs]; rfl)).by fun σ' H Q' ⟨σ, M, Q, R, hs, hM, q, c, l⟩ =>
  ⟨σ, M, (fun xs M1 => match xs with
    | [x] => ∃ j : Int, x = .int j ∧ -(2 ^ 62) ≤ j ∧ j ≤ 16777216 ∧ Q ⟨rngT 0 j.toNat, fun _ => True⟩ M1
    | _ => False), R, hs, hM, q, fun xs vs H1 M1 hl p1 r1 q0 => by
    match xs, q0 with
    | [x], ⟨j, e2, j1, j2, q1⟩ =>
      subst e2
      obtain ⟨v, rfl, r⟩ := r1.one
      cases r
      exact ⟨j, rfl, j1, by omega, c _ _ _ _ p1 (iok_rng (by omega)) q1⟩, l⟩
theorem ij_rng2 {a b : Expr} {wa wb : WE} {p pos : Pos} (hg : Gl X "range") (hm : X.mg "range" = none) (h : EJ X a wa) (h2 : EJ X b wb) (hs : noStar a = true) (hs2 : noStar b = true) :
    IJ X tg (.Call (.Name "range" p) [a, b] [] pos) (fun σ M Q R => wa σ M (fun x M1 => wb σ M1 (fun y M2 => ∃ i j : Int, x = .int i ∧ y = .int j ∧ -(2 ^ 61) ≤ i ∧ i < 2 ^ 61 ∧ -(2 ^ 61) ≤ j ∧ j < 2 ^ 61 ∧ j - i ≤ 16777216 ∧ Q ⟨rngT i (j - i).toNat, fun _ => True⟩ M2) R) R) := fun W tk =>
  (pi_range2 hg hm (aj_two h h2 hs hs2 W tk) (by rw [starEach_cons hs, starEach_cons hs2]; rfl) (by rw [starEach_cons hs2]; rfl)).by fun σ' H Q' ⟨σ, M, Q, R, hs, hM, q, c, l⟩ =>
  ⟨σ, M, (fun xs M2 => match xs with
    | [x, y] => ∃ i j : Int, x = .int i ∧ y = .int j ∧ -(2 ^ 61) ≤ i ∧ i < 2 ^ 61 ∧ -(2 ^ 61) ≤ j ∧ j < 2 ^ 61 ∧ j - i ≤ 16777216 ∧ Q ⟨rngT i (j - i).toNat, fun _ => True⟩ M2
    | _ => False), R, hs, hM, q, fun xs vs H1 M1 hl p1 r1 q0 => by
    match xs, q0 with
    | [x, y], ⟨i, j, e1, e2, i1, i2, j1, j2, j3, q1⟩ =>
      subst e1 e2
      obtain ⟨v, u, rfl, r, r2⟩ := r1.two
      cases r
      cases r2
      exact ⟨i, j, rfl, ⟨by omega, by omega, by omega, by omega⟩, c _ _ _ _ p1 (iok_rng (by omega)) q1⟩, l⟩
theorem ij_enum {a : Expr} {wa : WE} {p pos tpos : Pos} {elts : List Expr} {kk : Nat} (hg : Gl X "enumerate") (hm : X.mg "enumerate" = none) (h : EJ X a wa) (hs : noStar a = true) :
    IJ X (.Tuple elts kk tpos) (.Call (.Name "enumerate" p) [a] [] pos) (fun σ M Q R => wa σ M (fun x M1 => ∃ xs, seqM M1 x = some xs ∧ isRefT x = true ∧ Q ⟨enuT 0 xs, chkS M1 x xs⟩ M1) R) := fun W tk =>
  (pi_enum hg hm (aj_one h hs W tk) (by rw [starEach_cons hs]; rfl)).by fun σ' H Q' ⟨σ, M, Q, R, hs, hM, q, c, l⟩ =>
  ⟨σ, M, (fun xs M1 => match xs with
    | [x] => ∃ xs, seqM M1 x = some xs ∧ isRefT x = true ∧ Q ⟨enuT 0 xs, chkS M1 x xs⟩ M1
    | _ => False), R, hs, hM, q, fun xs vs H1 M1 hl p1 r1 q0 => by
    match xs, q0 with
    | [x], ⟨ys, e, i, q1⟩ =>
      obtain ⟨v, rfl, r⟩ := r1.one
      cases r with
      | ref a =>
        obtain ⟨us, s, _, hz⟩ := lsM_seq p1.rep (show lsM M1 a = some ys from e)
        exact ⟨a, us, rfl, s, c _ _ _ _ p1 (iok_enum hz e) q1⟩
      | _ => exact (Bool.false_ne_true i).elim, l⟩
theorem ij_zip {a b : Expr} {wa wb : WE} {p pos tpos : Pos} {elts : List Expr} {kk : Nat} (hg : Gl X "zip") (hm : X.mg "zip" = none) (h : EJ X a wa) (h2 : EJ X b wb) (hs : noStar a = true) (hs2 : noStar b = true) :
    IJ X (.Tuple elts kk tpos) (.Call (.Name "zip" p) [a, b] [] pos) (fun σ M Q R => wa σ M (fun x M1 => wb σ M1 (fun y M2 => ∃ xs ys, seqM M2 x = some xs ∧ seqM M2 y = some ys ∧ alikeT x y = true ∧ Q ⟨zipT xs ys, fun M' => chkS M2 x xs M' ∧ chkS M2 y ys M'⟩ M2) R) R) := fun W tk =>
  (RZ.pi_zipA hg hm (aj_two h h2 hs hs2 W tk) (starEach_cons hs) (backTo_any (es := [b]) (by simp [hs2]))).by fun σ' H Q' ⟨σ, M, Q, R, hs, hM, q, c, l⟩ =>
  ⟨σ, M, (fun xs M2 => match xs with
    | [x, y] => ∃ xs ys, seqM M2 x = some xs ∧ seqM M2 y = some ys ∧ alikeT x y = true ∧ Q ⟨zipT xs ys, fun M' => chkS M2 x xs M' ∧ chkS M2 y ys M'⟩ M2
    | _ => False), R, hs, hM, q, fun xs vs H1 M1 hl p1 r1 q0 => by
    match xs, q0 with
    | [x, y], ⟨ys, zs, e1, e2, al, q1⟩ =>
      obtain ⟨v, u, rfl, r, r2⟩ := r1.two
      obtain ⟨pa, vs, rfl, rvs, hz, k1⟩ := seqM_ok p1.rep r e1
      obtain ⟨pb, us, rfl, rus, _, k2⟩ := seqM_ok p1.rep r2 e2
      rcases k1 with ⟨rfl, s⟩ | ⟨rfl, s⟩ <;> rcases k2 with ⟨rfl, s'⟩ | ⟨rfl, s'⟩
      · exact ⟨pa, pb, vs, us, rfl, .inl ⟨s, s', c _ _ _ _ p1 (iok_zip hz e1 e2) q1⟩⟩
      · cases al
      · cases al
      · exact ⟨pa, pb, vs, us, rfl, .inr ⟨s.sq, s'.sq, c _ _ _ _ p1 (iok_zipT hz p1.rep s rvs s' rus) q1⟩⟩, l⟩
end
end TL

/-! TComp: comprehensions. -/
namespace TL
open PySem PySem.Spec PyProof.Rows L2

abbrev F0 : WX := fun _ _ _ _ => False
theorem takes0 {X : Cx} : Takes X F0 := fun u s' ⟨a, B, sI, pins, σ, H, cls, d, e, I, nb, up, sky, na, os, ag, w⟩ => w.elim
theorem lx0 {K : PySem.W.Frag} {σ' : LSt} {H : Hp} {M : TM} : LX K F0 σ' H M (fun _ _ => False) := fun _ _ _ _ _ _ _ r => r
section
variable {K : PySem.W.Frag} {H H1 : Hp} {M M1 : TM} {D : Addr}
theorem Post.wr {vs : List V} {o : HO} (p : Post K H1 M1 H M) (hD : H1 D = none) (h : H D = some (.lst vs)) (n : M D = none) : Post K H1 M1 (upd H D o) M ∧ GrowT K H (upd H D o) := by
  refine ⟨⟨fun a u q t e => ?_, Post.hid p.rep h n, p.nnw, fun c q z => cod_ne h lst_cod _ _ (p.cod _ _ z)⟩, fun b us hb => ?_, cod_ne h lst_cod⟩
  · have ne : a ≠ D := fun e => by subst e; rw [hD] at q; cases q
    rw [upd_ne ne]
    exact p.fix a u q t e
  · rcases hb with hb | hb
    · refine .inl ?_
      have ne : b ≠ D := by
        intro e; subst e
        rw [h] at hb; cases hb
      rw [upd_ne ne]; exact hb
    · exact .inr hb
theorem lst_tbl {vs : List V} : ∀ ps, HO.lst vs ≠ .tbl ps := fun _ z => by cases z
theorem Post.tell {vs : List V} {xs : List TV} (p : Post K H1 M1 H M) (hD : H1 D = none) (h : H D = some (.lst vs)) (n : M D = none) (r : Rvs K H xs vs) (hz : xs.length ≤ sizeLine) : Post K H1 M1 H (updM M D (.lst xs)) := by
  refine ⟨p.fix, fun a o q => ?_, fun a u q t e => ?_, p.cod⟩
  · by_cases e : a = D
    · subst e
      rw [updM_same] at q; cases q
      exact ⟨vs, h, r, hz⟩
    · rw [updM_ne e] at q
      exact p.rep a o q
  · have ne : a ≠ D := fun e => by subst e; rw [hD] at q; cases q
    rw [updM_ne ne]
    exact p.nnw a u q t e
/-- a new untold list -/
theorem Post.open (p : RepM K H1 M1) (hD : H1 D = none) : Post K H1 M1 (upd H1 D (.lst [])) M1 := Post.new p hD
end
/-- a comprehension's tree condition -/
def wLc (wi : TSt → TM → (Itm → TM → Prop) → TR → Prop) (T : Tg) (vs : List Nat) (wt : WT) (we : WE) : WE := fun σ M Q R => wi σ M (fun J M1 =>
  lcL J.chk (fun acc x M2 k => wTg T x (wipeT σ vs) M2 (fun σ2 M3 => wt σ2 M3 (fun b M4 => if b = true then we σ2 M4 (fun y M5 => k (acc ++ [y]) M5) (fun _ _ => False) else k acc M4) (fun _ _ => False)))
    (fun acc M2 => ∀ p, M2 p = none → Q (.ref p) (updM M2 p (.lst acc))) J.items [] M1) R
section
variable {K : PySem.W.Frag}
theorem drop_cons {α : Type} {l : List α} {i : Nat} (h : i < l.length) : ∃ x, l[i]? = some x ∧ l.drop i = x :: l.drop (i + 1) := ⟨l[i], by simp [h], List.drop_eq_getElem_cons h⟩
theorem wipe_wipe (σ' : LSt) (vs : List Nat) : wipe (wipe σ' vs) vs = wipe σ' vs := by
  have idem : ∀ us : List Nat, (∀ u ∈ us, u ∈ vs) → wipe (wipe σ' vs) us = wipe σ' vs := by
    intro us
    induction us with
    | nil => intro _; rfl
    | cons u us ih =>
      intro hu
      show (wipe (wipe σ' vs) us).set u none = wipe σ' vs
      rw [ih fun w hw => hu w (List.mem_cons_of_mem _ hw)]
      have : ∀ {us : List Nat} {τ : LSt}, u ∈ us → (wipe τ us).set u none = wipe τ us := by
        intro us
        induction us with
        | nil => intro _ h; cases h
        | cons w ws ih2 =>
          intro τ h
          show ((wipe τ ws).set w none).set u none = (wipe τ ws).set w none
          by_cases e : u = w
          · subst e; rw [List.set_set]
          · rw [List.set_comm _ _ (Ne.symm e), ih2 (by rcases List.mem_cons.mp h with q | q; exact absurd q e; exact q)]
      exact this (hu u List.mem_cons_self)
  exact idem vs fun _ h => h
theorem lc_red {W : WX} {wi : TSt → TM → (Itm → TM → Prop) → TR → Prop} {T : Tg} {vs : List Nat} {wt : WT} {we : WE} {σ' : LSt} {H : Hp} {Q' : VK} (hv : ∀ j ∈ T.slots, j ∈ vs) (h : LE K W (wLc wi T vs wt we) σ' H Q') :
    tLc (LI K W wi) (LG K T) (LT K F0 wt) (LE K F0 we) vs σ' H Q' := by
  obtain ⟨σ, M, Q, R, hs, hM, q, c, l⟩ := h
  refine ⟨σ, M, _, R, hs, hM, q, fun J I H1 M1 p1 io q1 => ?_, l⟩
  intro D hD
  have inv0 : Post K H1 M1 (upd H1 D (.lst [])) M1 := Post.open p1.rep hD
  have hD1 : M1 D = none := p1.rep.fresh hD
  have hsW : Rs K H1 (wipeT σ vs) (wipe σ' vs) := (hs.mono (p1.grow hM)).wipe vs
  refine ⟨fun i m H2 => m = J.items.length - i ∧ i ≤ J.items.length ∧ ∃ M2 acc us, H2 D = some (.lst us) ∧ M2 D = none ∧ Rvs K H2 acc us ∧ acc.length ≤ i ∧ Post K H1 M1 H2 M2 ∧
    lcL J.chk (fun acc x M2 k => wTg T x (wipeT σ vs) M2 (fun σ2 M3 => wt σ2 M3 (fun b M4 => if b = true then we σ2 M4 (fun y M5 => k (acc ++ [y]) M5) (fun _ _ => False) else k acc M4) (fun _ _ => False)))
    (fun acc M2 => ∀ p, M2 p = none → Q (.ref p) (updM M2 p (.lst acc))) (J.items.drop i) acc M2, ⟨_, rfl, Nat.zero_le _, M1, [], [], upd_same, hD1, .nil, Nat.le_refl _, inv0, q1⟩, ?_⟩
  rintro i m H2 ⟨rfl, hi, M2, acc, us, hus, hn, ra, hl, p2, q2⟩
  by_cases hlt : i < J.items.length
  · obtain ⟨x, e1, e2⟩ := drop_cons hlt
    rw [e2] at q2
    obtain ⟨ck, q2⟩ := q2
    refine .inr ⟨io.go i x H2 M2 e1 (p2.aft p1.rep) ck, fun H4 => ∃ M4 acc us, H4 D = some (.lst us) ∧ M4 D = none ∧ Rvs K H4 acc us ∧ acc.length ≤ i + 1 ∧ Post K H1 M1 H4 M4 ∧ lcL J.chk _ _ (J.items.drop (i + 1)) acc M4, fun H4 ⟨M4, acc, us, a1, a2, a3, a4, a5, a6⟩ => ⟨_, by omega, rfl, hlt, M4, acc, us, a1, a2, a3, a4, a5, a6⟩, fun v H3 y => ?_⟩
    obtain ⟨p3, rx⟩ := io.yld i x H2 M2 v H3 e1 (p2.aft p1.rep) ck y
    have g23 := p3.grow p2.rep
    have hus3 : H3 D = some (.lst us) := p3.fix D _ hus lst_tbl hn
    refine ⟨x, wipeT σ vs, M2, _, rx, (hsW.mono (p2.grow p1.rep)).mono g23, p3.rep, q2, fun σ2 σ2' r2 hw q3 => ⟨?_, ?_⟩⟩
    · rw [hw vs hv]
      exact wipe_wipe σ' vs
    · refine ⟨σ2, M2, _, _, r2, p3.rep, q3, fun b H4 M4 p4 q4 => ?_, lx0⟩
      have p24 := p3.trans p4
      cases b with
      | false =>
        dsimp only at q4 ⊢
        rw [if_neg Bool.false_ne_true] at q4 ⊢
        exact ⟨M4, acc, us, p24.fix D _ hus lst_tbl hn, p24.nnw D _ hus lst_tbl hn, ra.mono (p24.grow p2.rep), by omega, p2.trans p24, q4⟩
      | true =>
        dsimp only at q4 ⊢
        rw [if_pos rfl] at q4 ⊢
        refine ⟨σ2, M4, _, _, r2.mono (p4.grow p3.rep), p4.rep, q4, fun y v5 H5 M5 p5 r5 q5 => ?_, lx0⟩
        have p25 := p24.trans p5
        have hus5 : H5 D = some (.lst us) := p25.fix D _ hus lst_tbl hn
        have hn5 : M5 D = none := p25.nnw D _ hus lst_tbl hn
        have ra5 := ra.mono (p25.grow p2.rep)
        have hle := io.len
        refine ⟨us, hus5, by rw [← ra5.length]; omega, ?_⟩
        obtain ⟨w1, w2⟩ := Post.wr (o := .lst (us ++ [v5])) (p2.trans p25) hD hus5 hn5
        refine ⟨M5, acc ++ [y], us ++ [v5], upd_same, hn5, (Rvs.append ra5 (.cons r5 .nil)).mono w2, by simp; omega, w1, q5⟩
  · have e : i = J.items.length := by omega
    subst e
    rw [List.drop_eq_nil_of_le (Nat.le_refl _)] at q2
    obtain ⟨ck, q2⟩ := q2
    have hle := io.len
    exact .inl ⟨io.stop _ H2 M2 (Nat.le_refl _) (p2.aft p1.rep) ck, c _ _ _ _ (p1.trans (Post.tell p2 hD hus hn ra (by omega))) (.ref D) (q2 D hn)⟩
/-- .. with two sources -/
def wLc2 (wi : TSt → TM → (Itm → TM → Prop) → TR → Prop) (T : Tg) (vs : List Nat) (wt : WT) (wi1 : TSt → TM → (Itm → TM → Prop) → TR → Prop) (T1 : Tg) (vs1 : List Nat) (wt1 : WT) (we : WE) : WE := fun σ M Q R => wi σ M (fun J M1 =>
  lcL J.chk (fun acc x M2 k => wTg T x (wipeT σ vs) M2 (fun σ2 M3 => wt σ2 M3 (fun b M4 => if b = true then wi1 σ2 M4 (fun J1 M5 =>
      lcL J1.chk (fun acc y M6 k1 => wTg T1 y (wipeT σ2 vs1) M6 (fun σ3 M7 => wt1 σ3 M7 (fun b1 M8 => if b1 = true then we σ3 M8 (fun z M9 => acc.length < sizeLine ∧ k1 (acc ++ [z]) M9) (fun _ _ => False) else k1 acc M8) (fun _ _ => False)))
        k J1.items acc M5) (fun _ _ => False) else k acc M4) (fun _ _ => False)))
    (fun acc M2 => ∀ p, M2 p = none → Q (.ref p) (updM M2 p (.lst acc))) J.items [] M1) R
theorem lc2_red {W : WX} {wi wi1 : TSt → TM → (Itm → TM → Prop) → TR → Prop} {T T1 : Tg} {vs vs1 : List Nat} {wt wt1 : WT} {we : WE} {σ' : LSt} {H : Hp} {Q' : VK} (hv : ∀ j ∈ T.slots, j ∈ vs) (hv1 : ∀ j ∈ T1.slots, j ∈ vs1) (h : LE K W (wLc2 wi T vs wt wi1 T1 vs1 wt1 we) σ' H Q') :
    tLc2 (LI K W wi) (LG K T) (LT K F0 wt) (LI K F0 wi1) (LG K T1) (LT K F0 wt1) (LE K F0 we) vs vs1 σ' H Q' := by
  obtain ⟨σ, M, Q, R, hs, hM, q, c, l⟩ := h
  refine ⟨σ, M, _, R, hs, hM, q, fun J I H1 M1 p1 io q1 => ?_, l⟩
  intro D hD
  have inv0 : Post K H1 M1 (upd H1 D (.lst [])) M1 := Post.open p1.rep hD
  have hD1 : M1 D = none := p1.rep.fresh hD
  have hsW : Rs K H1 (wipeT σ vs) (wipe σ' vs) := (hs.mono (p1.grow hM)).wipe vs
  generalize hfin : (fun (acc : List TV) (M2 : TM) => ∀ p, M2 p = none → Q (.ref p) (updM M2 p (.lst acc))) = fin at q1
  generalize hst : (fun (acc : List TV) (x : TV) (M2 : TM) (k : List TV → TM → Prop) => wTg T x (wipeT σ vs) M2 (fun σ2 M3 => wt σ2 M3 (fun b M4 => if b = true then wi1 σ2 M4 (fun J1 M5 =>
      lcL J1.chk (fun acc y M6 k1 => wTg T1 y (wipeT σ2 vs1) M6 (fun σ3 M7 => wt1 σ3 M7 (fun b1 M8 => if b1 = true then we σ3 M8 (fun z M9 => acc.length < sizeLine ∧ k1 (acc ++ [z]) M9) (fun _ _ => False) else k1 acc M8) (fun _ _ => False)))
        k J1.items acc M5) (fun _ _ => False) else k acc M4) (fun _ _ => False))) = step at q1
  -- what stands between the turns
  let St (H2 : Hp) (P : List TV → TM → Prop) : Prop := ∃ M2 acc us, H2 D = some (.lst us) ∧ M2 D = none ∧ Rvs K H2 acc us ∧ Post K H1 M1 H2 M2 ∧ P acc M2
  refine ⟨fun i m H2 => m = J.items.length - i ∧ i ≤ J.items.length ∧ ∃ M2 acc us, H2 D = some (.lst us) ∧ M2 D = none ∧ Rvs K H2 acc us ∧ acc.length ≤ sizeLine ∧ Post K H1 M1 H2 M2 ∧
    lcL J.chk step fin (J.items.drop i) acc M2, ⟨_, rfl, Nat.zero_le _, M1, [], [], upd_same, hD1, .nil, Nat.zero_le _, inv0, q1⟩, ?_⟩
  rintro i m H2 ⟨rfl, hi, M2, acc, us, hus, hn, ra, hz, p2, q2⟩
  by_cases hlt : i < J.items.length
  · obtain ⟨x, e1, e2⟩ := drop_cons hlt
    rw [e2] at q2
    obtain ⟨ck, q2⟩ := q2
    refine .inr ⟨io.go i x H2 M2 e1 (p2.aft p1.rep) ck, fun H4 => ∃ M4 acc us, H4 D = some (.lst us) ∧ M4 D = none ∧ Rvs K H4 acc us ∧ acc.length ≤ sizeLine ∧ Post K H1 M1 H4 M4 ∧ lcL J.chk step fin (J.items.drop (i + 1)) acc M4, fun H4 ⟨M4, acc, us, a1, a2, a3, a4, a5, a6⟩ => ⟨_, by omega, rfl, hlt, M4, acc, us, a1, a2, a3, a4, a5, a6⟩, fun v H3 y => ?_⟩
    generalize hk : (fun acc' M' => lcL J.chk step fin (List.drop (i + 1) J.items) acc' M') = kk at q2 ⊢
    have hk' : ∀ acc' M', kk acc' M' → lcL J.chk step fin (List.drop (i + 1) J.items) acc' M' := fun acc' M' z => by rw [← hk] at z; exact z
    subst hst
    obtain ⟨p3, rx⟩ := io.yld i x H2 M2 v H3 e1 (p2.aft p1.rep) ck y
    have g23 := p3.grow p2.rep
    refine ⟨x, wipeT σ vs, M2, _, rx, (hsW.mono (p2.grow p1.rep)).mono g23, p3.rep, q2, fun σ2 σ2' r2 hw q3 => ⟨?_, ?_⟩⟩
    · rw [hw vs hv]
      exact wipe_wipe σ' vs
    · refine ⟨σ2, M2, _, _, r2, p3.rep, q3, fun b H4 M4 p4 q4 => ?_, lx0⟩
      have p24 := p3.trans p4
      have hus4 := p24.fix D _ hus lst_tbl hn
      have hn4 := p24.nnw D _ hus lst_tbl hn
      have ra4 := ra.mono (p24.grow p2.rep)
      cases b with
      | false =>
        dsimp only at q4 ⊢
        rw [if_neg Bool.false_ne_true] at q4 ⊢
        exact ⟨M4, acc, us, hus4, hn4, ra4, hz, p2.trans p24, hk' _ _ q4⟩
      | true =>
        dsimp only at q4 ⊢
        rw [if_pos rfl] at q4 ⊢
        have r24 := r2.mono (p4.grow p3.rep)
        refine ⟨σ2, M4, _, _, r24, p4.rep, q4, fun J1 I1 H5 M5 p5 io1 q5 => ?_, lx0⟩
        have p25 := p24.trans p5
        have hus5 := p25.fix D _ hus lst_tbl hn
        have hn5 := p25.nnw D _ hus lst_tbl hn
        have ra5 := ra.mono (p25.grow p2.rep)
        have r25 := (r24.mono (p5.grow p4.rep)).wipe vs1
        have p15 := p2.trans p25
        generalize hst1 : (fun (acc : List TV) (y : TV) (M6 : TM) (k1 : List TV → TM → Prop) => wTg T1 y (wipeT σ2 vs1) M6 (fun σ3 M7 => wt1 σ3 M7 (fun b1 M8 => if b1 = true then we σ3 M8 (fun z M9 => acc.length < sizeLine ∧ k1 (acc ++ [z]) M9) (fun _ _ => False) else k1 acc M8) (fun _ _ => False))) = step1 at q5
        refine ⟨fun j m H6 => m = J1.items.length - j ∧ j ≤ J1.items.length ∧ ∃ M6 acc us, H6 D = some (.lst us) ∧ M6 D = none ∧ Rvs K H6 acc us ∧ acc.length ≤ sizeLine ∧ Post K H1 M1 H6 M6 ∧ GrowT K H5 H6 ∧
          lcL J1.chk step1 kk (J1.items.drop j) acc M6, ⟨_, rfl, Nat.zero_le _, M5, acc, us, hus5, hn5, ra5, hz, p15, ⟨fun _ _ h => h, fun _ _ h => h⟩, q5⟩, ?_⟩
        rintro j m H6 ⟨rfl, hj, M6, acc, us, hus, hn, ra, hz, p6, g6, q6⟩
        have af : Aft K H5 H6 M6 := ⟨g6, p6.rep⟩
        by_cases hlt : j < J1.items.length
        · obtain ⟨x1, e1, e2⟩ := drop_cons hlt
          rw [e2] at q6
          obtain ⟨ck, q6⟩ := q6
          refine .inr ⟨io1.go j x1 H6 M6 e1 af ck, fun H4 => ∃ M4 acc us, H4 D = some (.lst us) ∧ M4 D = none ∧ Rvs K H4 acc us ∧ acc.length ≤ sizeLine ∧ Post K H1 M1 H4 M4 ∧ GrowT K H5 H4 ∧ lcL J1.chk step1 kk (J1.items.drop (j + 1)) acc M4, fun H4 ⟨M4, acc, us, a1, a2, a3, a4, a5, a6, a7⟩ => ⟨_, by omega, rfl, hlt, M4, acc, us, a1, a2, a3, a4, a5, a6, a7⟩, fun v1 H7 y => ?_⟩
          generalize hk2 : (fun acc' M' => lcL J1.chk step1 kk (List.drop (j + 1) J1.items) acc' M') = kk2 at q6 ⊢
          have hk3 : ∀ acc' M', kk2 acc' M' → lcL J1.chk step1 kk (List.drop (j + 1) J1.items) acc' M' := fun acc' M' z => by rw [← hk2] at z; exact z
          subst hst1
          obtain ⟨p7, rx⟩ := io1.yld j x1 H6 M6 v1 H7 e1 af ck y
          have g67 := p7.grow p6.rep
          refine ⟨x1, wipeT σ2 vs1, M6, _, rx, (r25.mono g6).mono g67, p7.rep, q6, fun σ3 σ3' r3 hw1 q7 => ⟨?_, ?_⟩⟩
          · rw [hw1 vs1 hv1]
            exact wipe_wipe σ2' vs1
          · refine ⟨σ3, M6, _, _, r3, p7.rep, q7, fun b H8 M8 p8 q8 => ?_, lx0⟩
            have p68 := p7.trans p8
            have hus8 := p68.fix D _ hus lst_tbl hn
            have hn8 := p68.nnw D _ hus lst_tbl hn
            have ra8 := ra.mono (p68.grow p6.rep)
            have g58 : GrowT K H5 H8 := ⟨fun _ _ h => (p68.grow p6.rep).1 _ _ (g6.1 _ _ h), fun _ _ h => p68.cod _ _ (g6.2 _ _ h)⟩
            cases b with
            | false =>
              dsimp only at q8 ⊢
              rw [if_neg Bool.false_ne_true] at q8 ⊢
              exact ⟨M8, acc, us, hus8, hn8, ra8, hz, p6.trans p68, g58, hk3 _ _ q8⟩
            | true =>
              dsimp only at q8 ⊢
              rw [if_pos rfl] at q8 ⊢
              refine ⟨σ3, M8, _, _, r3.mono (p8.grow p7.rep), p8.rep, q8, fun z v9 H9 M9 p9 r9 ⟨hlen, q9⟩ => ?_, lx0⟩
              have p69 := p68.trans p9
              have hus9 := p69.fix D _ hus lst_tbl hn
              have hn9 := p69.nnw D _ hus lst_tbl hn
              have ra9 := ra.mono (p69.grow p6.rep)
              refine ⟨us, hus9, by rw [← ra9.length]; exact hlen, ?_⟩
              obtain ⟨w1, w2⟩ := Post.wr (o := .lst (us ++ [v9])) (p6.trans p69) hD hus9 hn9
              exact ⟨M9, acc ++ [z], us ++ [v9], upd_same, hn9, (Rvs.append ra9 (.cons r9 .nil)).mono w2, by simp; omega, w1, ⟨fun _ _ h => w2.1 _ _ ((p69.grow p6.rep).1 _ _ (g6.1 _ _ h)), fun _ _ h => w2.2 _ _ (p69.cod _ _ (g6.2 _ _ h))⟩, hk3 _ _ q9⟩
        · have e : j = J1.items.length := by omega
          subst e
          rw [List.drop_eq_nil_of_le (Nat.le_refl _)] at q6
          obtain ⟨ck, q6⟩ := q6
          exact .inl ⟨io1.stop _ H6 M6 (Nat.le_refl _) af ck, M6, acc, us, hus, hn, ra, hz, p6, hk' _ _ q6⟩
  · have e : i = J.items.length := by omega
    subst e
    rw [List.drop_eq_nil_of_le (Nat.le_refl _)] at q2
    obtain ⟨ck, q2⟩ := q2
    subst hfin
    exact .inl ⟨io.stop _ H2 M2 (Nat.le_refl _) (p2.aft p1.rep) ck, c _ _ _ _ (p1.trans (Post.tell p2 hD hus hn ra hz)) (.ref D) (q2 D hn)⟩
end
end TL

/-! TLam: a lambda handed to a def; what is handled; errors made. -/
namespace TL
open PySem PySem.Spec PyProof.Rows L2

/-- what a def makes of a lambda, below -/
def TTof (K : PySem.W.Frag) (Φ : TLam) : (XK → Hp → VK → Prop) → Hp → VK → Prop := fun tl H Q' => ∃ (M : TM) (Q : TK) (θ : Thk), RepM K H M ∧ Φ θ M Q ∧ Cont K H M Q Q' ∧
  ∀ (H2 : Hp) (M2 : TM) (Q2 : TK) (R2 : TR) (Q2' : VK) (E2 : XK), GrowT K H H2 → RepM K H2 M2 → θ M2 Q2 R2 → Cont K H2 M2 Q2 Q2' → (∀ x cls d H' M', Post K H2 M2 H' M' → Rx K H' x cls d → R2 x M' → E2 cls d H') → tl E2 H2 Q2'
/-- the def at g takes a lambda -/
def HeldL (G : Gx) (j : Nat) (x : Str) (g : Addr) (Φ : TLam) : Prop :=
  ∃ (pg : Arguments) (bg : List Stmt) (sg : Scope) (dV kV doc pm cdv ct oc : Value) (an od : Option Addr) (osl : Array (Option Value)) (Ng : List Str) (a : Str),
    PySem.W.keepIn G.K (.ref g) = true ∧ G.K.lookup g = some ⟨oc, od, .func (PySem.W.fnOf x x pg bg sg dV kV doc pm an cdv ct), osl⟩ ∧ PySem.W.codeIn G.K cdv x = true ∧
    Binds G.K (PySem.W.fnOf x x pg bg sg dV kV doc pm an cdv ct) [a] [] ∧ FnScope Ng [a] sg ∧ Ng[0]? = some a ∧ Vis sg a ∧ okN a = true ∧
    ∀ (X : Cx) (q : Str), X.prog = G.prog → X.w = G.w → X.K = G.K → X.mg = G.mg → X.base = G.base → Room j X.A → LamX.GivesTo X Ng x sg g cdv bg a q (TTof G.K Φ)
theorem Ro.what {K : PySem.W.Frag} {H : Hp} {a : Addr} {o : MO} (r : Ro K H a o) : (∃ q, o = .tbl q) ∨ ∃ u, H a = Option.some u ∧ ∀ ps, u ≠ .tbl ps := by
  cases o with
  | lst xs => obtain ⟨vs, h, _⟩ := r; exact .inr ⟨_, h, fun _ z => by cases z⟩
  | rls xs => obtain ⟨o, vs, h, _⟩ := r; exact .inr ⟨_, h, fun _ z => by cases z⟩
  | dic kvs => rcases r with ⟨ks, h, _⟩ | ⟨ks, h, _⟩ <;> exact .inr ⟨_, h, fun _ z => by cases z⟩
  | ins C dx fs => obtain ⟨gs, h, _⟩ := r; exact .inr ⟨_, h, fun _ z => by cases z⟩
  | tbl q => exact .inl ⟨q, rfl⟩
/-- behind the making of a lambda -/
theorem lam_post {K : PySem.W.Frag} {H H1 : Hp} {M : TM} (r : RepM K H M) (e : LamX.ExtN H H1) (t : ∀ a q, M a = some (.tbl q) → LamX.TabS H1 a q) : Post K H M H1 M ∧ GrowT K H H1 := by
  have g : GrowT K H H1 := ⟨fun p vs h => h.imp (fun h => e _ _ h fun ps z => by cases z) id, fun c q h => e _ _ h fun ps z => LamX.codeO_ne ps z⟩
  refine ⟨⟨fun a o h n _ => e _ _ h n, fun a o h => ?_, fun _ _ _ _ n => n, g.2⟩, g⟩
  have ro := r a o h
  rcases ro.what with ⟨q, rfl⟩ | ⟨u, hu, nu⟩
  · exact t a q h
  · exact ro.mono g ((e _ _ hu nu).trans hu.symm)
/-! ### repr -/
mutual
theorem dat_plain {M : TM} : ∀ {n : Nat} {x : TV} {d : PyData}, dat M n x = some d → d.hasDict = false ∧ d.depth ≤ n
  | 0, x, d, h => by cases x <;> simp [dat] at h <;> subst h <;> simp [PyData.hasDict, PyData.depth]
  | n + 1, x, d, h => by
    cases x with
    | non => simp [dat] at h; subst h; simp [PyData.hasDict, PyData.depth]
    | bl b => simp [dat] at h; subst h; simp [PyData.hasDict, PyData.depth]
    | int b => simp [dat] at h; subst h; simp [PyData.hasDict, PyData.depth]
    | str b => simp [dat] at h; subst h; simp [PyData.hasDict, PyData.depth]
    | ty b => simp [dat] at h
    | kl b => simp [dat] at h
    | thk b c => simp [dat] at h
    | tup xs =>
      simp only [dat] at h
      cases q : optAll (dat M n) xs with
      | none => rw [q] at h; cases h
      | some ds =>
        rw [q] at h
        cases h
        have := dat_plains (n := n) q
        simp only [PyData.hasDict, PyData.depth]
        exact ⟨this.1, by have := this.2; omega⟩
    | ref a =>
      simp only [dat] at h
      cases q1 : lsM M a with
      | none => rw [q1] at h; cases h
      | some xs =>
        rw [q1] at h
        dsimp only at h
        cases q : optAll (dat M n) xs with
        | none => rw [q] at h; cases h
        | some ds =>
          rw [q] at h
          cases h
          have := dat_plains (n := n) q
          simp only [PyData.hasDict, PyData.depth]
          exact ⟨this.1, by have := this.2; omega⟩
theorem dat_plains {M : TM} : ∀ {n : Nat} {xs : List TV} {ds : List PyData}, optAll (dat M n) xs = some ds → PyData.hasDictAll ds = false ∧ PyData.depthAll ds ≤ n
  | n, [], ds, h => by cases h; simp [PyData.hasDictAll, PyData.depthAll]
  | n, x :: xs, ds, h => by
    unfold optAll at h
    cases q1 : dat M n x with
    | none => rw [q1] at h; cases h
    | some d =>
      rw [q1] at h
      dsimp only at h
      cases q2 : optAll (dat M n) xs with
      | none => rw [q2] at h; cases h
      | some ds2 =>
        rw [q2] at h
        cases h
        have a := dat_plain (n := n) q1
        have b := dat_plains (n := n) q2
        simp only [PyData.hasDictAll, PyData.depthAll, a.1, b.1, Bool.or_self, true_and]
        omega
end
section
variable {G : Gx} {N : List Str} {k : CtI} {sc : Scope} {blk : Option Scope} {X : Cx}
theorem ej_rep (S : Sta G N k sc blk X) (hgd : X.A.guards = some []) {e : Expr} {we : WE} {p pos : Pos} (hg : Gl X "repr") (hm : G.mg "repr" = none) (h : EJ X e we) (hs : noStar e = true) : EJ X (.Call (.Name "repr" p) [e] [] pos) (fun σ M Q R => we σ M (fun x M1 => wRpr x M1 Q) R) := fun W tk => by
  have cj : CallR X (.builtin "repr") (fun xs H Q => ∃ a d, xs = [V.ref a] ∧ Dp X.K H (.ref a) d ∧ d.hasDict = false ∧ d.depth ≤ 40 ∧ d.showable = true ∧ d.shown.length ≤ sizeLine ∧ Q (.str d.shown) H) := by
    intro pins s σ H xs us Q I r hq
    obtain ⟨a, d, rfl, hd, hh, hdp, hsh, hsz, q⟩ := hq
    cases r with
    | cons ru rn =>
      cases rn
      cases ru
      obtain ⟨as, hr⟩ := Dp.reads I d _ _ hd rfl
      refine repr_of_reads' hr hsh (fun z => by rw [hh] at z; cases z) hgd (by have := S.units; omega) (fun _ _ z => z) (fun h' u tk' kk => ?_) hsz
      exact ⟨.str d.shown, H, I.kept kk, ⟨u, rfl⟩, q⟩
  have key := pe_callB (pos := pos) (p := p) cj hg (by rw [S.hm]; exact hm) rfl ((aj_cons h aj_nil hs) W tk) (by decide) (by decide) (starEach_cons hs) rfl
  refine key.by fun σ' H Q' ⟨σ, M, Q, R, hs, hM, q, c, l⟩ => ⟨σ, M, (fun xs M1 => match xs with | [x] => wRpr x M1 Q | _ => False), R, hs, hM, q, fun xs vs H1 M1 hl p1 rv hq => ?_, l⟩
  match xs, hq with
  | [x], hq =>
    obtain ⟨v, rfl, r⟩ := rv.one
    obtain ⟨t, n, d, hn, e, h1, h2, hQ⟩ := hq
    have dp := dat_plain e
    have D := dat_ok p1.rep _ r e
    have : ∃ a, v = .ref a := by
      cases x with
      | tup xs => cases r; exact ⟨_, rfl⟩
      | ref a => cases r; exact ⟨_, rfl⟩
      | _ => cases t
    obtain ⟨a, rfl⟩ := this
    exact ⟨a, d, rfl, D, dp.1, Nat.le_trans dp.2 hn, h1, h2, c _ _ _ _ p1 (.str _) hQ⟩
theorem ej_lam (S : Sta G N k sc blk X) (hk : k.hot = none) {x q : Str} {g P c : Addr} {Φ : TLam} {p lpos pos : Pos} {body : Expr} {scope : Scope} {wb : WE} (hg : Gl X x) (hm : G.mg x = some (.ref g)) (hx : okN x = true) (HL : HeldL G k.k x g Φ) (hc : k.c = .ref c) (TB : LamX.TabB G.base G.mg c P)
    (hq : q = k.q ++ "<lambda>") (L : LamX.lamSB sc scope = true) (n2 : 2 ≤ k.k)
    (hb : ∀ (A : Around) (outer : List Env) (s : Shared) (H : Hp) (E : XK) (f c' : Addr), Room (k.k - 2) (A.deeper (LamX.lamEnv X scope s.heap.objs.size f c')) → EJ (LamX.lamCx X A outer s H E scope f c') body wb) :
    EJ X (.Call (.Name x p) [.Lambda ⟨[], [], none, [], [], none, []⟩ body scope lpos] [] pos) (fun σ M Q _ => M P = some (.tbl q) ∧ Φ (fun M1 Q1 R1 => wb σ M1 Q1 R1) M Q) := fun W tk => by
  obtain ⟨pg, bg, sg, dV, kV, doc, pm, cdv, ct, oc, an, od, osl, Ng, a, h1, h2, h3, h4, h5, h6, h7, h8, hG⟩ := HL
  refine ⟨fun pins s σ' H Q' I h => ?_⟩
  obtain ⟨σ, M, Q, R, hs, hM, ⟨hP, hΦ⟩, cq, l⟩ := h
  have nc : k.c ≠ .none := by rw [hc]; exact fun z => by cases z
  have eq := S.hq nc
  have ec : X.env.code = .ref c := (S.hcd nc).trans hc
  let T : List (Addr × Str) := (List.range s.heap.objs.size).filterMap fun a => match M a with
    | some (.tbl q) => some (a, q)
    | _ => none
  have memT : ∀ z ∈ T, M z.1 = some (.tbl z.2) := fun z hz => by
    obtain ⟨b, _, e⟩ := List.mem_filterMap.mp hz
    split at e
    · rename_i q' e'
      cases e
      exact e'
    · cases e
  have inT : ∀ b q, M b = some (.tbl q) → (b, q) ∈ T := fun b q e => by
    obtain ⟨ps, e1, _⟩ := hM b _ e
    obtain ⟨o, e2⟩ := objOk_get (I.hok b _ e1)
    refine List.mem_filterMap.mpr ⟨b, List.mem_range.mpr (Heap.lt_size e2), ?_⟩
    rw [e]
  have rule := LamX.pe_lamcall (X := X) (T := T) (TT := TTof G.K Φ) (t := fun E => LE X.K (fun cls d _ H => E cls d H) wb) (k := k.k - 2) (p := p) (lpos := lpos) (pos := pos) (params := ⟨[], [], none, [], [], none, []⟩) (body := body) (scope := scope) (P := P) hg (by rw [S.hm]; exact hm)
    (by rw [S.hK]; exact h1) (by rw [S.hK]; exact h2) (by rw [S.hK]; exact h3) (by rw [S.hK]; exact h4) h5 h6 h7 (hG X _ S.hP S.hw S.hK S.hm S.hb (S.room hk)) (by rw [S.hb, S.hm]; exact TB) ec (by rw [eq, ← hq]; exact inT _ _ hP)
    (fun z hz ez => by
      have := memT z hz
      rw [ez, hP] at this
      cases this
      rw [eq, ← hq])
    ((S.room hk).mono (by omega)) (by rw [S.hsc]; exact LamX.lamS_by L) rfl (fun _ _ _ _ _ => rfl) (fun A outer s H E f c' hr => hb A outer s H E f c' hr _ (takes_of rfl rfl rfl rfl)) (okN_d hx) (okN_d h8) (okN_c h8)
  refine rule.run pins s σ' H Q' I ⟨fun z hz => hM _ _ (memT z hz), fun H1 eN T1 => ?_⟩
  obtain ⟨po, gr⟩ := lam_post hM eN fun b q e => T1 _ (inT b q e)
  rw [← S.hK]
  exact ⟨M, Q, fun M1 Q1 R1 => wb σ M1 Q1 R1, po.rep, hΦ, cq.on po, fun H2 M2 Q2 R2 Q2' E2 g2 r2 hθ c2 l2 => ⟨σ, M2, Q2, R2, hs.mono (gr.trans g2), r2, hθ, c2, fun x cls d H' M' p' rx hR => l2 x cls d H' M' p' rx hR⟩⟩
/-- isinstance of what is handled -/
def KtOk (G : Gx) (cv : Value) (kt : Value → Option Bool) : Prop := ∀ D b, kt D = some b → (∃ Da, D = .ref Da ∧ ExcC G.K Da) ∧ PySem.W.kitOne G.K D cv = some b
theorem ej_ise (S : Sta G N k sc blk X) {i : Nat} {a : Addr} {D cv : Value} {n y : Str} {kt : Value → Option Bool} {p1 p2 p3 p4 : Pos} {v : TV} (hot : k.hot = some (a, D)) (hN : X.N[i]? = some n) (hv : Vis X.env.scope n) (hn : okN n = true) (hg : Gl X "isinstance") (hm : G.mg "isinstance" = none)
    (hy : EJ X (.Name y p3) (fun _ M Q _ => Q v M)) (hcv : ∀ H v' u, Rv G.K H v v' → RelV v' u → u = cv) (KT : KtOk G cv kt) :
    EJ X (.Call (.Name "isinstance" p1) [.Name n p2, .Name y p3] [] p4) (fun σ M Q _ => gs σ i = some (.ref a) ∧ ∃ b, kt D = some b ∧ Q (.bl b) M) := fun W tk => by
  refine ⟨fun pins s σ' H Q' I h => ?_⟩
  obtain ⟨σ, M, Q, R, hs, hM, ⟨e1, b, e2, hQ⟩, cq, l⟩ := h
  obtain ⟨⟨Da, rfl, EC⟩, kb⟩ := KT D b e2
  obtain ⟨Y, oe, pn, rfl, hz, hf⟩ := S.exn a (.ref Da) hot
  obtain ⟨v1, h1, r1⟩ := hs.get (gs_eq e1)
  cases r1
  have hK : Y.K = G.K := S.hK
  have cj := call_isE (X := Y) (a := a) (pn := pn) (by rw [hK]; exact EC) hz hf
  have A2 : AJ (Y.suite a ((a, oe) :: pn)) [.Name n p2, .Name y p3] (fun σ M Q _ => ∃ z, gs σ i = some z ∧ Q [z, v] M) := by
    have := aj_cons (ej_var (pos := p2) hN hv (okN_d hn) (okN_c hn)) (aj_cons hy aj_nil rfl) (e := .Name n p2) rfl
    exact this
  have key := pe_callB (pos := p4) (p := p1) cj hg (by rw [S.hm]; exact hm) rfl (A2 W tk) (by decide) (by decide) rfl rfl
  refine key.run pins s σ' H Q' I ⟨σ, M, fun xs M1 => M1 = M ∧ xs = [.ref a, v], R, hs, hM, ⟨_, e1, rfl, rfl⟩, fun xs vs H1 M1 hl p1 rv hq => ?_, l⟩
  obtain ⟨rfl, rfl⟩ := hq
  obtain ⟨v1, v2, rfl, ra, rb⟩ := rv.two
  cases ra
  exact ⟨v2, cv, b, rfl, fun u ru => hcv H1 v2 u (by rw [← hK]; exact rb) ru, by show PySem.W.kitOne Y.K _ _ = _; rw [hK]; exact kb, cq _ _ _ _ p1 (.bl b) hQ⟩
end
/-- an own error without arguments -/
theorem pmk_own0 {X : Cx} {C : Addr} {bmB : List Value} {B newId initId : String} {x : Str} {p pos : Pos} (F : ExcBaseFacts B newId initId bmB) (q : PySem.W.excIn X.K C bmB newId = true) (gC : X.mg x = some (.ref C)) (kC : PySem.W.keepIn X.K (.ref C) = true) (r : Raises X (.ref C)) (hg : Gl X x)
    (hdb : (x == ("__debug__" : Str)) = false) : PMk X (.Call (.Name x p) [] [] pos) (fun _ H Q => Q (.ref C) none H) := by
  intro pins s σ H Q I h
  refine wpAny_Call_Name_kw (ld_glob I hg gC ?_ hdb)
  refine PySem.W.callWith_K0 I.kIn kC ?_
  obtain ⟨bm, N, nm, qn, bs, hdct, sn, sub, ab, col, dd, k0, k1, k2, k3, k5, mN, hC, hN, hni, T⟩ := exc_obj I.kIn q
  refine wpAny_call_exc_subT F T hC hN hni (fun h' e hm => ?_) (Nat.zero_le _)
  exact mk_of I hm r h (I.hok.gone hm.new)
end TL

/-! TLamD: a lambda whose one parameter has an int for default, handed to a def. -/
namespace TL
open PySem PySem.Spec PyProof.Rows L2
/-- the lambda's object -/
abbrev lamO (X : Cx) (params : Arguments) (body : Expr) (scope : Scope) (D : Addr) (doc pm : Value) (c' : Addr) (cv : Value) : Obj :=
  PySem.W.kdv_obj "<lambda>" (X.env.qual ++ "<lambda>") params (.expr body) scope (cloFrom X.env.cells scope.names []) (.ref D) doc pm c' cv
section
variable {X : Cx} {pins : List (Addr × Obj)} {σ : L2.St} {H HZ : Hp} {s s1 : Shared}
theorem LamD.cell {o : Str} {scope : Scope} (L : LamD o X.env.scope scope) (ok : X.Ok) : ∀ y ∈ scope.names, y.2 = .free → ∃ c, X.env.cells.lookup y.1 = some c := fun y hy e => by
  rcases L.fr y hy e with z | z
  · exact ok.has _ (.inl z)
  · exact ok.has _ (.inr z)
/-- the defaults' tuple and the lambda are made -/
theorem makeD {o : Str} {T : List (Addr × Str)} {c P : Addr} {ap dp pos : Pos} {i : Int} {j : Nat} {body : Expr} {scope : Scope} {Q : Value → Shared → Prop} (I : Inv X pins σ H s) (TB : LamX.TabB X.base X.mg c P) (hcode : X.env.code = .ref c)
    (hm : (P, X.env.qual ++ "<lambda>") ∈ T) (hu : ∀ p ∈ T, p.1 = P → p.2 = X.env.qual ++ "<lambda>") (hT : LamX.Tabs T H) (L : LamD o X.env.scope scope)
    (h : ∀ (f c' D : Addr) (doc pm ctv : Value) (t : Tok) (H1 : Hp) (s' : Shared), Inv X pins σ H1 s' → LamX.ExtN H H1 → LamX.Tabs T H1 →
      s'.heap.get? f = some (lamO X (dPar o ap (.Constant (.int i) j dp)) body scope D doc pm c' ctv) → H1 f = none → f ∉ frs X.stack → s'.heap.get? D = some (PySem.W.kdv_tup [.int i t]) → H1 D = none → D ∉ frs X.stack →
      H1 c' = some (LamX.CodeO c' (X.env.qual ++ "<lambda>")) → Q (.ref f) s') :
    wpAny (model X.prog X.w) X.A (eval (.Lambda (dPar o ap (.Constant (.int i) j dp)) body scope pos) X.env) Q X.xe s := by
  refine PySem.W.kdv_lam rfl rfl (PySem.W.kdv_all1 (wpAny_mono ((pe_int (X := X) (j := j) (pos := dp)).run pins s σ H (fun v H' => v = .int i ∧ H' = H) I ⟨rfl, rfl⟩) (fun u s₁ q => ?_) fun e s' q => q))
  obtain ⟨v, H', I₁, ru, rfl, rfl⟩ := q
  obtain ⟨t, rfl⟩ : ∃ t, u = .int i t := ru
  refine PySem.W.kdv_all0 ?_
  rw [makeFunction_eq]
  simp only [List.zip_nil_right, List.filterMap_nil, List.isEmpty_nil, if_true, pure_bind, List.isEmpty_cons, Bool.false_eq_true, if_false]
  refine wpAny_bind (wpAny_newTextTuple ?_)
  have I₂ : Inv X pins σ H' { s₁ with heap := s₁.heap.push (PySem.W.kdv_tup [.int i t]) } := I₁.kept fun b ob e => Heap.get?_push_of_some _ e
  obtain ⟨ps, hP, ht, ha⟩ := hT _ hm
  have hP' : (s₁.heap.push (PySem.W.kdv_tup [.int i t])).get? P = some { cls := .none, data := .fields ps } := I₂.hok P _ hP
  have bP : (s₁.heap.push (PySem.W.kdv_tup [.int i t])).BuiltinsAt X.mg P := TB.bm.keeps I₂.bk
  have hD : (s₁.heap.push (PySem.W.kdv_tup [.int i t])).get? s₁.heap.objs.size = some (PySem.W.kdv_tup [.int i t]) := Heap.get?_push_size _ rfl
  have nD : H' s₁.heap.objs.size = none := I₁.hok.fresh (Nat.le_refl _)
  have off : ∀ {h' : Heap} {s' : Shared} {H₂ : Hp} {σ' : L2.St}, Inv X pins σ' H₂ s' → ∀ b, s'.heap.objs.size ≤ b → b ∉ frs X.stack := fun {h' s' H₂ σ'} J b hb z => by
    rcases List.mem_cons.mp (J.stkSub _ z) with e | e
    · have h1 := J.lt
      rw [← e] at h1
      exact absurd (Nat.lt_of_lt_of_le h1 hb) (Nat.lt_irrefl _)
    · exact J.nofs hb e
  have dF : s₁.heap.objs.size ∉ frs X.stack := off (h' := s₁.heap) I₁ _ (Nat.le_refl _)
  have clo : closureFor scope X.env = pure (cloFrom X.env.cells scope.names []) := closure_ok (L.cell I₂.ok)
  cases hc : codeAmong pos ps.toList with
  | some cv =>
    obtain ⟨c', rfl, hco⟩ := ha pos cv hc
    refine PySem.W.kdv_makeTailHit (mg := X.mg) (c := c) (P := P) (ps := ps) clo I₂.ok.glob (I₂.mod.glob.keeps I₂.bk) hcode (TB.code.keeps I₂.bk) hP' ht hc bP fun ctv doc h' tk kp sz => ?_
    have I₃ : Inv X pins σ H' { s₁ with heap := h'.push (lamO X (dPar o ap (.Constant (.int i) j dp)) body scope s₁.heap.objs.size doc ((X.mg "__name__").getD .none) c' ctv), toks := tk } := I₂.kept fun b ob e => Heap.get?_push_of_some _ (kp b ob e)
    exact h h'.objs.size c' s₁.heap.objs.size doc _ ctv t H' _ I₃ (.refl H') hT (Heap.get?_push_size _ rfl) (I₂.hok.fresh sz) (off (h' := h') I₂ _ sz) (Heap.get?_push_of_some _ (kp _ _ hD)) nD dF hco
  | none =>
    refine PySem.W.kdv_makeTail (mg := X.mg) (c := c) (P := P) (ps := ps) clo I₂.ok.glob (I₂.mod.glob.keeps I₂.bk) hcode (TB.code.keeps I₂.bk) hP' ht hc TB.gP bP fun c' ctv doc h' tk hx ge lt hr htb => ?_
    obtain ⟨c2, oc, vs, tq, ec, hoc, hd, hv⟩ := hr
    cases ec
    have sz : (s₁.heap.push (PySem.W.kdv_tup [.int i t])).objs.size ≤ h'.objs.size := Nat.le_trans ge (Nat.le_of_lt lt)
    have nC : H' c' = none := I₂.hok.fresh ge
    have nP : s₁.heap.objs.size ≠ P := fun z => by rw [z, hP] at nD; cases nD
    have I₃ := LamX.inv_table (t' := tk) (more := #[rawInt pos.line, rawInt pos.col, .ref c']) (h' := h'.push (lamO X (dPar o ap (.Constant (.int i) j dp)) body scope s₁.heap.objs.size doc ((X.mg "__name__").getD .none) c' ctv)) I₂ hP
      (fun b ob hb e => Heap.get?_push_of_some _ (hx b ob hb e)) (Heap.get?_push_of_some _ htb) ge ⟨oc, vs, tq, Heap.get?_push_of_some _ hoc, hd, hv⟩
    have ex : LamX.ExtN H' (upd (upd H' P (.tbl (ps ++ #[rawInt pos.line, rawInt pos.col, .ref c']))) c' (LamX.CodeO c' (X.env.qual ++ "<lambda>"))) := fun b ob e n => by
      have n1 : b ≠ c' := ne_of_none e nC
      have n2 : b ≠ P := fun z => n ps (Option.some.inj (e.symm.trans (by rw [z]; exact hP)))
      rw [upd_ne n1, upd_ne n2, e]
    have el : (ps ++ #[rawInt pos.line, rawInt pos.col, .ref c']).toList = ps.toList ++ [rawInt pos.line, rawInt pos.col, .ref c'] := by simp
    have away : ∀ b, H' b = none → b ≠ c' → upd (upd H' P (.tbl (ps ++ #[rawInt pos.line, rawInt pos.col, .ref c']))) c' (LamX.CodeO c' (X.env.qual ++ "<lambda>")) b = none := fun b n1 n2 => by
      have n3 : b ≠ P := fun z => by rw [z, hP] at n1; cases n1
      rw [upd_ne n2, upd_ne n3, n1]
    refine h h'.objs.size c' s₁.heap.objs.size doc _ ctv t _ _ I₃ ex (fun p hp => ?_) (Heap.get?_push_size _ rfl) (away _ (I₂.hok.fresh sz) (Nat.ne_of_gt lt)) (off (h' := h') I₂ _ sz) (Heap.get?_push_of_some _ (hx _ _ nP hD)) (away _ nD fun z => ?_) dF upd_same
    · by_cases hb : p.1 = P
      · rw [hu p hp hb, hb]
        refine ⟨_, by rw [upd_ne (ne_of_none hP nC), upd_same], by rw [el]; exact PySem.TriplesOk_snoc _ _ _ _ ht, fun p' cv hcv => ?_⟩
        rw [el] at hcv
        rcases LamX.among_app _ ht hcv with z | z
        · obtain ⟨c0, e1, e2⟩ := ha p' cv z
          exact ⟨c0, e1, ex _ _ e2 LamX.codeO_ne⟩
        · exact ⟨c', z, upd_same⟩
      · obtain ⟨qs, b1, b2, b3⟩ := hT p hp
        have n1 : p.1 ≠ c' := ne_of_none b1 nC
        refine ⟨qs, by rw [upd_ne n1, upd_ne hb, b1], b2, fun p' cv hcv => ?_⟩
        obtain ⟨c0, e1, e2⟩ := b3 p' cv hcv
        exact ⟨c0, e1, ex _ _ e2 LamX.codeO_ne⟩
    · have g2 : (s₁.heap.push (PySem.W.kdv_tup [.int i t])).objs.size ≤ c' := ge
      rw [Heap.size_push] at g2
      rw [← z] at g2
      exact absurd g2 (Nat.not_succ_le_self _)
/-- its body's context -/
theorem startD {o : Str} {A : Around} {outer : List Env} {E : XK} {scope : Scope} {f c' : Addr} {h₁ : Heap} {tk : Nat} {mn : Str → Option Value} (I : Inv X pins σ H s) (L : LamD o X.env.scope scope) (ho : o ∉ X.N) (e0 : Env0 X.prog X.w X.K X.mg X.base A outer s1 HZ) (hd : A.handled = none)
    (un : Un (frs X.stack) [] H HZ s.heap s1.heap) (hns : h₁.Ns s1.heap.objs.size mn) (kp : ∀ b ob, s1.heap.get? b = some ob → h₁.get? b = some ob) :
    Inv (LamX.lamCx X A outer s1 HZ E scope f c') [] σ HZ { s1 with heap := h₁, toks := tk } := by
  have back : ∀ {y c}, (cloFrom X.env.cells scope.names []).lookup y = some c → X.env.cells.lookup y = some c := fun {y c} e => by
    rcases cloFrom_mem (PySem.mem_of_lookup e) with z | ⟨z1, z2⟩
    · cases z
    · obtain ⟨c1, hc⟩ := L.cell I.ok _ z1 rfl
      have hc : X.env.cells.lookup y = some c1 := hc
      have : c = c1 := by rw [z2, hc] <;> rfl
      rw [this, hc]
  have front : ∀ {y}, scope.names.lookup y = some .free → ∃ c, (cloFrom X.env.cells scope.names []).lookup y = some c := fun {y} e =>
    mem_lookup (cloFrom_has (cells := X.env.cells) (acc := []) (show (y, NameKind.free) ∈ scope.names from PySem.mem_of_lookup e))
  have still : ∀ {c : Addr} {v : Option Value}, H c = none → s.heap.IsCell c v → h₁.IsCell c v := fun {c v} n ⟨ob, e, d⟩ => by
    obtain ⟨sl, q⟩ := un.any e n (by simp)
    exact ⟨_, kp _ _ q, d⟩
  have none_ : ∀ b : Addr, b ∉ (LamX.lamCx X A outer s1 HZ E scope f c').ex := fun b z => absurd (show b ∈ ([] : List Addr) from z) List.not_mem_nil
  have okC : (LamX.lamCx X A outer s1 HZ E scope f c').Ok :=
    ⟨e0.mod, L.kd, rfl, rfl, Nat.le_refl _, fun y z c p q => I.ok.inj y z c (back p) (back q), fun y hy => by
      have hy : scope.names.lookup y = some .cell ∨ scope.names.lookup y = some .free := hy
      rcases hy with hy | hy
      · exact ((L.nm _ (PySem.mem_of_lookup hy)).1 rfl).elim
      · exact front hy, fun y c z _ => (by have z : false = true := z; cases z), fun _ => hd, Around.frames_deeper e0.frames, .inr ⟨rfl, rfl⟩, fun b z => (none_ b z).elim, e0.bs, e0.bsz, fun b _ _ => none_ b, fun b z => (none_ b z).elim, e0.funs, e0.frf⟩
  refine ⟨okC, rfl, e0.bare, Un.kept kp, ⟨mn, hns, fun i y v q1 q2 q3 => ?_⟩, fun y c e => ?_, e0.hok.fresh (Nat.le_refl _), fun y c e => ?_, fun q hq => absurd (show q ∈ ([] : List (Addr × Obj)) ++ [] from hq) (by simp), e0.hok.kept kp, I.len⟩
  · have q3 : Vis scope y := q3
    have q1' : X.N[i]? = some y := q1
    rcases q3 with k | k | k
    · have e := (L.nm _ (PySem.mem_of_lookup k)).2 rfl
      have e : y = o := e
      exact absurd (List.mem_of_getElem? (by rw [← e]; exact q1')) ho
    · exact ((L.nm _ (PySem.mem_of_lookup k)).1 rfl).elim
    · obtain ⟨m, hn, hl⟩ := I.loc
      have sees : Vis X.env.scope y := (L.fr _ (PySem.mem_of_lookup k) rfl).elim (fun z => .inr (.inl z)) fun z => .inr (.inr z)
      obtain ⟨w', r, q⟩ := hl i y v q1 q2 sees
      obtain ⟨c2, h2⟩ := front k
      refine ⟨w', r, .inr ⟨.inr k, c2, h2, ?_⟩⟩
      rcases q with ⟨k', _⟩ | ⟨_, c3, e', z⟩
      · have k' : X.env.scope.names.lookup y = some .local := k'
        exfalso
        rcases L.fr _ (PySem.mem_of_lookup k) rfl with k2 | k2
        · have k2 : X.env.scope.names.lookup y = some .cell := k2
          rw [k2] at k'
          cases k'
        · have k2 : X.env.scope.names.lookup y = some .free := k2
          rw [k2] at k'
          cases k'
      · rw [back h2] at e'
        cases e'
        exact still (I.freeC y _ (back h2)) z
  · obtain ⟨w', z⟩ := I.cell y c (back e)
    exact ⟨w', still (I.freeC y c (back e)) z⟩
  · obtain ⟨v, ob, e1, d⟩ := I.cell y c (back e)
    exact un.free c ob e1 (I.freeC y c (back e)) (by simp)
theorem bindD {o : Str} {D : Addr} {v : Value} {ap : Pos} {d : Expr} {body : Expr} {scope : Scope} {cl : List (Str × Addr)} {qn : Str} {doc pm cd ct : Value} (ho : o = "of" ∨ o = "size") (h : s.heap.get? D = some (PySem.W.kdv_tup [v])) :
    BindsTo s (PySem.W.kdv_fn "<lambda>" qn (dPar o ap d) (.expr body) scope cl (.ref D) doc pm cd ct) ⟨[], []⟩ [(o, v)] := by
  rcases ho with rfl | rfl <;> exact BindsTo.of_defaults (T := D) rfl h rfl rfl rfl
/-- the call of such a lambda, in the def that got it -/
theorem actD {o : Str} {CXg : CXT} {Eg : XK} {Ng : List Str} {qg : Str} {sg : Scope} {g f c' D : Addr} {cdg doc pm ctv dv : Value} {ap : Pos} {dx : Expr} {body : Expr} {scope : Scope} {k : Nat} {a : Str} {pn : List (Addr × Obj)} {xe : Value → Shared → Prop} {W : WX} {E : XK} {tb : TE} {p1 p2 : Pos}
    (I : Inv X pins σ H s) (L : LamD o X.env.scope scope) (ho : o ∉ X.N) (hoo : o = "of" ∨ o = "size") (hf : s.heap.get? f = some (lamO X (dPar o ap dx) body scope D doc pm c' ctv)) (fn : H f = none) (fo : f ∉ frs X.stack) (hD : s.heap.get? D = some (PySem.W.kdv_tup [dv])) (Dn : H D = none) (Do : D ∉ frs X.stack)
    (tk : Takes ((cxOf CXg X.prog X.w X.K X.mg X.base Ng qg sg g cdg X.A X.stack s H Eg).tr pn xe) W) (hW : ∀ cls d σ' H', E cls d H' → W cls d σ' H') (hr : Room (k + 1) (X.A.deeper (envOfC qg sg s.heap.objs.size g cdg)))
    (hb : ∀ (A : Around) (outer : List Env) (s : Shared) (H : Hp), Room k (A.deeper (LamX.lamEnv X scope s.heap.objs.size f c')) → PE (LamX.lamCx X A outer s H E scope f c') body tb)
    (hN : Ng[0]? = some a) (hv : Vis sg a) (n1 : (a == ("__debug__" : Str)) = false) (n2 : (a == ("__classdict__" : Str)) = false) :
    PE ((cxOf CXg X.prog X.w X.K X.mg X.base Ng qg sg g cdg X.A X.stack s H Eg).tr pn xe) (.Call (.Name a p1) [] [] p2)
      (fun σZ HZ Q => σZ[0]? = some (some (.ref f)) ∧ HZ c' = some (LamX.CodeO c' (X.env.qual ++ "<lambda>")) ∧ tb σ HZ Q) := by
  refine ⟨fun pinsZ sZ σZ HZ Q IZ ⟨h1, h2, h3⟩ => ?_⟩
  refine wpAny_Call_Name_kw (thn ((pe_var (pos := p1) (i := 0) hN hv n1 n2).run pinsZ sZ σZ HZ (fun v H1 => v = .ref f ∧ H1 = HZ) IZ ⟨.ref f, h1, rfl, rfl⟩) fun u s1 ⟨v, H1, J, r, e1, e2⟩ => ?_)
  subst e1
  rw [e2] at J
  obtain rfl : u = Value.ref f := r
  have off : ∀ {b : Addr} {ob : Obj}, s.heap.get? b = some ob → H b = none → b ∉ frs X.stack → s1.heap.get? b = some ob := fun {b ob} e n m => J.base.keep b _ e n m fun z => nomatch (show b ∈ ([] : List Addr) from z)
  have atf := off hf fn fo
  refine PySem.W.callWith_F0 ⟨_, _, _, _, atf⟩ ?_
  have un : Un (frs X.stack) [] H HZ s.heap s1.heap := J.base
  obtain ⟨⟨oc, us, tq, q1, q2, q3⟩, _, _⟩ := J.hok c' _ h2
  have run : codeAny (model X.prog X.w) (X.A.deeper (envOfC qg sg s.heap.objs.size g cdg)) (.call (.ref f) ⟨[], []⟩) (CR (L2.CX X.prog X.w) (envOfC qg sg s.heap.objs.size g cdg :: X.stack) X.prog X.w HZ s1 Q E) s1 := by
    refine PySem.W.kla_callFunE hr.depth atf rfl L.ct L.gt rfl ⟨c', oc, us, tq, rfl, q1, q2, q3⟩ (bindD hoo (off hD Dn Do) _ _ _ _ ?_)
    refine wpAny_newFunctionEnv (fun y hy => (L.nm y hy).1) (fun y hy => by rw [List.mem_singleton.mp hy]; exact L.pr) (fun h₁ hns hsb => ⟨J.nolimit.fresh _ hsb, ?_⟩) L.kd
    show codeAny _ _ (.expr body (LamX.lamEnv X scope s1.heap.objs.size f c')) _ _
    have B : Inv (LamX.lamCx X (X.A.deeper (envOfC qg sg s.heap.objs.size g cdg)) (envOfC qg sg s.heap.objs.size g cdg :: X.stack) s1 HZ E scope f c') [] σ HZ { s1 with heap := h₁, toks := s1.toks + ([(o, dv)] : List (Str × Value)).length } :=
      startD I L ho J.env0 hr.hd un hns fun b ob e => hsb.extBut b ob (Nat.ne_of_lt (Heap.lt_size e)) (Heap.get?_push_of_some _ e)
    refine PySem.W.kla_codeExpr (wpAny_mono ((hb _ _ s1 HZ (hr.deeper _)).run [] _ _ HZ Q B h3) (fun v s' q => ?_) fun e s' q => q)
    obtain ⟨w', H', B', rv, q⟩ := q
    exact ⟨w', H', B'.os, B'.bare, B'.base, B'.hok, rv, q⟩
  refine wpAny_call (codeAny_mono run fun r s2 q => ?_)
  have hx : Passes (L2.CX X.prog X.w) ((cxOf CXg X.prog X.w X.K X.mg X.base Ng qg sg g cdg X.A X.stack s H Eg).tr pn xe) E := passes_call tk hW
  match r, q with
  | .error e, q => exact hx pinsZ σZ HZ s1 e s2 J q
  | .ok (.ret u), q => exact J.after q
  | .ok .next, q => exact q.elim
  | .ok .brk, q => exact q.elim
  | .ok .cont, q => exact q.elim
/-- the def at g gets such a lambda -/
theorem lamcallD {o : Str} {T : List (Addr × Str)} {TT : (XK → Hp → VK → Prop) → Hp → VK → Prop} {x a : Str} {g c P : Addr} {k : Nat} {pg : Arguments} {bg : List Stmt} {sg : Scope} {dV kV doc pm cdv ct oc : Value} {an od : Option Addr} {osl : Array (Option Value)} {Ng : List Str}
    {ap dp p lpos pos : Pos} {i : Int} {j : Nat} {body : Expr} {scope : Scope} {t : XK → TE} (hg : Gl X x) (hm : X.mg x = some (.ref g)) (hk : PySem.W.keepIn X.K (.ref g) = true)
    (lk : X.K.lookup g = some ⟨oc, od, .func (PySem.W.fnOf x x pg bg sg dV kV doc pm an cdv ct), osl⟩) (hcg : PySem.W.codeIn X.K cdv x = true) (hb : L2.Binds X.K (PySem.W.fnOf x x pg bg sg dV kV doc pm an cdv ct) [a] []) (Sg : FnScope Ng [a] sg) (hNg : Ng[0]? = some a) (hva : Vis sg a)
    (hG : LamX.GivesTo X Ng x sg g cdv bg a (X.env.qual ++ "<lambda>") TT) (TB : LamX.TabB X.base X.mg c P) (hcode : X.env.code = .ref c) (hmT : (P, X.env.qual ++ "<lambda>") ∈ T) (hu : ∀ p ∈ T, p.1 = P → p.2 = X.env.qual ++ "<lambda>") (hr : Room (k + 2) X.A)
    (L : LamD o X.env.scope scope) (ho : o ∉ X.N) (hoo : o = "of" ∨ o = "size") (hbody : ∀ (A : Around) (outer : List Env) (s : Shared) (H : Hp) (E : XK) (f c' : Addr), Room k (A.deeper (LamX.lamEnv X scope s.heap.objs.size f c')) → PE (LamX.lamCx X A outer s H E scope f c') body (t E))
    (n0 : (x == ("__debug__" : Str)) = false) (n1 : (a == ("__debug__" : Str)) = false) (n2 : (a == ("__classdict__" : Str)) = false) :
    PE X (.Call (.Name x p) [.Lambda (dPar o ap (.Constant (.int i) j dp)) body scope lpos] [] pos) (LamX.tLam T TT t) := by
  refine ⟨fun pins s σ H Q I ⟨hT, hq⟩ => ?_⟩
  refine wpAny_Call_Name_kw (ld_glob I hg hm ?_ n0)
  refine PySem.W.callWith_K (h₀ := X.base) I.ok.mod.kin hk ?_ (by rfl) (by rfl)
  show wpAny _ _ (spliced ((false, eval (.Lambda (dPar o ap (.Constant (.int i) j dp)) body scope lpos) X.env) :: backTo pos (starEach [] X.env))) _ _ s
  refine Calls.spliced_cons (makeD I TB hcode hmT hu hT L fun f c' D doc' pm' ctv tv H1 s' J ex T1 hf fn fo hD Dn Do hco => Calls.spliced_nil ⟨J.kIn, ?_⟩)
  have run : codeAny (model X.prog X.w) X.A (.call (.ref g) ⟨[.ref f], []⟩) (CR C8.CX0 X.stack X.prog X.w H1 s' Q C8.E0) s' := by
    refine LamX.run_ofS (N := Ng) (ps := [a]) (us := [.ref f]) (vs := [.ref f]) lk hcg Sg hr J.env0 (hb s' [.ref f] J.kIn rfl) (.cons rfl .nil) rfl fun hr2 => ?_
    obtain ⟨t', ht', hq'⟩ := hG f c' s' H1 Q (fun E H' Q' => t E σ H' Q') (fun W pn xe E p1 p2 tk hW => actD J L ho hoo hf fn fo hD Dn Do tk hW hr2 (fun A outer s H hr3 => hbody A outer s H E f c' hr3) hNg hva n1 n2) hco (hq H1 ex T1)
    exact ⟨t', ht'.nox, hq'⟩
  refine wpAny_call (codeAny_mono run fun r s2 q => ?_)
  match r, q with
  | .error e, q => exact (show False from q).elim
  | .ok (.ret u), q => exact J.after q
  | .ok .next, q => exact q.elim
  | .ok .brk, q => exact q.elim
  | .ok .cont, q => exact q.elim
end
section
variable {G : Gx} {N : List Str} {k : CtI} {sc : Scope} {blk : Option Scope} {X : Cx}
theorem ej_lamd (S : Sta G N k sc blk X) (hk : k.hot = none) {x q : Str} {g P c : Addr} {Φ : TLam} {p lpos pos : Pos} {body : Expr} {scope : Scope} {wb : WE} {o : Str} {ap dp : Pos} {i0 : Int} {j0 : Nat} (hg : Gl X x) (hm : G.mg x = some (.ref g)) (hx : okN x = true) (HL : HeldL G k.k x g Φ) (hc : k.c = .ref c) (TB : LamX.TabB G.base G.mg c P)
    (hq : q = k.q ++ "<lambda>") (L : lamDB o sc scope = true) (ho : o ∉ N) (hoo : o = "of" ∨ o = "size") (n2 : 2 ≤ k.k)
    (hb : ∀ (A : Around) (outer : List Env) (s : Shared) (H : Hp) (E : XK) (f c' : Addr), Room (k.k - 2) (A.deeper (LamX.lamEnv X scope s.heap.objs.size f c')) → EJ (LamX.lamCx X A outer s H E scope f c') body wb) :
    EJ X (.Call (.Name x p) [.Lambda (dPar o ap (.Constant (.int i0) j0 dp)) body scope lpos] [] pos) (fun σ M Q _ => M P = some (.tbl q) ∧ Φ (fun M1 Q1 R1 => wb σ M1 Q1 R1) M Q) := fun W tk => by
  obtain ⟨pg, bg, sg, dV, kV, doc, pm, cdv, ct, oc, an, od, osl, Ng, a, h1, h2, h3, h4, h5, h6, h7, h8, hG⟩ := HL
  refine ⟨fun pins s σ' H Q' I h => ?_⟩
  obtain ⟨σ, M, Q, R, hs, hM, ⟨hP, hΦ⟩, cq, l⟩ := h
  have nc : k.c ≠ .none := by rw [hc]; exact fun z => by cases z
  have eq := S.hq nc
  have ec : X.env.code = .ref c := (S.hcd nc).trans hc
  let T : List (Addr × Str) := (List.range s.heap.objs.size).filterMap fun a => match M a with
    | some (.tbl q) => some (a, q)
    | _ => none
  have memT : ∀ z ∈ T, M z.1 = some (.tbl z.2) := fun z hz => by
    obtain ⟨b, _, e⟩ := List.mem_filterMap.mp hz
    split at e
    · rename_i q' e'
      cases e
      exact e'
    · cases e
  have inT : ∀ b q, M b = some (.tbl q) → (b, q) ∈ T := fun b q e => by
    obtain ⟨ps, e1, _⟩ := hM b _ e
    obtain ⟨o, e2⟩ := objOk_get (I.hok b _ e1)
    refine List.mem_filterMap.mpr ⟨b, List.mem_range.mpr (Heap.lt_size e2), ?_⟩
    rw [e]
  have rule := lamcallD (X := X) (T := T) (TT := TTof G.K Φ) (t := fun E => LE X.K (fun cls d _ H => E cls d H) wb) (k := k.k - 2) (p := p) (lpos := lpos) (pos := pos) (o := o) (ap := ap) (dp := dp) (i := i0) (j := j0) (body := body) (scope := scope) (P := P) hg (by rw [S.hm]; exact hm)
    (by rw [S.hK]; exact h1) (by rw [S.hK]; exact h2) (by rw [S.hK]; exact h3) (by rw [S.hK]; exact h4) h5 h6 h7 (hG X _ S.hP S.hw S.hK S.hm S.hb (S.room hk)) (by rw [S.hb, S.hm]; exact TB) ec (by rw [eq, ← hq]; exact inT _ _ hP)
    (fun z hz ez => by
      have := memT z hz
      rw [ez, hP] at this
      cases this
      rw [eq, ← hq])
    ((S.room hk).mono (by omega)) (by rw [S.hsc]; exact lamD_by L) (by rw [S.hN]; exact ho) hoo (fun A outer s H E f c' hr => hb A outer s H E f c' hr _ (takes_of rfl rfl rfl rfl)) (okN_d hx) (okN_d h8) (okN_c h8)
  refine rule.run pins s σ' H Q' I ⟨fun z hz => hM _ _ (memT z hz), fun H1 eN T1 => ?_⟩
  obtain ⟨po, gr⟩ := lam_post hM eN fun b q e => T1 _ (inT b q e)
  rw [← S.hK]
  exact ⟨M, Q, fun M1 Q1 R1 => wb σ M1 Q1 R1, po.rep, hΦ, cq.on po, fun H2 M2 Q2 R2 Q2' E2 g2 r2 hθ c2 l2 => ⟨σ, M2, Q2, R2, hs.mono (gr.trans g2), r2, hθ, c2, fun x cls d H' M' p' rx hR => l2 x cls d H' M' p' rx hR⟩⟩
end
end TL

/-! TSnd: what the check tells. -/
namespace TL
open PySem PySem.Spec PyProof.Rows L2

/-- defs in slots stand so deep at most -/
def cavK : Nat := 30
section
variable (G : Gx)
mutual
def okE' : Ex → CtI → Prop
  | .loc _, _ => True
  | .cst _, _ => True
  | .glb x v, _ => GlV G x v
  | .bin _ a b, k => okE' a k ∧ okE' b k
  | .cmp _ a b, k => okE' a k ∧ okE' b k
  | .chn _ _ a b c, k => okE' a k ∧ okE' b k ∧ okE' c k
  | .neg a, k => okE' a k
  | .nt a, k => okE' a k
  | .and a b, k => okE' a k ∧ okE' b k
  | .or a b, k => okE' a k ∧ okE' b k
  | .ite c a b, k => okB' c k ∧ okE' a k ∧ okE' b k
  | .tup es, k => okEs' es k
  | .lst es, k => okEs' es k
  | .dic0, _ => True
  | .ix a b, k => okE' a k ∧ okE' b k
  | .sl a lo hi, k => okE' a k ∧ okO' lo k ∧ okO' hi k
  | .rv a, k => okE' a k
  | .bi f es, k => (G.mg f.name = none ∧ k.hot = none) ∧ okEs' es k
  | .call x f sp es, k => (G.mg x = some (.ref f) ∧ HeldX G k.grd k.k f sp ∧ k.hot = none) ∧ okEs' es k
  | .cav _ es, k => (cavK ≤ k.k ∧ k.hot = none) ∧ okEs' es k
  | .mth _ o es, k => okE' o k ∧ okEs' es k
  | .lam x g Φ P q e, k => (G.mg x = some (.ref g) ∧ HeldL G k.k x g Φ ∧ k.hot = none) ∧ (q = k.q ++ "<lambda>" ∧ 2 ≤ k.k ∧ ∃ c, k.c = .ref c ∧ LamX.TabB G.base G.mg c P) ∧ okE' e ⟨k.k - 2, "", .none, none, none, false⟩
  | .lamd x g Φ P q e, k => (G.mg x = some (.ref g) ∧ HeldL G k.k x g Φ ∧ k.hot = none) ∧ (q = k.q ++ "<lambda>" ∧ 2 ≤ k.k ∧ ∃ c, k.c = .ref c ∧ LamX.TabB G.base G.mg c P) ∧ okE' e ⟨k.k - 2, "", .none, none, none, false⟩
  | .rep e, k => (G.mg "repr" = none ∧ k.grd = true) ∧ okE' e k
  | .ise _ a D y cv kt, k => k.hot = some (a, D) ∧ G.mg "isinstance" = none ∧ (∃ v, GlV G y v ∧ ∀ H v' u, Rv G.K H v v' → RelV v' u → u = cv) ∧ KtOk G cv kt
  | .lc _ it c el _, k => okI' it k ∧ okBo' c k ∧ okE' el k ∧ k.hot = none
  | .lc2 _ it c _ it1 c1 el _ _, k => okI' it k ∧ okBo' c k ∧ okI' it1 k ∧ okBo' c1 k ∧ okE' el k ∧ k.hot = none
def okEs' : Exs → CtI → Prop
  | .nil, _ => True
  | .cons e r, k => okE' e k ∧ okEs' r k
def okO' : Exo → CtI → Prop
  | .no, _ => True
  | .so e, k => okE' e k
def okB' : Bx → CtI → Prop
  | .val e, k => okE' e k
  | .and a b, k => okB' a k ∧ okB' b k
  | .or a b, k => okB' a k ∧ okB' b k
  | .nt a, k => okB' a k
def okBo' : Bo → CtI → Prop
  | .no, _ => True
  | .so b, k => okB' b k
def okI' : It → CtI → Prop
  | .seq e, k => okE' e k
  | .rng1 a, k => G.mg "range" = none ∧ okE' a k
  | .rng2 a b, k => G.mg "range" = none ∧ okE' a k ∧ okE' b k
  | .zip a b, k => G.mg "zip" = none ∧ okE' a k ∧ okE' b k
  | .enum a, k => G.mg "enumerate" = none ∧ okE' a k
end
abbrev okE (k : CtI) (e : Ex) := okE' G e k
abbrev okEs (k : CtI) (e : Exs) := okEs' G e k
abbrev okO (k : CtI) (e : Exo) := okO' G e k
abbrev okB (k : CtI) (e : Bx) := okB' G e k
abbrev okBo (k : CtI) (e : Bo) := okBo' G e k
abbrev okI (k : CtI) (e : It) := okI' G e k
end
theorem cst_ok {X : Cx} {v : TV} {c : Const} {j : Nat} {p : Pos} (h : cstB v c = true) : EJ X (.Constant c j p) (fun _ M Q _ => Q v M) := by
  cases v <;> cases c <;> simp only [cstB, decide_eq_true_eq, beq_iff_eq, Bool.false_eq_true] at h
  · exact ej_const pe_non fun _ => .non
  · subst h; exact ej_const pe_bl fun _ => .bl _
  · subst h; exact ej_const pe_int fun _ => .int _
  · subst h; exact ej_const pe_str fun _ => .str _
theorem glv_ok {G : Gx} {k : CtI} {N : List Str} {sc : Scope} {blk : Option Scope} {X : Cx} (S : Sta G N k sc blk X) {x : Str} {v : TV} {p : Pos} (h : GlV G x v) (hg : glB sc x = true) (hx : okN x = true) (hn : x ≠ "__name__") : EJ X (.Name x p) (fun _ M Q _ => Q v M) := by
  rcases h with ⟨u, h1, v', r, rv⟩ | ⟨u, h1, h2, v', r, rv⟩
  · exact ej_const (pe_glob (S.gl hg) (by rw [S.hm]; exact h1) r (okN_d hx)) fun H => by rw [S.hK]; exact rv H
  · exact ej_const (pe_bltn (S.gl hg) (by rw [S.hm]; exact h1) h2 r hn (okN_d hx)) fun H => by rw [S.hK]; exact rv H

section
variable {G : Gx} {N : List Str} {F : Addr → TSp → Prop}
def TestOk (X : Cx) (x : Expr) (w : WE) : Prop := EJ X x w ∧ ((vCmp x).isSome = true → TJ X x (fun σ M Q R => w σ M (fun z M1 => wTru z M1 Q) R))
theorem TestOk.of {X : Cx} {x : Expr} {w : WE} (h : EJ X x w) (n : (vCmp x).isSome = false) : TestOk X x w := ⟨h, fun c => by rw [n] at c; cases c⟩
theorem tj_chn' {X : Cx} {o p : COp} {a b d : Expr} {wa wb wd : WE} {pos : Pos} (hu : X.A.units + 64 < cLine) (ha : EJ X a wa) (hb : EJ X b wb) (hd : EJ X d wd) (hn : noSet d = true) :
    TJ X (.Compare a [o.op, p.op] [b, d] pos) (fun σ M Q R => wa σ M (fun x M1 => wb σ M1 (fun y M2 => ∃ k, cmpF o M2 x y = some k ∧
      (if k = true then wd σ M2 (fun z M3 => wCop p y z M3 (fun z M4 => wTru z M4 Q)) R else wTru (.bl false) M2 Q)) R) R) := tj_chn hu ha hb hd hn
theorem tests_no {X : Cx} : PTs X [] (LT X.K F0 (fun _ M Q _ => Q true M)) := ⟨fun pins s σ' H Q' I ⟨σ, M, Q, R, hs, hM, q, c, l⟩ => pts_nil.run pins s σ' H Q' I (c true H M (.refl hM) q)⟩
/-- a comprehension's clause's tests -/
def BoJ (X : Cx) (fs : List Expr) (w : WT) : Prop := PTs X fs (LT X.K F0 w)
/-- the contexts of a block -/
def InBlk (X : Cx) (bs : Scope) (P : Cx → Prop) : Prop := ∀ (s : Shared) (H : Hp) (C : Addr) (cl : List (Str × Addr)) (fp : List Addr), P (X.blk s H bs (compEnvC bs cl C X.env) fp)
theorem ej_lc {X : Cx} {tg it elt : Expr} {fs : List Expr} {bs : Scope} {own : List (Str × Nat)} {pos : Pos} {T : Tg} {wi} {wt : WT} {we : WE} (hc : X.calm = true) (nd : X.N.Nodup) (hi : IJ X tg it wi) (ok : BlkOk X.N X.env.scope bs own) (hv : ∀ j ∈ T.slots, j ∈ own.map (·.2))
    (hg : InBlk X bs fun Y => PG Y tg (LG X.K T)) (ht : InBlk X bs fun Y => PTs Y fs (LT X.K F0 wt)) (he : InBlk X bs fun Y => PE Y elt (LE X.K F0 we)) (hs : ∀ x, foldedSetIterable it X.env x = pure x) :
    EJ X (.ListComp elt [⟨tg, it, fs, 0⟩] bs pos) (wLc wi T (own.map (·.2)) wt we) := fun W tk => (pe_lc hc nd (hi W tk) ok hg ht he hs).by fun σ' H Q' h => lc_red hv h
theorem ej_lc2 {X : Cx} {tg it tg1 it1 elt : Expr} {fs fs1 : List Expr} {bs : Scope} {own : List (Str × Nat)} {vs1 : List Nat} {pos : Pos} {T T1 : Tg} {wi wi1} {wt wt1 : WT} {we : WE} (hc : X.calm = true) (nd : X.N.Nodup) (hi : IJ X tg it wi) (ok : BlkOk X.N X.env.scope bs own) (hv : ∀ j ∈ T.slots, j ∈ own.map (·.2)) (hv1 : ∀ j ∈ T1.slots, j ∈ vs1) (hvs : ∀ i ∈ vs1, i ∈ own.map (·.2))
    (hg : InBlk X bs fun Y => PG Y tg (LG X.K T)) (ht : InBlk X bs fun Y => PTs Y fs (LT X.K F0 wt)) (hi1 : InBlk X bs fun Y => PI Y tg1 it1 (LI X.K F0 wi1)) (hg1 : InBlk X bs fun Y => PG Y tg1 (LG X.K T1)) (ht1 : InBlk X bs fun Y => PTs Y fs1 (LT X.K F0 wt1)) (he : InBlk X bs fun Y => PE Y elt (LE X.K F0 we))
    (hs : ∀ x, foldedSetIterable it X.env x = pure x) (hs1 : ∀ env x, foldedSetIterable it1 env x = pure x) :
    EJ X (.ListComp elt [⟨tg, it, fs, 0⟩, ⟨tg1, it1, fs1, 0⟩] bs pos) (wLc2 wi T (own.map (·.2)) wt wi1 T1 vs1 wt1 we) := fun W tk => (pe_lc2 hc nd (hi W tk) ok hvs hg ht hi1 hg1 ht1 he hs hs1).by fun σ' H Q' h => lc2_red hv hv1 h
theorem hasA {vs : List Nat} {own : List (Str × Nat)} (h : (vs.all fun j => (own.map (·.2)).contains j) = true) : ∀ j ∈ vs, j ∈ own.map (·.2) := fun j hj => by
  have := List.all_eq_true.mp h j hj
  simpa using this
theorem hasB {vs us : List Nat} (h : (vs.all fun j => us.contains j) = true) : ∀ j ∈ vs, j ∈ us := fun j hj => by
  have := List.all_eq_true.mp h j hj
  simpa using this
variable (hF : ∀ f sp, F f sp → HeldT G cavK f sp)
include hF
mutual
theorem sndE : ∀ (e : Ex) {k : CtI} {sc : Scope} {blk : Option Scope} {X : Cx} {x : Expr}, Sta G N k sc blk X → okE G k e → ckE N e sc x = true → TestOk X x (wE F e)
  | .loc i, k, sc, blk, X, x, S, ok, h => by
    unfold ckE at h
    cases q : vName x with
    | none => simp only [q] at h; cases h
    | some r =>
      obtain ⟨y, p⟩ := r
      obtain rfl : x = Expr.Name y p := vName_eq q
      simp only [vName, Bool.and_eq_true] at h
      exact .of (ej_var (S.slot h.1.1) (S.vis h.1.2) (okN_d h.2) (okN_c h.2)) rfl
  | .cst v, k, sc, blk, X, x, S, ok, h => by
    unfold ckE at h
    cases q : vCst x with
    | none => simp only [q] at h; cases h
    | some r =>
      obtain ⟨c, j, p⟩ := r
      obtain rfl : x = Expr.Constant c j p := vCst_eq q
      exact .of (cst_ok h) rfl
  | .glb y v, k, sc, blk, X, x, S, ok, h => by
    unfold ckE at h
    cases q : vName x with
    | none => simp only [q] at h; cases h
    | some r =>
      obtain ⟨z, p⟩ := r
      obtain rfl : x = Expr.Name z p := vName_eq q
      simp only [vName, Bool.and_eq_true, decide_eq_true_eq] at h
      obtain ⟨⟨⟨rfl, h2⟩, h3⟩, h4⟩ := h
      exact .of (glv_ok S ok h2 h3 h4) rfl
  | .bin o a b, k, sc, blk, X, x, S, ok, h => by
    unfold ckE at h
    cases q : vBin x with
    | none => simp only [q] at h; cases h
    | some r =>
      obtain ⟨y, op, z, p⟩ := r
      obtain rfl : x = Expr.BinOp y op z p := vBin_eq q
      simp only [vBin, Bool.and_eq_true, decide_eq_true_eq] at h
      obtain ⟨⟨rfl, h2⟩, h3⟩ := h
      exact .of (ej_bin2 (opj_bop o) (sndE a S ok.1 h2).1 (sndE b S ok.2 h3).1 fun hr ha hb => pe_op hr ha hb) rfl
  | .cmp o a b, k, sc, blk, X, x, S, ok, h => by
    unfold ckE at h
    cases q : vCmp x with
    | none => simp only [q] at h; cases h
    | some r =>
      obtain ⟨y, ops, zs, p⟩ := r
      obtain rfl : x = Expr.Compare y ops zs p := vCmp_eq q
      simp only [vCmp] at h
      match ops, zs, h with
      | [op], [z], h =>
        simp only [Bool.and_eq_true, decide_eq_true_eq] at h
        obtain ⟨⟨⟨rfl, h2⟩, h3⟩, h4⟩ := h
        have ha := (sndE a S ok.1 h3).1
        have hb := (sndE b S ok.2 h4).1
        exact ⟨ej_bin2 (opj_cop S.units o) ha hb fun hr ha hb => pe_cmpR hr ha hb (marks_no h2), fun _ => tj_cmp S.units ha hb h2⟩
      | [], _, h => cases h
      | [_], [], h => cases h
      | [_], _ :: _ :: _, h => cases h
      | _ :: _ :: _, _, h => cases h
  | .chn o o' a b c, k, sc, blk, X, x, S, ok, h => by
    unfold ckE at h
    cases q : vCmp x with
    | none => simp only [q] at h; cases h
    | some r =>
      obtain ⟨y, ops, zs, p⟩ := r
      obtain rfl : x = Expr.Compare y ops zs p := vCmp_eq q
      simp only [vCmp] at h
      match ops, zs, h with
      | [op, op'], [z, z'], h =>
        simp only [Bool.and_eq_true, decide_eq_true_eq] at h
        obtain ⟨⟨⟨⟨⟨rfl, rfl⟩, h2⟩, h3⟩, h4⟩, h5⟩ := h
        have ha := (sndE a S ok.1 h3).1
        have hb := (sndE b S ok.2.1 h4).1
        have hc := (sndE c S ok.2.2 h5).1
        exact ⟨ej_chn S.units ha hb hc h2, fun _ => tj_chn' S.units ha hb hc h2⟩
      | [], _, h => cases h
      | [_], _, h => cases h
      | [_, _], [], h => cases h
      | [_, _], [_], h => cases h
      | [_, _], _ :: _ :: _ :: _, h => cases h
      | _ :: _ :: _ :: _, _, h => cases h
  | .neg a, k, sc, blk, X, x, S, ok, h => by
    unfold ckE at h
    cases q : vUn x with
    | none => simp only [q] at h; cases h
    | some r =>
      obtain ⟨op, y, p⟩ := r
      obtain rfl : x = Expr.UnaryOp op y p := vUn_eq q
      simp only [vUn, Bool.and_eq_true, decide_eq_true_eq] at h
      obtain ⟨rfl, h2⟩ := h
      exact .of (ej_neg (sndE a S ok h2).1) rfl
  | .nt a, k, sc, blk, X, x, S, ok, h => by
    unfold ckE at h
    cases q : vUn x with
    | none => simp only [q] at h; cases h
    | some r =>
      obtain ⟨op, y, p⟩ := r
      obtain rfl : x = Expr.UnaryOp op y p := vUn_eq q
      simp only [vUn, Bool.and_eq_true, decide_eq_true_eq] at h
      obtain ⟨rfl, h2⟩ := h
      exact .of (ej_nt (sndE a S ok h2).1) rfl
  | .and a b, k, sc, blk, X, x, S, ok, h => by
    unfold ckE at h
    cases q : vBool x with
    | none => simp only [q] at h; cases h
    | some r =>
      obtain ⟨op, ys, p⟩ := r
      obtain rfl : x = Expr.BoolOp op ys p := vBool_eq q
      simp only [vBool] at h
      match ys, h with
      | [y, z], h =>
        simp only [Bool.and_eq_true, decide_eq_true_eq] at h
        obtain ⟨⟨rfl, h2⟩, h3⟩ := h
        exact .of (ej_and (sndE a S ok.1 h2).1 (ej_one (sndE b S ok.2 h3).1)) rfl
      | y :: z :: w :: r, h =>
        simp only [Bool.and_eq_true, decide_eq_true_eq] at h
        obtain ⟨⟨rfl, h2⟩, h3⟩ := h
        exact .of (ej_and (sndE a S ok.1 h2).1 (sndE b S ok.2 h3).1) rfl
      | [], h => cases h
      | [_], h => cases h
  | .or a b, k, sc, blk, X, x, S, ok, h => by
    unfold ckE at h
    cases q : vBool x with
    | none => simp only [q] at h; cases h
    | some r =>
      obtain ⟨op, ys, p⟩ := r
      obtain rfl : x = Expr.BoolOp op ys p := vBool_eq q
      simp only [vBool] at h
      match ys, h with
      | [y, z], h =>
        simp only [Bool.and_eq_true, decide_eq_true_eq] at h
        obtain ⟨⟨rfl, h2⟩, h3⟩ := h
        exact .of (ej_or (sndE a S ok.1 h2).1 (ej_one (sndE b S ok.2 h3).1)) rfl
      | y :: z :: w :: r, h =>
        simp only [Bool.and_eq_true, decide_eq_true_eq] at h
        obtain ⟨⟨rfl, h2⟩, h3⟩ := h
        exact .of (ej_or (sndE a S ok.1 h2).1 (sndE b S ok.2 h3).1) rfl
      | [], h => cases h
      | [_], h => cases h
  | .ite c a b, k, sc, blk, X, x, S, ok, h => by
    unfold ckE at h
    cases q : vIf x with
    | none => simp only [q] at h; cases h
    | some r =>
      obtain ⟨z, y, w, p⟩ := r
      obtain rfl : x = Expr.IfExp z y w p := vIf_eq q
      simp only [vIf, Bool.and_eq_true] at h
      exact .of (ej_ite (sndB c S ok.1 h.1.1) (sndE a S ok.2.1 h.1.2).1 (sndE b S ok.2.2 h.2).1) rfl
  | .tup es, k, sc, blk, X, x, S, ok, h => by
    unfold ckE at h
    cases q : vTup x with
    | none => simp only [q] at h; cases h
    | some r =>
      obtain ⟨xs, n, p⟩ := r
      obtain rfl : x = Expr.Tuple xs n p := vTup_eq q
      simp only [vTup, Bool.and_eq_true, decide_eq_true_eq] at h
      exact .of (ej_tup (sndEs es S ok h.2 h.1.2) h.1.1) rfl
  | .dic0, k, sc, blk, X, x, S, ok, h => by
    unfold ckE at h
    obtain ⟨p, rfl⟩ := vDic0_eq h
    exact .of ej_dic0 rfl
  | .lst es, k, sc, blk, X, x, S, ok, h => by
    unfold ckE at h
    cases q : vLst x with
    | none => simp only [q] at h; cases h
    | some r =>
      obtain ⟨xs, p⟩ := r
      obtain rfl : x = Expr.List xs p := vLst_eq q
      simp only [vLst, Bool.and_eq_true, decide_eq_true_eq] at h
      exact .of (ej_lst (sndEs es S ok h.2 h.1.2) h.1.1) rfl
  | .ix a b, k, sc, blk, X, x, S, ok, h => by
    unfold ckE at h
    cases q : vSub x with
    | none => simp only [q] at h; cases h
    | some r =>
      obtain ⟨y, z, p⟩ := r
      obtain rfl : x = Expr.Subscript y z p := vSub_eq q
      simp only [vSub, Bool.and_eq_true] at h
      exact .of (ej_ix (sndE a S ok.1 h.1.2).1 (sndE b S ok.2 h.2).1 (plainIx h.1.1)) rfl
  | .rv a, k, sc, blk, X, x, S, ok, h => by
    unfold ckE at h
    cases q : vRev x with
    | none => simp only [q] at h; cases h
    | some r =>
      obtain ⟨y, k, p1, p2, p3, p⟩ := r
      rw [q] at h
      obtain rfl := vRev_eq q
      exact .of (ej_rv (sndE a S ok h).1) rfl
  | .sl a lo hi, k, sc, blk, X, x, S, ok, h => by
    unfold ckE at h
    cases q : vSub x with
    | none => simp only [q] at h; cases h
    | some r =>
      obtain ⟨y, z, p⟩ := r
      obtain rfl : x = Expr.Subscript y z p := vSub_eq q
      simp only [vSub] at h
      cases q2 : vSli z with
      | none => simp only [q2] at h; cases h
      | some r2 =>
        obtain ⟨l, hh, st, p2⟩ := r2
        obtain rfl : z = Expr.Slice l hh st p2 := vSli_eq q2
        simp only [vSli, Bool.and_eq_true, Option.isNone_iff_eq_none] at h
        obtain ⟨⟨⟨rfl, h2⟩, h3⟩, h4⟩ := h
        exact .of (ej_sl (sndE a S ok.1 h2).1 (sndO lo S ok.2.1 h3) (sndO hi S ok.2.2 h4)) rfl
  | .bi f es, k, sc, blk, X, x, S, ok, h => by
    unfold ckE at h
    cases q : vCall x with
    | none => simp only [q] at h; cases h
    | some r =>
      obtain ⟨g, ys, ks, p⟩ := r
      obtain rfl : x = Expr.Call g ys ks p := vCall_eq q
      simp only [vCall] at h
      match ys, ks, h with
      | y :: ys, [], h =>
        cases q2 : vName g with
        | none => simp only [q2] at h; cases h
        | some r2 =>
          obtain ⟨n, p2⟩ := r2
          obtain rfl : g = Expr.Name n p2 := vName_eq q2
          simp only [vName, Bool.and_eq_true, decide_eq_true_eq] at h
          obtain ⟨⟨⟨rfl, h2⟩, h3⟩, h4⟩ := h
          exact .of (ej_bif (S.calm ok.1.2) (S.gl h2) (by rw [S.hm]; exact ok.1.1) (sndEs es S ok.2 h4 h3) h3) rfl
      | [], _, h => cases h
      | _ :: _, _ :: _, h => cases h
  | .call n f sp es, k, sc, blk, X, x, S, ok, h => by
    unfold ckE at h
    cases q : vCall x with
    | none => simp only [q] at h; cases h
    | some r =>
      obtain ⟨g, ys, ks, p⟩ := r
      obtain rfl : x = Expr.Call g ys ks p := vCall_eq q
      simp only [vCall] at h
      match ys, ks, h with
      | y :: ys, [], h =>
        cases q2 : vName g with
        | none => simp only [q2] at h; cases h
        | some r2 =>
          obtain ⟨n', p2⟩ := r2
          obtain rfl : g = Expr.Name n' p2 := vName_eq q2
          simp only [vName, Bool.and_eq_true, decide_eq_true_eq] at h
          obtain ⟨⟨⟨⟨rfl, h2⟩, h0⟩, h3⟩, h4⟩ := h
          cases hgr : k.grd with
          | true =>
            have o1 := ok.1.2.1
            rw [hgr] at o1
            exact .of (ej_callG S ok.1.2.2 (S.grd hgr) o1 (S.gl h2) (by rw [S.hm]; exact ok.1.1) h0 (sndEs es S ok.2 h4 h3) h3) rfl
          | false =>
            have o1 := ok.1.2.1
            rw [hgr] at o1
            exact .of (ej_call S ok.1.2.2 o1 (S.gl h2) (by rw [S.hm]; exact ok.1.1) h0 (sndEs es S ok.2 h4 h3) h3) rfl
      | [], _, h => cases h
      | _ :: _, _ :: _, h => cases h
  | .cav i es, k, sc, blk, X, x, S, ok, h => by
    unfold ckE at h
    cases q : vCall x with
    | none => simp only [q] at h; cases h
    | some r =>
      obtain ⟨g, ys, ks, p⟩ := r
      obtain rfl : x = Expr.Call g ys ks p := vCall_eq q
      simp only [vCall] at h
      match ys, ks, h with
      | y :: ys, [], h =>
        cases q2 : vName g with
        | none => simp only [q2] at h; cases h
        | some r2 =>
          obtain ⟨n', p2⟩ := r2
          obtain rfl : g = Expr.Name n' p2 := vName_eq q2
          simp only [vName, Bool.and_eq_true] at h
          obtain ⟨⟨⟨⟨h1, h2⟩, h0⟩, h3⟩, h4⟩ := h
          exact .of (ej_cav S ok.1.2 (fun f sp h => (hF f sp h).mono ok.1.1) (S.slot h1) (S.vis h2) h0 (sndEs es S ok.2 h4 h3) h3) rfl
      | [], _, h => cases h
      | _ :: _, _ :: _, h => cases h
  | .mth m o es, k, sc, blk, X, x, S, ok, h => by
    unfold ckE at h
    cases q : vCall x with
    | none => simp only [q] at h; cases h
    | some r =>
      obtain ⟨g, ys, ks, p⟩ := r
      obtain rfl : x = Expr.Call g ys ks p := vCall_eq q
      simp only [vCall] at h
      match ks, h with
      | [], h =>
        cases q2 : vAtt g with
        | none => simp only [q2] at h; cases h
        | some r2 =>
          obtain ⟨y, n, ap⟩ := r2
          obtain rfl : g = Expr.Attribute y n ap := vAtt_eq q2
          simp only [vAtt, Bool.and_eq_true, decide_eq_true_eq] at h
          obtain ⟨⟨⟨⟨⟨⟨rfl, h2⟩, h3⟩, h4⟩, h5⟩, h6⟩, h7⟩ := h
          have ho := (sndE o S ok.1 h6).1
          match ys, es, ok, h4, h5, h7 with
          | [], .nil, ok, h4, h5, h7 => exact .of (ej_mth0 ho h2 h3) rfl
          | y :: ys, es, ok, h4, h5, h7 => exact .of (ej_mth ho (sndEs es S ok.2 h7 h5) h2 h5 h3 h4) rfl
      | _ :: _, h => cases h
  | .lam n g Φ P q e, k, sc, blk, X, x, S, ok, h => by
    unfold ckE at h
    cases q1 : vCall x with
    | none => simp only [q1] at h; cases h
    | some r =>
      obtain ⟨gg, ys, ks, p⟩ := r
      obtain rfl : x = Expr.Call gg ys ks p := vCall_eq q1
      simp only [vCall] at h
      match ys, ks, h with
      | [l], [], h =>
        cases q2 : vName gg with
        | none => simp only [q2] at h; cases h
        | some r2 =>
          obtain ⟨n', p2⟩ := r2
          obtain rfl : gg = Expr.Name n' p2 := vName_eq q2
          cases q3 : vLam l with
          | none => simp only [vName, q3] at h; cases h
          | some r3 =>
            obtain ⟨ps, b, scope, lp⟩ := r3
            obtain rfl : l = Expr.Lambda ps b scope lp := vLam_eq q3
            simp only [vName, vLam, Bool.and_eq_true, decide_eq_true_eq] at h
            obtain ⟨⟨⟨⟨⟨rfl, h2⟩, h3⟩, h4⟩, h5⟩, h6⟩ := h
            obtain rfl := noArgs_eq h4
            obtain ⟨⟨o1, o2, o3⟩, ⟨o4, o5, c, o6, o7⟩, o8⟩ := ok
            refine .of (ej_lam S o3 (S.gl h2) o1 h3 o2 o6 o7 o4 h5 o5 (fun A outer s H E f c' hr => ?_)) rfl
            have LS := LamX.lamS_by h5
            have S' : Sta G N ⟨k.k - 2, "", .none, none, none, false⟩ scope (some scope) (LamX.lamCx X A outer s H E scope f c') :=
              ⟨S.hP, S.hw, S.hK, S.hm, S.hb, S.hN, S.nd, rfl, fun _ => rfl, fun _ => hr, hr.units, (fun z => by cases z), (fun y hy => by
                unfold celB at hy
                dsimp only at hy
                split at hy
                · rename_i e1
                  exact absurd rfl (LS.own _ (PySem.mem_of_lookup e1)).2
                · cases hy), fun z => absurd rfl z, fun z => absurd rfl z, fun a D z => (by cases z)⟩
            exact (sndE e S' o8 h6).1
      | [], _, h => cases h
      | [_], _ :: _, h => cases h
      | _ :: _ :: _, _, h => cases h
  | .lamd n g Φ P q e, k, sc, blk, X, x, S, ok, h => by
    unfold ckE at h
    cases q1 : vCall x with
    | none => simp only [q1] at h; cases h
    | some r =>
      obtain ⟨gg, ys, ks, p⟩ := r
      obtain rfl : x = Expr.Call gg ys ks p := vCall_eq q1
      simp only [vCall] at h
      match ys, ks, h with
      | [l], [], h =>
        cases q2 : vName gg with
        | none => simp only [q2] at h; cases h
        | some r2 =>
          obtain ⟨n', p2⟩ := r2
          obtain rfl : gg = Expr.Name n' p2 := vName_eq q2
          cases q3 : vLam l with
          | none => simp only [vName, q3] at h; cases h
          | some r3 =>
            obtain ⟨ps, b, scope, lp⟩ := r3
            obtain rfl : l = Expr.Lambda ps b scope lp := vLam_eq q3
            simp only [vName, vLam] at h
            cases q4 : dArg ps with
            | none => simp only [q4] at h; cases h
            | some o =>
            simp only [q4, Bool.and_eq_true, Bool.or_eq_true, decide_eq_true_eq, Bool.not_eq_true', List.contains_eq_mem, decide_eq_false_iff_not] at h
            obtain ⟨⟨⟨⟨⟨⟨rfl, h2⟩, h3⟩, h4⟩, hno⟩, h5⟩, h6⟩ := h
            obtain ⟨ap, i0, j0, dp, rfl⟩ := dArg_eq q4
            obtain ⟨⟨o1, o2, o3⟩, ⟨o4, o5, c, o6, o7⟩, o8⟩ := ok
            refine .of (ej_lamd S o3 (S.gl h2) o1 h3 o2 o6 o7 o4 h5 hno h4 o5 (fun A outer s H E f c' hr => ?_)) rfl
            have LS := lamD_by h5
            have S' : Sta G N ⟨k.k - 2, "", .none, none, none, false⟩ scope (some scope) (LamX.lamCx X A outer s H E scope f c') :=
              ⟨S.hP, S.hw, S.hK, S.hm, S.hb, S.hN, S.nd, rfl, fun _ => rfl, fun _ => hr, hr.units, (fun z => by cases z), (fun y hy => by
                unfold celB at hy
                dsimp only at hy
                split at hy
                · rename_i e1
                  exact absurd rfl (LS.nm _ (PySem.mem_of_lookup e1)).1
                · cases hy), fun z => absurd rfl z, fun z => absurd rfl z, fun a D z => (by cases z)⟩
            exact (sndE e S' o8 h6).1
      | [], _, h => cases h
      | [_], _ :: _, h => cases h
      | _ :: _ :: _, _, h => cases h
  | .rep e, k, sc, blk, X, x, S, ok, h => by
    unfold ckE at h
    cases q1 : vCall x with
    | none => simp only [q1] at h; cases h
    | some r =>
      obtain ⟨gg, ys, ks, p⟩ := r
      obtain rfl : x = Expr.Call gg ys ks p := vCall_eq q1
      simp only [vCall] at h
      match ys, ks, h with
      | [u], [], h =>
        cases q2 : vName gg with
        | none => simp only [q2] at h; cases h
        | some r2 =>
          obtain ⟨n', p2⟩ := r2
          obtain rfl : gg = Expr.Name n' p2 := vName_eq q2
          simp only [vName, Bool.and_eq_true, decide_eq_true_eq] at h
          obtain ⟨⟨⟨rfl, h2⟩, h3⟩, h4⟩ := h
          exact .of (ej_rep S (S.grd ok.1.2) (S.gl h2) ok.1.1 (sndE e S ok.2 h4).1 h3) rfl
      | [], _, h => cases h
      | [_], _ :: _, h => cases h
      | _ :: _ :: _, _, h => cases h
  | .ise i a D y cv kt, k, sc, blk, X, x, S, ok, h => by
    unfold ckE at h
    cases q1 : vCall x with
    | none => simp only [q1] at h; cases h
    | some r =>
      obtain ⟨gg, ys, ks, p⟩ := r
      obtain rfl : x = Expr.Call gg ys ks p := vCall_eq q1
      simp only [vCall] at h
      match ys, ks, h with
      | [u, v], [], h =>
        dsimp only at h
        cases q2 : vName gg with
        | none => simp only [q2] at h; cases h
        | some r2 =>
          obtain ⟨n', p2⟩ := r2
          obtain rfl : gg = Expr.Name n' p2 := vName_eq q2
          cases q3 : vName u with
          | none => rw [q3] at h; cases h
          | some r3 =>
            obtain ⟨n3, p3⟩ := r3
            obtain rfl : u = Expr.Name n3 p3 := vName_eq q3
            cases q4 : vName v with
            | none => rw [q4] at h; cases h
            | some r4 =>
              obtain ⟨n4, p4⟩ := r4
              obtain rfl : v = Expr.Name n4 p4 := vName_eq q4
              simp only [vName, Bool.and_eq_true, decide_eq_true_eq] at h
              obtain ⟨⟨⟨⟨⟨⟨⟨⟨rfl, h2⟩, h3⟩, h4⟩, h5⟩, rfl⟩, h7⟩, h8⟩, h9⟩ := h
              obtain ⟨o1, o2, ⟨w, o3, o4⟩, o5⟩ := ok
              exact .of (ej_ise S o1 (by rw [S.hN]; exact h3) (S.vis h4) h5 (S.gl h2) o2 (glv_ok S o3 h7 h8 h9) o4 o5) rfl
      | [], _, h => cases h
      | [_], _, h => cases h
      | [_, _], _ :: _, h => cases h
      | _ :: _ :: _ :: _, _, h => cases h
  | .lc T it c el own, k, sc, blk, X, x, S, ok, h => by
    unfold ckE at h
    cases q : vLC x with
    | none => simp only [q] at h; cases h
    | some r =>
      obtain ⟨y, gens, bs, p⟩ := r
      obtain rfl : x = Expr.ListComp y gens bs p := vLC_eq q
      simp only [vLC] at h
      match gens, h with
      | [⟨t, i, fs, a⟩], h =>
        simp only [Bool.and_eq_true, decide_eq_true_eq] at h
        obtain ⟨⟨⟨⟨⟨⟨⟨rfl, h2⟩, h3⟩, h4⟩, h5⟩, h6⟩, h7⟩, h8⟩ := h
        have B : InBlk X bs fun Y => Sta G N k (relS bs sc) (some bs) Y := fun s H C cl fp => S.block ok.2.2.2 s H bs C cl fp
        have okh := ok.2.2.2
        refine .of (ej_lc (S.calm ok.2.2.2) S.ndX (sndI it S ok.1 h6 rfl) (by rw [S.hN, S.hsc]; exact blkOk_by h3) (hasA h4) (fun s H C cl fp => pg_tg (B s H C cl fp) okh h5) (fun s H C cl fp => sndBo c (B s H C cl fp) ok.2.1 h7) (fun s H C cl fp => (sndE el (B s H C cl fp) ok.2.2.1 h8).1 _ takes0) (fun x => folded_no h2 x)) rfl
      | [], h => cases h
      | _ :: _ :: _, h => exact absurd h (by simp)
  | .lc2 T it c T1 it1 c1 el own vs1, k, sc, blk, X, x, S, ok, h => by
    unfold ckE at h
    cases q : vLC x with
    | none => simp only [q] at h; cases h
    | some r =>
      obtain ⟨y, gens, bs, p⟩ := r
      obtain rfl : x = Expr.ListComp y gens bs p := vLC_eq q
      simp only [vLC] at h
      match gens, h with
      | [⟨t, i, fs, a⟩, ⟨t1, i1, fs1, a1⟩], h =>
        simp only [Bool.and_eq_true, decide_eq_true_eq] at h
        obtain ⟨⟨⟨⟨⟨⟨⟨⟨⟨⟨⟨⟨⟨⟨rfl, rfl⟩, n1⟩, n2⟩, h3⟩, h4⟩, h5⟩, h6⟩, g1⟩, g2⟩, i1'⟩, i2'⟩, c1'⟩, c2'⟩, h8⟩ := h
        have B : InBlk X bs fun Y => Sta G N k (relS bs sc) (some bs) Y := fun s H C cl fp => S.block ok.2.2.2.2.2 s H bs C cl fp
        have okh := ok.2.2.2.2.2
        refine .of (ej_lc2 (S.calm ok.2.2.2.2.2) S.ndX (sndI it S ok.1 i1' rfl) (by rw [S.hN, S.hsc]; exact blkOk_by h3) (hasA h4) (hasB h5) (hasA h6) (fun s H C cl fp => pg_tg (B s H C cl fp) okh g1) (fun s H C cl fp => sndBo c (B s H C cl fp) ok.2.1 c1') (fun s H C cl fp => sndI it1 (B s H C cl fp) ok.2.2.1 i2' rfl _ takes0) (fun s H C cl fp => pg_tg (B s H C cl fp) okh g2) (fun s H C cl fp => sndBo c1 (B s H C cl fp) ok.2.2.2.1 c2') (fun s H C cl fp => (sndE el (B s H C cl fp) ok.2.2.2.2.1 h8).1 _ takes0) (fun x => folded_no n1 x) (fun env x => folded_no n2 x)) rfl
      | [], h => cases h
      | [_], h => exact absurd h (by simp)
      | _ :: _ :: _ :: _, h => exact absurd h (by simp)
theorem sndEs : ∀ (es : Exs) {k : CtI} {sc : Scope} {blk : Option Scope} {X : Cx} {xs : List Expr}, Sta G N k sc blk X → okEs G k es → ckEs N es sc xs = true → xs.all noStar = true → AJ X xs (wEs F es)
  | .nil, k, sc, blk, X, [], S, ok, h, hs => aj_nil
  | .cons e r, k, sc, blk, X, x :: xs, S, ok, h, hs => by
    simp only [ckEs, Bool.and_eq_true] at h
    simp only [List.all_cons, Bool.and_eq_true] at hs
    exact aj_cons (sndE e S ok.1 h.1).1 (sndEs r S ok.2 h.2 hs.2) hs.1
  | .nil, k, sc, blk, X, _ :: _, S, ok, h, hs => by cases h
  | .cons _ _, k, sc, blk, X, [], S, ok, h, hs => by cases h
theorem sndO : ∀ (o : Exo) {k : CtI} {sc : Scope} {blk : Option Scope} {X : Cx} {x : Option Expr}, Sta G N k sc blk X → okO G k o → ckO N o sc x = true → OJ X x (wO F o)
  | .no, k, sc, blk, X, none, S, ok, h => oj_no
  | .so e, k, sc, blk, X, some x, S, ok, h => oj_so (sndE e S ok h).1
  | .no, k, sc, blk, X, some _, S, ok, h => by cases h
  | .so _, k, sc, blk, X, none, S, ok, h => by cases h
theorem sndB : ∀ (b : Bx) {k : CtI} {sc : Scope} {blk : Option Scope} {X : Cx} {x : Expr}, Sta G N k sc blk X → okB G k b → ckB N b sc x = true → TJ X x (wB F b)
  | .val e, k, sc, blk, X, x, S, ok, h => by
    unfold ckB at h
    simp only [Bool.and_eq_true, Bool.or_eq_true] at h
    obtain ⟨h1, h2⟩ := h
    have t := sndE e S ok h1
    rcases h2 with h2 | h2
    · exact tj_val t.1 h2
    · exact t.2 h2
  | .and a b, k, sc, blk, X, x, S, ok, h => by
    unfold ckB at h
    cases q : vBool x with
    | none => simp only [q] at h; cases h
    | some r =>
      obtain ⟨op, ys, p⟩ := r
      obtain rfl : x = Expr.BoolOp op ys p := vBool_eq q
      simp only [vBool] at h
      match ys, h with
      | [y, z], h =>
        simp only [Bool.and_eq_true, decide_eq_true_eq] at h
        obtain ⟨⟨rfl, h2⟩, h3⟩ := h
        exact (uj_and (sndB a S ok.1 h2) (uj_and1 (sndB b S ok.2 h3))).tj
      | y :: z :: w :: r, h =>
        simp only [Bool.and_eq_true, decide_eq_true_eq] at h
        obtain ⟨⟨rfl, h2⟩, h3⟩ := h
        exact (uj_and (sndB a S ok.1 h2) (sndU b S ok.2 h3)).tj
      | [], h => cases h
      | [_], h => cases h
  | .or a b, k, sc, blk, X, x, S, ok, h => by
    unfold ckB at h
    cases q : vBool x with
    | none => simp only [q] at h; cases h
    | some r =>
      obtain ⟨op, ys, p⟩ := r
      obtain rfl : x = Expr.BoolOp op ys p := vBool_eq q
      simp only [vBool] at h
      match ys, h with
      | [y, z], h =>
        simp only [Bool.and_eq_true, decide_eq_true_eq] at h
        obtain ⟨⟨rfl, h2⟩, h3⟩ := h
        exact (uj_or (sndB a S ok.1 h2) (uj_or1 (sndB b S ok.2 h3))).tj
      | y :: z :: w :: r, h =>
        simp only [Bool.and_eq_true, decide_eq_true_eq] at h
        obtain ⟨⟨rfl, h2⟩, h3⟩ := h
        exact (uj_or (sndB a S ok.1 h2) (sndU b S ok.2 h3)).tj
      | [], h => cases h
      | [_], h => cases h
  | .nt a, k, sc, blk, X, x, S, ok, h => by
    unfold ckB at h
    cases q : vUn x with
    | none => simp only [q] at h; cases h
    | some r =>
      obtain ⟨op, y, p⟩ := r
      obtain rfl : x = Expr.UnaryOp op y p := vUn_eq q
      simp only [vUn, Bool.and_eq_true, decide_eq_true_eq] at h
      obtain ⟨rfl, h2⟩ := h
      exact tj_not (sndB a S ok h2)
theorem sndU : ∀ (b : Bx) {k : CtI} {sc : Scope} {blk : Option Scope} {X : Cx} {op : BoolOp} {ys : List Expr} {p : Pos}, Sta G N k sc blk X → okB G k b → ckB N b sc (.BoolOp op ys p) = true → UJ X (.BoolOp op ys p) (wB F b)
  | .val e, k, sc, blk, X, op, ys, p, S, ok, h => by
    unfold ckB at h
    simp only [plainT, vCmp, Bool.and_eq_true, Bool.or_eq_true, Option.isSome, Bool.false_eq_true, or_self, and_false] at h
  | .and a b, k, sc, blk, X, op, ys, p, S, ok, h => by
    unfold ckB at h
    simp only [vBool] at h
    match ys, h with
    | [y, z], h =>
      simp only [Bool.and_eq_true, decide_eq_true_eq] at h
      obtain ⟨⟨rfl, h2⟩, h3⟩ := h
      exact uj_and (sndB a S ok.1 h2) (uj_and1 (sndB b S ok.2 h3))
    | y :: z :: w :: r, h =>
      simp only [Bool.and_eq_true, decide_eq_true_eq] at h
      obtain ⟨⟨rfl, h2⟩, h3⟩ := h
      exact uj_and (sndB a S ok.1 h2) (sndU b S ok.2 h3)
    | [], h => cases h
    | [_], h => cases h
  | .or a b, k, sc, blk, X, op, ys, p, S, ok, h => by
    unfold ckB at h
    simp only [vBool] at h
    match ys, h with
    | [y, z], h =>
      simp only [Bool.and_eq_true, decide_eq_true_eq] at h
      obtain ⟨⟨rfl, h2⟩, h3⟩ := h
      exact uj_or (sndB a S ok.1 h2) (uj_or1 (sndB b S ok.2 h3))
    | y :: z :: w :: r, h =>
      simp only [Bool.and_eq_true, decide_eq_true_eq] at h
      obtain ⟨⟨rfl, h2⟩, h3⟩ := h
      exact uj_or (sndB a S ok.1 h2) (sndU b S ok.2 h3)
    | [], h => cases h
    | [_], h => cases h
  | .nt a, k, sc, blk, X, op, ys, p, S, ok, h => by
    unfold ckB at h
    simp only [vUn] at h
    cases h
theorem sndBo : ∀ (b : Bo) {k : CtI} {sc : Scope} {blk : Option Scope} {X : Cx} {fs : List Expr}, Sta G N k sc blk X → okBo G k b → ckBo N b sc fs = true → PTs X fs (LT X.K F0 (wBo F b))
  | .no, k, sc, blk, X, [], S, ok, h => tests_no
  | .so b, k, sc, blk, X, [x], S, ok, h => pts_one (sndB b S ok h F0 takes0)
  | .no, k, sc, blk, X, _ :: _, S, ok, h => by cases h
  | .so _, k, sc, blk, X, [], S, ok, h => by cases h
  | .so _, k, sc, blk, X, _ :: _ :: _, S, ok, h => by cases h
theorem sndI : ∀ (i : It) {k : CtI} {sc : Scope} {blk : Option Scope} {X : Cx} {tg x : Expr} {b : Bool}, Sta G N k sc blk X → okI G k i → ckI N i sc b x = true → (vTup tg).isSome = b → IJ X tg x (wI F i)
  | .seq e, k, sc, blk, X, tg, x, b, S, ok, h, hb => ij_seq (sndE e S ok h).1
  | .rng1 a, k, sc, blk, X, tg, x, b, S, ok, h, hb => by
    unfold ckI at h
    cases q : vCall x with
    | none => simp only [q] at h; cases h
    | some r =>
      obtain ⟨g, ys, ks, p⟩ := r
      obtain rfl : x = Expr.Call g ys ks p := vCall_eq q
      simp only [vCall] at h
      match ys, ks, h with
      | [y], [], h =>
        cases q2 : vName g with
        | none => simp only [q2] at h; cases h
        | some r2 =>
          obtain ⟨n', p2⟩ := r2
          obtain rfl : g = Expr.Name n' p2 := vName_eq q2
          simp only [vName, Bool.and_eq_true, decide_eq_true_eq] at h
          obtain ⟨⟨⟨rfl, h2⟩, h3⟩, h4⟩ := h
          exact ij_rng1 (S.gl h2) (by rw [S.hm]; exact ok.1) (sndE a S ok.2 h4).1 h3
      | [], _, h => cases h
      | [_], _ :: _, h => cases h
      | _ :: _ :: _, _, h => cases h
  | .rng2 a c, k, sc, blk, X, tg, x, b, S, ok, h, hb => by
    unfold ckI at h
    cases q : vCall x with
    | none => simp only [q] at h; cases h
    | some r =>
      obtain ⟨g, ys, ks, p⟩ := r
      obtain rfl : x = Expr.Call g ys ks p := vCall_eq q
      simp only [vCall] at h
      match ys, ks, h with
      | [y, z], [], h =>
        cases q2 : vName g with
        | none => simp only [q2] at h; cases h
        | some r2 =>
          obtain ⟨n', p2⟩ := r2
          obtain rfl : g = Expr.Name n' p2 := vName_eq q2
          simp only [vName, Bool.and_eq_true, decide_eq_true_eq] at h
          obtain ⟨⟨⟨⟨⟨rfl, h2⟩, h3⟩, h3'⟩, h4⟩, h5⟩ := h
          exact ij_rng2 (S.gl h2) (by rw [S.hm]; exact ok.1) (sndE a S ok.2.1 h4).1 (sndE c S ok.2.2 h5).1 h3 h3'
      | [], _, h => cases h
      | [_], _, h => cases h
      | [_, _], _ :: _, h => cases h
      | _ :: _ :: _ :: _, _, h => cases h
  | .zip a c, k, sc, blk, X, tg, x, b, S, ok, h, hb => by
    unfold ckI at h
    cases q : vCall x with
    | none => simp only [q] at h; cases h
    | some r =>
      obtain ⟨g, ys, ks, p⟩ := r
      obtain rfl : x = Expr.Call g ys ks p := vCall_eq q
      simp only [vCall] at h
      match ys, ks, h with
      | [y, z], [], h =>
        cases q2 : vName g with
        | none => simp only [q2] at h; cases h
        | some r2 =>
          obtain ⟨n', p2⟩ := r2
          obtain rfl : g = Expr.Name n' p2 := vName_eq q2
          simp only [vName, Bool.and_eq_true, decide_eq_true_eq] at h
          obtain ⟨⟨⟨⟨⟨⟨h0, rfl⟩, h2⟩, h3⟩, h3'⟩, h4⟩, h5⟩ := h
          rw [h0] at hb
          cases q3 : vTup tg with
          | none => rw [q3] at hb; cases hb
          | some r3 =>
            obtain rfl : tg = Expr.Tuple r3.1 r3.2.1 r3.2.2 := vTup_eq q3
            exact ij_zip (S.gl h2) (by rw [S.hm]; exact ok.1) (sndE a S ok.2.1 h4).1 (sndE c S ok.2.2 h5).1 h3 h3'
      | [], _, h => cases h
      | [_], _, h => cases h
      | [_, _], _ :: _, h => cases h
      | _ :: _ :: _ :: _, _, h => cases h
  | .enum a, k, sc, blk, X, tg, x, b, S, ok, h, hb => by
    unfold ckI at h
    cases q : vCall x with
    | none => simp only [q] at h; cases h
    | some r =>
      obtain ⟨g, ys, ks, p⟩ := r
      obtain rfl : x = Expr.Call g ys ks p := vCall_eq q
      simp only [vCall] at h
      match ys, ks, h with
      | [y], [], h =>
        cases q2 : vName g with
        | none => simp only [q2] at h; cases h
        | some r2 =>
          obtain ⟨n', p2⟩ := r2
          obtain rfl : g = Expr.Name n' p2 := vName_eq q2
          simp only [vName, Bool.and_eq_true, decide_eq_true_eq] at h
          obtain ⟨⟨⟨⟨h0, rfl⟩, h2⟩, h3⟩, h4⟩ := h
          rw [h0] at hb
          cases q3 : vTup tg with
          | none => rw [q3] at hb; cases hb
          | some r3 =>
            obtain rfl : tg = Expr.Tuple r3.1 r3.2.1 r3.2.2 := vTup_eq q3
            exact ij_enum (S.gl h2) (by rw [S.hm]; exact ok.1) (sndE a S ok.2 h4).1 h3
      | [], _, h => cases h
      | [_], _ :: _, h => cases h
      | _ :: _ :: _, _, h => cases h
end
end
end TL

/-! TStm: statements. -/
namespace TL
open PySem PySem.Spec PyProof.Rows L2

section
variable {G : Gx} {N : List Str} {k : CtI} {sc : Scope} {X : Cx}
/-! ### names and other targets -/
theorem sj_set {i : Nat} {y : Str} {py pos : Pos} {e : Expr} {w : WE} (S : Sta G N k sc none X) (hN : X.N[i]? = some y) (hl : locB none sc y = true) (h : EJ X e w) (hs : swapsWith e (some (.Name y py)) pos.line X.env = pure false) :
    SJ X (.Assign [.Name y py] e pos) (fun D σ M => w σ M (fun x M1 => D.nx (σ.set i (some x)) M1) (fun x M1 => D.ex x σ M1)) := fun W tk =>
  (ps_set S.ndX hN (S.loc hl).1 (h W tk) hs (S.loc hl).2).by fun D' σ' H ⟨σ, M, D, hs, hM, q, b⟩ =>
  ⟨σ, M, _, _, hs, hM, q, fun x v H1 M1 p1 r1 q1 => b.nx _ _ _ _ p1 ((hs.mono (p1.grow hM)).set i (show Ropt X.K H1 (some x) (some v) from r1)) q1, b.lx hM hs⟩
theorem sj_asg {T : Tg} {tg e : Expr} {pos : Pos} {w : WE} (S : Sta G N k sc none X) (hk : k.hot = none) (ht : ckTg none N sc T tg = true) (h : EJ X e w) (hs : swapsWithSole [tg] e pos.line X.env = pure false) (hw : swappedStores [tg] e X.env = pure none) (h1 : (assignEach [tg] X.env).map (·.2) = [assign tg X.env]) :
    SJ X (.Assign [tg] e pos) (fun D σ M => w σ M (fun x M1 => wTg T x σ M1 D.nx) (fun x M1 => D.ex x σ M1)) := fun W tk =>
  (ps_asg (h W tk) (pg_tg S hk ht) hs hw h1).by fun D' σ' H ⟨σ, M, D, hs, hM, q, b⟩ =>
  ⟨σ, M, _, _, hs, hM, q, fun x v H1 M1 p1 r1 q1 => ⟨x, σ, M1, D.nx, r1, hs.mono (p1.grow hM), p1.rep, q1, fun σ2 σ2' r2 _ q2 => b.nx _ _ _ _ p1 r2 q2⟩, b.lx hM hs⟩
theorem sj_par {i j : Nat} {x y : Str} {a b : Expr} {px py pt pos : Pos} {kt k2 pt2} {w : WA} (S : Sta G N k sc none X) (hk : k.hot = none) (hi : X.N[i]? = some x) (hj : X.N[j]? = some y) (hij : i ≠ j) (hx : X.env.scope.names.lookup x = some .local) (hy : X.env.scope.names.lookup y = some .local) (ha : AJ X [a, b] w)
    (hw : swappedStores [.Tuple [.Name x px, .Name y py] kt pt] (.Tuple [a, b] k2 pt2) X.env = pure (some [x, y])) :
    SJ X (.Assign [.Tuple [.Name x px, .Name y py] kt pt] (.Tuple [a, b] k2 pt2) pos) (fun D σ M => w σ M (fun xs M1 => D.nx (setAll σ [i, j] xs) M1) (fun x M1 => D.ex x σ M1)) := fun W tk =>
  (ps_par (S.calm hk) S.ndX hi hj hij hx hy (ha W tk) hw).by fun D' σ' H ⟨σ, M, D, hs, hM, q, b⟩ =>
  ⟨σ, M, _, _, hs, hM, q, fun xs vs H1 M1 hl p1 r1 q1 => by
    match xs, hl, r1, q1 with
    | [z1, z2], _, r1, q1 =>
      obtain ⟨v, u, rfl, r, r2⟩ := r1.two
      exact ⟨v, u, rfl, b.nx _ _ _ _ p1 (((hs.mono (p1.grow hM)).set i (show Ropt X.K H1 (some z1) (some v) from r)).set j (show Ropt X.K H1 (some z2) (some u) from r2)) q1⟩, b.lx hM hs⟩
theorem Rvs.three {K : PySem.W.Frag} {H : Hp} {x y z : TV} {vs : List V} (r : Rvs K H [x, y, z] vs) : ∃ v u w, vs = [v, u, w] ∧ Rv K H x v ∧ Rv K H y u ∧ Rv K H z w := by
  cases r with
  | cons ra r =>
    obtain ⟨v, u, rfl, rb, rc⟩ := r.two
    exact ⟨_, _, _, rfl, ra, rb, rc⟩
/-- three local names of one row: stored from the right -/
theorem sj_par3 {i j l : Nat} {x y z : Str} {a b c : Expr} {px py pz pt pos : Pos} {kt k2 pt2} {w : WA} (S : Sta G N k sc none X) (hk : k.hot = none) (hi : X.N[i]? = some x) (hj : X.N[j]? = some y) (hl : X.N[l]? = some z) (hij : i ≠ j) (hil : i ≠ l) (hjl : j ≠ l)
    (hx : X.env.scope.names.lookup x = some .local) (hy : X.env.scope.names.lookup y = some .local) (hz : X.env.scope.names.lookup z = some .local) (ha : AJ X [a, b, c] w)
    (hw : swappedStores [.Tuple [.Name x px, .Name y py, .Name z pz] kt pt] (.Tuple [a, b, c] k2 pt2) X.env = pure (some [x, y, z])) (hs : swapsWithSole [.Tuple [.Name x px, .Name y py, .Name z pz] kt pt] (.Tuple [a, b, c] k2 pt2) pos.line X.env = pure false) :
    SJ X (.Assign [.Tuple [.Name x px, .Name y py, .Name z pz] kt pt] (.Tuple [a, b, c] k2 pt2) pos) (fun D σ M => w σ M (fun xs M1 => D.nx (setAll σ [i, j, l] xs) M1) (fun x M1 => D.ex x σ M1)) := fun W tk => by
  refine ⟨fun pins s σ' H D' I h => ?_⟩
  obtain ⟨σ, M, D, hs1, hM, q, bl⟩ := h
  have hA := (ha W tk).run
  rw [exec_Assign_arm]
  refine wpAny_bind (wpAny_standAt ?_)
  rw [hs]
  refine wpAny_bind (wpAny_pure ?_)
  rw [if_neg Bool.false_ne_true]
  refine wpAny_bind (Tuple_ (thn (hA _ pins s σ' H (fun vs H1 => ∃ v1 v2 v3, vs = [v1, v2, v3] ∧ D'.nx (((σ'.set i (some v1)).set j (some v2)).set l (some v3)) H1) I ⟨σ, M, _, _, hs1, hM, q, fun xs vs H1 M1 hlen p1 r1 q1 => ?_, bl.lx hM hs1⟩) fun us s1 ⟨vs, H1, I1, r1, q1⟩ => ?_))
  · match xs, hlen with
    | [t1, t2, t3], _ =>
      obtain ⟨c1, c2, c3, rfl, ra, rb, rc⟩ := r1.three
      exact ⟨_, _, _, rfl, bl.nx _ _ _ _ p1 ((((hs1.mono (p1.grow hM)).set i (show Ropt X.K H1 (some t1) (some _) from ra)).set j (show Ropt X.K H1 (some t2) (some _) from rb)).set l (show Ropt X.K H1 (some t3) (some _) from rc)) q1⟩
  · obtain ⟨v1, v2, v3, e1, q1⟩ := q1
    subst e1
    obtain ⟨u1, u2, u3, rfl, ra, rb, rc⟩ : ∃ u1 u2 u3, us = [u1, u2, u3] ∧ RelV v1 u1 ∧ RelV v2 u2 ∧ RelV v3 u3 := by
      cases r1 with
      | cons ra r1 =>
        cases r1 with
        | cons rb r1 =>
          cases r1 with
          | cons rc r1 =>
            cases r1
            exact ⟨_, _, _, rfl, ra, rb, rc⟩
    refine wpAny_newObj_type ?_ (show 3 ≤ sizeLine by decide)
    have J : Inv X pins σ' H1 { s1 with heap := s1.heap.push { cls := .type "tuple", data := .seq [u1, u2, u3].toArray } } := I1.kept (t' := s1.toks) fun b o e => Heap.get?_push_of_some _ e
    rw [hw]
    refine wpAny_bind (wpAny_pure ?_)
    show wpAny (model X.prog X.w) X.A (do rule "assign.swapped-stores"; let items ← unpackItems (.ref s1.heap.objs.size) 3 none; assignInOrder [fun v => bindName X.env z v, fun v => bindName X.env y v, fun v => bindName X.env x v] items.reverse; pure Flow.next) _ _ _
    refine wpAny_bind (wpAny_rule (wpAny_bind (unpackItems_tuple (items := #[u1, u2, u3]) (I1.ok.hd (S.calm hk)) (IsTup.new s1.heap _) fun h' hx' => ?_)))
    have J2 := J.kept (h' := h') (t' := s1.toks) fun b o e => hx' b o (Nat.ne_of_lt (Heap.lt_size e)) e
    show wpAny _ _ (assignInOrder [fun v => bindName X.env z v, fun v => bindName X.env y v, fun v => bindName X.env x v] [u3, u2, u1] >>= fun _ => pure Flow.next) _ _ _
    refine wpAny_bind (assignInOrder_cons (wpAny_bindName (store_ok J2 S.ndX hl (.inl hz) rc (fun s2 I4 => ?_) (.inr hz))))
    refine assignInOrder_cons (wpAny_bindName (store_ok I4 S.ndX hj (.inl hy) rb (fun s3 I5 => ?_) (.inr hy)))
    refine assignInOrder_cons (wpAny_bindName (store_ok I5 S.ndX hi (.inl hx) ra (fun s4 I6 => assignInOrder_nil (wpAny_pure ?_)) (.inr hx)))
    have e : ((σ'.set l (some v3)).set j (some v2)).set i (some v1) = ((σ'.set i (some v1)).set j (some v2)).set l (some v3) := by
      rw [List.set_comm _ _ (Ne.symm hjl), List.set_comm _ _ (Ne.symm hil), List.set_comm _ _ (Ne.symm hij)]
    rw [e] at I6
    exact ⟨_, H1, I6, q1⟩
/-! ### o[i] = e -/
def LSet (K : PySem.W.Frag) : TSet := fun o i v H Q' => ∃ x n y M Q, RepM K H M ∧ Rv K H x o ∧ Rv K H n i ∧ Rv K H y v ∧ wSti x n y M Q ∧ ∀ H' M', Post K H M H' M' → Q M' → Q' H'
theorem set_t : PSet X (LSet X.K) := fun pins s σ H o i v ov iv u Q' I ro ri rv ⟨x, n, y, M, Q, hM, hx, hn, hy, h, c⟩ => by
  cases hx with
  | ref a => ?_
  | _ => exact h.elim
  cases hn with
  | int j => ?_
  | _ => exact h.elim
  obtain ⟨xs, jj, e, hj, q⟩ := h
  obtain ⟨vs, e1, r1, hz⟩ := hM a _ e
  have r2 : Rvs X.K H (xs.set jj y) (vs.set jj v) := Rvs.set jj hy r1
  exact set_list pins s σ H _ _ _ ov iv u Q' I ro ri rv ⟨a, vs, j, jj, rfl, rfl, e1, by rw [← r1.length]; exact hj, c _ _ (Post.set_lst hM e r2 (by rw [List.length_set]; exact hz)) q⟩
theorem sj_sti {o i e : Expr} {wo wi we : WE} {tpos pos : Pos} (ho : EJ X o wo) (hi : EJ X i wi) (he : EJ X e we) (hn : noSli i = true) (hs : swapsWithSole [.Subscript o i tpos] e pos.line X.env = pure false) (hw : swappedStores [.Subscript o i tpos] e X.env = pure none) :
    SJ X (.Assign [.Subscript o i tpos] e pos) (fun D σ M => we σ M (fun y M1 => wo σ M1 (fun x M2 => wi σ M2 (fun n M3 => wSti x n y M3 (fun M4 => D.nx σ M4)) (fun x M3 => D.ex x σ M3)) (fun x M2 => D.ex x σ M2)) (fun x M1 => D.ex x σ M1)) := fun W tk =>
  (ps_asg (he W tk) (pg_sub (ho W tk) (hi W tk) set_t (fun v => by cases i <;> first | rfl | cases hn)) hs hw rfl).by fun D' σ' H ⟨σ, M, D, hs, hM, q, b⟩ =>
  ⟨σ, M, _, _, hs, hM, q, fun y v H1 M1 p1 r1 q1 => ⟨σ, M1, _, _, hs.mono (p1.grow hM), p1.rep, q1, fun x u H2 M2 p2 r2 q2 => ⟨σ, M2, _, _, hs.mono ((p1.trans p2).grow hM), p2.rep, q2, fun n w H3 M3 p3 r3 q3 =>
    ⟨x, n, y, M3, _, p3.rep, r2.mono (p3.grow p2.rep), r3, r1.mono ((p2.trans p3).grow p1.rep), q3, fun H4 M4 p4 q4 => b.nx _ _ _ _ (((p1.trans p2).trans p3).trans p4) (hs.mono ((((p1.trans p2).trans p3).trans p4).grow hM)) q4⟩,
    (b.lx hM hs).on (p1.trans p2)⟩, (b.lx hM hs).on p1⟩, b.lx hM hs⟩
/-! ### op= -/
theorem ip_t : ∀ o : BOp, PIp X o.op (lift2 X.K (wAug o))
  | .add => fun pins s σ H v u vv uu Q' I rv ru ⟨x, y, M, Q, hM, hx, hy, h, c⟩ => by
    cases hx <;> cases hy <;> try exact h.elim
    · exact iop_add pins s σ H _ _ _ _ Q' I rv ru ⟨_, _, rfl, rfl, c.here hM (.int _) h⟩
    · exact iop_add_str pins s σ H _ _ _ _ Q' I rv ru ⟨_, _, rfl, rfl, h.1, c.here hM (.str _) h.2⟩
  | .sub => fun pins s σ H v u vv uu Q' I rv ru ⟨x, y, M, Q, hM, hx, hy, h, c⟩ => by
    cases hx <;> cases hy <;> try exact h.elim
    exact iop_sub pins s σ H _ _ _ _ Q' I rv ru ⟨_, _, rfl, rfl, c.here hM (.int _) h⟩
  | .mul => fun pins s σ H v u vv uu Q' I rv ru ⟨x, y, M, Q, hM, hx, hy, h, c⟩ => by
    cases hx <;> cases hy <;> try exact h.elim
    exact iop_mul pins s σ H _ _ _ _ Q' I rv ru ⟨_, _, rfl, rfl, h.1, c.here hM (.int _) h.2⟩
  | .fdiv => fun pins s σ H v u vv uu Q' I rv ru ⟨x, y, M, Q, hM, hx, hy, h, c⟩ => by
    cases hx <;> cases hy <;> try exact h.elim
    exact iop_fdiv pins s σ H _ _ _ _ Q' I rv ru ⟨_, _, rfl, rfl, h.1, c.here hM (.int _) h.2⟩
  | .mod => fun pins s σ H v u vv uu Q' I rv ru ⟨x, y, M, Q, hM, hx, hy, h, c⟩ => by
    cases hx <;> cases hy <;> try exact h.elim
    exact iop_mod pins s σ H _ _ _ _ Q' I rv ru ⟨_, _, rfl, rfl, h.1, c.here hM (.int _) h.2⟩
  | .pow => fun pins s σ H v u vv uu Q' I rv ru ⟨x, y, M, Q, hM, hx, hy, h, c⟩ => by
    cases hx <;> cases hy <;> exact h.elim
theorem sj_aug {i : Nat} {y : Str} {py pos : Pos} {o : BOp} {e : Expr} {w : WE} (S : Sta G N k sc none X) (hN : X.N[i]? = some y) (hl : locB none sc y = true) (h : EJ X e w) :
    SJ X (.AugAssign (.Name y py) o.op e pos) (fun D σ M => ∃ x, gs σ i = some x ∧ w σ M (fun y M1 => wAug o x y M1 (fun z M2 => D.nx (σ.set i (some z)) M2)) (fun x M1 => D.ex x σ M1)) := fun W tk =>
  (ps_aug S.ndX hN (S.loc hl).1 (h W tk) (ip_t o) (S.loc hl).2).by fun D' σ' H ⟨σ, M, D, hs, hM, ⟨x, e1, q⟩, b⟩ => by
    obtain ⟨v, h1, h2⟩ := hs.get (gs_eq e1)
    exact ⟨v, h1, σ, M, _, _, hs, hM, q, fun y u H1 M1 p1 r1 q1 => ⟨x, y, M1, _, p1.rep, h2.mono (p1.grow hM), r1, q1, fun z w H2 M2 p2 r2 q2 =>
      b.nx _ _ _ _ (p1.trans p2) ((hs.mono ((p1.trans p2).grow hM)).set i (show Ropt X.K H2 (some z) (some w) from r2)) q2⟩, b.lx hM hs⟩
def LGet (K : PySem.W.Frag) : V → V → Hp → VK → Prop := fun o i H Q' => ∃ x n M Q, RepM K H M ∧ Rv K H x o ∧ Rv K H n i ∧ wGet x n M Q ∧ ∀ z z', Rv K H z z' → Q z → Q' z' H
theorem get_t : PGet X (LGet X.K) := fun pins s σ H o i ov iv Q' I ro ri ⟨x, n, M, Q, hM, hx, hn, h, c⟩ => by
  cases hx with
  | ref a => ?_
  | _ => exact h.elim
  cases hn with
  | int j => ?_
  | _ => exact h.elim
  obtain ⟨xs, z, e, h0, hz, q⟩ := h
  obtain ⟨vs, s1, r1, hl⟩ := lsM_seq hM e
  obtain ⟨v, h1, h2⟩ := r1.getI hz
  cases ro
  obtain ⟨t, rfl⟩ := ri
  obtain ⟨its, rv, p, _⟩ := I.list s1
  obtain ⟨u, hu, ru⟩ := rv.get h1
  refine getItem_listL p.isList h0 ?_ hu ⟨v, H, I, ru, c z v h2 q⟩
  have : j.toNat < xs.length := by
    by_cases q : j.toNat < xs.length
    · exact q
    · rw [List.getElem?_eq_none (by omega)] at hz; cases hz
  rw [sizeLine_eq] at hl
  omega
theorem sj_augx {o i e : Expr} {wo wi we : WE} {p : BOp} {tpos pos : Pos} (ho : EJ X o wo) (hi : EJ X i wi) (he : EJ X e we) (hn : noSli i = true) :
    SJ X (.AugAssign (.Subscript o i tpos) p.op e pos) (fun D σ M => wo σ M (fun x M1 => wi σ M1 (fun n M2 => wGet x n M2 fun old => we σ M2 (fun y M3 => wAug p old y M3 (fun z M4 => wSti x n z M4 (fun M5 => D.nx σ M5)))
      (fun x M3 => D.ex x σ M3)) (fun x M2 => D.ex x σ M2)) (fun x M1 => D.ex x σ M1)) := fun W tk =>
  (ps_augS (ho W tk) (hi W tk) get_t (he W tk) (ip_t p) set_t (fun ov iv new => by cases i <;> first | rfl | cases hn)).by fun D' σ' H ⟨σ, M, D, hs, hM, q, b⟩ =>
  ⟨σ, M, _, _, hs, hM, q, fun x v H1 M1 p1 r1 q1 => ⟨σ, M1, _, _, hs.mono (p1.grow hM), p1.rep, q1, fun n u H2 M2 p2 r2 q2 => ⟨x, n, M2, _, p2.rep, r1.mono (p2.grow p1.rep), r2, q2, fun old old' r3 q3 =>
    ⟨σ, M2, _, _, hs.mono ((p1.trans p2).grow hM), p2.rep, q3, fun y w H4 M4 p4 r4 q4 => ⟨old, y, M4, _, p4.rep, r3.mono (p4.grow p2.rep), r4, q4, fun z zz H5 M5 p5 r5 q5 =>
      ⟨x, n, z, M5, _, p5.rep, r1.mono (((p2.trans p4).trans p5).grow p1.rep), r2.mono ((p4.trans p5).grow p2.rep), r5, q5, fun H6 M6 p6 q6 => by
        have p16 := (((p1.trans p2).trans p4).trans p5).trans p6
        exact b.nx _ _ _ _ p16 (hs.mono (p16.grow hM)) q6⟩⟩, (b.lx hM hs).on (p1.trans p2)⟩⟩, (b.lx hM hs).on p1⟩, b.lx hM hs⟩
/-! ### small statements -/
theorem sj_exp {e : Expr} {w : WE} {pos : Pos} (h : EJ X e w) (hs : noComp e = true) : SJ X (.Expr e pos) (fun D σ M => w σ M (fun _ M1 => D.nx σ M1) (fun x M1 => D.ex x σ M1)) := fun W tk =>
  (ps_expr (h W tk) (swaps_no hs)).by fun D' σ' H ⟨σ, M, D, hs, hM, q, b⟩ => ⟨σ, M, _, _, hs, hM, q, fun x v H1 M1 p1 r1 q1 => b.nx _ _ _ _ p1 (hs.mono (p1.grow hM)) q1, b.lx hM hs⟩
theorem sj_ret {e : Expr} {w : WE} {pos : Pos} (h : EJ X e w) : SJ X (.Return (some e) pos) (fun D σ M => w σ M D.rt (fun x M1 => D.ex x σ M1)) := fun W tk =>
  (ps_ret (h W tk)).by fun D' σ' H ⟨σ, M, D, hs, hM, q, b⟩ => ⟨σ, M, _, _, hs, hM, q, fun x v H1 M1 p1 r1 q1 => b.rt _ _ _ _ p1 r1 q1, b.lx hM hs⟩
theorem sj_retn {pos : Pos} : SJ X (.Return none pos) (fun D σ M => D.rt .non M) := fun W tk =>
  ps_retN.by fun D' σ' H ⟨σ, M, D, hs, hM, q, b⟩ => b.rt .non .non _ _ (.refl hM) .non q
theorem sj_pass {pos : Pos} : SJ X (.Pass pos) (fun D σ M => D.nx σ M) := fun W tk => ps_pass.by fun D' σ' H ⟨σ, M, D, hs, hM, q, b⟩ => b.nx _ _ _ _ (.refl hM) hs q
theorem sj_brk {pos : Pos} : SJ X (.Break pos) (fun D σ M => D.bk σ M) := fun W tk => ps_break.by fun D' σ' H ⟨σ, M, D, hs, hM, q, b⟩ => b.bk _ _ _ _ (.refl hM) hs q
theorem sj_cnt {pos : Pos} : SJ X (.Continue pos) (fun D σ M => D.ct σ M) := fun W tk => ps_continue.by fun D' σ' H ⟨σ, M, D, hs, hM, q, b⟩ => b.ct _ _ _ _ (.refl hM) hs q
theorem sj_never {st : Stmt} : SJ X st (fun _ _ _ => False) := fun W tk => ps_never.by fun D' σ' H ⟨σ, M, D, hs, hM, q, b⟩ => q.elim
theorem sj_ife {c : Expr} {a b : List Stmt} {wc : WT} {wa wb : WS} {pos : Pos} (hc : TJ X c wc) (ha : SsJ X a wa) (hb : SsJ X b wb) : SJ X (.If c a b pos) (fun D σ M => wc σ M (fun k M1 => if k = true then wa D σ M1 else wb D σ M1) (fun x M1 => D.ex x σ M1)) := fun W tk =>
  (ps_if (hc W tk) (ha W tk) (hb W tk)).by fun D' σ' H ⟨σ, M, D, hs, hM, q, b⟩ => ⟨σ, M, _, _, hs, hM, q, fun k H1 M1 p1 q1 => by
    cases k with
    | true => exact ⟨σ, M1, D, hs.mono (p1.grow hM), p1.rep, q1, b.on p1⟩
    | false => exact ⟨σ, M1, D, hs.mono (p1.grow hM), p1.rep, q1, b.on p1⟩, b.lx hM hs⟩
theorem ssj_nil : SsJ X [] (fun D σ M => D.nx σ M) := fun W tk => pss_nil.by fun D' σ' H ⟨σ, M, D, hs, hM, q, b⟩ => b.nx _ _ _ _ (.refl hM) hs q
theorem ssj_cons {st : Stmt} {r : List Stmt} {w wr : WS} (h : SJ X st w) (hr : SsJ X r wr) : SsJ X (st :: r) (fun D σ M => w { D with nx := fun σ' M' => wr D σ' M' } σ M) := fun W tk =>
  (pss_cons (h W tk) (hr W tk)).by fun D' σ' H ⟨σ, M, D, hs, hM, q, b⟩ =>
  ⟨σ, M, { D with nx := fun σ' M' => wr D σ' M' }, hs, hM, q, ⟨fun σ2 σ2' H2 M2 p r q2 => ⟨σ2, M2, D, r, p.rep, q2, b.on p⟩, b.rt, b.bk, b.ct, b.ex⟩⟩
/-! ### loops -/
theorem sj_whl {c : Expr} {body : List Stmt} {wc : WT} {wb : WS} {pos : Pos} (hp : PassesOwn (model X.prog X.w) X.A X.env X.xe) (hc : TJ X c wc) (hb : SsJ X body wb) : SJ X (.While c body [] pos) (fun D σ M => ∃ n, whL wc wb n D σ M) := fun W tk =>
  (ps_while hp (hc W tk) (hb W tk)).by fun D' σ' H ⟨σ, M, D, hs, hM, ⟨n, q⟩, b⟩ => by
  refine ⟨fun m σ' H1 => ∃ σ M1, Rs X.K H1 σ σ' ∧ Post X.K H M H1 M1 ∧ whL wc wb m D σ M1, ⟨n, σ, M, hs, .refl hM, q⟩, ?_⟩
  rintro m σ' H1 ⟨σ, M1, hs, p1, q⟩
  cases m with
  | zero => exact q.elim
  | succ m =>
    refine ⟨σ, M1, _, _, hs, p1.rep, q, fun k H2 M2 p2 q2 => ?_, (b.on p1).lx p1.rep hs⟩
    have hs2 := hs.mono (p2.grow p1.rep)
    cases k with
    | false => exact b.nx _ _ _ _ (p1.trans p2) hs2 q2
    | true =>
      refine ⟨fun σ' H3 => ∃ σ M3, Rs X.K H3 σ σ' ∧ Post X.K H M H3 M3 ∧ whL wc wb m D σ M3, fun σ' H' z => ⟨m, Nat.lt_succ_self _, z⟩, ?_⟩
      refine ⟨σ, M2, _, hs2, p2.rep, q2, ?_⟩
      have b2 := b.on (p1.trans p2)
      exact ⟨fun σ3 σ3' H3 M3 p3 r3 q3 => ⟨σ3, M3, r3, (p1.trans p2).trans p3, q3⟩, b2.rt, fun σ3 σ3' H3 M3 p3 r3 q3 => b2.nx _ _ _ _ p3 r3 q3, fun σ3 σ3' H3 M3 p3 r3 q3 => ⟨σ3, M3, r3, (p1.trans p2).trans p3, q3⟩, b2.ex⟩
theorem sj_for {tg it : Expr} {body : List Stmt} {T : Tg} {wi : TSt → TM → (Itm → TM → Prop) → TR → Prop} {wb : WS} {pos : Pos} (S : Sta G N k sc none X) (hk : k.hot = none) (hp : PassesOwn (model X.prog X.w) X.A X.env X.xe) (hi : IJ X tg it wi) (ht : ckTg none N sc T tg = true) (hb : SsJ X body wb) (hf : ∀ x, foldedSetIterable it X.env x = pure x) :
    SJ X (.For tg it body [] pos) (fun D σ M => wi σ M (fun J M1 => foL J.chk (fun x k σ1 M2 => wTg T x σ1 M2 (fun σ2 M3 => wb { D with nx := k, ct := k, bk := D.nx } σ2 M3)) D.nx J.items σ M1) (fun x M1 => D.ex x σ M1)) := fun W tk =>
  (ps_for hp (S.calm hk) (hi W tk) (pg_tg S hk ht) (hb W tk) hf).by fun D' σ' H ⟨σ, M, D, hs, hM, q, b⟩ =>
  ⟨σ, M, _, _, hs, hM, q, fun J I H1 M1 p1 io q1 => by
    refine ⟨fun i m σ' H2 => m = J.items.length - i ∧ i ≤ J.items.length ∧ ∃ σ M2, Rs X.K H2 σ σ' ∧ Post X.K H1 M1 H2 M2 ∧ foL J.chk (fun x k σ1 M2 => wTg T x σ1 M2 (fun σ2 M3 => wb { D with nx := k, ct := k, bk := D.nx } σ2 M3)) D.nx (J.items.drop i) σ M2,
      ⟨_, rfl, Nat.zero_le _, σ, M1, hs.mono (p1.grow hM), .refl p1.rep, q1⟩, ?_⟩
    rintro i m σ' H2 ⟨rfl, hi, σ, M2, hs, p2, q2⟩
    by_cases hlt : i < J.items.length
    · obtain ⟨x, e1, e2⟩ := drop_cons hlt
      rw [e2] at q2
      obtain ⟨ck, q2⟩ := q2
      refine .inr ⟨io.go i x H2 M2 e1 (p2.aft p1.rep) ck, fun σ' H3 => ∃ σ M3, Rs X.K H3 σ σ' ∧ Post X.K H1 M1 H3 M3 ∧ foL J.chk (fun x k σ1 M2 => wTg T x σ1 M2 (fun σ2 M3 => wb { D with nx := k, ct := k, bk := D.nx } σ2 M3)) D.nx (J.items.drop (i + 1)) σ M3, fun σ' H' ⟨σ, M3, a1, a2, a3⟩ => ⟨_, by omega, rfl, hlt, σ, M3, a1, a2, a3⟩, fun v H3 y => ?_⟩
      obtain ⟨p3, rx⟩ := io.yld i x H2 M2 v H3 e1 (p2.aft p1.rep) ck y
      refine ⟨x, σ, M2, _, rx, hs.mono (p3.grow p2.rep), p3.rep, q2, fun σ2 σ2' r2 _ q3 => ⟨σ2, M2, _, r2, p3.rep, q3, ?_⟩⟩
      have p13 := p2.trans p3
      have b3 := b.on (p1.trans p13)
      exact ⟨fun σ3 σ3' H4 M4 p4 r4 q4 => ⟨σ3, M4, r4, p13.trans p4, q4⟩, b3.rt, fun σ3 σ3' H4 M4 p4 r4 q4 => b3.nx _ _ _ _ p4 r4 q4, fun σ3 σ3' H4 M4 p4 r4 q4 => ⟨σ3, M4, r4, p13.trans p4, q4⟩, b3.ex⟩
    · have e : i = J.items.length := by omega
      subst e
      rw [List.drop_eq_nil_of_le (Nat.le_refl _)] at q2
      obtain ⟨ck, q2⟩ := q2
      exact .inl ⟨io.stop _ H2 M2 (Nat.le_refl _) (p2.aft p1.rep) ck, b.nx _ _ _ _ (p1.trans p2) hs q2⟩, b.lx hM hs⟩
/-! ### errors -/
/-- an own error that is made without arguments -/
structure ErrC (G : Gx) (c : Str) (C : Addr) : Prop where
  has : G.mg c = some (.ref C)
  exc : PySem.W.excIn G.K C [.type "ValueError", .type "Exception", .type "BaseException", .type "object"] "ValueError.__new__" = true
  kp : PySem.W.keepIn G.K (.ref C) = true
  sub : PySem.W.subIn G.K (.ref C) (.type "BaseException") = some true
  typ : PySem.W.typeIn G.K (.ref C) = some (.type "type")
theorem sj_rais (S : Sta G N k sc none X) (hk : k.hot = none) {c : Str} {C : Addr} {p1 p2 p3 : Pos} (e : ErrC G c C) (hg : Gl X c) (hx : okN c = true) : SJ X (.Raise (some (.Call (.Name c p1) [] [] p2)) none p3) (fun D σ M => D.ex ⟨.ref C, []⟩ σ M) := fun W tk =>
  (ps_raise (S.calm hk) tk (pmk_own0 PySem.F.excBase_ValueError (by rw [S.hK]; exact e.exc) (by rw [S.hm]; exact e.has) (by rw [S.hK]; exact e.kp) (raises_own (by rw [S.hK]; exact e.sub) (by rw [S.hK]; exact e.typ)) hg (okN_d hx))).by fun D' σ' H ⟨σ, M, D, hs, hM, q, b⟩ =>
    b.ex ⟨.ref C, []⟩ (.ref C) none σ σ' H M (.refl hM) hs ⟨rfl, trivial⟩ q
/-! ### try -/
/-- the call of what was handed in -/
def ThkRule (X : Cx) (x : Str) (f : Addr) (φ : Hp → Prop) (θ : Thk) : Prop := ∃ (c' : Addr) (q : Str) (tl : XK → Hp → VK → Prop),
  (∀ (W : WX) (pn : List (Addr × Obj)) (xe : Value → Shared → Prop) (E : XK) (p1 p2 : Pos), Takes (X.tr pn xe) W → (∀ cls d σ' H', E cls d H' → W cls d σ' H') →
    PE (X.tr pn xe) (.Call (.Name x p1) [] [] p2) (fun σZ HZ Q => σZ[0]? = some (some (.ref f)) ∧ HZ c' = some (LamX.CodeO c' q) ∧ tl E HZ Q)) ∧
  (∀ H, φ H → H c' = some (LamX.CodeO c' q)) ∧
  ∀ (H2 : Hp) (M2 : TM) (Q2 : TK) (R2 : TR) (Q2' : VK) (E2 : XK), RepM X.K H2 M2 → φ H2 → θ M2 Q2 R2 → Cont X.K H2 M2 Q2 Q2' → (∀ x cls d H' M', Post X.K H2 M2 H' M' → Rx X.K H' x cls d → R2 x M' → E2 cls d H') → tl E2 H2 Q2'
/-- a try's body, by its mode -/
def MBody (x : Str) : TMode → Stmt → Prop
  | .exp, st => ∃ p1 p2 p3, st = .Expr (.Call (.Name x p1) [] [] p2) p3
  | .ret v, st => ∃ w j p p1 p2 kk pt p3, v = .str w ∧ st = .Return (some (.Tuple [.Constant (.str w) j p, .Call (.Name x p1) [] [] p2] kk pt)) p3
  | .set _ _, _ => False
theorem Rs.nones {K : PySem.W.Frag} {H : Hp} : ∀ (n : Nat) (σ' : LSt), σ'.length = n → Rs K H (List.replicate n none) σ'
  | 0, [], _ => .nil
  | n + 1, x :: r, h => .cons True.intro (Rs.nones n r (by simpa using h))
  | 0, _ :: _, h => by cases h
  | n + 1, [], h => by cases h
theorem Rs.len {K : PySem.W.Frag} {H : Hp} : ∀ {σ : TSt} {σ' : LSt}, Rs K H σ σ' → σ.length = σ'.length
  | _, _, .nil => rfl
  | _, _, .cons _ r => congrArg (· + 1) (Rs.len r)
def lowMode (m : TMode) (D : Ends) (σ : LSt) : VK := match m with
  | .exp => fun _ H => D.nx σ H
  | .ret (.str w) => fun z H => [V.str w, z].length ≤ sizeLine ∧ ∀ p, H p = none → D.rt (.ref p) (upd H p (.tup [.str w, z]))
  | _ => fun _ _ => False
theorem sj_tri (S : Sta G N k sc none X) (hst : X.stack = X.env :: X.outer) (hfr : X.env.frame = some X.env.locals) {m : TMode} {x c n : Str} {f : Addr} {φ : Hp → Prop} {θ : Thk} (TR' : ThkRule X x f φ θ) {cv : Value} {cm : Value → Option Bool} {i : Nat} {ws : Addr → Value → WS} {body b₀ : Stmt} {suite : List Stmt} {np pos pos' : Pos}
    (hb : MBody x m body) (hN : N[i]? = some n) (hln : sc.names.lookup n = some .local) (hc : Names X c cv) (hcm : ∀ D b, cm D = some b → PySem.W.exmOne G.K D cv = some b)
    (hsu : ∀ (a : Addr) (oe : Obj) (D : Value) (pn : List (Addr × Obj)), Zc D none oe → (∃ vs, oe.data = .fields vs) → SsJ (X.suite a ((a, oe) :: pn)) (b₀ :: suite) (ws a D)) :
    SJ X (.Try [body] [.ExceptHandler (some (.Name c np)) (some n) (b₀ :: suite) pos'] [] [] pos) (fun D σ M => gs σ 0 = some (.thk f φ) ∧ θ M (wMode m D σ) (fun x M1 => x.fs = [] ∧ cm x.cls = some true ∧
      ∀ a, ws a x.cls { nx := fun σ2 M2 => D.nx (σ2.set i none) M2, rt := D.rt, bk := fun σ2 M2 => D.bk (σ2.set i none) M2, ct := fun σ2 M2 => D.ct (σ2.set i none) M2, ex := fun _ _ _ => False } ((List.replicate σ.length none).set i (some (.ref a))) M1)) := fun W tk => by
  obtain ⟨c', q, tl, act, h1, lift⟩ := TR'
  let ts : Addr → Value → Option Addr → TS := fun a cls d => match d with
    | none => LS X.K F0 (ws a cls)
    | some _ => fun _ _ _ => False
  have key := ps_try_as (X := X) (x := c) (n := n) (c := cv) (i := i) (body := [body]) (suite := suite) (b₀ := b₀) (np := np) (pos := pos) (pos' := pos') (Wout := W) (ts := ts)
    (tb := fun W1 D σ' H => ∃ Ech : XK, (∀ cls d σ1 H', σ1.length = N.length → Ech cls d H' → W1 cls d σ1 H') ∧ σ'[0]? = some (some (.ref f)) ∧ H c' = some (LamX.CodeO c' q) ∧ tl Ech H (lowMode m D σ'))
    hst hfr (by rw [S.hN]; exact S.nd) (by rw [S.hN]; exact hN) (by show X.env.scope.names.lookup n = _; rw [S.hsc]; exact hln) hc tk
    (fun W1 pn xe tk1 _ => by
      have tk2 : Takes (X.tr pn xe) (fun cls d σ1 H' => σ1.length = N.length → W1 cls d σ1 H') := fun u s' ⟨a, B, sI, pins, σ, H, cls, d, e1, I, e3, e4, e5, e6, e7, e8, w⟩ => tk1 u s' ⟨a, B, sI, pins, σ, H, cls, d, e1, I, e3, e4, e5, e6, e7, e8, w (by rw [← S.hN]; exact I.len)⟩
      cases m with
      | exp =>
        obtain ⟨p1, p2, p3, rfl⟩ := hb
        refine pss_one ⟨fun pins s σ' H D I ⟨Ech, e1, e2, e3, e4⟩ => ?_⟩
        exact (ps_expr (act _ pn xe Ech p1 p2 tk2 fun cls d σ1 H' h hl => e1 cls d σ1 H' hl h) rfl).run pins s σ' H D I ⟨e2, e3, e4⟩
      | ret v =>
        obtain ⟨w, j, p, p1, p2, kk, pt, p3, rfl, rfl⟩ := hb
        refine pss_one ⟨fun pins s σ' H D I ⟨Ech, e1, e2, e3, e4⟩ => ?_⟩
        refine (ps_ret (pe_tup (pa_cons pe_str (pa_cons (act _ pn xe Ech p1 p2 tk2 fun cls d σ1 H' h hl => e1 cls d σ1 H' hl h) pa_nil)))).run pins s σ' H D I ?_
        exact ⟨e2, e3, e4⟩
      | set _ _ => exact hb.elim)
    (fun a oe cls d pn hz hf => by
      cases d with
      | none => exact hsu a oe cls pn hz hf F0 TL.takes0
      | some _ => exact ⟨fun pins s σ' H D I h => h.elim⟩)
  refine ⟨fun pins s σ' H D' I h => key.run pins s σ' H D' I ?_⟩
  obtain ⟨σ, M, D, hs, hM, ⟨e1, e3⟩, b⟩ := h
  obtain ⟨v0, g1, g2⟩ := hs.get (gs_eq e1)
  obtain ⟨rfl, hφ⟩ : v0 = .ref f ∧ φ H := by
    cases g2 with
    | thk _ _ h => exact ⟨rfl, h H (GrowT.refl _ _)⟩
  refine ⟨fun cls d H1 => ∀ σ1 : LSt, σ1.length = N.length → wAs X.K cv i ts W D' cls d σ1 H1, fun cls d σ1 H' hl h => h σ1 hl, g1, h1 H hφ, ?_⟩
  refine lift H M _ _ _ _ hM hφ e3 ?_ ?_
  · intro z z' H1 M1 p1 r1 q1
    cases m with
    | exp => exact b.nx _ _ _ _ p1 (hs.mono (p1.grow hM)) q1
    | ret v =>
      obtain ⟨w, _, _, _, _, _, _, _, rfl, _⟩ := hb
      refine ⟨show 2 ≤ sizeLine by decide, fun p hp => ?_⟩
      refine b.rt _ _ _ _ (p1.trans (Post.new p1.rep hp)) ?_ q1
      exact .tup (.of upd_same) (.cons (.str w) (.cons (r1.mono ((Post.new (o := .tup [.str w, z']) p1.rep hp).grow p1.rep)) .nil)) (show 2 ≤ sizeLine by decide)
    | set _ _ => exact hb.elim
  · intro x1 cls d H1 M1 p1 rx ⟨hfs, hcl, hall⟩ σ1 hl
    obtain ⟨rfl, rd⟩ := rx
    rw [hfs] at rd
    have hd : d = none := by
      cases d with
      | none => rfl
      | some dx => exact rd.elim
    subst hd
    refine ⟨true, by rw [S.hK]; exact hcm _ _ hcl, fun _ a na => ?_, fun z => by cases z⟩
    have hlen : σ.length = σ1.length := by rw [hs.len, I.len, S.hN, hl]
    refine ⟨_, M1, _, (Rs.nones σ.length σ1 hlen.symm).set i (show Ropt X.K H1 (some (.ref a)) (some (.ref a)) from .ref a), p1.rep, hall a, ?_⟩
    have b1 := b.on p1
    exact ⟨fun σ2 σ2' H2 M2 p2 r2 q2 => b1.nx _ _ _ _ p2 (r2.set i (show Ropt X.K H2 none none from trivial)) q2, b1.rt, fun σ2 σ2' H2 M2 p2 r2 q2 => b1.bk _ _ _ _ p2 (r2.set i (show Ropt X.K H2 none none from trivial)) q2,
      fun σ2 σ2' H2 M2 p2 r2 q2 => b1.ct _ _ _ _ p2 (r2.set i (show Ropt X.K H2 none none from trivial)) q2, fun _ _ _ _ _ _ _ _ _ _ z => z.elim⟩
end
end TL

/-! TDef: bodies of defs, checked; the rule for a def. -/
namespace TL
open PySem PySem.Spec PyProof.Rows L2

def vAsg : Stmt → Option (Expr × Expr × Pos)
  | .Assign [t] e p => some (t, e, p)
  | _ => none
theorem vAsg_eq {s : Stmt} {t e : Expr} {p : Pos} (h : vAsg s = some (t, e, p)) : s = .Assign [t] e p := by
  unfold vAsg at h
  split at h
  · cases h; rfl
  · cases h
def vAug : Stmt → Option (Expr × Operator × Expr × Pos)
  | .AugAssign t o e p => some (t, o, e, p)
  | _ => none
theorem vAug_eq {s : Stmt} {t e : Expr} {o : Operator} {p : Pos} (h : vAug s = some (t, o, e, p)) : s = .AugAssign t o e p := by
  unfold vAug at h
  split at h
  · cases h; rfl
  · cases h
def vExp : Stmt → Option (Expr × Pos)
  | .Expr e p => some (e, p)
  | _ => none
theorem vExp_eq {s : Stmt} {e : Expr} {p : Pos} (h : vExp s = some (e, p)) : s = .Expr e p := by
  unfold vExp at h
  split at h
  · cases h; rfl
  · cases h
def vIfS : Stmt → Option (Expr × List Stmt × List Stmt × Pos)
  | .If c a b p => some (c, a, b, p)
  | _ => none
theorem vIfS_eq {s : Stmt} {c : Expr} {a b : List Stmt} {p : Pos} (h : vIfS s = some (c, a, b, p)) : s = .If c a b p := by
  unfold vIfS at h
  split at h
  · cases h; rfl
  · cases h
def vWhl : Stmt → Option (Expr × List Stmt × Pos)
  | .While c a [] p => some (c, a, p)
  | _ => none
theorem vWhl_eq {s : Stmt} {c : Expr} {a : List Stmt} {p : Pos} (h : vWhl s = some (c, a, p)) : s = .While c a [] p := by
  unfold vWhl at h
  split at h
  · cases h; rfl
  · cases h
def vFor : Stmt → Option (Expr × Expr × List Stmt × Pos)
  | .For t i a [] p => some (t, i, a, p)
  | _ => none
theorem vFor_eq {s : Stmt} {t i : Expr} {a : List Stmt} {p : Pos} (h : vFor s = some (t, i, a, p)) : s = .For t i a [] p := by
  unfold vFor at h
  split at h
  · cases h; rfl
  · cases h
def vRet : Stmt → Option (Option Expr × Pos)
  | .Return e p => some (e, p)
  | _ => none
theorem vRet_eq {s : Stmt} {e : Option Expr} {p : Pos} (h : vRet s = some (e, p)) : s = .Return e p := by
  unfold vRet at h
  split at h
  · cases h; rfl
  · cases h
def vRai : Stmt → Option (Expr × Pos)
  | .Raise (some e) none p => some (e, p)
  | _ => none
theorem vRai_eq {s : Stmt} {e : Expr} {p : Pos} (h : vRai s = some (e, p)) : s = .Raise (some e) none p := by
  unfold vRai at h
  split at h
  · cases h; rfl
  · cases h
def vTry : Stmt → Option (Stmt × Str × Pos × Str × Stmt × List Stmt × Pos × Pos)
  | .Try [b] [.ExceptHandler (some (.Name c np)) (some n) (b₀ :: su) p1] [] [] p => some (b, c, np, n, b₀, su, p1, p)
  | _ => none
theorem vTry_eq {s b b₀ : Stmt} {c n : Str} {np p1 p : Pos} {su : List Stmt} (h : vTry s = some (b, c, np, n, b₀, su, p1, p)) : s = .Try [b] [.ExceptHandler (some (.Name c np)) (some n) (b₀ :: su) p1] [] [] p := by
  unfold vTry at h
  split at h
  · cases h; rfl
  · cases h
/-- a try's body, by its mode -/
def modeB (x : Str) : TMode → Stmt → Bool
  | .exp, .Expr (.Call (.Name y _) [] [] _) _ => decide (y = x)
  | .ret (.str w), .Return (some (.Tuple [.Constant (.str z) _ _, .Call (.Name y _) [] [] _] _ _)) _ => decide (z = w) && decide (y = x)
  | _, _ => false
theorem modeB_ok {x : Str} {m : TMode} {st : Stmt} (h : modeB x m st = true) : MBody x m st := by
  unfold modeB at h
  split at h
  · obtain rfl := of_decide_eq_true h
    exact ⟨_, _, _, rfl⟩
  · simp only [Bool.and_eq_true, decide_eq_true_eq] at h
    obtain ⟨rfl, rfl⟩ := h
    exact ⟨_, _, _, _, _, _, _, _, rfl, rfl⟩
  · cases h
def noTup : Expr → Bool
  | .Tuple .. => false
  | _ => true
/-- a comprehension that is kept in a name on its own line -/
def swL (sc : Scope) (y : Str) (py : Pos) : Expr → Bool
  | .ListComp _ _ bs p => (match sc.names.lookup y with
    | some .local => true
    | _ => false) && (py.line == p.line) && !(bs.names.any fun nk => nk.1 == y && (nk.2 == .local || nk.2 == .cell))
  | _ => false
/-- two local names of one row, kept from the right -/
def swP (sc : Scope) : List Expr → List Expr → Bool
  | [.Name x px, .Name y py], [a, b] => (match sc.names.lookup x, sc.names.lookup y with
    | some .local, some .local => true
    | _, _ => false) && decide (x ≠ y) && (py.line == px.line) && noStar a && noStar b && !([a, b].all (foldedForSure 8)) && !([a, b].all (constantsAlone 8))
  | [.Name x px, .Name y py, .Name z pz], [a, b, c] => (match sc.names.lookup x, sc.names.lookup y, sc.names.lookup z with
    | some .local, some .local, some .local => true
    | _, _, _ => false) && decide (x ≠ y) && decide (x ≠ z) && decide (y ≠ z) && (py.line == px.line) && (pz.line == px.line) && noStar a && noStar b && noStar c && !([a, b, c].all (foldedForSure 8)) && !([a, b, c].all (constantsAlone 8))
  | _, _ => false
section
variable (N : List Str) (sc : Scope)
def nmB (i : Nat) (e : Expr) : Bool := match vName e with
  | some (x, _) => decide (N[i]? = some x) && locB none sc x
  | none => false
mutual
def ckS : Sm → Stmt → Bool
  | .set i e, st => match vAsg st with
    | some (t, x, _) => (match vName t with
      | some (y, py) => decide (N[i]? = some y) && locB none sc y && ckE N e sc x && (noComp x || swL sc y py x)
      | none => false)
    | none => false
  | .asg is e, st => match vAsg st with
    | some (t, x, _) => (vTup t).isSome && ckTg none N sc (.tup is) t && ckE N e sc x && (noTup x || (match vTup t, vTup x with
      | some (ts, _, _), some (xs, _, _) => xs.all (foldedForSure 8) && !(xs.any fun e => !noStar e)
      | _, _ => false))
    | none => false
  | .par is es, st => match vAsg st with
    | some (t, x, _) => (match vTup t, vTup x with
      | some (ts, _, _), some (xs, _, _) => swP sc ts xs && (match is, ts with
        | [i, j], [a, b] => nmB N sc i a && nmB N sc j b
        | [i, j, l], [a, b, c] => nmB N sc i a && nmB N sc j b && nmB N sc l c
        | _, _ => false) && ckEs N es sc xs
      | _, _ => false)
    | none => false
  | .sti o i e, st => match vAsg st with
    | some (t, x, _) => (match vSub t with
      | some (a, b, _) => noSli b && ckE N o sc a && ckE N i sc b && ckE N e sc x
      | none => false)
    | none => false
  | .aug i o e, st => match vAug st with
    | some (t, op, x, _) => (match vName t with
      | some (y, _) => decide (op = o.op) && decide (N[i]? = some y) && locB none sc y && ckE N e sc x
      | none => false)
    | none => false
  | .augx o i p e, st => match vAug st with
    | some (t, op, x, _) => (match vSub t with
      | some (a, b, _) => decide (op = p.op) && noSli b && ckE N o sc a && ckE N i sc b && ckE N e sc x
      | none => false)
    | none => false
  | .exp e, st => match vExp st with
    | some (x, _) => noComp x && ckE N e sc x
    | none => false
  | .ife c a b, st => match vIfS st with
    | some (x, y, z, _) => ckB N c sc x && ckSs a y && ckSs b z
    | none => false
  | .whl c b, st => match vWhl st with
    | some (x, y, _) => ckB N c sc x && ckSs b y
    | none => false
  | .fr tg it b, st => match vFor st with
    | some (t, i, y, _) => noSet i && ckTg none N sc tg t && ckI N it sc (vTup t).isSome i && ckSs b y
    | none => false
  | .ret e, st => match vRet st with
    | some (some x, _) => ckE N e sc x
    | _ => false
  | .retn, st => match vRet st with
    | some (none, _) => true
    | _ => false
  | .pass, st => match st with
    | .Pass _ => true
    | _ => false
  | .brk, st => match st with
    | .Break _ => true
    | _ => false
  | .cnt, st => match st with
    | .Continue _ => true
    | _ => false
  | .rais c _, st => match vRai st with
    | some (e, _) => (match vCall e with
      | some (g, [], [], _) => (match vName g with
        | some (y, _) => decide (y = c) && glB sc c && okN c
        | none => false)
      | _ => false)
    | none => false
  | .tri m x _ _ _ c _ _ i h, st => match vTry st with
    | some (b, c0, _, n, b₀, su, _, _) => modeB x m b && decide (c0 = c) && glB sc c && okN c && decide (N[i]? = some n) && decide (sc.names.lookup n = some .local) && ckSs (h 0 .none) (b₀ :: su)
    | none => false
  | .never, _ => true
def ckSs : Sms → List Stmt → Bool
  | .nil, [] => true
  | .cons s r, x :: xs => ckS s x && ckSs r xs
  | _, _ => false
end
end
/-- what an except clause names -/
def NamesG (G : Gx) (c : Str) (cv : Value) : Prop := G.mg c = some cv ∨ (G.mg c = none ∧ bootBuiltins c = some cv ∧ c ≠ "__name__")
section
variable (G : Gx)
mutual
def okS' : Sm → CtI → Prop
  | .set _ e, k => okE G k e
  | .asg _ e, k => okE G k e ∧ k.hot = none
  | .par _ es, k => okEs G k es ∧ k.hot = none
  | .sti o i e, k => okE G k o ∧ okE G k i ∧ okE G k e
  | .aug _ _ e, k => okE G k e
  | .augx o i _ e, k => okE G k o ∧ okE G k i ∧ okE G k e
  | .exp e, k => okE G k e
  | .ife c a b, k => okB G k c ∧ okSs' a k ∧ okSs' b k
  | .whl c b, k => okB G k c ∧ okSs' b k
  | .fr _ it b, k => okI G k it ∧ okSs' b k ∧ k.hot = none
  | .ret e, k => okE G k e
  | .retn, _ => True
  | .pass, _ => True
  | .brk, _ => True
  | .cnt, _ => True
  | .rais c C, k => ErrC G c C ∧ k.hot = none
  | .tri _ x f φ θ c cv cm _ h, k => k.thk = some (x, f, φ, θ) ∧ NamesG G c cv ∧ (∀ D b, cm D = some b → PySem.W.exmOne G.K D cv = some b) ∧ (∀ a D N sc st, ckSs N sc (h a D) st = ckSs N sc (h 0 .none) st) ∧ ∀ a D, okSs' (h a D) ⟨k.k, k.q, k.c, some (a, D), none, k.grd⟩
  | .never, _ => True
def okSs' : Sms → CtI → Prop
  | .nil, _ => True
  | .cons s r, k => okS' s k ∧ okSs' r k
end
abbrev okS (k : CtI) (s : Sm) := okS' G s k
abbrev okSs (k : CtI) (s : Sms) := okSs' G s k
end
/-- a context of a body -/
structure StaB (G : Gx) (N : List Str) (k : CtI) (sc : Scope) (X : Cx) : Prop where
  st : Sta G N k sc none X
  own : PassesOwn (model X.prog X.w) X.A X.env X.xe
  kind : X.env.blockKind = .function
  stk : X.stack = X.env :: X.outer
  frm : X.env.frame = some X.env.locals
  thk : ∀ x f φ θ, k.thk = some (x, f, φ, θ) → ThkRule X x f φ θ
section
variable {G : Gx} {N : List Str} {k : CtI} {sc : Scope} {X : Cx} {F : Addr → TSp → Prop}
theorem sole_tup {x : Expr} {es : List Expr} {n l : Nat} {p : Pos} : swapsWithSole [.Tuple es n p] x l X.env = pure false := by cases x <;> rfl
theorem sole_sub {x a b : Expr} {l : Nat} {p : Pos} : swapsWithSole [.Subscript a b p] x l X.env = pure false := by cases x <;> rfl
theorem stores_no {x : Expr} {ts : List Expr} (h : noTup x = true) : swappedStores ts x X.env = pure none := by
  cases x <;> first | (cases h; done) | skip
  all_goals (unfold swappedStores; rcases ts with _ | ⟨t, _ | ⟨_, _⟩⟩ <;> first | rfl | (cases t <;> rfl))
theorem stores_sub {x a b : Expr} {p : Pos} : swappedStores [.Subscript a b p] x X.env = pure none := by cases x <;> rfl
theorem stores_fold {ts xs : List Expr} {n m : Nat} {p q : Pos} (h : xs.all (foldedForSure 8) = true) (h2 : (xs.any fun e => !noStar e) = false) : swappedStores [.Tuple ts n p] (.Tuple xs m q) X.env = pure none := by
  unfold swappedStores
  dsimp only
  split
  · rfl
  · split
    · rfl
    · split
      · rfl
      · first | rfl | rw [if_pos h]
theorem stores_two {x y : Str} {px py pt q : Pos} {a b : Expr} {n m : Nat} (B : X.env.blockKind = .function) (hx : X.env.kindOf x = some .local) (hy : X.env.kindOf y = some .local) (hne : x ≠ y) (hl : (py.line == px.line) = true)
    (ha : noStar a = true) (hb : noStar b = true) (h1 : ([a, b].all (foldedForSure 8)) = false) (h2 : ([a, b].all (constantsAlone 8)) = false) :
    swappedStores [.Tuple [.Name x px, .Name y py] n pt] (.Tuple [a, b] m q) X.env = pure (some [x, y]) := by
  have hl2 : (px.line == px.line) = true := beq_self_eq_true _
  have st : ∀ e : Expr, noStar e = true → (match e with | .Starred .. => true | _ => false) = false := fun e h => by cases e <;> first | rfl | cases h
  have k1 : (X.env.kindOf x == some NameKind.local) = true := by rw [hx]; rfl
  have k2 : (X.env.kindOf y == some NameKind.local) = true := by rw [hy]; rfl
  have bk : (X.env.blockKind != ScopeKind.function) = false := by rw [B]; rfl
  have sb : ([a, b].any fun | .Starred .. => true | _ => false) = false := by
    simp only [List.any_cons, List.any_nil, Bool.or_false, Bool.or_eq_false_iff]
    exact ⟨st a ha, st b hb⟩
  have e2 : (x == y) = false := by simpa using hne
  have e3 : (y == x) = false := by simpa using hne.symm
  have dd : (([x, y] : List Str).eraseDups).length = 2 := by simp [List.eraseDups_cons, e3]
  unfold swappedStores
  dsimp only
  simp only [List.length_cons, List.length_nil, Nat.zero_add, Nat.reduceAdd, beq_self_eq_true, Bool.true_or, Bool.not_true, bne_self_eq_false, Bool.false_or, bk, Bool.false_eq_true, if_false, sb, List.filterMap_cons, List.filterMap_nil, List.head?_cons, Option.map_some, Option.getD_some, k1, k2, Expr.pos, hl, hl2, Bool.and_self, if_true, dd, h1, h2]
  exact if_neg fun h => Bool.false_ne_true (sb.symm.trans h)
theorem stores_three {x y z : Str} {px py pz pt q : Pos} {a b c : Expr} {n m : Nat} (B : X.env.blockKind = .function) (hx : X.env.kindOf x = some .local) (hy : X.env.kindOf y = some .local) (hz : X.env.kindOf z = some .local) (hne : x ≠ y) (hnz : x ≠ z) (hyz : y ≠ z) (hl : (py.line == px.line) = true) (hl3 : (pz.line == px.line) = true)
    (ha : noStar a = true) (hb : noStar b = true) (hc : noStar c = true) (h1 : ([a, b, c].all (foldedForSure 8)) = false) (h2 : ([a, b, c].all (constantsAlone 8)) = false) :
    swappedStores [.Tuple [.Name x px, .Name y py, .Name z pz] n pt] (.Tuple [a, b, c] m q) X.env = pure (some [x, y, z]) := by
  have hl2 : (px.line == px.line) = true := beq_self_eq_true _
  have st : ∀ e : Expr, noStar e = true → (match e with | .Starred .. => true | _ => false) = false := fun e h => by cases e <;> first | rfl | cases h
  have k1 : (X.env.kindOf x == some NameKind.local) = true := by rw [hx]; rfl
  have k2 : (X.env.kindOf y == some NameKind.local) = true := by rw [hy]; rfl
  have k3 : (X.env.kindOf z == some NameKind.local) = true := by rw [hz]; rfl
  have bk : (X.env.blockKind != ScopeKind.function) = false := by rw [B]; rfl
  have sb : ([a, b, c].any fun | .Starred .. => true | _ => false) = false := by
    simp only [List.any_cons, List.any_nil, Bool.or_false, Bool.or_eq_false_iff]
    exact ⟨st a ha, st b hb, st c hc⟩
  have e3 : (y == x) = false := by simpa using hne.symm
  have e4 : (z == x) = false := by simpa using hnz.symm
  have e5 : (z == y) = false := by simpa using hyz.symm
  have dd : (([x, y, z] : List Str).eraseDups).length = 3 := by simp [List.eraseDups_cons, e3, e4, e5]
  have t32 : ((3 : Nat) == 2) = false := rfl
  unfold swappedStores
  dsimp only
  simp only [List.length_cons, List.length_nil, Nat.zero_add, Nat.reduceAdd, beq_self_eq_true, Bool.or_true, t32, Bool.not_true, bne_self_eq_false, Bool.false_or, bk, Bool.false_eq_true, if_false, sb, List.filterMap_cons, List.filterMap_nil, List.head?_cons, Option.map_some, Option.getD_some, k1, k2, k3, Expr.pos, hl, hl2, hl3, Bool.and_self, if_true, dd, h1, h2]
  exact if_neg fun h => Bool.false_ne_true (sb.symm.trans h)
theorem swaps_yes {elt : Expr} {gs : List Comprehension} {bs : Scope} {p py : Pos} {y : Str} {l : Nat} (B : X.env.blockKind = .function) (h : swL X.env.scope y py (.ListComp elt gs bs p) = true) : swapsWith (.ListComp elt gs bs p) (some (.Name y py)) l X.env = pure true ∧ X.env.scope.names.lookup y = some .local := by
  unfold swL at h
  simp only [Bool.and_eq_true] at h
  obtain ⟨⟨h1, h2⟩, h3⟩ := h
  have hk : X.env.scope.names.lookup y = some .local := by
    split at h1
    · assumption
    · cases h1
  refine ⟨?_, hk⟩
  have hk2 : (X.env.kindOf y == some NameKind.local) = true := by rw [show X.env.kindOf y = some .local from hk]; rfl
  unfold swapsWith
  dsimp only
  rw [B, hk2, show (Expr.ListComp elt gs bs p).pos = p from rfl, h2, h3]
  rfl
theorem nmB_ok {i : Nat} {e : Expr} (S : Sta G N k sc none X) (h : nmB N sc i e = true) : ∃ x p, e = .Name x p ∧ X.N[i]? = some x := by
  obtain ⟨x, p, e1, h1, h2⟩ := ckN1 h
  exact ⟨x, p, e1, by rw [S.hN]; exact h1⟩
theorem iteL {l : Option NameKind} (h : (match l with
    | some .local => true
    | _ => false) = true) : l = some .local := by
  split at h
  · rfl
  · cases h
/-- a comprehension that goes into a name of its row -/
theorem sj_setLc (B : StaB G N k sc X) (hF : ∀ f sp, F f sp → HeldT G cavK f sp) {i : Nat} {y : Str} {py pos : Pos} {e : Ex} {x : Expr} (hN : X.N[i]? = some y) (ok : okE G k e) (h : ckE N e sc x = true) (hs : swL sc y py x = true) :
    SJ X (.Assign [.Name y py] x pos) (fun D σ M => wE F e σ M (fun x M1 => D.nx (σ.set i (some x)) M1) (fun x M1 => D.ex x σ M1)) := by
  have S := B.st
  cases qx : vLC x with
  | none =>
    exfalso
    cases x <;> first | (cases hs; done) | (cases qx; done)
  | some r =>
    obtain ⟨el', gens, bs, p⟩ := r
    obtain rfl : x = Expr.ListComp el' gens bs p := vLC_eq qx
    rw [← S.hsc] at hs
    have sw := fun l => swaps_yes (l := l) B.kind hs
    have InB : k.hot = none → InBlk X bs fun Y => Sta G N k (relS bs sc) (some bs) Y := fun hk s H C cl fp => S.block hk s H bs C cl fp
    have go : ∀ {w : WE} {D : TEnds} {D' : Ends} {σ : TSt} {σ' : LSt} {H : Hp} {M : TM} {W : WX}, Rs X.K H σ σ' → RepM X.K H M → w σ M (fun x M1 => D.nx (σ.set i (some x)) M1) (fun x M1 => D.ex x σ M1) → Below X.K W H M D D' → LE X.K W w σ' H (fun x H1 => D'.nx (σ'.set i (some x)) H1) := fun {w D D' σ σ' H M W} hs hM q b =>
      ⟨σ, M, _, _, hs, hM, q, fun x v H1 M1 p1 r1 q1 => b.nx _ _ _ _ p1 ((hs.mono (p1.grow hM)).set i (show Ropt X.K H1 (some x) (some v) from r1)) q1, b.lx hM hs⟩
    cases e <;> first | (exfalso; simp [ckE, vName, vCst, vBin, vUn, vCmp, vBool, vIf, vTup, vLst, vDic0, vSub, vCall, vRev, vLam] at h; done) | skip
    case lc T it c el own =>
      unfold ckE at h
      simp only [vLC] at h
      match gens, h with
      | [⟨t, i', fs, a⟩], h =>
        simp only [Bool.and_eq_true, decide_eq_true_eq] at h
        obtain ⟨⟨⟨⟨⟨⟨⟨rfl, h2⟩, h3⟩, h4⟩, h5⟩, h6⟩, h7⟩, h8⟩ := h
        have okh := ok.2.2.2
        have InB := InB okh
        exact fun W tk => (ps_setLc (S.calm okh) S.ndX hN (sw pos.line).2 (sw _).1 (sndI hF it S ok.1 h6 rfl W tk) (by rw [S.hN, S.hsc]; exact blkOk_by h3) (fun s H C cl fp => pg_tg (InB s H C cl fp) okh h5) (fun s H C cl fp => sndBo hF c (InB s H C cl fp) ok.2.1 h7) (fun s H C cl fp => (sndE hF el (InB s H C cl fp) ok.2.2.1 h8).1 _ TL.takes0) (fun x => folded_no h2 x)).by
          fun D' σ' H ⟨σ, M, D, hs, hM, q, b⟩ => lc_red (hasA h4) (go hs hM q b)
      | [], h => cases h
      | ⟨_, _, _, _⟩ :: _ :: _, h => exact absurd h (by simp)
    case lc2 T it c T1 it1 c1 el own vs1 =>
      unfold ckE at h
      simp only [vLC] at h
      match gens, h with
      | [⟨t, i', fs, a⟩, ⟨t1, i1, fs1, a1⟩], h =>
        simp only [Bool.and_eq_true, decide_eq_true_eq] at h
        obtain ⟨⟨⟨⟨⟨⟨⟨⟨⟨⟨⟨⟨⟨⟨rfl, rfl⟩, n1⟩, n2⟩, h3⟩, h4⟩, h5⟩, h6⟩, g1⟩, g2⟩, i1'⟩, i2'⟩, c1'⟩, c2'⟩, h8⟩ := h
        have okh := ok.2.2.2.2.2
        have InB := InB okh
        exact fun W tk => (ps_setLc2 (S.calm okh) S.ndX hN (sw pos.line).2 (sw _).1 (sndI hF it S ok.1 i1' rfl W tk) (by rw [S.hN, S.hsc]; exact blkOk_by h3) (hasA h6) (fun s H C cl fp => pg_tg (InB s H C cl fp) okh g1) (fun s H C cl fp => sndBo hF c (InB s H C cl fp) ok.2.1 c1') (fun s H C cl fp => sndI hF it1 (InB s H C cl fp) ok.2.2.1 i2' rfl _ TL.takes0) (fun s H C cl fp => pg_tg (InB s H C cl fp) okh g2) (fun s H C cl fp => sndBo hF c1 (InB s H C cl fp) ok.2.2.2.1 c2') (fun s H C cl fp => (sndE hF el (InB s H C cl fp) ok.2.2.2.2.1 h8).1 _ TL.takes0) (fun x => folded_no n1 x) (fun env x => folded_no n2 x)).by
          fun D' σ' H ⟨σ, M, D, hs, hM, q, b⟩ => lc2_red (hasA h4) (hasB h5) (go hs hM q b)
      | [], h => cases h
      | [⟨_, _, _, _⟩], h => exact absurd h (by simp)
      | ⟨_, _, _, _⟩ :: ⟨_, _, _, _⟩ :: _ :: _, h => exact absurd h (by simp)
variable (hF : ∀ f sp, F f sp → HeldT G cavK f sp)
include hF
mutual
theorem sndS : ∀ (b : Sm) {k : CtI} {X : Cx} {st : Stmt}, StaB G N k sc X → okS G k b → ckS N sc b st = true → SJ X st (wS F b)
  | .set i e, k, X, st, B, ok, h => by
    unfold ckS at h
    cases q : vAsg st with
    | none => simp only [q] at h; cases h
    | some r =>
      obtain ⟨t, x, p⟩ := r
      obtain rfl := vAsg_eq q
      simp only [vAsg] at h
      cases q2 : vName t with
      | none => simp only [q2] at h; cases h
      | some r2 =>
        obtain ⟨y, py⟩ := r2
        obtain rfl : t = Expr.Name y py := vName_eq q2
        simp only [vName, Bool.and_eq_true, Bool.or_eq_true] at h
        obtain ⟨⟨⟨h1, h2⟩, h3⟩, h4⟩ := h
        rcases h4 with h4 | h4
        · exact sj_set B.st (B.st.slot h1) h2 (sndE hF e B.st ok h3).1 (swaps_no h4)
        · exact sj_setLc B hF (B.st.slot h1) ok h3 h4
  | .asg is e, k, X, st, B, ok, h => by
    unfold ckS at h
    cases q : vAsg st with
    | none => simp only [q] at h; cases h
    | some r =>
      obtain ⟨t, x, p⟩ := r
      obtain rfl := vAsg_eq q
      simp only [vAsg, Bool.and_eq_true, Bool.or_eq_true] at h
      obtain ⟨⟨⟨h1, h2⟩, h3⟩, h4⟩ := h
      cases q2 : vTup t with
      | none => rw [q2] at h1; cases h1
      | some r2 =>
        obtain ⟨ts, n, pt⟩ := r2
        obtain rfl : t = Expr.Tuple ts n pt := vTup_eq q2
        refine sj_asg B.st ok.2 h2 (sndE hF e B.st ok.1 h3).1 sole_tup ?_ rfl
        rcases h4 with h4 | h4
        · exact stores_no h4
        · cases q3 : vTup x with
          | none => simp only [q2, q3] at h4; cases h4
          | some r3 =>
            obtain ⟨xs, m, px⟩ := r3
            obtain rfl : x = Expr.Tuple xs m px := vTup_eq q3
            simp only [vTup, Bool.and_eq_true, Bool.not_eq_true'] at h4
            exact stores_fold h4.1 h4.2
  | .par is es, k, X, st, B, ok, h => by
    unfold ckS at h
    cases q : vAsg st with
    | none => simp only [q] at h; cases h
    | some r =>
      obtain ⟨t, x, p⟩ := r
      obtain rfl := vAsg_eq q
      simp only [vAsg] at h
      cases q2 : vTup t with
      | none => simp only [q2] at h; cases h
      | some r2 =>
        obtain ⟨ts, n, pt⟩ := r2
        obtain rfl : t = Expr.Tuple ts n pt := vTup_eq q2
        cases q3 : vTup x with
        | none => simp only [q2, q3] at h; cases h
        | some r3 =>
          obtain ⟨xs, m, px⟩ := r3
          obtain rfl : x = Expr.Tuple xs m px := vTup_eq q3
          simp only [vTup, Bool.and_eq_true] at h
          obtain ⟨⟨h1, h2⟩, h3⟩ := h
          match is, ts, h2, h1 with
          | [i, j], [a, b], h2, h1 =>
            simp only [Bool.and_eq_true] at h2
            obtain ⟨x, p1, rfl, hi⟩ := nmB_ok B.st h2.1
            obtain ⟨y, p2, rfl, hj⟩ := nmB_ok B.st h2.2
            match xs, h1, h3 with
            | [e1, e2], h1, h3 =>
              unfold swP at h1
              simp only [Bool.and_eq_true, Bool.not_eq_true', decide_eq_true_eq] at h1
              obtain ⟨⟨⟨⟨⟨⟨a1, a2⟩, a3⟩, a4⟩, a5⟩, a6⟩, a7⟩ := h1
              have lk : sc.names.lookup x = some .local ∧ sc.names.lookup y = some .local := by
                split at a1
                · rename_i e1 e2; exact ⟨e1, e2⟩
                · cases a1
              have lx : X.env.scope.names.lookup x = some .local := by rw [B.st.hsc]; exact lk.1
              have ly : X.env.scope.names.lookup y = some .local := by rw [B.st.hsc]; exact lk.2
              have hij : i ≠ j := fun e => a2 (by rw [e, hj] at hi; exact (Option.some.inj hi).symm)
              exact sj_par B.st ok.2 hi hj hij lx ly (sndEs hF es B.st ok.1 h3 (by simp [a4, a5])) (stores_two B.kind lx ly a2 a3 a4 a5 a6 a7)
            | [], h1, h3 => cases h1
            | [_], h1, h3 => cases h1
            | _ :: _ :: _ :: _, h1, h3 => cases h1
          | [i, j, l], [a, b, c], h2, h1 =>
            simp only [Bool.and_eq_true] at h2
            obtain ⟨x, p1, rfl, hi⟩ := nmB_ok B.st h2.1.1
            obtain ⟨y, p2, rfl, hj⟩ := nmB_ok B.st h2.1.2
            obtain ⟨z, p3, rfl, hk⟩ := nmB_ok B.st h2.2
            match xs, h1, h3 with
            | [e1, e2, e3], h1, h3 =>
              unfold swP at h1
              simp only [Bool.and_eq_true, Bool.not_eq_true', decide_eq_true_eq] at h1
              obtain ⟨⟨⟨⟨⟨⟨⟨⟨⟨⟨a1, n1⟩, n2⟩, n3⟩, q1⟩, q2⟩, m1⟩, m2⟩, m3⟩, a6⟩, a7⟩ := h1
              have lk : sc.names.lookup x = some .local ∧ sc.names.lookup y = some .local ∧ sc.names.lookup z = some .local := by
                split at a1
                · rename_i e1 e2 e3; exact ⟨e1, e2, e3⟩
                · cases a1
              have lx : X.env.scope.names.lookup x = some .local := by rw [B.st.hsc]; exact lk.1
              have ly : X.env.scope.names.lookup y = some .local := by rw [B.st.hsc]; exact lk.2.1
              have lz : X.env.scope.names.lookup z = some .local := by rw [B.st.hsc]; exact lk.2.2
              have inj : ∀ {i j : Nat} {x y : Str}, X.N[i]? = some x → X.N[j]? = some y → x ≠ y → i ≠ j := fun h g n e => n (by rw [e, g] at h; exact (Option.some.inj h).symm)
              exact sj_par3 B.st ok.2 hi hj hk (inj hi hj n1) (inj hi hk n2) (inj hj hk n3) lx ly lz (sndEs hF es B.st ok.1 h3 (by simp [m1, m2, m3])) (stores_three B.kind lx ly lz n1 n2 n3 q1 q2 m1 m2 m3 a6 a7) sole_tup
            | [], h1, h3 => cases h1
            | [_], h1, h3 => cases h1
            | [_, _], h1, h3 => cases h1
            | _ :: _ :: _ :: _ :: _, h1, h3 => cases h1
          | [], _, h2, _ => cases h2
          | [_], _, h2, _ => cases h2
          | [_, _, _], [], h2, _ => cases h2
          | [_, _, _], [_], h2, _ => cases h2
          | [_, _, _], [_, _], h2, _ => cases h2
          | [_, _, _], _ :: _ :: _ :: _ :: _, h2, _ => cases h2
          | _ :: _ :: _ :: _ :: _, _, h2, _ => cases h2
          | [_, _], [], h2, _ => cases h2
          | [_, _], [_], h2, _ => cases h2
          | [_, _], _ :: _ :: _ :: _, h2, _ => cases h2
  | .sti o i e, k, X, st, B, ok, h => by
    unfold ckS at h
    cases q : vAsg st with
    | none => simp only [q] at h; cases h
    | some r =>
      obtain ⟨t, x, p⟩ := r
      obtain rfl := vAsg_eq q
      simp only [vAsg] at h
      cases q2 : vSub t with
      | none => simp only [q2] at h; cases h
      | some r2 =>
        obtain ⟨a, b, pt⟩ := r2
        obtain rfl : t = Expr.Subscript a b pt := vSub_eq q2
        simp only [vSub, Bool.and_eq_true] at h
        obtain ⟨⟨⟨h1, h2⟩, h3⟩, h4⟩ := h
        exact sj_sti (sndE hF o B.st ok.1 h2).1 (sndE hF i B.st ok.2.1 h3).1 (sndE hF e B.st ok.2.2 h4).1 h1 sole_sub stores_sub
  | .aug i o e, k, X, st, B, ok, h => by
    unfold ckS at h
    cases q : vAug st with
    | none => simp only [q] at h; cases h
    | some r =>
      obtain ⟨t, op, x, p⟩ := r
      obtain rfl := vAug_eq q
      simp only [vAug] at h
      cases q2 : vName t with
      | none => simp only [q2] at h; cases h
      | some r2 =>
        obtain ⟨y, py⟩ := r2
        obtain rfl : t = Expr.Name y py := vName_eq q2
        simp only [vName, Bool.and_eq_true] at h
        obtain ⟨⟨⟨h0, h1⟩, h2⟩, h3⟩ := h
        obtain rfl := of_decide_eq_true h0
        exact sj_aug B.st (B.st.slot h1) h2 (sndE hF e B.st ok h3).1
  | .augx o i pp e, k, X, st, B, ok, h => by
    unfold ckS at h
    cases q : vAug st with
    | none => simp only [q] at h; cases h
    | some r =>
      obtain ⟨t, op, x, p⟩ := r
      obtain rfl := vAug_eq q
      simp only [vAug] at h
      cases q2 : vSub t with
      | none => simp only [q2] at h; cases h
      | some r2 =>
        obtain ⟨a, b, pt⟩ := r2
        obtain rfl : t = Expr.Subscript a b pt := vSub_eq q2
        simp only [vSub, Bool.and_eq_true] at h
        obtain ⟨⟨⟨⟨h0, h1⟩, h2⟩, h3⟩, h4⟩ := h
        obtain rfl := of_decide_eq_true h0
        exact sj_augx (sndE hF o B.st ok.1 h2).1 (sndE hF i B.st ok.2.1 h3).1 (sndE hF e B.st ok.2.2 h4).1 h1
  | .exp e, k, X, st, B, ok, h => by
    unfold ckS at h
    cases q : vExp st with
    | none => simp only [q] at h; cases h
    | some r =>
      obtain ⟨x, p⟩ := r
      obtain rfl := vExp_eq q
      simp only [vExp, Bool.and_eq_true] at h
      exact sj_exp (sndE hF e B.st ok h.2).1 h.1
  | .ife c a b, k, X, st, B, ok, h => by
    unfold ckS at h
    cases q : vIfS st with
    | none => simp only [q] at h; cases h
    | some r =>
      obtain ⟨x, y, z, p⟩ := r
      obtain rfl := vIfS_eq q
      simp only [vIfS, Bool.and_eq_true] at h
      exact sj_ife (sndB hF c B.st ok.1 h.1.1) (sndSs a B ok.2.1 h.1.2) (sndSs b B ok.2.2 h.2)
  | .whl c b, k, X, st, B, ok, h => by
    unfold ckS at h
    cases q : vWhl st with
    | none => simp only [q] at h; cases h
    | some r =>
      obtain ⟨x, y, p⟩ := r
      obtain rfl := vWhl_eq q
      simp only [vWhl, Bool.and_eq_true] at h
      exact sj_whl B.own (sndB hF c B.st ok.1 h.1) (sndSs b B ok.2 h.2)
  | .fr tg it b, k, X, st, B, ok, h => by
    unfold ckS at h
    cases q : vFor st with
    | none => simp only [q] at h; cases h
    | some r =>
      obtain ⟨t, i, y, p⟩ := r
      obtain rfl := vFor_eq q
      simp only [vFor, Bool.and_eq_true] at h
      obtain ⟨⟨⟨h1, h2⟩, h3⟩, h4⟩ := h
      exact sj_for B.st ok.2.2 B.own (sndI hF it B.st ok.1 h3 rfl) h2 (sndSs b B ok.2.1 h4) (fun x => folded_no h1 x)
  | .ret e, k, X, st, B, ok, h => by
    unfold ckS at h
    cases q : vRet st with
    | none => simp only [q] at h; cases h
    | some r =>
      obtain ⟨x, p⟩ := r
      obtain rfl := vRet_eq q
      simp only [vRet] at h
      cases x with
      | none => cases h
      | some x => exact sj_ret (sndE hF e B.st ok h).1
  | .retn, k, X, st, B, ok, h => by
    unfold ckS at h
    cases q : vRet st with
    | none => simp only [q] at h; cases h
    | some r =>
      obtain ⟨x, p⟩ := r
      obtain rfl := vRet_eq q
      simp only [vRet] at h
      cases x with
      | none => exact sj_retn
      | some x => cases h
  | .pass, k, X, st, B, ok, h => by
    unfold ckS at h
    split at h
    · exact sj_pass
    · cases h
  | .brk, k, X, st, B, ok, h => by
    unfold ckS at h
    split at h
    · exact sj_brk
    · cases h
  | .cnt, k, X, st, B, ok, h => by
    unfold ckS at h
    split at h
    · exact sj_cnt
    · cases h
  | .rais c C, k, X, st, B, ok, h => by
    unfold ckS at h
    cases q : vRai st with
    | none => simp only [q] at h; cases h
    | some r =>
      obtain ⟨e, p⟩ := r
      obtain rfl := vRai_eq q
      simp only [vRai] at h
      cases q2 : vCall e with
      | none => simp only [q2] at h; cases h
      | some r2 =>
        obtain ⟨g, ys, ks, p2⟩ := r2
        obtain rfl : e = Expr.Call g ys ks p2 := vCall_eq q2
        simp only [vCall] at h
        match ys, ks, h with
        | [], [], h =>
          cases q3 : vName g with
          | none => simp only [q3] at h; cases h
          | some r3 =>
            obtain ⟨y, p3⟩ := r3
            obtain rfl : g = Expr.Name y p3 := vName_eq q3
            simp only [vName, Bool.and_eq_true, decide_eq_true_eq] at h
            obtain ⟨⟨rfl, h2⟩, h3⟩ := h
            exact sj_rais B.st ok.2 ok.1 (B.st.gl h2) h3
        | _ :: _, _, h => cases h
        | [], _ :: _, h => cases h
  | .tri m x f φ θ c cv cm i hh, k, X, st, B, ok, h => by
    unfold ckS at h
    cases q : vTry st with
    | none => simp only [q] at h; cases h
    | some r =>
      obtain ⟨b, c0, np, n, b₀, su, p1, p⟩ := r
      obtain rfl := vTry_eq q
      simp only [vTry, Bool.and_eq_true, decide_eq_true_eq] at h
      obtain ⟨⟨⟨⟨⟨⟨h1, rfl⟩, h3⟩, h4⟩, h5⟩, h6⟩, h7⟩ := h
      obtain ⟨o1, o2, o3, o4, o5⟩ := ok
      have S := B.st
      exact sj_tri S B.stk B.frm (B.thk _ _ _ _ o1) (modeB_ok h1) h5 h6 ⟨S.gl h3, okN_d h4, by rw [S.hm]; exact o2⟩ o3 fun a oe D pn hz hf => by
        have S' : Sta G N ⟨k.k, k.q, k.c, some (a, D), none, k.grd⟩ sc none (X.suite a ((a, oe) :: pn)) :=
          ⟨S.hP, S.hw, S.hK, S.hm, S.hb, S.hN, S.nd, S.hsc, fun z => (by cases z), fun z => (by cases z), S.units, S.grd, S.fn, S.hq, S.hcd, fun a' D' z => (by cases z; exact ⟨X, oe, pn, rfl, hz, hf⟩)⟩
        exact sndSs (hh a D) ⟨S', PassesOwn.never, B.kind, B.stk, B.frm, fun _ _ _ _ z => (by cases z)⟩ (o5 a D) (by rw [o4]; exact h7)
  | .never, k, X, st, B, ok, h => sj_never
theorem sndSs : ∀ (b : Sms) {k : CtI} {X : Cx} {st : List Stmt}, StaB G N k sc X → okSs G k b → ckSs N sc b st = true → SsJ X st (wSs F b)
  | .nil, k, X, [], B, ok, h => ssj_nil
  | .cons s r, k, X, x :: xs, B, ok, h => by
    simp only [ckSs, Bool.and_eq_true] at h
    exact ssj_cons (w := wS F s) (wr := wSs F r) (sndS s B ok.1 h.1) (sndSs r B ok.2 h.2)
  | .nil, k, X, _ :: _, B, ok, h => by cases h
  | .cons _ _, k, X, [], B, ok, h => by cases h
end
end
/-! ### the rule for a def -/
/-- what is told may be less -/
def Subm (M0 M : TM) : Prop := ∀ a o, M0 a = some o → M a = some o
theorem Subm.refl (M : TM) : Subm M M := fun _ _ h => h
def endsT (Q : TK) (R : TR) : TEnds where
  nx := fun _ M' => ∃ M0, Subm M0 M' ∧ Q .non M0
  rt := fun v M' => ∃ M0, Subm M0 M' ∧ Q v M0
  bk := fun _ _ => False
  ct := fun _ _ => False
  ex := fun x _ M' => R x M'
def startT (N : List Str) (xs : List TV) : TSt := xs.map some ++ List.replicate (N.length - xs.length) none
/-- a def's code -/
def cdA (G : Gx) (f : Addr) : Value := match G.K.lookup f with
  | some ⟨_, _, .func fd, _⟩ => fd.code
  | _ => .none
abbrev ctiB (b : Bool) (G : Gx) (k : Nat) (q : Str) (f : Addr) : CtI := ⟨k, q ++ ".<locals>.", cdA G f, none, none, b⟩
abbrev cti (G : Gx) (k : Nat) (q : Str) (f : Addr) : CtI := ctiB false G k q f
abbrev ctiG (G : Gx) (k : Nat) (q : Str) (f : Addr) : CtI := ctiB true G k q f
section
variable {G : Gx} {F : Addr → TSp → Prop} {x qual : Str} {st : Stmt} {f : Addr} {fd : FuncData} {N ps : List Str} {k : Nat} {sp : TSp} {b : Sms} {g : Bool}
/-- a def's body, run -/
theorem held_run {oc : Value} {od an : Option Addr} {kV doc pm cdv ct : Value} {osl : Array (Option Value)} (lk : G.K.lookup f = some ⟨oc, od, .func (PySem.W.fnOf x qual (defArgs st) (defBody st) (defScope st) .none kV doc pm an cdv ct), osl⟩) (S : FnScope N ps (defScope st))
    (ck : ckSs N (defScope st) b (defBody st) = true) (ok : okSs G (ctiB g G k qual f) b) (hF : ∀ f sp, F f sp → HeldT G cavK f sp)
    (vc : ∀ xs M Q R, sp xs M Q R → wSs F b (endsT Q R) (startT N xs) M) (A : Around) (outer : List Env) (s : Shared) (H : Hp) (vs : List V) (Q' : VK) (E' : XK) (hr : Room k (A.deeper (envOfC qual (defScope st) s.heap.objs.size f cdv))) (hgd : g = true → A.guards = some []) (h : LSp G.K sp vs H Q' E') :
    ∃ t, PSs (cxOf (L2.CX G.prog G.w) G.prog G.w G.K G.mg G.base N qual (defScope st) f cdv A outer s H E') (defBody st) t ∧ t { nx := fun _ H' => Q' .non H', rt := Q' } (L2.start N vs) H := by
  have ec : cdA G f = cdv := by unfold cdA; rw [lk]
  obtain ⟨xs, M, Q, R, rv, hM, q, c, l⟩ := h
  let X := cxOf (L2.CX G.prog G.w) G.prog G.w G.K G.mg G.base N qual (defScope st) f cdv A outer s H E'
  have tk : Takes X (fun cls d _ H' => E' cls d H') := takes_of rfl rfl rfl rfl
  have B : StaB G N (ctiB g G k qual f) (defScope st) X := ⟨⟨rfl, rfl, rfl, rfl, rfl, rfl, S.nd, rfl, fun _ => rfl, fun _ => hr, hr.units, hgd, fun _ _ => rfl, fun _ => rfl, fun _ => ec.symm, fun _ _ z => (by cases z)⟩, passes_of rfl, (by
    show (if (defScope st).kind.isAnnotationScope then ScopeKind.function else (defScope st).kind) = .function
    rw [S.kind]; rfl), rfl, rfl, fun _ _ _ _ z => (by cases z)⟩
  refine ⟨_, sndSs hF b B ok ck _ tk, startT N xs, M, endsT Q R, ?_, hM, vc _ _ _ _ q, ?_⟩
  · have e := rv.length
    show Rs G.K H (xs.map some ++ List.replicate (N.length - xs.length) none) (vs.map some ++ List.replicate (N.length - vs.length) none)
    rw [← e]
    exact Rs.start _ rv
  · exact ⟨fun σ σ' H' M' p _ ⟨M0, s0, q0⟩ => c .non .non H' M0 (p.sub s0) .non q0, fun v v' H' M' p r ⟨M0, s0, q0⟩ => c v v' H' M0 (p.sub s0) r q0, fun _ _ _ _ _ _ z => z.elim, fun _ _ _ _ _ _ z => z.elim, fun x cls d σ σ' H' M' p _ rx r => l x cls d H' M' p rx r⟩
theorem held_fn (Fu : Fun G.K x qual st f fd) (S : FnScope N ps (defScope st))
    (ck : ckSs N (defScope st) b (defBody st) = true) (ok : okSs G (cti G k qual f) b) (hF : ∀ f sp, F f sp → HeldT G cavK f sp) (len : ∀ xs M Q R, sp xs M Q R → xs.length = ps.length)
    (vc : ∀ xs M Q R, sp xs M Q R → wSs F b (endsT Q R) (startT N xs) M) : FnOk G.prog G.w G.K G.mg G.base (L2.CX G.prog G.w) (k + 1) f fd ps (LSp G.K sp) := by
  obtain ⟨oc, od, kV, doc, pm, an, cdv, ct, osl, rfl, lk, hcd⟩ := Fu.ex
  refine fn_of lk hcd S (fun vs H Q E h => ?_) fun A outer s H vs Q' E' hr h => held_run (g := false) lk S ck ok hF vc A outer s H vs Q' E' hr (fun z => by cases z) h
  obtain ⟨xs, M, Q, R, rv, hM, q, _⟩ := h
  rw [← rv.length]
  exact len _ _ _ _ q
theorem held_fnG (Fu : Fun G.K x qual st f fd) (S : FnScope N ps (defScope st))
    (ck : ckSs N (defScope st) b (defBody st) = true) (ok : okSs G (ctiG G k qual f) b) (hF : ∀ f sp, F f sp → HeldT G cavK f sp) (len : ∀ xs M Q R, sp xs M Q R → xs.length = ps.length)
    (vc : ∀ xs M Q R, sp xs M Q R → wSs F b (endsT Q R) (startT N xs) M) : FnG G.prog G.w G.K G.mg G.base (k + 1) f fd ps (LSp G.K sp) := by
  obtain ⟨oc, od, kV, doc, pm, an, cdv, ct, osl, rfl, lk, hcd⟩ := Fu.ex
  have hl : ∀ vs H Q E, LSp G.K sp vs H Q E → vs.length = ps.length := fun vs H Q E h => by
    obtain ⟨xs, M, Q, R, rv, hM, q, _⟩ := h
    rw [← rv.length]
    exact len _ _ _ _ q
  exact ⟨hl, fun A outer s H args us vs Q E hr hgd e0 hb rv h => LamX.run_ofS lk hcd S hr e0 hb rv (hl _ _ _ _ h) fun hr2 => held_run (g := true) lk S ck ok hF vc A outer s H vs Q E hr2 (fun _ => hgd) h⟩
theorem held (Fu : Fun G.K x qual st f fd) (S : FnScope N ps (defScope st)) (Bi : Binds G.K fd ps [])
    (ck : ckSs N (defScope st) b (defBody st) = true) (ok : okSs G (cti G k qual f) b) (hF : ∀ f sp, F f sp → HeldT G cavK f sp) (len : ∀ xs M Q R, sp xs M Q R → xs.length = ps.length)
    (vc : ∀ xs M Q R, sp xs M Q R → wSs F b (endsT Q R) (startT N xs) M) : HeldT G (k + 1) f sp :=
  ⟨fd, ps, [], [], [], sp, Fu.kp, Bi, .nil, fun _ => .nil, held_fn Fu S ck ok hF len vc, fun xs M Q R q => by rw [List.append_nil]; exact q⟩
theorem heldG (Fu : Fun G.K x qual st f fd) (S : FnScope N ps (defScope st)) (Bi : Binds G.K fd ps [])
    (ck : ckSs N (defScope st) b (defBody st) = true) (ok : okSs G (ctiG G k qual f) b) (hF : ∀ f sp, F f sp → HeldT G cavK f sp) (len : ∀ xs M Q R, sp xs M Q R → xs.length = ps.length)
    (vc : ∀ xs M Q R, sp xs M Q R → wSs F b (endsT Q R) (startT N xs) M) : HeldG G (k + 1) f sp :=
  ⟨fd, ps, [], [], [], sp, Fu.kp, Bi, .nil, fun _ => .nil, held_fnG Fu S ck ok hF len vc, fun xs M Q R q => by rw [List.append_nil]; exact q⟩
end
end TL

/-! TFun: the defs of a law, by name; the law's own end. -/
namespace TL
open PySem PySem.Spec PyProof.Rows L2

/-- where a name of the module leads -/
def adr (G : Gx) (x : Str) : Addr := match G.mg x with
  | some (.ref a) => a
  | _ => 0
theorem adr_of {G : Gx} {x : Str} {a : Addr} (h : G.mg x = some (.ref a)) : adr G x = a := by unfold adr; rw [h]
/-- a def that stands -/
structure Df (G : Gx) (x : Str) (st : Stmt) (ps : List Str) : Prop where
  has : G.mg x = some (.ref (adr G x))
  fn : ∃ fd, Fun G.K x x st (adr G x) fd ∧ Binds G.K fd ps []
theorem Df.of {G : Gx} {x : Str} {st : Stmt} {ps : List Str} {f : Addr} {fd : FuncData} (h : G.mg x = some (.ref f)) (F : Fun G.K x x st f fd) (b : Binds G.K fd ps []) : Df G x st ps := by
  have e := adr_of h
  refine ⟨by rw [e]; exact h, fd, by rw [e]; exact F, b⟩
theorem Df.held {G : Gx} {F : Addr → TSp → Prop} {x : Str} {st : Stmt} {N ps : List Str} {k : Nat} {sp : TSp} {b : Sms} (D : Df G x st ps) (S : FnScope N ps (defScope st)) (ck : ckSs N (defScope st) b (defBody st) = true) (ok : okSs G (cti G k x (adr G x)) b) (hF : ∀ f sp, F f sp → HeldT G cavK f sp)
    (len : ∀ xs M Q R, sp xs M Q R → xs.length = ps.length) (vc : ∀ xs M Q R, sp xs M Q R → wSs F b (endsT Q R) (startT N xs) M) : HeldT G (k + 1) (adr G x) sp := by
  obtain ⟨fd, Fu, Bi⟩ := D.fn
  exact TL.held Fu S Bi ck ok hF len vc
theorem Df.heldG {G : Gx} {F : Addr → TSp → Prop} {x : Str} {st : Stmt} {N ps : List Str} {k : Nat} {sp : TSp} {b : Sms} (D : Df G x st ps) (S : FnScope N ps (defScope st)) (ck : ckSs N (defScope st) b (defBody st) = true) (ok : okSs G (ctiG G k x (adr G x)) b) (hF : ∀ f sp, F f sp → HeldT G cavK f sp)
    (len : ∀ xs M Q R, sp xs M Q R → xs.length = ps.length) (vc : ∀ xs M Q R, sp xs M Q R → wSs F b (endsT Q R) (startT N xs) M) : HeldG G (k + 1) (adr G x) sp := by
  obtain ⟨fd, Fu, Bi⟩ := D.fn
  exact TL.heldG Fu S Bi ck ok hF len vc
theorem df_mk {P : Program} {w : World} {K : PySem.W.Frag} {h base : Heap} {mg : Str → Option Value} {x : Str} {st : Stmt} {ps : List Str} {f : Addr} {od an : Option Addr} {sl : Array (Option Value)} {oc kV dc pm cd ct : Value} (X : K.In h) (Gs : h.Ns mainGlobals mg)
    (b : ∀ {fd : FuncData}, Fun K x x st f fd → Binds K fd ps [])
    (a : PySem.W.nsIn K mainGlobals x = some (some (.ref f))) (l : K.lookup f = some ⟨oc, od, .func (PySem.W.fnOf x x (defArgs st) (defBody st) (defScope st) .none kV dc pm an cd ct), sl⟩) (c : PySem.W.codeIn K cd x = true) (k : PySem.W.keepIn K (.ref f) = true) : Df ⟨P, w, K, mg, base⟩ x st ps :=
  let F := fun_mk (st := st) l c k
  Df.of (PySem.W.mg_of X Gs a) F (b F)
/-- a def with defaults -/
structure DfD (G : Gx) (x : Str) (st : Stmt) (ps : List Str) (dv : List TV) : Prop where
  has : G.mg x = some (.ref (adr G x))
  fn : ∃ fd ds dvs, Fun G.K x x st (adr G x) fd ∧ Binds G.K fd ps ds ∧ Vals dvs ds ∧ ∀ H, Rvs G.K H dv dvs
theorem DfD.held {G : Gx} {F : Addr → TSp → Prop} {x : Str} {st : Stmt} {N ps : List Str} {dv : List TV} {k : Nat} {sp sp' : TSp} {b : Sms} (D : DfD G x st ps dv) (S : FnScope N ps (defScope st)) (ck : ckSs N (defScope st) b (defBody st) = true) (ok : okSs G (cti G k x (adr G x)) b) (hF : ∀ f sp, F f sp → HeldT G cavK f sp)
    (len : ∀ xs M Q R, sp xs M Q R → xs.length = ps.length) (vc : ∀ xs M Q R, sp xs M Q R → wSs F b (endsT Q R) (startT N xs) M) (i : ∀ xs M Q R, sp' xs M Q R → sp (xs ++ dv) M Q R) : HeldT G (k + 1) (adr G x) sp' := by
  obtain ⟨fd, ds, dvs, Fu, Bi, v1, v2⟩ := D.fn
  exact ⟨fd, ps, ds, dvs, dv, sp, Fu.kp, Bi, v1, v2, held_fn Fu S ck ok hF len vc, i⟩
/-- one keyword-only parameter with an int for default -/
theorem dfd_mk {P : Program} {w : World} {K : PySem.W.Frag} {h base : Heap} {mg : Str → Option Value} {x y : Str} {st : Stmt} {ps : List Str} {f D : Addr} {od an : Option Addr} {sl : Array (Option Value)} {oc dc pm cd ct : Value} {i : Int} {t : Tok} (X : K.In h) (Gs : h.Ns mainGlobals mg) (n : Nat)
    (hn : n + 1 = ps.length)
    (b : ∀ (D : Addr) (doc pm : Value) (an : Option Addr) (cdv ct : Value) (us ks : List Value), us.length = n → ks.length = 1 → KwChain D ([y].zip ks) (bindArgs (PySem.W.fnOf x x (defArgs st) (defBody st) (defScope st) .none (.ref D) doc pm an cdv ct) ⟨us, []⟩) (ps.zip (us ++ ks)))
    (a : PySem.W.nsIn K mainGlobals x = some (some (.ref f))) (l : K.lookup f = some ⟨oc, od, .func (PySem.W.fnOf x x (defArgs st) (defBody st) (defScope st) .none (.ref D) dc pm an cd ct), sl⟩) (c : PySem.W.codeIn K cd x = true) (k : PySem.W.keepIn K (.ref f) = true)
    (d : PySem.W.nsIn K D y = some (some (.int i t))) : DfD ⟨P, w, K, mg, base⟩ x st ps [.int i] := by
  have hm := PySem.W.mg_of X Gs a
  have e : adr ⟨P, w, K, mg, base⟩ x = f := adr_of hm
  have F := fun_mk (st := st) l c k
  have FD : FunD K x x (defArgs st) (defBody st) (defScope st) [] [(y, .int i)] f _ := ⟨⟨oc, od, .none, .ref D, dc, pm, an, cd, ct, sl, rfl, l, c, .inl ⟨rfl, rfl⟩, .inr ⟨D, rfl, fun q hq => by
    rw [List.mem_singleton.mp hq]
    exact ⟨_, d, ⟨t, rfl⟩⟩⟩⟩, k⟩
  obtain ⟨ds, v, B⟩ := FD.binds0 (ps := ps) n (by simp) (by simpa using hn) b
  exact ⟨by rw [e]; exact hm, _, ds, [.int i], by rw [e]; exact F, B, v, fun H => .cons (.int i) .nil⟩
/-- a def that takes a lambda -/
theorem Df.heldL {G : Gx} {F : Addr → TSp → Prop} {x : Str} {st : Stmt} {N : List Str} {a : Str} {k : Nat} {Φ : TLam} {b : Addr → (Hp → Prop) → Thk → Sms} (D : Df G x st [a]) (S : FnScope N [a] (defScope st)) (h0 : N[0]? = some a) (hv : visB (defScope st) a = true) (ha : okN a = true) (ck : ∀ f φ θ, ckSs N (defScope st) (b f φ θ) (defBody st) = true)
    (ok : ∀ f φ θ kI, kI.hot = none → kI.thk = some (a, f, φ, θ) → okSs G kI (b f φ θ)) (hF : ∀ f sp, F f sp → HeldT G cavK f sp)
    (vc : ∀ f φ θ M Q, Φ θ M Q → wSs F (b f φ θ) (endsT Q (fun _ _ => False)) (startT N [.thk f φ]) M) : HeldL G (k + 1) x (adr G x) Φ := by
  obtain ⟨fd, Fu, Bi⟩ := D.fn
  have kp := Fu.kp
  obtain ⟨oc, od, kV, doc, pm, an, cdv, ct, osl, rfl, lk, hcd⟩ := Fu.ex
  refine ⟨_, _, _, _, _, _, _, cdv, _, _, _, _, _, N, a, kp, lk, hcd, Bi, S, h0, visB_ok hv, ha, fun X q e1 e2 e3 e4 e5 hr f c' s H Q' tl act hco hT => ?_⟩
  obtain ⟨M, Q, θ, hM, hΦ, hc, lift⟩ := hT
  have rv : Rvs G.K H [.thk f fun H2 => GrowT G.K H H2] [V.ref f] := .cons (.thk f _ fun H2 g => g) .nil
  have B : StaB G N ⟨k, x ++ ".<locals>.", cdv, none, some (a, f, (fun H2 => GrowT G.K H H2), θ), false⟩ (defScope st) (cxOf C8.CX0 X.prog X.w X.K X.mg X.base N x (defScope st) (adr G x) cdv X.A X.stack s H C8.E0).nox :=
    ⟨⟨e1, e2, e3, e4, e5, rfl, S.nd, rfl, fun _ => rfl, fun _ => hr.deeper _, (hr.deeper _).units, fun z => (by cases z), fun _ _ => rfl, fun _ => rfl, fun _ => rfl, fun _ _ z => (by cases z)⟩, PassesOwn.never, (by
      show (if (defScope st).kind.isAnnotationScope then ScopeKind.function else (defScope st).kind) = .function
      rw [S.kind]; rfl), rfl, rfl, fun x' f' φ' θ' z => by
        cases z
        refine ⟨c', q, tl, fun W pn xe E p1 p2 tk hW => act W pn xe E p1 p2 tk hW, fun H2 g => g.2 _ _ hco, fun H2 M2 Q2 R2 Q2' E2 r g hθ c l => ?_⟩
        have e3' : (cxOf C8.CX0 X.prog X.w X.K X.mg X.base N x (defScope st) (adr G x) cdv X.A X.stack s H C8.E0).nox.K = G.K := e3
        rw [e3'] at r c l
        exact lift H2 M2 Q2 R2 Q2' E2 g r hθ c l⟩
  refine ⟨_, sndSs hF (b f _ θ) B (ok _ _ _ _ rfl rfl) (ck _ _ _) F0 TL.takes0, startT N [.thk f fun H2 => GrowT G.K H H2], M, endsT Q (fun _ _ => False), ?_, ?_, vc _ _ _ _ _ hΦ, ?_⟩
  · show Rs X.K H _ _
    rw [e3]
    exact Rs.start _ rv
  · show RepM X.K H M
    rw [e3]
    exact hM
  · show Below X.K F0 H M _ _
    rw [e3]
    exact ⟨fun σ σ' H' M' p _ ⟨M0, s0, q0⟩ => hc .non .non H' M0 (p.sub s0) .non q0, fun v v' H' M' p r ⟨M0, s0, q0⟩ => hc v v' H' M0 (p.sub s0) r q0, fun _ _ _ _ _ _ z => z.elim, fun _ _ _ _ _ _ z => z.elim, fun x cls d σ σ' H' M' p _ rx r => r.elim⟩
/-- no def in a slot -/
abbrev noF : Addr → TSp → Prop := fun _ _ => False
/-- the names of the module that are not there -/
structure NoG (G : Gx) (x : Str) : Prop where
  no : G.mg x = none
theorem glv_int {G : Gx} {x : Str} {i : Int} {t : Tok} (h : G.mg x = some (.int i t)) : GlV G x (.int i) := .inl ⟨_, h, .int i, ⟨t, rfl⟩, fun _ => .int i⟩
theorem glv_str {G : Gx} {x : Str} {s : Str} {t : Tok} (h : G.mg x = some (.str s t)) : GlV G x (.str s) := .inl ⟨_, h, .str s, ⟨t, rfl⟩, fun _ => .str s⟩
theorem glv_ref {G : Gx} {x : Str} {a : Addr} (h : G.mg x = some (.ref a)) : GlV G x (.ref a) := .inl ⟨_, h, .ref a, rfl, fun _ => .ref a⟩
theorem glv_ty {G : Gx} {x : Str} {n : String} (h : G.mg x = none) (b : bootBuiltins x = some (.type n)) : GlV G x (.ty n) := .inr ⟨_, h, b, .ty n, rfl, fun _ => .ty n⟩
theorem rvs_str {K : PySem.W.Frag} {H : Hp} : ∀ ss : List Str, Rvs K H (ss.map .str) (ss.map .str)
  | [] => .nil
  | s :: r => .cons (.str s) (rvs_str r)
theorem glv_two {P : Program} {w : World} {K : PySem.W.Frag} {base : Heap} {mg : Str → Option Value} {x : Str} {a : Addr} {s1 s2 : Str} {t1 t2 : Tok} {o : Obj} {n : Nat} (h : mg x = some (.ref a)) (l : K.lookup a = some o) (c : o.cls = .type "tuple") (d : o.data = .seq #[.str s1 t1, .str s2 t2] n) : GlV ⟨P, w, K, mg, base⟩ x (.tup [.str s1, .str s2]) :=
  .inl ⟨_, h, .ref a, rfl, fun _ => .tup (.inr ⟨o, _, n, l, c, d, (show 2 ≤ sizeLine by decide), (.cons (⟨t1, rfl⟩ : RelV (.str s1) (.str s1 t1)) (.cons (⟨t2, rfl⟩ : RelV (.str s2) (.str s2 t2)) .nil) : Vals [.str s1, .str s2] [.str s1 t1, .str s2 t2])⟩) (rvs_str [s1, s2]) (show 2 ≤ sizeLine by decide)⟩
/-! ### the law itself -/
/-- only the script is told -/
def onlyM (a : Addr) (xs : List TV) : TM := fun b => if b = a then some (.rls xs) else none
/-- a law: over every list of at most 63 ints it ends with True, and no exception -/
def lawS : TSp := fun xs M Q _ => ∃ (x : TV) (ns : List Int), xs = [x] ∧ ns.length ≤ 63 ∧ ((∃ a, x = .ref a ∧ M = onlyM a (ns.map .int)) ∨ (x = .kl (ns.map .int) ∧ M = fun _ => none)) ∧ ∀ M', Q (.bl true) M'
theorem law_start {K : PySem.W.Frag} {H : Hp} {a : Addr} {ns : List Int} (h : Only H) (s : SqL K H a (ns.map V.int)) (hn : ns.length ≤ 63) : LSp K lawS [.ref a] H (fun v _ => v = .bl true) (fun _ _ _ => False) := by
  have l63 : (ns.map TV.int).length ≤ sizeLine := by
    rw [List.length_map]
    exact Nat.le_trans hn (show 63 ≤ sizeLine by decide)
  rcases s with s | s
  · have hf : ∃ o, H a = some (.frz o (.lst (ns.map V.int))) := by
      rcases s with s | s
      · rcases h a with z | ⟨o, xs, z⟩ <;> rw [z] at s <;> cases s
      · exact s
    obtain ⟨o, hf⟩ := hf
    refine ⟨[.ref a], onlyM a (ns.map .int), (fun v _ => v = .bl true), (fun _ _ => False), .cons (.ref a) .nil, fun b ob e => ?_, ⟨.ref a, ns, rfl, hn, .inl ⟨a, rfl, rfl⟩, fun _ => rfl⟩, fun z z' H' M' _ r e => ?_, fun _ _ _ _ _ _ _ r => r⟩
    · unfold onlyM at e
      split at e
      · rename_i eb
        subst eb
        cases e
        exact ⟨o, _, hf, Rvs.of_ints ns, l63⟩
      · cases e
    · subst e
      cases r
      rfl
  · refine ⟨[.kl (ns.map .int)], fun _ => none, (fun v _ => v = .bl true), (fun _ _ => False), .cons (.kl s (Rvs.of_ints ns) l63) .nil, (fun b ob e => by cases e), ⟨_, ns, rfl, hn, .inr ⟨rfl, rfl⟩, fun _ => rfl⟩, fun z z' H' M' _ r e => ?_, fun _ _ _ _ _ _ _ r => r⟩
    subst e
    cases r
    rfl
theorem law_end {P : Program} {w : World} {H : Hp} {s s' : Shared} {e : Value} (h : L2.CX P w [] H s (fun _ _ _ => False) e s') : False := by
  obtain ⟨_, _, _, _, _, _, _, _, _, _, _, _, z⟩ := h
  exact z.elim
end TL

/-! TWp: the conditions, worked out. -/
namespace TL
open PySem PySem.Spec PyProof.Rows L2

/-! ### kinds -/
theorem kit_NoneType_int : kitB "NoneType" "int" = some false := by decide +kernel
theorem kit_NoneType_bool : kitB "NoneType" "bool" = some false := by decide +kernel
theorem kit_NoneType_tuple : kitB "NoneType" "tuple" = some false := by decide +kernel
theorem kit_NoneType_list : kitB "NoneType" "list" = some false := by decide +kernel
theorem kit_NoneType_str : kitB "NoneType" "str" = some false := by decide +kernel
theorem kit_NoneType_dict : kitB "NoneType" "dict" = some false := by decide +kernel
theorem kit_bool_int : kitB "bool" "int" = some true := by decide +kernel
theorem kit_bool_bool : kitB "bool" "bool" = some true := by decide +kernel
theorem kit_bool_tuple : kitB "bool" "tuple" = some false := by decide +kernel
theorem kit_bool_list : kitB "bool" "list" = some false := by decide +kernel
theorem kit_bool_str : kitB "bool" "str" = some false := by decide +kernel
theorem kit_bool_dict : kitB "bool" "dict" = some false := by decide +kernel
theorem kit_int_int : kitB "int" "int" = some true := by decide +kernel
theorem kit_int_bool : kitB "int" "bool" = some false := by decide +kernel
theorem kit_int_tuple : kitB "int" "tuple" = some false := by decide +kernel
theorem kit_int_list : kitB "int" "list" = some false := by decide +kernel
theorem kit_int_str : kitB "int" "str" = some false := by decide +kernel
theorem kit_int_dict : kitB "int" "dict" = some false := by decide +kernel
theorem kit_str_int : kitB "str" "int" = some false := by decide +kernel
theorem kit_str_bool : kitB "str" "bool" = some false := by decide +kernel
theorem kit_str_tuple : kitB "str" "tuple" = some false := by decide +kernel
theorem kit_str_list : kitB "str" "list" = some false := by decide +kernel
theorem kit_str_str : kitB "str" "str" = some true := by decide +kernel
theorem kit_str_dict : kitB "str" "dict" = some false := by decide +kernel
theorem kit_tuple_int : kitB "tuple" "int" = some false := by decide +kernel
theorem kit_tuple_bool : kitB "tuple" "bool" = some false := by decide +kernel
theorem kit_tuple_tuple : kitB "tuple" "tuple" = some true := by decide +kernel
theorem kit_tuple_list : kitB "tuple" "list" = some false := by decide +kernel
theorem kit_tuple_str : kitB "tuple" "str" = some false := by decide +kernel
theorem kit_tuple_dict : kitB "tuple" "dict" = some false := by decide +kernel
theorem kit_list_int : kitB "list" "int" = some false := by decide +kernel
theorem kit_list_bool : kitB "list" "bool" = some false := by decide +kernel
theorem kit_list_tuple : kitB "list" "tuple" = some false := by decide +kernel
theorem kit_list_list : kitB "list" "list" = some true := by decide +kernel
theorem kit_list_str : kitB "list" "str" = some false := by decide +kernel
theorem kit_list_dict : kitB "list" "dict" = some false := by decide +kernel
theorem kit_dict_int : kitB "dict" "int" = some false := by decide +kernel
theorem kit_dict_bool : kitB "dict" "bool" = some false := by decide +kernel
theorem kit_dict_tuple : kitB "dict" "tuple" = some false := by decide +kernel
theorem kit_dict_list : kitB "dict" "list" = some false := by decide +kernel
theorem kit_dict_str : kitB "dict" "str" = some false := by decide +kernel
theorem kit_dict_dict : kitB "dict" "dict" = some true := by decide +kernel
section
variable {M : TM}
theorem isi_non (t : String) : isiG M .non (.ty t) = kitB "NoneType" t := rfl
theorem isi_bl (b : Bool) (t : String) : isiG M (.bl b) (.ty t) = kitB "bool" t := rfl
theorem isi_int (b : Int) (t : String) : isiG M (.int b) (.ty t) = kitB "int" t := rfl
theorem isi_str (b : Str) (t : String) : isiG M (.str b) (.ty t) = kitB "str" t := rfl
theorem isi_tup (b : List TV) (t : String) : isiG M (.tup b) (.ty t) = kitB "tuple" t := rfl
theorem isi_lst {a : Addr} {xs : List TV} (h : lsM M a = some xs) (t : String) : isiG M (.ref a) (.ty t) = kitB "list" t := by
  have e : tyN M (.ref a) = some "list" := by
    unfold lsM at h
    unfold tyN
    split at h <;> rename_i q <;> first | (cases h; done) | (simp only [q]; done)
  show isiF M (.ref a) (.ty t) = _
  unfold isiF
  rw [e]
  rfl
theorem isiG_two {x : TV} {s t : String} : isiG M x (.tup [.ty s, .ty t]) = match tyN M x with
    | none => none
    | some n => (match kitB n s with
      | some true => some true
      | some false => (match kitB n t with
        | some true => some true
        | some false => some false
        | none => none)
      | none => none) := by
  show (if (tysL [.ty s, .ty t]).isSome then isiF M x (.tup [.ty s, .ty t]) else none) = _
  refine (if_pos (by rfl)).trans ?_
  unfold isiF
  cases tyN M x with
  | none => rfl
  | some n => rfl
/-! ### == -/
theorem eq_int (i j : Int) : eqF M (.int i) (.int j) = some (i == j) := rfl
theorem eq_bl (i j : Bool) : eqF M (.bl i) (.bl j) = some (i == j) := rfl
theorem eq_pair (a b c d : Int) : eqF M (.tup [.int a, .int b]) (.tup [.int c, .int d]) = some (a == c && (b == d && true)) := rfl
end
theorem exEq {α : Type} {a : α} {P : α → Prop} : (∃ x, some a = some x ∧ P x) ↔ P a := ⟨fun ⟨x, e, h⟩ => by cases e; exact h, fun h => ⟨a, rfl, h⟩⟩
theorem rtE {Q : TK} {R : TR} {v : TV} {M : TM} (h : Q v M) : (endsT Q R).rt v M := ⟨M, .refl M, h⟩
end TL

/-! TLem: loops, the hand. -/
namespace TL
open PySem PySem.Spec PyProof.Rows L2

/-- no promise at all -/
theorem Df.never {G : Gx} {x : Str} {st : Stmt} {ps : List Str} (D : Df G x st ps) (k : Nat) : HeldT G k (adr G x) (fun _ _ _ _ => False) := by
  obtain ⟨fd, Fu, Bi⟩ := D.fn
  refine ⟨fd, ps, [], [], [], fun _ _ _ _ => False, Fu.kp, Bi, .nil, fun _ => .nil, ⟨fun vs H Q E ⟨_, _, _, _, _, _, z, _⟩ => z.elim, fun _ _ _ _ _ _ _ _ _ _ _ _ _ ⟨_, _, _, _, _, _, z, _⟩ => z.elim⟩, fun _ _ _ _ z => z⟩
def prevS (sp : Nat → TSp) : Nat → TSp
  | 0 => fun _ _ _ _ => False
  | d + 1 => sp d
/-- a def that calls itself -/
theorem Df.recH {G : Gx} {F : Addr → TSp → Prop} {x : Str} {st : Stmt} {N ps : List Str} {k0 : Nat} (D : Df G x st ps) (S : FnScope N ps (defScope st)) (b : TSp → Sms) (ck : ∀ s, ckSs N (defScope st) (b s) (defBody st) = true) (ok : ∀ k s, k0 ≤ k → HeldT G k (adr G x) s → okSs G (cti G k x (adr G x)) (b s)) (hF : ∀ f sp, F f sp → HeldT G cavK f sp) (sp : Nat → TSp)
    (len : ∀ d xs M Q R, sp d xs M Q R → xs.length = ps.length) (vc : ∀ d xs M Q R, sp d xs M Q R → wSs F (b (prevS sp d)) (endsT Q R) (startT N xs) M) : ∀ d, HeldT G (k0 + d + 1) (adr G x) (sp d)
  | 0 => D.held (k := k0) S (ck _) (ok k0 (prevS sp 0) (Nat.le_refl _) (D.never _)) hF (len 0) (vc 0)
  | d + 1 => D.held (k := k0 + d + 1) S (ck _) (ok _ (prevS sp (d + 1)) (by omega) (Df.recH D S b ck ok hF sp len vc d)) (fun f s h => (hF f s h).mono (by omega)) (len (d + 1)) (vc (d + 1))
theorem tru_bl {M : TM} (b : Bool) : truT M (.bl b) = some b := rfl
theorem tru_non {M : TM} : truT M .non = some false := rfl
theorem tru_int {M : TM} (i : Int) : truT M (.int i) = some (i != 0) := rfl
theorem tru_tup {M : TM} (l : List TV) : truT M (.tup l) = some (!l.isEmpty) := rfl
section
variable {M : TM}
theorem bif_len {x : TV} {Q : TK} : wBif .len [x] M Q = ∃ n, lenF M x = some n ∧ Q (.int n) M := rfl
theorem bif_abs {i : Int} {Q : TK} : wBif .abs [.int i] M Q = Q (.int i.natAbs) M := rfl
theorem bif_int {i : Int} {Q : TK} : wBif .int [.int i] M Q = Q (.int i) M := propext ⟨fun ⟨_, e, h⟩ => by cases e; exact h, fun h => ⟨i, rfl, h⟩⟩
theorem bif_isi {x c : TV} {Q : TK} : wBif .isi [x, c] M Q = ∃ b, isiG M x c = some b ∧ Q (.bl b) M := rfl
theorem bif_tuple {x : TV} {Q : TK} : wBif .tuple [x] M Q = ∃ xs, seqM M x = some xs ∧ Q (.tup xs) M := rfl
theorem bif_list {x : TV} {Q : TK} : wBif .list [x] M Q = ∃ xs, seqM M x = some xs ∧ ∀ p, M p = none → Q (.ref p) (updM M p (.lst xs)) := rfl
theorem bif_sum {a : Addr} {Q : TK} : wBif .sum [.ref a] M Q = ∃ xs ns, lsM M a = some xs ∧ allI xs = some ns ∧ Q (.int ns.sum) M := rfl
theorem bif_all {a : Addr} {Q : TK} : wBif .all [.ref a] M Q = ∃ xs ns, lsM M a = some xs ∧ allB xs = some ns ∧ Q (.bl (ns.all id)) M := rfl
theorem bif_any {a : Addr} {Q : TK} : wBif .any [.ref a] M Q = ∃ xs ns, lsM M a = some xs ∧ allB xs = some ns ∧ Q (.bl (ns.any id)) M := rfl
theorem bif_min2 {i j : Int} {Q : TK} : wBif .min2 [.int i, .int j] M Q = Q (.int (min i j)) M := rfl
theorem bif_max2 {i j : Int} {Q : TK} : wBif .max2 [.int i, .int j] M Q = Q (.int (max i j)) M := rfl
theorem bif_minl {a : Addr} {Q : TK} : wBif .minl [.ref a] M Q = ∃ xs ns, lsM M a = some xs ∧ allI xs = some ns ∧ 0 < ns.length ∧ Q (.int (minL ns)) M := rfl
theorem bif_maxl {a : Addr} {Q : TK} : wBif .maxl [.ref a] M Q = ∃ xs ns, lsM M a = some xs ∧ allI xs = some ns ∧ 0 < ns.length ∧ Q (.int (maxL ns)) M := rfl
theorem bop_add_i {i j : Int} {Q : TK} : wBop .add (.int i) (.int j) M Q = Q (.int (i + j)) M := rfl
theorem bop_add_t {i j : List TV} {Q : TK} : wBop .add (.tup i) (.tup j) M Q = (i.length + j.length ≤ sizeLine ∧ Q (.tup (i ++ j)) M) := rfl
theorem bop_add_l {a b : Addr} {Q : TK} : wBop .add (.ref a) (.ref b) M Q = ∃ xs ys, M a = some (.lst xs) ∧ M b = some (.lst ys) ∧ xs.length + ys.length ≤ sizeLine ∧ ∀ p, M p = none → Q (.ref p) (updM M p (.lst (xs ++ ys))) := rfl
theorem bop_sub {i j : Int} {Q : TK} : wBop .sub (.int i) (.int j) M Q = Q (.int (i - j)) M := rfl
theorem bop_mul_i {i j : Int} {Q : TK} : wBop .mul (.int i) (.int j) M Q = ((((-(2 ^ 64) < i ∧ i < 2 ^ 64) ∨ (-(2 ^ 64) < j ∧ j < 2 ^ 64)) ∨ i.natAbs.log2 + j.natAbs.log2 < 1000000) ∧ Q (.int (i * j)) M) := rfl
theorem bop_fdiv {i j : Int} {Q : TK} : wBop .fdiv (.int i) (.int j) M Q = ((0 < j ∧ j.natAbs.log2 < 9000) ∧ Q (.int (i / j)) M) := rfl
theorem bop_mod {i j : Int} {Q : TK} : wBop .mod (.int i) (.int j) M Q = (0 < j ∧ Q (.int (i % j)) M) := rfl
theorem bop_pow {i j : Int} {Q : TK} : wBop .pow (.int i) (.int j) M Q = ((0 ≤ j ∧ j ≤ 1000000 ∧ i.natAbs < 2 ^ 64) ∧ Q (.int (i ^ j.toNat)) M) := rfl
theorem aug_add {i j : Int} {Q : TK} : wAug .add (.int i) (.int j) M Q = Q (.int (i + j)) M := rfl
theorem aug_sub {i j : Int} {Q : TK} : wAug .sub (.int i) (.int j) M Q = Q (.int (i - j)) M := rfl
theorem aug_mul {i j : Int} {Q : TK} : wAug .mul (.int i) (.int j) M Q = (((-(2 ^ 64) < i ∧ i < 2 ^ 64) ∨ (-(2 ^ 64) < j ∧ j < 2 ^ 64)) ∧ Q (.int (i * j)) M) := rfl
theorem seqM_tup (l : List TV) : seqM M (.tup l) = some l := rfl
theorem ix_tup (l : List TV) (i : Int) : ixF M (.tup l) (.int i) = atI l i := rfl
theorem ix_lst {a : Addr} {l : List TV} (h : lsM M a = some l) (i : Int) : ixF M (.ref a) (.int i) = atI l i := by
  show (match lsM M a with | some xs => atI xs i | none => none) = _
  rw [h]
theorem len_tup (l : List TV) : lenF M (.tup l) = some l.length := rfl
theorem len_lst {a : Addr} {l : List TV} (h : lsM M a = some l) : lenF M (.ref a) = some l.length := by
  show (match lsM M a with | some xs => some xs.length | none => none) = _
  rw [h]
theorem cmp_lt (i j : Int) : cmpF .lt M (.int i) (.int j) = some (decide (i < j)) := rfl
theorem cmp_le (i j : Int) : cmpF .le M (.int i) (.int j) = some (decide (i ≤ j)) := rfl
theorem cmp_gt (i j : Int) : cmpF .gt M (.int i) (.int j) = some (decide (j < i)) := rfl
theorem cmp_ge (i j : Int) : cmpF .ge M (.int i) (.int j) = some (decide (j ≤ i)) := rfl
theorem cmp_eq (x y : TV) : cmpF .eq M x y = eqF M x y := rfl
theorem cmp_ne (x y : TV) : cmpF .ne M x y = (eqF M x y).map not := rfl
theorem cmp_is (x y : TV) : cmpF .is M x y = isF x y := rfl
theorem cmp_isn (x y : TV) : cmpF .isn M x y = (isF x y).map not := rfl
theorem cmp_in (x y : TV) : cmpF .in M x y = inF M x y := rfl
theorem cmp_nin (x y : TV) : cmpF .nin M x y = (inF M x y).map not := rfl
theorem is_nn : isF .non .non = some true := rfl
theorem is_in (i : Int) : isF (.int i) .non = some false := rfl
theorem is_tn (l : List TV) : isF (.tup l) .non = some false := rfl
theorem tyn_int (i : Int) : tyN M (.int i) = some "int" := rfl
theorem tyn_str (i : Str) : tyN M (.str i) = some "str" := rfl
theorem tyn_tup (i : List TV) : tyN M (.tup i) = some "tuple" := rfl
end
theorem atI_0 {α : Type} {x : α} {l : List α} : atI (x :: l) 0 = some x := atI_nat (j := 0) rfl
theorem atI_1 {α : Type} {x y : α} {l : List α} : atI (x :: y :: l) 1 = some y := atI_nat (j := 1) rfl
theorem atI_2 {α : Type} {x y z : α} {l : List α} : atI (x :: y :: z :: l) 2 = some z := atI_nat (j := 2) rfl
theorem atI_3 {α : Type} {x y z w : α} {l : List α} : atI (x :: y :: z :: w :: l) 3 = some w := atI_nat (j := 3) rfl
theorem atI_4 {α : Type} {x y z w u : α} {l : List α} : atI (x :: y :: z :: w :: u :: l) 4 = some u := atI_nat (j := 4) rfl
theorem Subm.trans {A B C : TM} (h : Subm A B) (g : Subm B C) : Subm A C := fun a o e => g a o (h a o e)
theorem Subm.new {A B : TM} {p : Addr} {o : MO} (h : Subm A B) (n : B p = none) : Subm A (updM B p o) := fun a u e => by
  have ne : a ≠ p := fun z => by subst z; rw [h a u e] at n; cases n
  rw [updM_ne ne]
  exact h a u e
theorem Subm.fresh {A B : TM} {p : Addr} (h : Subm A B) (n : B p = none) : A p = none := by
  cases q : A p with
  | none => rfl
  | some o => rw [h p o q] at n; cases n
theorem Subm.upd {A B : TM} {p : Addr} {o : MO} (h : Subm A B) : Subm (updM A p o) (updM B p o) := fun a u e => by
  by_cases z : a = p
  · subst z; rw [updM_same] at e ⊢; exact e
  · rw [updM_ne z] at e ⊢; exact h a u e
theorem Subm.lsM {A B : TM} {a : Addr} {xs : List TV} (h : Subm A B) (e : lsM A a = some xs) : lsM B a = some xs := by
  unfold TL.lsM at e ⊢
  cases q : A a with
  | none => rw [q] at e; cases e
  | some o => rw [q] at e; rw [h a o q]; exact e
theorem lsM_upd {M : TM} {p : Addr} {xs : List TV} : lsM (updM M p (.lst xs)) p = some xs := by unfold TL.lsM; rw [updM_same]
theorem Subm.chk {A B : TM} {x : TV} {xs : List TV} (h : Subm A B) (e : seqM A x = some xs) : chkS A x xs B := by
  cases x <;> first | trivial | skip
  exact h.lsM e
/-- a result and what is forgotten -/
theorem rtF {Q : TK} {R : TR} {v : TV} {M M0 : TM} (s : Subm M0 M) (h : Q v M0) : (endsT Q R).rt v M := ⟨M0, s, h⟩
theorem nxF {Q : TK} {R : TR} {σ : TSt} {M M0 : TM} (s : Subm M0 M) (h : Q .non M0) : (endsT Q R).nx σ M := ⟨M0, s, h⟩
/-! ### comprehensions -/
theorem lcL_map {chk : TM → Prop} {step : List TV → TV → TM → (List TV → TM → Prop) → Prop} {fin : List TV → TM → Prop} (f : TV → TV) : ∀ {items : List TV} {acc : List TV} {M0 M : TM}, Subm M0 M → (∀ M, Subm M0 M → chk M) →
    (∀ x ∈ items, ∀ acc M k, Subm M0 M → (∀ M', Subm M M' → k (acc ++ [f x]) M') → step acc x M k) → (∀ M', Subm M0 M' → fin (acc ++ items.map f) M') → lcL chk step fin items acc M
  | [], acc, M0, M, h, hc, hs, hf => ⟨hc M h, by simpa using hf M h⟩
  | x :: r, acc, M0, M, h, hc, hs, hf => ⟨hc M h, hs x List.mem_cons_self acc M _ h fun M' h' => lcL_map f (items := r) (h.trans h') hc (fun y hy => hs y (List.mem_cons_of_mem _ hy)) (by simpa using hf)⟩
theorem lcL_inv {chk : TM → Prop} {step : List TV → TV → TM → (List TV → TM → Prop) → Prop} {fin : List TV → TM → Prop} (I : List TV → List TV → TM → Prop) : ∀ {items : List TV} {done acc : List TV} {M : TM}, I done acc M → (∀ d acc M, I d acc M → chk M) →
    (∀ d x acc M k, I d acc M → (∀ acc' M', I (d ++ [x]) acc' M' → k acc' M') → step acc x M k) → (∀ acc M, I (done ++ items) acc M → fin acc M) → lcL chk step fin items acc M
  | [], d, acc, M, h, hc, hs, hf => ⟨hc _ _ _ h, hf _ _ (by simpa using h)⟩
  | x :: r, d, acc, M, h, hc, hs, hf => ⟨hc _ _ _ h, hs d x acc M _ h fun acc' M' h' => lcL_inv I (items := r) h' hc hs (by simpa using hf)⟩
theorem foL_inv {chk : TM → Prop} {step : TV → (TSt → TM → Prop) → TSt → TM → Prop} {fin : TSt → TM → Prop} (I : List TV → TSt → TM → Prop) : ∀ {items d : List TV} {σ : TSt} {M : TM}, I d σ M → (∀ d σ M, I d σ M → chk M) →
    (∀ d x r k σ M, d ++ x :: r = d ++ x :: r → I d σ M → (∀ σ' M', I (d ++ [x]) σ' M' → k σ' M') → step x k σ M) → (∀ σ M, I (d ++ items) σ M → fin σ M) → foL chk step fin items σ M
  | [], d, σ, M, h, hc, hs, hf => ⟨hc _ _ _ h, hf _ _ (by simpa using h)⟩
  | x :: r, d, σ, M, h, hc, hs, hf => ⟨hc _ _ _ h, hs d x r _ σ M rfl h fun σ' M' h' => foL_inv I (items := r) h' hc hs (by simpa using hf)⟩
/-- the same, the items' own places known -/
theorem foL_at {chk : TM → Prop} {step : TV → (TSt → TM → Prop) → TSt → TM → Prop} {fin : TSt → TM → Prop} (I : List TV → List TV → TSt → TM → Prop) : ∀ {items d : List TV} {σ : TSt} {M : TM}, I d items σ M → (∀ d r σ M, I d r σ M → chk M) →
    (∀ d x r k σ M, I d (x :: r) σ M → (∀ σ' M', I (d ++ [x]) r σ' M' → k σ' M') → step x k σ M) → (∀ d σ M, I d [] σ M → fin σ M) → foL chk step fin items σ M
  | [], d, σ, M, h, hc, hs, hf => ⟨hc _ _ _ _ h, hf _ _ _ h⟩
  | x :: r, d, σ, M, h, hc, hs, hf => ⟨hc _ _ _ _ h, hs d x r _ σ M h fun σ' M' h' => foL_at I (items := r) h' hc hs hf⟩
/-! ### the hand -/
/-- a hand: its list, that of its cells, these -/
structure Hn where
  a : Addr
  c : Addr
  cells : List Int
  ne : c ≠ a
  pos : ∀ z ∈ cells, 0 ≤ z
def HandOk (M : TM) (h : Hn) : Prop := ∃ (i h2 h3 h4 : Int), M h.a = some (.lst [.ref h.c, .int i, .int h2, .int h3, .int h4]) ∧ M h.c = some (.lst (h.cells.map .int)) ∧ 0 ≤ i ∧ 0 ≤ h2
/-- the hand has gone on, all else is as it was -/
def Hd (h : Hn) (M M' : TM) : Prop := HandOk M' h ∧ ∀ b, b ≠ h.a → M' b = M b
/-- the hand has gone on, there is more -/
def Xt (h : Hn) (M M' : TM) : Prop := HandOk M h ∧ HandOk M' h ∧ ∀ b o, b ≠ h.a → M b = some o → M' b = some o
section
variable {h : Hn} {M M' M1 M2 : TM}
theorem HandOk.some (k : HandOk M h) : M h.a ≠ none := by
  obtain ⟨i, h2, h3, h4, e, _⟩ := k
  rw [e]; simp
theorem HandOk.ne {p : Addr} (k : HandOk M h) (n : M p = none) : p ≠ h.a := fun e => by subst e; exact k.some n
theorem Xt.refl (k : HandOk M h) : Xt h M M := ⟨k, k, fun _ _ _ e => e⟩
theorem Xt.hd (x : Xt h M M1) (k : Hd h M1 M2) : Xt h M M2 := ⟨x.1, k.1, fun b o n e => by rw [k.2 b n]; exact x.2.2 b o n e⟩
theorem Hd.refl (k : HandOk M h) : Hd h M M := ⟨k, fun _ _ => rfl⟩
theorem Hd.trans (x : Hd h M M1) (k : Hd h M1 M2) : Hd h M M2 := ⟨k.1, fun b n => by rw [k.2 b n, x.2 b n]⟩
theorem HandOk.sub (k : HandOk M h) (s : Subm M M') : HandOk M' h := by
  obtain ⟨i, h2, h3, h4, e, f, r⟩ := k
  exact ⟨i, h2, h3, h4, s _ _ e, s _ _ f, r⟩
theorem Xt.sub (x : Xt h M M1) (k : Subm M1 M2) : Xt h M M2 := ⟨x.1, x.2.1.sub k, fun b o n e => k _ _ (x.2.2 b o n e)⟩
theorem Xt.new {p : Addr} {o : MO} (x : Xt h M M1) (n : M1 p = none) : Xt h M (updM M1 p o) := x.sub (Subm.new (.refl _) n)
/-- a hand's def ends -/
theorem rtH {Q : TK} {R : TR} {v : TV} (x : Xt h M M1) (k : ∀ M', Hd h M M' → Q v M') : (endsT Q R).rt v M1 := by
  obtain ⟨i, h2, h3, h4, e, f, r⟩ := x.2.1
  obtain ⟨_, _, _, _, _, f0, _⟩ := x.1
  refine ⟨fun b => if b = h.a then M1 h.a else M b, fun b o e => ?_, k _ ⟨⟨i, h2, h3, h4, ?_, ?_, r⟩, fun b n => if_neg n⟩⟩
  · dsimp only at e
    split at e
    · rename_i z; subst z; exact e
    · rename_i z; exact x.2.2 b o z e
  · exact (if_pos rfl).trans e
  · exact (if_neg h.ne).trans f0
end
end TL

/-! TEnd: the end of a law whose defs hold lambdas and use repr. -/
namespace TL
open PySem PySem.Spec PyProof.Rows L2

/-- a law: over every list of at most 63 ints, the tables known, it ends with True, and no exception -/
def lawSt (ts : List (Addr × Str)) : TSp := fun xs M Q _ => ∃ (x : TV) (ns : List Int), xs = [x] ∧ ns.length ≤ 63 ∧ ((∃ a, x = .ref a ∧ lsM M a = some (ns.map .int)) ∨ x = .kl (ns.map .int)) ∧ (∀ p ∈ ts, M p.1 = some (.tbl p.2)) ∧ ∀ M', Q (.bl true) M'
theorem lookup_mem {α β : Type} [BEq α] [LawfulBEq α] {a : α} {b : β} : ∀ {l : List (α × β)}, l.lookup a = some b → (a, b) ∈ l
  | [], h => by cases h
  | (c, d) :: r, h => by
    rw [List.lookup_cons] at h
    split at h
    · rename_i e
      cases h
      rw [eq_of_beq e]
      exact List.mem_cons_self
    · exact List.mem_cons_of_mem _ (lookup_mem h)
theorem lookup_nodup {α β : Type} [BEq α] [LawfulBEq α] {p : α × β} : ∀ {l : List (α × β)}, (l.map (·.1)).Nodup → p ∈ l → l.lookup p.1 = some p.2
  | [], _, h => by cases h
  | (c, d) :: r, n, h => by
    rw [List.lookup_cons]
    rcases List.mem_cons.mp h with rfl | h
    · rw [beq_self_eq_true]
    · have ne : p.1 ≠ c := fun e => (List.nodup_cons.mp n).1 (List.mem_map.mpr ⟨p, h, e⟩)
      rw [beq_eq_false_iff_ne.mpr ne]
      exact lookup_nodup (List.nodup_cons.mp n).2 h
/-- what is told at the start -/
def scrM (a : Addr) (o : Option MO) (ts : List (Addr × Str)) : TM := fun b => match ts.lookup b with
  | some q => some (.tbl q)
  | none => if b = a then o else none
theorem law_startT {K : PySem.W.Frag} {H : Hp} {a : Addr} {ns : List Int} {ts : List (Addr × Str)} (nd : (ts.map (·.1)).Nodup) (ht : ∀ p ∈ ts, H p.1 = some (.tbl #[])) (s : SqL K H a (ns.map V.int)) (hn : ns.length ≤ 63) : LSp K (lawSt ts) [.ref a] H (fun v _ => v = .bl true) (fun _ _ _ => False) := by
  have l63 : (ns.map TV.int).length ≤ sizeLine := by
    rw [List.length_map]
    exact Nat.le_trans hn (show 63 ≤ sizeLine by decide)
  have tb : ∀ o p, p ∈ ts → scrM a o ts p.1 = some (.tbl p.2) := fun o p hp => by
    unfold scrM
    rw [lookup_nodup nd hp]
  have rep : ∀ o, (∀ u, o = some u → Ro K H a u) → RepM K H (scrM a o ts) := fun o ho b u e => by
    unfold scrM at e
    split at e
    · rename_i q hq
      cases e
      exact LamX.TabS.nil (ht _ (lookup_mem hq))
    · split at e
      · rename_i eb
        rw [eb]
        exact ho u e
      · cases e
  have fin : ∀ o (x : TV), (∀ u, o = some u → Ro K H a u) → Rv K H x (.ref a) → ((∃ c, x = .ref c ∧ lsM (scrM a o ts) c = some (ns.map .int)) ∨ x = .kl (ns.map .int)) → LSp K (lawSt ts) [.ref a] H (fun v _ => v = .bl true) (fun _ _ _ => False) := fun o x ho rx hx =>
    ⟨[x], scrM a o ts, (fun v _ => v = .bl true), (fun _ _ => False), .cons rx .nil, rep o ho, ⟨x, ns, rfl, hn, hx, tb o, fun _ => rfl⟩, fun z z' H' M' _ r e => by subst e; cases r; rfl, fun _ _ _ _ _ _ _ r => r⟩
  have na : (∃ vs, H a = some (.lst vs)) ∨ (∃ o vs, H a = some (.frz o (.lst vs))) → ts.lookup a = none := fun h => by
    cases q : ts.lookup a with
    | none => rfl
    | some w =>
      have e := ht _ (lookup_mem q)
      rcases h with ⟨vs, z⟩ | ⟨o, vs, z⟩ <;> rw [z] at e <;> cases e
  have at_a : ∀ o, ts.lookup a = none → scrM a o ts a = o := fun o n => by
    unfold scrM
    rw [n]
    exact if_pos rfl
  rcases s with (s | s) | s
  · refine fin (some (.lst (ns.map .int))) (.ref a) (fun u e => by cases e; exact ⟨_, s, Rvs.of_ints ns, l63⟩) (.ref a) (.inl ⟨a, rfl, ?_⟩)
    unfold lsM
    rw [at_a _ (na (.inl ⟨_, s⟩))]
  · obtain ⟨o, s⟩ := s
    refine fin (some (.rls (ns.map .int))) (.ref a) (fun u e => by cases e; exact ⟨o, _, s, Rvs.of_ints ns, l63⟩) (.ref a) (.inl ⟨a, rfl, ?_⟩)
    unfold lsM
    rw [at_a _ (na (.inr ⟨_, _, s⟩))]
  · exact fin none (.kl (ns.map .int)) (fun u e => by cases e) (.kl s (Rvs.of_ints ns) l63) (.inr rfl)
/-! ### the call -/
/-- what stands as the law is called: the module, the tables, the script -/
structure Hdr (K : PySem.W.Frag) (mg mb : Str → Option Value) (h : Heap) (a : Addr) (vs : List Value) (ns : List Int) (cs : List (Addr × Addr)) : Prop where
  kin : K.In h
  glo : h.Ns mainGlobals mg
  bns : h.Ns builtinsNs mb
  boot : ∀ y : Str, y ≠ "__name__" → mb y = bootBuiltins y
  lim : h.NoLimit
  main : ∃ (bm : Addr) (ob : Obj), mg "__builtins__" = some (.ref bm) ∧ bm ≠ builtinsNs ∧ h.get? bm = some ob ∧ ob.cls = .type "module" ∧ ob.dict = some builtinsNs ∧ ob.data = .plain
  tab : ∀ p ∈ cs, h.get? p.2 = some ⟨.none, none, .fields #[], #[]⟩
  out : ∀ p ∈ cs, K.lookup p.2 = none
  cod : ∀ p ∈ cs, PySem.W.CodeHd h p.1 p.2
  scr : h.get? a = some ⟨.type "list", none, .seq vs.toArray 0, #[]⟩
  int : IntsAre vs ns
  len : ns.length ≤ sizeLine
section
variable {K : PySem.W.Frag} {mg mb : Str → Option Value} {h : Heap} {a : Addr} {vs : List Value} {ns : List Int} {cs : List (Addr × Addr)}
/-- the script's object -/
def scrO (vs : List Value) : Obj := ⟨.type "list", none, .seq vs.toArray 0, #[]⟩
/-- what is told of the heap: the tables; the script, if it is no object of the module -/
def hd0 (K : PySem.W.Frag) (a : Addr) (vs : List Value) (ns : List Int) (cs : List (Addr × Addr)) : Hp := fun b =>
  if b ∈ cs.map (·.2) then some (.tbl #[]) else if b = a ∧ K.lookup a = none then some (.frz (scrO vs) (.lst (ns.map V.int))) else none
theorem Hdr.at_tab (D : Hdr K mg mb h a vs ns cs) {b : Addr} (hb : b ∈ cs.map (·.2)) : h.get? b = some ⟨.none, none, .fields #[], #[]⟩ := by
  obtain ⟨p, hp, e⟩ := List.mem_map.mp hb
  rw [← e]
  exact D.tab p hp
theorem Hdr.not_tab (D : Hdr K mg mb h a vs ns cs) : a ∉ cs.map (·.2) := fun z => by
  have q := (D.at_tab z).symm.trans D.scr
  have e : Data.fields #[] = Data.seq vs.toArray 0 := congrArg Obj.data (Option.some.inj q)
  cases e
/-- only the tables and the script are told of -/
theorem hd0_of {b : Addr} {u : HO} (e : hd0 K a vs ns cs b = some u) : (b ∈ cs.map (·.2) ∧ u = .tbl #[]) ∨ (b = a ∧ K.lookup a = none ∧ u = .frz (scrO vs) (.lst (ns.map V.int))) := by
  unfold hd0 at e
  split at e
  · rename_i hb
    cases e
    exact .inl ⟨hb, rfl⟩
  · split at e
    · rename_i hb
      cases e
      exact .inr ⟨hb.1, hb.2, rfl⟩
    · cases e
/-- an object that is neither is not -/
theorem Hdr.free (D : Hdr K mg mb h a vs ns cs) {b : Addr} {o : Obj} (e : h.get? b = some o) (h1 : ∀ us n, o.data ≠ .seq us n) (h2 : o.data ≠ .fields #[]) : hd0 K a vs ns cs b = none := by
  cases q : hd0 K a vs ns cs b with
  | none => rfl
  | some u =>
    rcases hd0_of q with ⟨hb, _⟩ | ⟨rfl, _⟩
    · rw [D.at_tab hb] at e
      cases e
      exact (h2 rfl).elim
    · rw [D.scr] at e
      cases e
      exact (h1 _ _ rfl).elim
theorem Hdr.keepK (D : Hdr K mg mb h a vs ns cs) {b : Addr} {o : Obj} (e : K.lookup b = some o) : hd0 K a vs ns cs b = none := by
  cases q : hd0 K a vs ns cs b with
  | none => rfl
  | some u =>
    exfalso
    rcases hd0_of q with ⟨hb, _⟩ | ⟨rfl, hk, _⟩
    · obtain ⟨p, hp, ep⟩ := List.mem_map.mp hb
      rw [← ep, D.out p hp] at e
      cases e
    · rw [hk] at e
      cases e
theorem Hdr.names (D : Hdr K mg mb h a vs ns cs) {b : Addr} {m : Str → Option Value} (k : h.Ns b m) : (hidT h (hd0 K a vs ns cs)).Ns b m := by
  obtain ⟨o, es, ep, e, d, r⟩ := k
  refine ⟨o, es, ep, hidT_get e (D.free e (fun us n z => ?_) fun z => ?_), d, r⟩ <;> (rw [d] at z; cases z)
theorem Hdr.mod (D : Hdr K mg mb h a vs ns cs) : L2.Mod K mg (hidT h (hd0 K a vs ns cs)) where
  kin := fun b o e => hidT_get (D.kin b o e) (D.keepK e)
  glob := D.names D.glo
  blt := ⟨mb, D.names D.bns, D.boot⟩
  nolimit := by
    obtain ⟨mc, k1, k2⟩ := D.lim
    exact ⟨mc, D.names k1, k2⟩
theorem Hdr.tabB (D : Hdr K mg mb h a vs ns cs) {p : Addr × Addr} (hp : p ∈ cs) : LamX.TabB (hidT h (hd0 K a vs ns cs)) mg p.1 p.2 := by
  have gM : ∀ {b : Addr} {o : Obj}, h.get? b = some o → o.data = .plain → b ≠ p.2 ∧ b ≠ mainGlobals := fun {b o} e d => by
    refine ⟨fun z => ?_, fun z => ?_⟩
    · rw [z, D.tab p hp] at e
      cases e
      cases d
    · obtain ⟨o2, es, ep, e2, d2, _⟩ := D.glo
      rw [z, e2] at e
      cases e
      rw [d2] at d
      cases d
  refine ⟨?_, ?_, fun z => ?_⟩
  · obtain ⟨o, us, file, tf, flags, tg, inF, text, tt, k, dc, d, d3, rest⟩ := D.cod p hp
    refine ⟨o, us, file, tf, flags, tg, inF, text, tt, hidT_get k (D.free k (fun us n z => ?_) fun z => ?_), dc, d, d3, rest⟩
    · rw [d] at z
      cases z
    · rw [d] at z
      cases z
      simp at d3
  · obtain ⟨bm, ob, m1, m2, m3, m4, m5, m6⟩ := D.main
    refine ⟨bm, ob, m1, m2, (gM m3 m6).2, (gM m3 m6).1, hidT_get m3 (D.free m3 (fun us n z => ?_) fun z => ?_), m4, m5, m6⟩ <;> (rw [m6] at z; cases z)
  · obtain ⟨o, es, ep, k, d, _⟩ := D.glo
    rw [z, D.tab p hp] at k
    cases k
    cases d
theorem Hdr.hok (D : Hdr K mg mb h a vs ns cs) {P : Program} {w : World} : HOk P w (hd0 K a vs ns cs) h := fun b u e => by
  rcases hd0_of e with ⟨hb, rfl⟩ | ⟨rfl, _, rfl⟩
  · exact D.at_tab hb
  · exact ⟨D.scr, by rw [List.length_map]; exact D.len, vs, _, vals_ints D.int, D.scr⟩
theorem Hdr.seq (D : Hdr K mg mb h a vs ns cs) : SqL K (hd0 K a vs ns cs) a (ns.map V.int) := by
  cases hk : K.lookup a with
  | some o =>
    have e := (D.kin a o hk).symm.trans D.scr
    cases e
    exact .inr ⟨_, vs.toArray, 0, hk, rfl, rfl, rfl, by rw [List.size_toArray, D.int.length]; exact D.len, vals_ints D.int⟩
  | none => exact .inl (.inr ⟨scrO vs, (if_neg D.not_tab).trans (if_pos ⟨rfl, hk⟩)⟩)
theorem Hdr.tabs (D : Hdr K mg mb h a vs ns cs) {p : Addr × Addr} (hp : p ∈ cs) : hd0 K a vs ns cs p.2 = some (.tbl #[]) := if_pos (List.mem_map.mpr ⟨p, hp, rfl⟩)
/-- what was there, behind the law -/
theorem Hdr.old (D : Hdr K mg mb h a vs ns cs) {P : Program} {w : World} {h' : Heap} {H' : Hp} (un : Un [] [] (hd0 K a vs ns cs) H' h h') (hok' : HOk P w H' h') : OldK h h' := by
  have key : ∀ b o, h.get? b = some o → (∃ p ∈ cs, p.2 = b ∧ ∃ more : Array Value, h'.get? b = some ⟨.none, none, .fields more, #[]⟩) ∨ h'.get? b = some o := fun b o e => by
    cases q : hd0 K a vs ns cs b with
    | none => exact .inr (un.keep b o e q List.not_mem_nil List.not_mem_nil)
    | some u =>
      rcases hd0_of q with ⟨hb, rfl⟩ | ⟨rfl, _, rfl⟩
      · obtain ⟨p, hp, ep⟩ := List.mem_map.mp hb
        obtain ⟨more, z⟩ := un.tbls b #[] q
        exact .inl ⟨p, hp, ep, _, hok' b _ z⟩
      · have z := hok' _ _ (un.frzs _ _ _ q)
        rw [D.scr] at e
        cases e
        exact .inr z.1
  refine ⟨fun b o e => ?_, fun b o e => ?_⟩
  · rcases key b o e with ⟨p, hp, rfl, more, z⟩ | z
    · have e' := (D.tab p hp).symm.trans e
      cases e'
      exact .inr (.inl ⟨((D.cod p hp).tab (D.tab p hp)).isCodeTable, rfl, #[], more, rfl, by rw [Array.empty_append]; exact z⟩)
    · exact .inl z
  · rcases key b o e with ⟨_, _, _, more, z⟩ | z
    · exact ⟨_, z⟩
    · exact ⟨_, z⟩
end
/-- the law's call: no guard stands around it -/
theorem law_callG {P : Program} {w : World} {K : PySem.W.Frag} {mg mb : Str → Option Value} {k : Nat} {fa a : Addr} {cs : List (Addr × Addr)} {fd : FuncData} {sp : Sp} {s : Shared} {vs : List Value} {ns : List Int} (D : Hdr K mg mb s.heap a vs ns cs) (hg : s.gens = #[]) (hr : Room k callerA)
    (F : ∀ base : Heap, (∀ p ∈ cs, LamX.TabB base mg p.1 p.2) → FnG P w K mg base k fa fd ["script"] sp) (hb : ∀ (s : Shared) (u : Value), BindsTo s fd ⟨[u], []⟩ [("script", u)])
    (hs : ∀ H : Hp, (∀ p ∈ cs, H p.2 = some (.tbl #[])) → SqL K H a (ns.map V.int) → sp [.ref a] H (fun v _ => v = .bl true) fun _ _ _ => False) :
    codeAny (model P w) callerA (.call (.ref fa) ⟨[.ref a], []⟩) (fun r s' => r = .ok (.ret (.bool true)) ∧ OldK s.heap s'.heap ∧ s'.os = s.os ∧ AllBare s'.gens) s := by
  let H := hd0 K a vs ns cs
  have e0 : Env0 P w K mg (hidT s.heap H) callerA [] s H :=
    { frames := rfl, mod := D.mod, bs := fun b o e => of_hidT e, bsz := Nat.le_of_eq (hidT_size _ _), funs := trivial, frf := fun b hb => absurd hb List.not_mem_nil, hok := D.hok, bare := .of_eq hg }
  have run := (F (hidT s.heap H) fun p hp => D.tabB hp).run callerA [] s H ⟨[.ref a], []⟩ [.ref a] [.ref a] _ _ hr rfl e0 (hb s (.ref a)) (.cons rfl .nil) (hs H (fun p hp => D.tabs hp) D.seq)
  refine codeAny_mono run fun r s' q => ?_
  match r, q with
  | .error e, q => exact (law_end q).elim
  | .ok (.ret u), ⟨v, H', os, bare, un, hok', ru, qv⟩ =>
    obtain rfl : v = V.bl true := qv
    obtain rfl : u = Value.bool true := ru
    exact ⟨rfl, D.old un hok', os, bare⟩
/-! ### errors told of -/
/-- a table of own errors -/
def ktL (l : List (Addr × Bool)) : Value → Option Bool
  | .ref a => l.lookup a
  | _ => none
theorem ktL_mem {l : List (Addr × Bool)} {D : Value} {b : Bool} (h : ktL l D = some b) : ∃ a, D = .ref a ∧ (a, b) ∈ l := by
  unfold ktL at h
  split at h
  · rename_i a
    exact ⟨a, rfl, lookup_mem h⟩
  · cases h
theorem kt_ok {G : Gx} {cv : Value} {l : List (Addr × Bool)} (h : ∀ p ∈ l, ExcC G.K p.1 ∧ PySem.W.kitOne G.K (.ref p.1) cv = some p.2) : KtOk G cv (ktL l) := fun D b e => by
  obtain ⟨a, rfl, hm⟩ := ktL_mem e
  exact ⟨⟨a, rfl, (h _ hm).1⟩, (h _ hm).2⟩
theorem cm_ok {G : Gx} {cv : Value} {l : List (Addr × Bool)} (h : ∀ p ∈ l, PySem.W.exmOne G.K (.ref p.1) cv = some p.2) (D : Value) (b : Bool) (e : ktL l D = some b) : PySem.W.exmOne G.K D cv = some b := by
  obtain ⟨a, rfl, hm⟩ := ktL_mem e
  exact h _ hm
theorem all1 {α : Type} {p : α → Prop} {a : α} (h : p a) : ∀ x ∈ [a], p x := fun x hx => by
  rw [List.mem_singleton.mp hx]
  exact h
theorem alls {α : Type} {p : α → Prop} {a : α} {r : List α} (h : p a) (k : ∀ x ∈ r, p x) : ∀ x ∈ a :: r, p x := fun x hx => by
  rcases List.mem_cons.mp hx with rfl | hx
  · exact h
  · exact k x hx
/-- a class of the module -/
theorem ref_cv {G : Gx} {a : Addr} : ∀ (H : Hp) (v' : V) (u : Value), Rv G.K H (.ref a) v' → RelV v' u → u = .ref a := fun H v' u r q => by
  cases r
  exact q
theorem ty_cv {G : Gx} {n : String} : ∀ (H : Hp) (v' : V) (u : Value), Rv G.K H (.ty n) v' → RelV v' u → u = .type n := fun H v' u r q => by
  cases r
  exact q
section
variable {P : Program} {w : World} {K : PySem.W.Frag} {h base : Heap} {mg : Str → Option Value}
/-- an own error class: what is known of it -/
structure ErrF (G : Gx) (c : Str) : Prop where
  has : G.mg c = some (.ref (adr G c))
  err : ErrC G c (adr G c)
  exc : ExcC G.K (adr G c)
theorem err_mk {c : Str} {C : Addr} (X : K.In h) (Gs : h.Ns mainGlobals mg) (a : PySem.W.nsIn K mainGlobals c = some (some (.ref C))) (b : PySem.W.excIn K C [.type "ValueError", .type "Exception", .type "BaseException", .type "object"] "ValueError.__new__" = true)
    (k : PySem.W.keepIn K (.ref C) = true) (s : PySem.W.subIn K (.ref C) (.type "BaseException") = some true) (t : PySem.W.typeIn K (.ref C) = some (.type "type")) (e : ExcC K C) : ErrF ⟨P, w, K, mg, base⟩ c := by
  have hm := PySem.W.mg_of X Gs a
  have ea : adr ⟨P, w, K, mg, base⟩ c = C := adr_of hm
  exact ⟨by rw [ea]; exact hm, by rw [ea]; exact ⟨hm, b, k, s, t⟩, by rw [ea]; exact e⟩
/-- a class by which errors are caught -/
structure ClsF (G : Gx) (c : Str) : Prop where
  has : G.mg c = some (.ref (adr G c))
theorem cls_mk {c : Str} {C : Addr} (X : K.In h) (Gs : h.Ns mainGlobals mg) (a : PySem.W.nsIn K mainGlobals c = some (some (.ref C))) : ClsF ⟨P, w, K, mg, base⟩ c := by
  have hm := PySem.W.mg_of X Gs a
  have ea : adr ⟨P, w, K, mg, base⟩ c = C := adr_of hm
  exact ⟨by rw [ea]; exact hm⟩
theorem kit_mk {c d : Str} {C D : Addr} {b : Bool} (X : K.In h) (Gs : h.Ns mainGlobals mg) (a : PySem.W.nsIn K mainGlobals c = some (some (.ref C))) (a2 : PySem.W.nsIn K mainGlobals d = some (some (.ref D))) (k : PySem.W.kitOne K (.ref C) (.ref D) = some b) :
    PySem.W.kitOne (Gx.mk P w K mg base).K (.ref (adr ⟨P, w, K, mg, base⟩ c)) (.ref (adr ⟨P, w, K, mg, base⟩ d)) = some b := by
  have e1 : adr ⟨P, w, K, mg, base⟩ c = C := adr_of (PySem.W.mg_of X Gs a)
  have e2 : adr ⟨P, w, K, mg, base⟩ d = D := adr_of (PySem.W.mg_of X Gs a2)
  rw [e1, e2]
  exact k
theorem kit_mkT {c : Str} {C : Addr} {n : String} {b : Bool} (X : K.In h) (Gs : h.Ns mainGlobals mg) (a : PySem.W.nsIn K mainGlobals c = some (some (.ref C))) (k : PySem.W.kitOne K (.ref C) (.type n) = some b) :
    PySem.W.kitOne (Gx.mk P w K mg base).K (.ref (adr ⟨P, w, K, mg, base⟩ c)) (.type n) = some b := by
  have e1 : adr ⟨P, w, K, mg, base⟩ c = C := adr_of (PySem.W.mg_of X Gs a)
  rw [e1]
  exact k
theorem exm_mk {c d : Str} {C D : Addr} {b : Bool} (X : K.In h) (Gs : h.Ns mainGlobals mg) (a : PySem.W.nsIn K mainGlobals c = some (some (.ref C))) (a2 : PySem.W.nsIn K mainGlobals d = some (some (.ref D))) (k : PySem.W.exmOne K (.ref C) (.ref D) = some b) :
    PySem.W.exmOne (Gx.mk P w K mg base).K (.ref (adr ⟨P, w, K, mg, base⟩ c)) (.ref (adr ⟨P, w, K, mg, base⟩ d)) = some b := by
  have e1 : adr ⟨P, w, K, mg, base⟩ c = C := adr_of (PySem.W.mg_of X Gs a)
  have e2 : adr ⟨P, w, K, mg, base⟩ d = D := adr_of (PySem.W.mg_of X Gs a2)
  rw [e1, e2]
  exact k
theorem ne_mk {c d : Str} {C D : Addr} (X : K.In h) (Gs : h.Ns mainGlobals mg) (a : PySem.W.nsIn K mainGlobals c = some (some (.ref C))) (a2 : PySem.W.nsIn K mainGlobals d = some (some (.ref D))) (k : C ≠ D) :
    adr ⟨P, w, K, mg, base⟩ c ≠ adr ⟨P, w, K, mg, base⟩ d := by
  have e1 : adr ⟨P, w, K, mg, base⟩ c = C := adr_of (PySem.W.mg_of X Gs a)
  have e2 : adr ⟨P, w, K, mg, base⟩ d = D := adr_of (PySem.W.mg_of X Gs a2)
  rw [e1, e2]
  exact k
end
/-! ### tables -/
def tabK (K : PySem.W.Frag) (x : Str) : Addr := match PySem.W.tabIn K x with
  | some (_, P) => P
  | none => 0
abbrev tabA (G : Gx) (x : Str) : Addr := tabK G.K x
/-- a def that makes lambdas: its code object, its table -/
structure TabF (G : Gx) (x : Str) : Prop where
  ok : ∃ c, cdA G (adr G x) = .ref c ∧ LamX.TabB G.base G.mg c (tabA G x)
theorem tabF_mk {P : Program} {w : World} {K : PySem.W.Frag} {h base : Heap} {mg : Str → Option Value} {x : Str} (X : K.In h) (Gs : h.Ns mainGlobals mg) (t : (PySem.W.tabIn K x).isSome = true) (B : ∀ c T, PySem.W.tabIn K x = some (c, T) → LamX.TabB base mg c (tabK K x)) : TabF ⟨P, w, K, mg, base⟩ x := by
  obtain ⟨⟨c, T⟩, t⟩ := Option.isSome_iff_exists.mp t
  refine ⟨c, ?_, B c T t⟩
  unfold PySem.W.tabIn at t
  split at t
  · rename_i f hf
    have e1 : adr ⟨P, w, K, mg, base⟩ x = f := adr_of (PySem.W.mg_of X Gs hf)
    rw [e1]
    split at t
    · rename_i fd0 _ hl
      have e2 : cdA ⟨P, w, K, mg, base⟩ f = fd0.code := by
        unfold cdA
        show (match K.lookup f with | some ⟨_, _, .func fd, _⟩ => fd.code | _ => .none) = _
        rw [hl]
      rw [e2]
      split at t
      · rename_i hc
        rw [hc]
        split at t
        · split at t
          · cases t
            rfl
          · cases t
        · cases t
      · cases t
    · cases t
  · cases t
/-- what is known of the law's promise at the head's heap h -/
def LawAtG (p : Program) (w : World) (K : PySem.W.Frag) (k : Nat) (mg : Str → Option Value) (fa : Addr) (h : Heap) : Prop :=
  ∃ (fd : FuncData) (cs : List (Addr × Addr)) (ts : List (Addr × Str)), (∀ p ∈ cs, h.get? p.2 = some ⟨.none, none, .fields #[], #[]⟩ ∧ K.lookup p.2 = none ∧ PySem.W.CodeHd h p.1 p.2) ∧ (ts.map (·.1)).Nodup ∧ (∀ t ∈ ts, ∃ p ∈ cs, p.2 = t.1) ∧
    (∀ (s : Shared) (u : Value), BindsTo s fd ⟨[u], []⟩ [("script", u)]) ∧ ∀ base : Heap, (∀ p ∈ cs, LamX.TabB base mg p.1 p.2) → FnG p w K mg base k fa fd ["script"] (LSp K (lawSt ts))
theorem walk_g {l : PySem.W.OpenLaw} {k : Nat} {q : Program} {loose : List Str} {XP : (Str → Option Value) → Heap → Prop} {YP : World → Heap → Prop} {d : DefRec} {K : Params → PySem.W.Frag}
    (hn : l.most = some 63) (hdf : d.params.defaults = []) (hr : Room k callerA) (hY : ∀ (w : World) (h : Heap), YP w h → (K w.params).In h)
    (F : ∀ (w : World) (mg mb : Str → Option Value) (fa : Addr) (h : Heap) (ls : List Str) (me : ExcName → Option Value), Top q ls me mg mb h → (K w.params).In h → mg d.name = some (.ref fa) → LawAtG l.prog w (K w.params) k mg fa h) :
    PySem.W.WalkO q loose XP YP l.row.toRowW d [] (fun f vs => PySem.call f vs) := by
  refine Att.attach_callB hn hdf ?_
  intro w s₀ s₁ mg mb fa o pm cd doc a vs ns G Y ho hd hcd hmg hobj hints hlen hbits hg
  have KX := hY w _ Y
  obtain ⟨fd, cs, ts, hT, nd, ht, hb, hF⟩ := F w mg mb fa _ _ _ G.T KX hmg
  have D : Hdr (K w.params) mg mb s₁.heap a vs ns cs := ⟨KX, G.T.g, G.T.b, G.T.builtins, G.T.nolimit, G.T.bmain, fun p hp => (hT p hp).1, fun p hp => (hT p hp).2.1, fun p hp => (hT p hp).2.2, hobj, hints, Nat.le_trans hlen (by decide)⟩
  refine law_callG D hg hr hF hb fun H hH hS => law_startT nd (fun p hp => ?_) hS hlen
  obtain ⟨p', hp', e⟩ := ht p hp
  rw [← e]
  exact hH p' hp'
/-- a def that makes lambdas, at the head -/
def TabAt (q : Program) (K : PySem.W.Frag) (x : Str) : Prop := ∃ c P d, PySem.W.tabIn K x = some (c, P) ∧ K.lookup P = none ∧ (recsOf q).find? (fun e => e.name == x) = some d
def tabB (K : PySem.W.Frag) (x : Str) : Bool := match PySem.W.tabIn K x with
  | some (_, P) => (K.lookup P).isNone
  | none => false
theorem tabAt_mk {q : Program} {K : PySem.W.Frag} {x : Str} {d : DefRec} (h : tabB K x = true) (hd : (recsOf q).find? (fun e => e.name == x) = some d) : TabAt q K x := by
  unfold tabB at h
  cases e : PySem.W.tabIn K x with
  | none => rw [e] at h; cases h
  | some r =>
    obtain ⟨c, P⟩ := r
    rw [e] at h
    exact ⟨c, P, d, e, Option.isNone_iff_eq_none.mp h, hd⟩
def nodB : List Addr → Bool
  | [] => true
  | a :: r => !(r.contains a) && nodB r
theorem nod_mk : ∀ {l : List Addr}, nodB l = true → l.Nodup
  | [], _ => List.nodup_nil
  | a :: r, h => by
    simp only [nodB, Bool.and_eq_true, Bool.not_eq_true', List.contains_eq_mem, decide_eq_false_iff_not] at h
    exact List.nodup_cons.mpr ⟨h.1, nod_mk h.2⟩
def lamTs (K : PySem.W.Frag) (xs : List Str) : List (Addr × Str) := xs.map fun x => (tabK K x, x ++ ".<locals>." ++ "<lambda>")
theorem law_atG {p q : Program} {w : World} {K : PySem.W.Frag} {k : Nat} {mg mb : Str → Option Value} {fa : Addr} {h : Heap} {ls : List Str} {me : ExcName → Option Value} {st : Stmt} (xs : List Str) (T : Top q ls me mg mb h) (KX : K.In h) (hmg : mg "law" = some (.ref fa))
    (tb : ∀ x ∈ xs, TabAt q K x) (nd : (xs.map (tabK K)).Nodup) (dl : ∀ base : Heap, Df ⟨p, w, K, mg, base⟩ "law" st ["script"]) (bi : ∀ {fd : FuncData}, Fun K "law" "law" st fa fd → ∀ (s : Shared) (u : Value), BindsTo s fd ⟨[u], []⟩ [("script", u)])
    (main : ∀ base : Heap, (∀ x ∈ xs, ∀ c P, PySem.W.tabIn K x = some (c, P) → LamX.TabB base mg c (tabK K x)) → ∀ {fd : FuncData}, Fun K "law" "law" st (adr ⟨p, w, K, mg, base⟩ "law") fd → FnG p w K mg base k (adr ⟨p, w, K, mg, base⟩ "law") fd ["script"] (LSp K (lawSt (lamTs K xs)))) : LawAtG p w K k mg fa h := by
  obtain ⟨fd, Fu, _⟩ := (dl h).fn
  have ea : ∀ base, adr ⟨p, w, K, mg, base⟩ "law" = fa := fun base => adr_of hmg
  rw [ea h] at Fu
  have main2 : ∀ base : Heap, (∀ x ∈ xs, ∀ c P, PySem.W.tabIn K x = some (c, P) → LamX.TabB base mg c (tabK K x)) → ∀ {fd : FuncData}, Fun K "law" "law" st fa fd → FnG p w K mg base k fa fd ["script"] (LSp K (lawSt (lamTs K xs))) := fun base TB fd Fu => by
    have := @main base TB fd
    rw [ea base] at this
    exact this Fu
  refine ⟨fd, xs.filterMap fun x => PySem.W.tabIn K x, lamTs K xs, fun pr hp => ?_, ?_, fun t ht => ?_, bi Fu, fun base TB => main2 base (fun x hx c P e => ?_) Fu⟩
  · obtain ⟨x, hx, ex⟩ := List.mem_filterMap.mp hp
    obtain ⟨c, P, d, e1, e2, e3⟩ := tb x hx
    rw [e1] at ex
    cases ex
    obtain ⟨t1, t2⟩ := PySem.W.tab_of T KX e3 e1
    exact ⟨t2, e2, t1⟩
  · unfold lamTs
    rw [List.map_map]
    exact nd
  · obtain ⟨x, hx, rfl⟩ := List.mem_map.mp ht
    obtain ⟨c, P, d, e1, e2, e3⟩ := tb x hx
    refine ⟨(c, P), List.mem_filterMap.mpr ⟨x, hx, e1⟩, ?_⟩
    show P = tabK K x
    unfold tabK
    rw [e1]
  · have eT : tabK K x = P := by unfold tabK; rw [e]
    rw [eT]
    exact TB (c, P) (List.mem_filterMap.mpr ⟨x, hx, e⟩)
/-! ### what the check does not look at -/
abbrev EqE (e e' : Ex) : Prop := ∀ N sc x, ckE N e sc x = ckE N e' sc x
abbrev EqEs (e e' : Exs) : Prop := ∀ N sc x, ckEs N e sc x = ckEs N e' sc x
abbrev EqB (e e' : Bx) : Prop := ∀ N sc x, ckB N e sc x = ckB N e' sc x
abbrev EqS (e e' : Sm) : Prop := ∀ N sc x, ckS N sc e x = ckS N sc e' x
abbrev EqSs (e e' : Sms) : Prop := ∀ N sc x, ckSs N sc e x = ckSs N sc e' x
theorem eqSs_cons {s s' : Sm} {r r' : Sms} (h : EqS s s') (k : EqSs r r') : EqSs (.cons s r) (.cons s' r') := fun N sc st => by
  cases st with
  | nil => rfl
  | cons x xs =>
    show (ckS N sc s x && ckSs N sc r xs) = (ckS N sc s' x && ckSs N sc r' xs)
    rw [h, k]
theorem eqS_set {i : Nat} {e e' : Ex} (h : EqE e e') : EqS (.set i e) (.set i e') := fun N sc st => by unfold ckS; simp only [h]
theorem eqS_ret {e e' : Ex} (h : EqE e e') : EqS (.ret e) (.ret e') := fun N sc st => by unfold ckS; simp only [h]
theorem eqS_ife {c c' : Bx} {a a' b b' : Sms} (h : EqB c c') (k : EqSs a a') (l : EqSs b b') : EqS (.ife c a b) (.ife c' a' b') := fun N sc st => by unfold ckS; simp only [h, k, l]
theorem eqB_val {e e' : Ex} (h : EqE e e') : EqB (.val e) (.val e') := fun N sc st => by unfold ckB; simp only [h]
theorem eqB_and {a a' b b' : Bx} (h : EqB a a') (k : EqB b b') : EqB (.and a b) (.and a' b') := fun N sc st => by unfold ckB; simp only [h, k]
theorem eqB_or {a a' b b' : Bx} (h : EqB a a') (k : EqB b b') : EqB (.or a b) (.or a' b') := fun N sc st => by unfold ckB; simp only [h, k]
theorem eqB_nt {a a' : Bx} (h : EqB a a') : EqB (.nt a) (.nt a') := fun N sc st => by unfold ckB; simp only [h]
theorem eqEs_cons {e e' : Ex} {r r' : Exs} (h : EqE e e') (k : EqEs r r') : EqEs (.cons e r) (.cons e' r') := fun N sc st => by
  cases st with
  | nil => rfl
  | cons x xs =>
    show (ckE N e sc x && ckEs N r sc xs) = (ckE N e' sc x && ckEs N r' sc xs)
    rw [h, k]
theorem eqE_lst {e e' : Exs} (h : EqEs e e') : EqE (.lst e) (.lst e') := fun N sc st => by unfold ckE; simp only [h]
theorem eqE_tup {e e' : Exs} (h : EqEs e e') : EqE (.tup e) (.tup e') := fun N sc st => by unfold ckE; simp only [h]
theorem eqE_ix {a a' b b' : Ex} (h : EqE a a') (k : EqE b b') : EqE (.ix a b) (.ix a' b') := fun N sc st => by unfold ckE; simp only [h, k]
theorem eqE_cmp {o : COp} {a a' b b' : Ex} (h : EqE a a') (k : EqE b b') : EqE (.cmp o a b) (.cmp o a' b') := fun N sc st => by unfold ckE; simp only [h, k]
theorem eqE_mth {m : Mth} {a a' : Ex} {b b' : Exs} (h : EqE a a') (k : EqEs b b') : EqE (.mth m a b) (.mth m a' b') := fun N sc st => by unfold ckE; simp only [h, k]
theorem eqE_ise {i : Nat} {a a' : Addr} {D D' cv cv' : Value} {y : Str} {kt kt' : Value → Option Bool} : EqE (.ise i a D y cv kt) (.ise i a' D' y cv' kt') := fun N sc st => rfl
theorem eqE_and {a a' b b' : Ex} (h : EqE a a') (k : EqE b b') : EqE (.and a b) (.and a' b') := fun N sc st => by unfold ckE; simp only [h, k]
theorem eqE_or {a a' b b' : Ex} (h : EqE a a') (k : EqE b b') : EqE (.or a b) (.or a' b') := fun N sc st => by unfold ckE; simp only [h, k]
theorem eqE_ite {c c' : Bx} {a a' b b' : Ex} (h : EqB c c') (k : EqE a a') (l : EqE b b') : EqE (.ite c a b) (.ite c' a' b') := fun N sc st => by unfold ckE; simp only [h, k, l]
theorem HeldL.mono {G : Gx} {j k : Nat} {x : Str} {g : Addr} {Φ : TLam} (H : HeldL G j x g Φ) (h : j ≤ k) : HeldL G k x g Φ := by
  obtain ⟨pg, bg, sg, dV, kV, doc, pm, cdv, ct, oc, an, od, osl, Ng, a, h1, h2, h3, h4, h5, h6, h7, h8, hG⟩ := H
  exact ⟨pg, bg, sg, dV, kV, doc, pm, cdv, ct, oc, an, od, osl, Ng, a, h1, h2, h3, h4, h5, h6, h7, h8, fun X q e1 e2 e3 e4 e5 hr => hG X q e1 e2 e3 e4 e5 (hr.mono h)⟩
end TL

/-! TRepr: texts of trees. -/
namespace TL
open PySem PySem.Spec PyProof.Rows L2
mutual
/-- a tree whose numbers and texts are short -/
def shw : TV → Bool
  | .non => true
  | .bl _ => true
  | .int i => decide (i.natAbs.log2 < 1920) && decide ((PyData.shown (.int i)).length ≤ 500)
  | .str s => s.cps.toList.all fun c => decide (c < 16 ^ 8)
  | .tup xs => shwAll xs
  | _ => false
def shwAll : List TV → Bool
  | [] => true
  | x :: r => shw x && shwAll r
end
mutual
/-- what is told -/
def dd : TV → PyData
  | .non => .none
  | .bl b => .bool b
  | .int i => .int i
  | .str s => .str s
  | .tup xs => .tuple (ddAll xs)
  | _ => .none
def ddAll : List TV → List PyData
  | [] => []
  | x :: r => dd x :: ddAll r
end
mutual
def dpt : TV → Nat
  | .tup xs => dptAll xs + 1
  | _ => 0
def dptAll : List TV → Nat
  | [] => 0
  | x :: r => max (dpt x) (dptAll r)
end
mutual
def blk : TV → Nat
  | .str s => s.cps.size
  | .tup xs => blkAll xs
  | _ => 0
def blkAll : List TV → Nat
  | [] => 0
  | x :: r => blk x + 1 + blkAll r
end
theorem int_shw {i : Int} (h0 : 0 ≤ i) (h : i < 10 ^ 500) : shw (.int i) = true := by
  have l := toString_length_le h0 (k := 500) (by decide) h
  have g : i.natAbs.log2 < 1920 := by
    by_cases z : i.natAbs = 0
    · rw [z]; decide
    · refine (Nat.log2_lt z).mpr ?_
      have e : (i.natAbs : Int) = i := by omega
      have : ((i.natAbs : Nat) : Int) < ((2 ^ 1920 : Nat) : Int) := by
        rw [e, Int.natCast_pow]
        exact Int.lt_of_lt_of_le h (by decide +kernel)
      exact Int.ofNat_lt.mp this
  simp only [shw, Bool.and_eq_true, decide_eq_true_eq]
  exact ⟨g, l⟩
section
variable {M : TM}
mutual
theorem dat_dd : ∀ (x : TV) {n : Nat}, shw x = true → dpt x ≤ n → dat M n x = some (dd x)
  | .non, n, _, _ => by cases n <;> rfl
  | .bl _, n, _, _ => by cases n <;> rfl
  | .int _, n, _, _ => by cases n <;> rfl
  | .str _, n, _, _ => by cases n <;> rfl
  | .tup xs, n, h, d => by
    cases n with
    | zero => simp [dpt] at d
    | succ n =>
      simp only [shw] at h
      simp only [dpt] at d
      simp only [dat, dd, dat_ddAll xs h (show dptAll xs ≤ n by omega)]
  | .ref _, _, h, _ => by simp [shw] at h
  | .ty _, _, h, _ => by simp [shw] at h
  | .kl _, _, h, _ => by simp [shw] at h
  | .thk _ _, _, h, _ => by simp [shw] at h
theorem dat_ddAll : ∀ (xs : List TV) {n : Nat}, shwAll xs = true → dptAll xs ≤ n → optAll (dat M n) xs = some (ddAll xs)
  | [], _, _, _ => rfl
  | x :: r, n, h, d => by
    simp only [shwAll, Bool.and_eq_true] at h
    simp only [dptAll] at d
    simp only [optAll, ddAll, dat_dd x h.1 (show dpt x ≤ n by omega), dat_ddAll r h.2 (show dptAll r ≤ n by omega)]
end
end
mutual
theorem dd_show : ∀ (x : TV), shw x = true → (dd x).showable = true ∧ (dd x).leavesShort 500 = true ∧ (dd x).bulk = blk x
  | .non, _ => ⟨rfl, rfl, rfl⟩
  | .bl _, _ => ⟨rfl, rfl, rfl⟩
  | .int i, h => by
    simp only [shw, Bool.and_eq_true] at h
    exact ⟨h.1, h.2, rfl⟩
  | .str s, h => by
    simp only [shw] at h
    exact ⟨rfl, h, rfl⟩
  | .tup xs, h => by
    simp only [shw] at h
    obtain ⟨a, b, c⟩ := dd_showAll xs h
    simp only [dd, PyData.showable, PyData.leavesShort, PyData.bulk, blk]
    exact ⟨a, b, c⟩
  | .ref _, h => by simp [shw] at h
  | .ty _, h => by simp [shw] at h
  | .kl _, h => by simp [shw] at h
  | .thk _ _, h => by simp [shw] at h
theorem dd_showAll : ∀ (xs : List TV), shwAll xs = true → PyData.showableAll (ddAll xs) = true ∧ PyData.leavesShortAll 500 (ddAll xs) = true ∧ PyData.bulkAll (ddAll xs) = blkAll xs
  | [], _ => ⟨rfl, rfl, rfl⟩
  | x :: r, h => by
    simp only [shwAll, Bool.and_eq_true] at h
    obtain ⟨a, b, c⟩ := dd_show x h.1
    obtain ⟨d, e, f⟩ := dd_showAll r h.2
    simp only [ddAll, PyData.showableAll, PyData.leavesShortAll, PyData.bulkAll, blkAll, a, b, c, d, e, f, Bool.and_self, and_self]
end
theorem shown_ok {d : PyData} (h : d.leavesShort 500 = true) (b : d.bulk ≤ 20000) : d.shown.length ≤ sizeLine := by
  have := PyData.shown_le_bulk 500 (by decide) d h
  have g : (500 + 2) * d.bulk ≤ 502 * 20000 := Nat.mul_le_mul_left _ b
  rw [sizeLine_eq]
  omega
/-- repr of a tuple -/
theorem rep_tup {M : TM} {Q : TK} {xs : List TV} (h : shwAll xs = true) (d : dptAll xs < 40) (b : blkAll xs ≤ 20000) (q : Q (.str (PyData.tuple (ddAll xs)).shown) M) : wRpr (.tup xs) M Q := by
  obtain ⟨k1, k2, k3⟩ := dd_showAll xs h
  refine ⟨rfl, dptAll xs + 1, .tuple (ddAll xs), by omega, dat_dd (.tup xs) h (Nat.le_refl _), k1, shown_ok (by simpa only [PyData.leavesShort] using k2) ?_, q⟩
  show PyData.bulkAll (ddAll xs) ≤ _
  rw [k3]
  exact b
/-- repr of a list -/
theorem rep_lst {M : TM} {Q : TK} {a : Addr} {xs : List TV} (e : lsM M a = some xs) (h : shwAll xs = true) (d : dptAll xs < 40) (b : blkAll xs ≤ 20000) (q : Q (.str (PyData.list (ddAll xs)).shown) M) : wRpr (.ref a) M Q := by
  obtain ⟨k1, k2, k3⟩ := dd_showAll xs h
  refine ⟨rfl, dptAll xs + 1, .list (ddAll xs), by omega, ?_, k1, shown_ok (by simpa only [PyData.leavesShort] using k2) ?_, q⟩
  · simp only [dat, e, dat_ddAll xs h (Nat.le_refl _)]
  · show PyData.bulkAll (ddAll xs) ≤ _
    rw [k3]
    exact b
theorem eq_strs {M : TM} (a b : Str) : eqF M (.str a) (.str b) = some (a == b) := rfl
/-! == of trees -/
mutual
/-- texts that may stand in data -/
def lay : TV → Bool
  | .non => true
  | .bl _ => true
  | .int _ => true
  | .str s => PyData.strOk s
  | .tup xs => layAll xs
  | _ => false
def layAll : List TV → Bool
  | [] => true
  | x :: r => lay x && layAll r
end
mutual
theorem dat_lay {M : TM} : ∀ (x : TV) {n : Nat}, lay x = true → dpt x ≤ n → dat M n x = some (dd x) ∧ (dd x).canLay0 = true ∧ (dd x).depth ≤ dpt x
  | .non, n, _, _ => by cases n <;> exact ⟨rfl, rfl, Nat.le_refl _⟩
  | .bl _, n, _, _ => by cases n <;> exact ⟨rfl, rfl, Nat.le_refl _⟩
  | .int _, n, _, _ => by cases n <;> exact ⟨rfl, rfl, Nat.le_refl _⟩
  | .str _, n, h, _ => by cases n <;> exact ⟨rfl, h, Nat.le_refl _⟩
  | .tup xs, n, h, d => by
    cases n with
    | zero => simp [dpt] at d
    | succ n =>
      simp only [lay] at h
      simp only [dpt] at d
      obtain ⟨a, b, c⟩ := dat_layAll (M := M) xs h (show dptAll xs ≤ n by omega)
      refine ⟨by simp only [dat, dd, a], by simpa only [dd, PyData.canLay0] using b, ?_⟩
      simp only [dd, PyData.depth, dpt]
      omega
  | .ref _, _, h, _ => by simp [lay] at h
  | .ty _, _, h, _ => by simp [lay] at h
  | .kl _, _, h, _ => by simp [lay] at h
  | .thk _ _, _, h, _ => by simp [lay] at h
theorem dat_layAll {M : TM} : ∀ (xs : List TV) {n : Nat}, layAll xs = true → dptAll xs ≤ n → optAll (dat M n) xs = some (ddAll xs) ∧ PyData.canLayAll0 (ddAll xs) = true ∧ PyData.depthAll (ddAll xs) ≤ dptAll xs
  | [], _, _, _ => ⟨rfl, rfl, Nat.le_refl _⟩
  | x :: r, n, h, d => by
    simp only [layAll, Bool.and_eq_true] at h
    simp only [dptAll] at d
    obtain ⟨a, b, c⟩ := dat_lay (M := M) x h.1 (show dpt x ≤ n by omega)
    obtain ⟨e, f, g⟩ := dat_layAll (M := M) r h.2 (show dptAll r ≤ n by omega)
    refine ⟨by simp only [optAll, ddAll, a, e], by simp only [ddAll, PyData.canLayAll0, b, f, Bool.and_self], ?_⟩
    simp only [ddAll, PyData.depthAll, dptAll]
    omega
end
theorem eq_dat {M : TM} {x y : TV} {d e : PyData} (h1 : dat M 65 x = some d) (h2 : dat M 65 y = some e) (c1 : d.canLay0 = true) (c2 : e.canLay0 = true) (p1 : d.depth ≤ 64) (p2 : e.depth ≤ 64) : eqD M x y = some (PyData.eqv d e) := by
  unfold eqD
  rw [h1, h2]
  have s1 : SeqAt.shaped d = true := by
    unfold SeqAt.shaped
    simp only [Bool.and_eq_true, decide_eq_true_eq]
    exact ⟨c1, p1⟩
  have s2 : SeqAt.shaped e = true := by
    unfold SeqAt.shaped
    simp only [Bool.and_eq_true, decide_eq_true_eq]
    exact ⟨c2, p2⟩
  dsimp only
  rw [s1, s2]
  rfl
/-- a tuple is what it is -/
theorem eq_tup {M : TM} {xs : List TV} (h : layAll xs = true) (d : dptAll xs ≤ 60) : eqF M (.tup xs) (.tup xs) = some true := by
  obtain ⟨a, b, c⟩ := dat_lay (M := M) (.tup xs) (n := 65) h (by simp only [dpt]; omega)
  simp only [dpt] at c
  show eqD M _ _ = _
  rw [eq_dat a a b b (by omega) (by omega), SeqAt.eqv_refl _ b]
/-- two lists of the same -/
theorem eq_lst {M : TM} {a b : Addr} {xs : List TV} (e1 : lsM M a = some xs) (e2 : lsM M b = some xs) (h : layAll xs = true) (d : dptAll xs ≤ 60) : eqF M (.ref a) (.ref b) = some true := by
  obtain ⟨k1, k2, k3⟩ := dat_layAll (M := M) xs (n := 64) h (by omega)
  have g : ∀ {c : Addr}, lsM M c = some xs → dat M 65 (.ref c) = some (.list (ddAll xs)) := fun e => by simp only [dat, e, k1]
  have cl : (PyData.list (ddAll xs)).canLay0 = true := by simpa only [PyData.canLay0] using k2
  have dl : (PyData.list (ddAll xs)).depth ≤ 64 := by simp only [PyData.depth]; omega
  show eqD M _ _ = _
  rw [eq_dat (g e1) (g e2) cl cl dl dl, SeqAt.eqv_refl _ cl]
end TL

/-! TPlan: plans. -/
namespace TL
open PySem PySem.Spec PyProof.Rows L2

mutual
inductive Pl where
  | place (l w : Int)
  | rep (c : Bool) (n : Int) (p : Pl)
  | join (r : Bool) (ps : Pls)
inductive Pls where
  | nil
  | cons (p : Pl) (r : Pls)
end
def wRep (c : Bool) : Str := if c then "copies" else "times"
def wJoin (r : Bool) : Str := if r then "row" else "beside"
mutual
def Pl.tv : Pl → TV
  | .place l w => .tup [.int l, .int w]
  | .rep c n p => .tup [.str (wRep c), .int n, p.tv]
  | .join r ps => .tup [.str (wJoin r), .tup ps.tvs]
def Pls.tvs : Pls → List TV
  | .nil => []
  | .cons p r => p.tv :: r.tvs
end
def Pls.len : Pls → Nat
  | .nil => 0
  | .cons _ r => r.len + 1
mutual
def Pl.dep : Pl → Nat
  | .place _ _ => 0
  | .rep _ _ p => p.dep + 1
  | .join _ ps => ps.dep + 1
def Pls.dep : Pls → Nat
  | .nil => 0
  | .cons p r => max p.dep r.dep
end
mutual
def Pl.size : Pl → Nat
  | .place _ _ => 1
  | .rep _ _ p => p.size + 1
  | .join _ ps => ps.size + 1
def Pls.size : Pls → Nat
  | .nil => 0
  | .cons p r => p.size + r.size
end
mutual
/-- sums over the places written out, each copy by itself -/
def Pl.val (f : Int → Int → Int) : Pl → Int
  | .place l w => f l w
  | .rep _ n p => n * p.val f
  | .join _ ps => ps.val f
def Pls.val (f : Int → Int → Int) : Pls → Int
  | .nil => 0
  | .cons p r => p.val f + r.val f
end
abbrev Pl.cnt (p : Pl) : Int := p.val fun _ _ => 1
abbrev Pl.tl (p : Pl) : Int := p.val fun l _ => l
abbrev Pl.tw (p : Pl) : Int := p.val fun _ w => w
mutual
/-- numbers and parts as they may be -/
def Pl.ok : Pl → Prop
  | .place l w => 0 ≤ l ∧ l < 1000000000000 ∧ 0 ≤ w ∧ w < 1000000000000 ∧ ¬ (l = 0 ∧ w = 0)
  | .rep _ n p => 1 ≤ n ∧ n ≤ 1000000000000000000000000000000 ∧ p.ok
  | .join _ ps => 1 ≤ ps.len ∧ ps.len ≤ 12 ∧ ps.ok
def Pls.ok : Pls → Prop
  | .nil => True
  | .cons p r => p.ok ∧ r.ok
end
def Pl.isP : Pl → Bool
  | .place _ _ => true
  | _ => false
theorem Pls.tvs_len : ∀ ps : Pls, ps.tvs.length = ps.len
  | .nil => rfl
  | .cons _ r => by simp only [Pls.tvs, Pls.len, List.length_cons, Pls.tvs_len r]
mutual
theorem Pl.size_pos : ∀ p : Pl, 1 ≤ p.size
  | .place _ _ => Nat.le_refl _
  | .rep _ _ p => Nat.le_add_left _ _
  | .join _ ps => Nat.le_add_left _ _
end
theorem Pls.mem_tvs : ∀ {ps : Pls} {x : TV}, x ∈ ps.tvs → ∃ p : Pl, x = p.tv ∧ p.dep ≤ ps.dep ∧ p.size ≤ ps.size ∧ (ps.ok → p.ok)
  | .nil, _, h => by cases h
  | .cons p r, x, h => by
    rcases List.mem_cons.mp h with e | h
    · exact ⟨p, e, Nat.le_max_left _ _, Nat.le_add_right _ _, fun o => o.1⟩
    · obtain ⟨q, e, d, z, o⟩ := Pls.mem_tvs h
      exact ⟨q, e, Nat.le_trans d (Nat.le_max_right _ _), Nat.le_trans z (Nat.le_add_left _ _), fun k => o k.2⟩
theorem add_le_mul {a b : Int} (ha : 2 ≤ a) (hb : 2 ≤ b) : a + b ≤ a * b := by
  rcases Int.le_total a b with h | h
  · have := Int.mul_le_mul_of_nonneg_right ha (show 0 ≤ b by omega)
    omega
  · have := Int.mul_le_mul_of_nonneg_left hb (show 0 ≤ a by omega)
    omega
theorem two_pow_ge {k : Nat} (h : 1 ≤ k) : (2 : Int) ≤ 2 ^ (128 * k) := by
  have e : 128 * k = (128 * k - 1) + 1 := by omega
  rw [e, Int.pow_succ]
  have : (0 : Int) < 2 ^ (128 * k - 1) := Int.pow_pos (by decide)
  omega
mutual
theorem Pl.val_le {f : Int → Int → Int} (hf : ∀ l w, (Pl.place l w).ok → 0 ≤ f l w ∧ f l w ≤ 2 ^ 128) : ∀ p : Pl, p.ok → 0 ≤ p.val f ∧ p.val f ≤ 2 ^ (128 * p.size)
  | .place l w, ok => hf l w ok
  | .rep _ n p, ok => by
    obtain ⟨h1, h2, h3⟩ := ok
    obtain ⟨a, b⟩ := Pl.val_le hf p h3
    simp only [Pl.val, Pl.size]
    refine ⟨Int.mul_nonneg (by omega) a, ?_⟩
    have e : 128 * (p.size + 1) = 128 + 128 * p.size := by omega
    rw [e, Int.pow_add]
    exact Int.mul_le_mul (by omega) b a (by decide)
  | .join _ ps, ok => by
    obtain ⟨h1, h2, h3⟩ := ok
    obtain ⟨a, b, _⟩ := Pls.val_le hf ps h3
    simp only [Pl.val, Pl.size]
    refine ⟨a, Int.le_trans b ?_⟩
    have e : 128 * (ps.size + 1) = 128 + 128 * ps.size := by omega
    rw [e, Int.pow_add]
    have : (0 : Int) < 2 ^ (128 * ps.size) := Int.pow_pos (by decide)
    have := Int.mul_le_mul_of_nonneg_right (show (1 : Int) ≤ 2 ^ 128 by decide) (Int.le_of_lt this)
    omega
theorem Pls.val_le {f : Int → Int → Int} (hf : ∀ l w, (Pl.place l w).ok → 0 ≤ f l w ∧ f l w ≤ 2 ^ 128) : ∀ ps : Pls, ps.ok → 0 ≤ ps.val f ∧ ps.val f ≤ 2 ^ (128 * ps.size) ∧ (ps.size = 0 → ps.val f = 0)
  | .nil, _ => ⟨Int.le_refl 0, Int.le_of_lt (Int.pow_pos (by decide)), fun _ => rfl⟩
  | .cons p r, ok => by
    obtain ⟨a, b⟩ := Pl.val_le hf p ok.1
    obtain ⟨c, d, e⟩ := Pls.val_le hf r ok.2
    have hp := p.size_pos
    simp only [Pls.val, Pls.size]
    refine ⟨by omega, ?_, by omega⟩
    by_cases z : r.size = 0
    · rw [e z, z]
      simpa using b
    · have e1 : 128 * (p.size + r.size) = 128 * p.size + 128 * r.size := by omega
      rw [e1, Int.pow_add]
      have := add_le_mul (two_pow_ge hp) (two_pow_ge (show 1 ≤ r.size by omega))
      omega
end
theorem log_le {v : Int} {k : Nat} (h0 : 0 ≤ v) (h : v ≤ 2 ^ k) : v.natAbs.log2 ≤ k := by
  have h1 : v.natAbs ≤ 2 ^ k := by
    have : ((v.natAbs : Nat) : Int) ≤ ((2 ^ k : Nat) : Int) := by
      rw [Int.natCast_pow]
      have e : ((v.natAbs : Nat) : Int) = v := by omega
      rw [e]; exact h
    exact Int.ofNat_le.mp this
  by_cases z : v.natAbs = 0
  · rw [z]; simp
  · have h2 : v.natAbs < 2 ^ (k + 1) := by rw [Nat.pow_succ]; have : 0 < 2 ^ k := Nat.pow_pos (by decide); omega
    have := (Nat.log2_lt z).mpr h2
    omega
/-- a product that the model lets -/
theorem mul_fits {f : Int → Int → Int} (hf : ∀ l w, (Pl.place l w).ok → 0 ≤ f l w ∧ f l w ≤ 2 ^ 128) {p : Pl} {n : Int} (ok : p.ok) (hz : p.size ≤ 1000) (h1 : 1 ≤ n) (h2 : n ≤ 1000000000000000000000000000000) : n.natAbs.log2 + (p.val f).natAbs.log2 < 1000000 := by
  obtain ⟨a, b⟩ := Pl.val_le hf p ok
  have l1 := log_le a b
  have l2 := log_le (k := 128) (show 0 ≤ n by omega) (by omega)
  omega
theorem f_cnt : ∀ l w, (Pl.place l w).ok → 0 ≤ (fun _ _ => 1 : Int → Int → Int) l w ∧ (fun _ _ => 1 : Int → Int → Int) l w ≤ 2 ^ 128 := fun _ _ _ => ⟨(by decide : (0 : Int) ≤ 1), (by decide : (1 : Int) ≤ 2 ^ 128)⟩
theorem f_tl : ∀ l w, (Pl.place l w).ok → 0 ≤ (fun l _ => l : Int → Int → Int) l w ∧ (fun l _ => l : Int → Int → Int) l w ≤ 2 ^ 128 := fun l w ok => by
  obtain ⟨a, b, c, d, e⟩ := ok
  dsimp only
  omega
theorem f_tw : ∀ l w, (Pl.place l w).ok → 0 ≤ (fun _ w => w : Int → Int → Int) l w ∧ (fun _ w => w : Int → Int → Int) l w ≤ 2 ^ 128 := fun l w ok => by
  obtain ⟨a, b, c, d, e⟩ := ok
  dsimp only
  omega
def Pls.map (g : Pl → TV) : Pls → List TV
  | .nil => []
  | .cons p r => g p :: r.map g
def Pls.ints (f : Pl → Int) : Pls → List Int
  | .nil => []
  | .cons p r => f p :: r.ints f
def Pls.all (P : Pl → Prop) : Pls → Prop
  | .nil => True
  | .cons p r => P p ∧ r.all P
theorem Pls.all_imp {P Q : Pl → Prop} (h : ∀ p, P p → Q p) : ∀ {ps : Pls}, ps.all P → ps.all Q
  | .nil, _ => trivial
  | .cons p r, a => ⟨h p a.1, Pls.all_imp h a.2⟩
theorem Pls.all_of (ps : Pls) : ∀ {P : Pl → Prop}, (∀ p : Pl, p.dep ≤ ps.dep → p.size ≤ ps.size → True → (ps.ok → p.ok) → P p) → ps.all P := by
  induction ps using Pls.rec (motive_1 := fun _ => True) with
  | place => trivial
  | rep => trivial
  | join => trivial
  | nil => intro P h; trivial
  | cons p r _ ih =>
    intro P h
    refine ⟨h p (Nat.le_max_left _ _) (Nat.le_add_right _ _) trivial fun o => o.1, ih fun q a b _ c => h q (Nat.le_trans a (Nat.le_max_right _ _)) (Nat.le_trans b (Nat.le_add_left _ _)) trivial fun o => c o.2⟩
theorem Pls.ints_sum (f : Int → Int → Int) : ∀ ps : Pls, (ps.ints (·.val f)).sum = ps.val f
  | .nil => rfl
  | .cons p r => by simp only [Pls.ints, List.sum_cons, Pls.val, Pls.ints_sum f r]
def Pl.pair (p : Pl) : TV := .tup [.int p.tl, .int p.tw]
theorem allI_map' (f : Pl → Int) : ∀ ps : Pls, allI (ps.map fun p => .int (f p)) = some (ps.ints f)
  | .nil => rfl
  | .cons p r => by simp only [Pls.map, Pls.ints, allI, allI_map' f r]
theorem lcL_pls {chk : TM → Prop} {step : List TV → TV → TM → (List TV → TM → Prop) → Prop} {fin : List TV → TM → Prop} (g : Pl → TV) (P : Pl → Prop) : ∀ {ps : Pls} {acc : List TV} {M0 M : TM}, Subm M0 M → (∀ M, Subm M0 M → chk M) →
    (∀ p, P p → ∀ acc M k, Subm M0 M → (∀ M', Subm M M' → k (acc ++ [g p]) M') → step acc p.tv M k) → ps.all P → (∀ M', Subm M0 M' → fin (acc ++ ps.map g) M') → lcL chk step fin ps.tvs acc M
  | .nil, acc, M0, M, h, hc, hs, _, hf => ⟨hc M h, by simpa [Pls.map] using hf M h⟩
  | .cons p r, acc, M0, M, h, hc, hs, ha, hf => ⟨hc M h, hs p ha.1 acc M _ h fun M' h' => lcL_pls g P (ps := r) (h.trans h') hc hs ha.2 (by simpa [Pls.map] using hf)⟩
theorem Pls.mem_map {g : Pl → TV} : ∀ {ps : Pls} {x : TV}, x ∈ ps.map g → ∃ p, x = g p
  | .cons p r, x, h => by
    rcases List.mem_cons.mp h with e | h
    · exact ⟨p, e⟩
    · exact Pls.mem_map h
  | .nil, x, h => by cases h
/-- a pair's first, its second -/
def fst : TV → TV
  | .tup [a, _] => a
  | x => x
def snd : TV → TV
  | .tup [_, b] => b
  | x => x
theorem allI_fst : ∀ ps : Pls, allI ((ps.map Pl.pair).map fst) = some (ps.ints fun p => p.tl)
  | .nil => rfl
  | .cons p r => by simp only [Pls.map, List.map_cons, Pls.ints, Pl.pair, fst, allI, allI_fst r]
theorem allI_snd : ∀ ps : Pls, allI ((ps.map Pl.pair).map snd) = some (ps.ints fun p => p.tw)
  | .nil => rfl
  | .cons p r => by simp only [Pls.map, List.map_cons, Pls.ints, Pl.pair, snd, allI, allI_snd r]
end TL

/-! TBow: bows in plain mathematics: tightening, rows, parts beside. -/
namespace TL.Bw

/-- a step: a length, a weight -/
abbrev Sp := Int × Int
def add (a b : Sp) : Sp := (a.1 + b.1, a.2 + b.2)
def ok (a : Sp) : Prop := 0 ≤ a.1 ∧ 0 ≤ a.2 ∧ ¬ (a.1 = 0 ∧ a.2 = 0)
/-- the one is better than the other -/
def bt (a b : Sp) : Bool := decide (b.2 * a.1 < a.2 * b.1)
def nb (a b : Sp) : Prop := a.2 * b.1 ≤ b.2 * a.1
theorem bt_false {a b : Sp} : bt a b = false ↔ nb a b := by
  unfold bt nb
  rw [decide_eq_false_iff_not]
  omega
theorem bt_true {a b : Sp} : bt a b = true ↔ ¬ nb a b := by
  unfold bt nb
  rw [decide_eq_true_iff]
  omega
theorem add_assoc (a b c : Sp) : add (add a b) c = add a (add b c) := by
  unfold add
  ext <;> simp <;> omega
theorem add_comm (a b : Sp) : add a b = add b a := by
  unfold add
  ext <;> simp <;> omega
theorem ok_add {a b : Sp} (ha : ok a) (hb : ok b) : ok (add a b) := by
  obtain ⟨a1, a2, a3⟩ := ha
  obtain ⟨b1, b2, b3⟩ := hb
  refine ⟨?_, ?_, ?_⟩ <;> simp only [add] <;> omega
/-- by slopes: transitive, the middle one being no nothing -/
theorem nb_trans {a b c : Sp} (ha : ok a) (hb : ok b) (hc : ok c) (h1 : nb a b) (h2 : nb b c) : nb a c := by
  unfold nb at *
  obtain ⟨a1, a2, a3⟩ := ha
  obtain ⟨b1, b2, b3⟩ := hb
  obtain ⟨c1, c2, c3⟩ := hc
  -- a2 b1 <= b2 a1, b2 c1 <= c2 b1
  by_cases z : b.1 = 0
  · rw [z] at h1 h2
    simp only [Int.mul_zero] at h1 h2
    have b2p : 0 < b.2 := by omega
    have c1z : c.1 = 0 := by
      by_cases q : c.1 = 0
      · exact q
      · have : 0 < b.2 * c.1 := Int.mul_pos b2p (by omega)
        omega
    rw [c1z, Int.mul_zero]
    exact Int.mul_nonneg c2 a1
  · have bp : 0 < b.1 := by omega
    have e1 : a.2 * b.1 * c.1 ≤ b.2 * a.1 * c.1 := Int.mul_le_mul_of_nonneg_right h1 c1
    have e2 : b.2 * c.1 * a.1 ≤ c.2 * b.1 * a.1 := Int.mul_le_mul_of_nonneg_right h2 a1
    have e3 : b.2 * a.1 * c.1 = b.2 * c.1 * a.1 := by rw [Int.mul_assoc, Int.mul_comm a.1, ← Int.mul_assoc]
    have e4 : (a.2 * c.1) * b.1 ≤ (c.2 * a.1) * b.1 := by
      have l : (a.2 * c.1) * b.1 = a.2 * b.1 * c.1 := by rw [Int.mul_assoc, Int.mul_comm c.1, ← Int.mul_assoc]
      have r : (c.2 * a.1) * b.1 = c.2 * b.1 * a.1 := by rw [Int.mul_assoc, Int.mul_comm a.1, ← Int.mul_assoc]
      omega
    exact Int.le_of_mul_le_mul_right e4 bp
theorem nb_add_left {a b c : Sp} (h1 : nb a c) (h2 : nb b c) : nb (add a b) c := by
  unfold nb add at *
  simp only [Int.add_mul, Int.mul_add]
  omega
theorem nb_add_right {a b c : Sp} (h1 : nb a b) (h2 : nb a c) : nb a (add b c) := by
  unfold nb add at *
  simp only [Int.add_mul, Int.mul_add]
  omega
theorem nb_total (a b : Sp) : nb a b ∨ nb b a := by
  unfold nb
  omega
theorem nb_of_bt {a b : Sp} (h : bt a b = true) : nb b a := (nb_total b a).resolve_right (bt_true.mp h)
/-! ### tightening -/
/-- a step onto the stack (the last one first) -/
def push : List Sp → Sp → List Sp
  | [], a => [a]
  | t :: r, a => if bt t a = true then a :: t :: r else push r (add t a)
def hull (xs : List Sp) : List Sp := (xs.foldl push []).reverse
def allOk (xs : List Sp) : Prop := ∀ x ∈ xs, ok x
theorem push_ok : ∀ {r : List Sp} {a : Sp}, allOk r → ok a → allOk (push r a)
  | [], a, _, h => fun x hx => by rw [List.mem_singleton.mp hx]; exact h
  | t :: r, a, hr, h => by
    unfold push
    split
    · intro x hx
      rcases List.mem_cons.mp hx with e | hx
      · rw [e]; exact h
      · exact hr x hx
    · exact push_ok (fun x hx => hr x (List.mem_cons_of_mem _ hx)) (ok_add (hr t List.mem_cons_self) h)
theorem foldl_ok : ∀ {xs r : List Sp}, allOk r → allOk xs → allOk (xs.foldl push r)
  | [], _, h, _ => h
  | x :: xs, r, h, hx => by
    rw [List.foldl_cons]
    exact foldl_ok (xs := xs) (push_ok h (hx x List.mem_cons_self)) fun y hy => hx y (List.mem_cons_of_mem _ hy)
theorem hull_ok {xs : List Sp} (h : allOk xs) : allOk (hull xs) := fun x hx => foldl_ok (r := []) (fun _ h => by cases h) h x (List.mem_reverse.mp hx)
/-- THE KEY: two that melt may melt first -/
theorem push_merge : ∀ {r : List Sp} {a b : Sp}, allOk r → ok a → ok b → nb a b → push (push r a) b = push r (add a b)
  | [], a, b, _, ha, hb, h => by
    show (if bt a b = true then b :: a :: [] else push [] (add a b)) = push [] (add a b)
    rw [bt_false.mpr h, if_neg Bool.false_ne_true]
  | t :: r, a, b, hr, ha, hb, h => by
    have ht := hr t List.mem_cons_self
    have hr' : allOk r := fun x hx => hr x (List.mem_cons_of_mem _ hx)
    by_cases c : bt t a = true
    · have e : push (t :: r) a = a :: t :: r := if_pos c
      rw [e]
      show (if bt a b = true then _ else push (t :: r) (add a b)) = _
      rw [bt_false.mpr h, if_neg Bool.false_ne_true]
    · have e : push (t :: r) a = push r (add t a) := if_neg c
      have n1 : nb t a := bt_false.mp (by simpa using c)
      have n2 : nb t b := nb_trans ht ha hb n1 h
      have e2 : push (t :: r) (add a b) = push r (add t (add a b)) := if_neg (by rw [bt_false.mpr (nb_add_right n1 n2)]; exact Bool.false_ne_true)
      rw [e, e2, push_merge hr' (ok_add ht ha) hb (nb_add_left n2 h), add_assoc]
theorem hull_merge {l r : List Sp} {a b : Sp} (hl : allOk l) (ha : ok a) (hb : ok b) (h : nb a b) : hull (l ++ a :: b :: r) = hull (l ++ add a b :: r) := by
  unfold hull
  simp only [List.foldl_append, List.foldl_cons]
  rw [push_merge (foldl_ok (fun _ h => by cases h) hl) ha hb h]
/-- alike within all that is around -/
def Eqv (x y : List Sp) : Prop := ∀ l r, allOk l → hull (l ++ x ++ r) = hull (l ++ y ++ r)
theorem Eqv.refl (x : List Sp) : Eqv x x := fun _ _ _ => rfl
theorem Eqv.symm {x y : List Sp} (h : Eqv x y) : Eqv y x := fun l r hl => (h l r hl).symm
theorem Eqv.trans {x y z : List Sp} (h : Eqv x y) (g : Eqv y z) : Eqv x z := fun l r hl => (h l r hl).trans (g l r hl)
theorem Eqv.right {x y : List Sp} (h : Eqv x y) (z : List Sp) : Eqv (x ++ z) (y ++ z) := fun l r hl => by
  have := h l (z ++ r) hl
  simpa only [List.append_assoc] using this
theorem Eqv.left {x y z : List Sp} (h : Eqv x y) (hz : allOk z) : Eqv (z ++ x) (z ++ y) := fun l r hl => by
  have := h (l ++ z) r (fun w hw => (List.mem_append.mp hw).elim (hl w) (hz w))
  simpa only [List.append_assoc] using this
theorem push_eqv : ∀ {r : List Sp} {a : Sp}, allOk r → ok a → Eqv (r.reverse ++ [a]) (push r a).reverse
  | [], a, _, _ => .refl _
  | t :: r, a, hr, ha => by
    have ht := hr t List.mem_cons_self
    have hr' : allOk r := fun x hx => hr x (List.mem_cons_of_mem _ hx)
    unfold push
    split
    · simp only [List.reverse_cons, List.append_assoc]
      exact .refl _
    · rename_i c
      have n1 : nb t a := bt_false.mp (by simpa using c)
      refine Eqv.trans ?_ (push_eqv hr' (ok_add ht ha))
      intro l r2 hl
      have hm := hull_merge (l := l ++ r.reverse) (r := r2) (fun w hw => (List.mem_append.mp hw).elim (hl w) fun h => hr' w (List.mem_reverse.mp h)) ht ha n1
      simpa only [List.reverse_cons, List.append_assoc, List.cons_append, List.nil_append] using hm
theorem foldl_eqv : ∀ {xs r : List Sp}, allOk r → allOk xs → Eqv (r.reverse ++ xs) (xs.foldl push r).reverse
  | [], r, _, _ => by rw [List.append_nil]; exact .refl _
  | x :: xs, r, hr, hx => by
    have h0 := hx x List.mem_cons_self
    have e : r.reverse ++ x :: xs = (r.reverse ++ [x]) ++ xs := by simp
    rw [e]
    exact ((push_eqv hr h0).right xs).trans (foldl_eqv (push_ok hr h0) fun y hy => hx y (List.mem_cons_of_mem _ hy))
theorem hull_eqv {xs : List Sp} (h : allOk xs) : Eqv xs (hull xs) := foldl_eqv (r := []) (fun _ h => by cases h) h
theorem Eqv.hull {x y : List Sp} (h : Eqv x y) : hull x = hull y := by
  have := h [] [] (fun _ h => by cases h)
  simpa using this
theorem hull_left {x y : List Sp} (h : allOk x) : hull (hull x ++ y) = hull (x ++ y) := ((hull_eqv h).right y).hull.symm
theorem hull_right {x y : List Sp} (hx : allOk x) (hy : allOk y) : hull (x ++ hull y) = hull (x ++ y) := ((hull_eqv hy).left hx).hull.symm
theorem hull_hull {x : List Sp} (h : allOk x) : hull (hull x) = hull x := by
  have := hull_left (y := []) h
  simpa using this
/-! ### what a bow is -/
/-- each step better than the next -/
def Fall : List Sp → Prop
  | a :: b :: r => bt a b = true ∧ Fall (b :: r)
  | _ => True
theorem foldl_fall : ∀ {xs : List Sp} {t : Sp} {r : List Sp}, Fall (t :: xs) → xs.foldl push (t :: r) = xs.reverse ++ t :: r
  | [], t, r, _ => rfl
  | x :: xs, t, r, h => by
    have e : push (t :: r) x = x :: t :: r := if_pos h.1
    rw [List.foldl_cons, e, foldl_fall h.2]
    simp
theorem hull_fall {xs : List Sp} (h : Fall xs) : hull xs = xs := by
  cases xs with
  | nil => rfl
  | cons t xs =>
    unfold hull
    rw [List.foldl_cons]
    show (xs.foldl push [t]).reverse = _
    rw [foldl_fall h]
    simp
/-- the stack: each one beneath is better -/
def FallR : List Sp → Prop
  | a :: b :: r => bt b a = true ∧ FallR (b :: r)
  | _ => True
theorem push_fall : ∀ {r : List Sp} {a : Sp}, FallR r → FallR (push r a)
  | [], a, _ => trivial
  | t :: r, a, h => by
    unfold push
    split
    · rename_i c
      exact ⟨c, h⟩
    · refine push_fall ?_
      cases r with
      | nil => trivial
      | cons u r => exact h.2
theorem foldl_fallR : ∀ {xs r : List Sp}, FallR r → FallR (xs.foldl push r)
  | [], _, h => h
  | x :: xs, r, h => by
    rw [List.foldl_cons]
    exact foldl_fallR (xs := xs) (push_fall h)
theorem fall_snoc : ∀ {xs : List Sp} {a b : Sp}, Fall (xs ++ [a]) → bt a b = true → Fall (xs ++ [a, b])
  | [], a, b, _, h => ⟨h, trivial⟩
  | [x], a, b, h, g => ⟨h.1, g, trivial⟩
  | x :: y :: r, a, b, h, g => ⟨h.1, fall_snoc (xs := y :: r) h.2 g⟩
theorem fall_rev : ∀ {r : List Sp}, FallR r → Fall r.reverse
  | [], _ => trivial
  | [_], _ => trivial
  | a :: b :: r, h => by
    have ih := fall_rev (r := b :: r) h.2
    simp only [List.reverse_cons] at ih ⊢
    rw [List.append_assoc]
    exact fall_snoc ih h.1
theorem hull_is_fall (xs : List Sp) : Fall (hull xs) := fall_rev (foldl_fallR (r := []) trivial)
/-! ### sums -/
def sm1 (xs : List Sp) : Int := (xs.map (·.1)).sum
def sm2 (xs : List Sp) : Int := (xs.map (·.2)).sum
theorem sm1_app (x y : List Sp) : sm1 (x ++ y) = sm1 x + sm1 y := by simp [sm1]
theorem sm2_app (x y : List Sp) : sm2 (x ++ y) = sm2 x + sm2 y := by simp [sm2]
theorem push_sum : ∀ (r : List Sp) (a : Sp), sm1 (push r a) = sm1 r + a.1 ∧ sm2 (push r a) = sm2 r + a.2
  | [], a => by simp [push, sm1, sm2]
  | t :: r, a => by
    unfold push
    split
    · simp only [sm1, sm2, List.map_cons, List.sum_cons]
      omega
    · have := push_sum r (add t a)
      simp only [sm1, sm2, List.map_cons, List.sum_cons, add] at *
      omega
theorem foldl_sum : ∀ (xs r : List Sp), sm1 (xs.foldl push r) = sm1 r + sm1 xs ∧ sm2 (xs.foldl push r) = sm2 r + sm2 xs
  | [], r => by simp [sm1, sm2]
  | x :: xs, r => by
    have h1 := foldl_sum xs (push r x)
    have h2 := push_sum r x
    simp only [List.foldl_cons]
    simp only [sm1, sm2, List.map_cons, List.sum_cons] at *
    omega
theorem hull_sum (xs : List Sp) : sm1 (hull xs) = sm1 xs ∧ sm2 (hull xs) = sm2 xs := by
  have := foldl_sum xs []
  unfold hull
  simp only [sm1, sm2, List.map_reverse, List.sum_reverse] at *
  simp at this
  exact this
end TL.Bw

/-! TBow2: parts beside: merging, meetings. -/
namespace TL.Bw
/-- alike slopes -/
def EqS (a b : Sp) : Prop := nb a b ∧ nb b a
theorem nb_refl (a : Sp) : nb a a := Int.le_refl _
theorem EqS.refl (a : Sp) : EqS a a := ⟨nb_refl a, nb_refl a⟩
theorem EqS.symm {a b : Sp} (h : EqS a b) : EqS b a := ⟨h.2, h.1⟩
theorem EqS.trans {a b c : Sp} (ha : ok a) (hb : ok b) (hc : ok c) (h : EqS a b) (g : EqS b c) : EqS a c := ⟨nb_trans ha hb hc h.1 g.1, nb_trans hc hb ha g.2 h.2⟩
theorem EqS.add {a b : Sp} (h : EqS a b) : EqS a (add a b) := ⟨nb_add_right (nb_refl a) h.1, nb_add_left (nb_refl a) h.2⟩
/-- falling, alike ones let: each one is at least as good as all behind it -/
def Desc : List Sp → Prop
  | [] => True
  | a :: r => (∀ b ∈ r, nb b a) ∧ Desc r
theorem eqv_swap {a b : Sp} (ha : ok a) (hb : ok b) (h : EqS a b) : Eqv [a, b] [b, a] := fun l r hl => by
  have h1 := hull_merge (r := r) hl ha hb h.1
  have h2 := hull_merge (r := r) hl hb ha h.2
  rw [add_comm b a] at h2
  simp only [List.append_assoc, List.cons_append, List.nil_append]
  rw [h1, h2]
theorem eqv_front {x : Sp} (hx : ok x) : ∀ {l : List Sp}, allOk l → (∀ b ∈ l, EqS b x) → Eqv (l ++ [x]) (x :: l)
  | [], _, _ => .refl _
  | a :: l, ho, h => by
    have ha := ho a List.mem_cons_self
    have ih := eqv_front hx (l := l) (fun y hy => ho y (List.mem_cons_of_mem _ hy)) fun y hy => h y (List.mem_cons_of_mem _ hy)
    have e1 : Eqv ([a] ++ (l ++ [x])) ([a] ++ (x :: l)) := ih.left fun y hy => by rw [List.mem_singleton.mp hy]; exact ha
    have e2 : Eqv ([a, x] ++ l) ([x, a] ++ l) := (eqv_swap ha hx (h a List.mem_cons_self)).right l
    exact e1.trans e2
theorem desc_app : ∀ {x y : List Sp}, Desc (x ++ y) ↔ Desc x ∧ Desc y ∧ ∀ a ∈ x, ∀ b ∈ y, nb b a
  | [], y => by simp [Desc]
  | a :: x, y => by
    show ((∀ b ∈ x ++ y, nb b a) ∧ Desc (x ++ y)) ↔ ((∀ b ∈ x, nb b a) ∧ Desc x) ∧ Desc y ∧ ∀ c ∈ a :: x, ∀ b ∈ y, nb b c
    rw [desc_app (x := x) (y := y)]
    constructor
    · rintro ⟨h1, h2, h3, h4⟩
      refine ⟨⟨fun b hb => h1 b (List.mem_append_left _ hb), h2⟩, h3, fun c hc b hb => ?_⟩
      rcases List.mem_cons.mp hc with e | hc
      · rw [e]; exact h1 b (List.mem_append_right _ hb)
      · exact h4 c hc b hb
    · rintro ⟨⟨h1, h2⟩, h3, h4⟩
      refine ⟨fun b hb => ?_, h2, h3, fun c hc => h4 c (List.mem_cons_of_mem _ hc)⟩
      rcases List.mem_append.mp hb with hb | hb
      · exact h1 b hb
      · exact h4 a List.mem_cons_self b hb
/-- what falls and has the same steps comes to the same -/
theorem desc_perm : ∀ {xs ys : List Sp}, allOk xs → Desc xs → Desc ys → xs.Perm ys → Eqv xs ys
  | [], ys, _, _, _, p => by
    rw [List.nil_perm.mp p]
    exact .refl _
  | x :: xs, ys, ho, dx, dy, p => by
    have hx := ho x List.mem_cons_self
    have hm : x ∈ ys := p.subset List.mem_cons_self
    obtain ⟨l, r, rfl⟩ := List.append_of_mem hm
    have hoy : allOk (l ++ x :: r) := fun z hz => ho z (p.symm.subset hz)
    have p2 : xs.Perm (l ++ r) := (List.perm_cons x).mp (p.trans List.perm_middle)
    obtain ⟨d1, d2, d3⟩ := desc_app.mp dy
    have hl : ∀ b ∈ l, EqS b x := fun b hb => by
      refine ⟨?_, d3 b hb x List.mem_cons_self⟩
      have : b ∈ x :: xs := p.symm.subset (List.mem_append_left _ hb)
      rcases List.mem_cons.mp this with e | h
      · rw [e]; exact nb_refl x
      · exact dx.1 b h
    have d4 : Desc (l ++ r) := desc_app.mpr ⟨d1, d2.2, fun a ha b hb => d3 a ha b (List.mem_cons_of_mem _ hb)⟩
    have ih := desc_perm (xs := xs) (fun z hz => ho z (List.mem_cons_of_mem _ hz)) dx.2 d4 p2
    have hol : allOk l := fun z hz => hoy z (List.mem_append_left _ hz)
    have e1 : Eqv ([x] ++ xs) ([x] ++ (l ++ r)) := ih.left fun y hy => by rw [List.mem_singleton.mp hy]; exact hx
    have e2 : Eqv ((x :: l) ++ r) ((l ++ [x]) ++ r) := ((eqv_front hx hol hl).right r).symm
    have e3 : (l ++ [x]) ++ r = l ++ x :: r := by simp
    rw [e3] at e2
    exact e1.trans e2
/-! ### merging -/
def mrg : List Sp → List Sp → List Sp
  | [], b => b
  | s :: a, [] => s :: a
  | s :: a, o :: b => if bt o s = true then o :: mrg (s :: a) b else s :: mrg a (o :: b)
termination_by a b => a.length + b.length
theorem mrg_perm : ∀ (a b : List Sp), (mrg a b).Perm (a ++ b)
  | [], b => by rw [mrg]; exact .refl _
  | s :: a, [] => by rw [mrg]; simp
  | s :: a, o :: b => by
    rw [mrg]
    split
    · have := mrg_perm (s :: a) b
      exact (this.cons o).trans List.perm_middle.symm
    · exact (mrg_perm a (o :: b)).cons s
termination_by a b => a.length + b.length
theorem mrg_desc : ∀ {a b : List Sp}, allOk a → allOk b → Desc a → Desc b → Desc (mrg a b)
  | [], b, _, _, _, h => by rw [mrg]; exact h
  | s :: a, [], _, _, h, _ => by rw [mrg]; exact h
  | s :: a, o :: b, ha, hb, da, db => by
    have hs := ha s List.mem_cons_self
    have ho := hb o List.mem_cons_self
    have ha' : allOk a := fun y hy => ha y (List.mem_cons_of_mem _ hy)
    have hb' : allOk b := fun y hy => hb y (List.mem_cons_of_mem _ hy)
    rw [mrg]
    split
    · rename_i c
      refine ⟨fun y hy => ?_, mrg_desc ha hb' da db.2⟩
      rcases List.mem_append.mp ((mrg_perm (s :: a) b).subset hy) with h | h
      · rcases List.mem_cons.mp h with e | h
        · rw [e]; exact nb_of_bt c
        · exact nb_trans (ha' y h) hs ho (da.1 y h) (nb_of_bt c)
      · exact db.1 y h
    · rename_i c
      have n : nb o s := bt_false.mp (by simpa using c)
      refine ⟨fun y hy => ?_, mrg_desc ha' hb da.2 db⟩
      rcases List.mem_append.mp ((mrg_perm a (o :: b)).subset hy) with h | h
      · exact da.1 y h
      · rcases List.mem_cons.mp h with e | h
        · rw [e]; exact n
        · exact nb_trans (hb' y h) ho hs (db.1 y h) n
termination_by a b => a.length + b.length
/-! ### the canonical form of steps in any order -/
def ins (s : Sp) : List Sp → List Sp
  | [] => [s]
  | t :: r => if bt s t = true then s :: t :: r else t :: ins s r
def srt : List Sp → List Sp
  | [] => []
  | s :: r => ins s (srt r)
theorem ins_perm (s : Sp) : ∀ r : List Sp, (ins s r).Perm (s :: r)
  | [] => .refl _
  | t :: r => by
    unfold ins
    split
    · exact .refl _
    · exact ((ins_perm s r).cons t).trans (List.Perm.swap s t r)
theorem srt_perm : ∀ x : List Sp, (srt x).Perm x
  | [] => .refl _
  | s :: r => (ins_perm s (srt r)).trans ((srt_perm r).cons s)
theorem ins_desc {s : Sp} (hs : ok s) : ∀ {r : List Sp}, allOk r → Desc r → Desc (ins s r)
  | [], _, _ => ⟨fun _ h => (by cases h), trivial⟩
  | t :: r, ho, d => by
    have ht := ho t List.mem_cons_self
    unfold ins
    split
    · rename_i c
      refine ⟨fun y hy => ?_, d⟩
      rcases List.mem_cons.mp hy with e | hy
      · rw [e]; exact nb_of_bt c
      · exact nb_trans (ho y (List.mem_cons_of_mem _ hy)) ht hs (d.1 y hy) (nb_of_bt c)
    · rename_i c
      refine ⟨fun y hy => ?_, ins_desc hs (fun y hy => ho y (List.mem_cons_of_mem _ hy)) d.2⟩
      rcases List.mem_cons.mp ((ins_perm s r).subset hy) with e | hy
      · rw [e]; exact bt_false.mp (by simpa using c)
      · exact d.1 y hy
theorem ok_perm {x y : List Sp} (p : x.Perm y) (h : allOk y) : allOk x := fun z hz => h z (p.subset hz)
theorem srt_ok {x : List Sp} (h : allOk x) : allOk (srt x) := ok_perm (srt_perm x) h
theorem srt_desc : ∀ {x : List Sp}, allOk x → Desc (srt x)
  | [], _ => trivial
  | s :: r, h => ins_desc (h s List.mem_cons_self) (srt_ok fun y hy => h y (List.mem_cons_of_mem _ hy)) (srt_desc fun y hy => h y (List.mem_cons_of_mem _ hy))
def can (x : List Sp) : List Sp := hull (srt x)
theorem can_of {x y : List Sp} (hx : allOk x) (d : Desc y) (p : y.Perm x) : can x = hull y :=
  (desc_perm (srt_ok hx) (srt_desc hx) d ((srt_perm x).trans p.symm)).hull
theorem can_perm {x y : List Sp} (hx : allOk x) (p : x.Perm y) : can x = can y := can_of hx (srt_desc (ok_perm p.symm hx)) ((srt_perm y).trans p.symm)
theorem can_mrg {a b : List Sp} (ha : allOk a) (hb : allOk b) (da : Desc a) (db : Desc b) : hull (mrg a b) = can (a ++ b) :=
  (can_of (fun y hy => (List.mem_append.mp hy).elim (ha y) (hb y)) (mrg_desc ha hb da db) (mrg_perm a b)).symm
/-- alike ones may melt before -/
theorem can_merge {a b : Sp} {z : List Sp} (ha : ok a) (hb : ok b) (hz : allOk z) (h : EqS a b) : can (a :: b :: z) = can (add a b :: z) := by
  have hab := ok_add ha hb
  -- where the sum stands among the rest
  have e1 : can (add a b :: z) = hull (ins (add a b) (srt z)) := rfl
  have key : ∀ {r : List Sp}, allOk r → Desc r → ∃ u v, ins (add a b) r = u ++ add a b :: v ∧ r = u ++ v := by
    intro r
    induction r with
    | nil => intro _ _; exact ⟨[], [], rfl, rfl⟩
    | cons t r ih =>
      intro ho d
      unfold ins
      split
      · exact ⟨[], t :: r, rfl, rfl⟩
      · obtain ⟨u, v, e, e2⟩ := ih (fun y hy => ho y (List.mem_cons_of_mem _ hy)) d.2
        exact ⟨t :: u, v, by rw [e]; rfl, by rw [e2]; rfl⟩
  obtain ⟨u, v, e, e2⟩ := key (srt_ok hz) (srt_desc hz)
  have dz : Desc (u ++ add a b :: v) := by rw [← e]; exact ins_desc hab (srt_ok hz) (srt_desc hz)
  have oz : allOk (u ++ v) := by rw [← e2]; exact srt_ok hz
  obtain ⟨d1, d2, d3⟩ := desc_app.mp dz
  have ou : allOk u := fun y hy => oz y (List.mem_append_left _ hy)
  have ov : allOk v := fun y hy => oz y (List.mem_append_right _ hy)
  have sa : EqS a (add a b) := h.add
  have sb : EqS b (add a b) := by rw [add_comm]; exact h.symm.add
  have dab : Desc (u ++ a :: b :: v) := by
    refine desc_app.mpr ⟨d1, ⟨fun y hy => ?_, fun y hy => ?_, d2.2⟩, fun y hy w hw => ?_⟩
    · rcases List.mem_cons.mp hy with e | hy
      · rw [e]; exact h.2
      · exact nb_trans (ov y hy) hab ha (d2.1 y hy) sa.2
    · exact nb_trans (ov y hy) hab hb (d2.1 y hy) sb.2
    · have n := d3 y hy (add a b) List.mem_cons_self
      rcases List.mem_cons.mp hw with e | hw
      · rw [e]; exact nb_trans ha hab (ou y hy) sa.1 n
      · rcases List.mem_cons.mp hw with e | hw
        · rw [e]; exact nb_trans hb hab (ou y hy) sb.1 n
        · exact d3 y hy w (List.mem_cons_of_mem _ hw)
  have pz : (u ++ a :: b :: v).Perm (a :: b :: z) := by
    have p1 : (u ++ a :: b :: v).Perm (a :: b :: (u ++ v)) := List.perm_middle.trans ((List.perm_middle).cons a)
    have p2 : (u ++ v).Perm z := by rw [← e2]; exact srt_perm z
    exact p1.trans ((p2.cons b).cons a)
  have o2 : allOk (a :: b :: z) := fun y hy => by
    rcases List.mem_cons.mp hy with e | hy
    · rw [e]; exact ha
    · rcases List.mem_cons.mp hy with e | hy
      · rw [e]; exact hb
      · exact hz y hy
  rw [can_of o2 dab pz, hull_merge ou ha hb h.1, e1, e]
/-! ### what falls melts to its bow -/
inductive Melt : List Sp → List Sp → Prop
  | refl {x : List Sp} : Melt x x
  | step {l r y : List Sp} {a b : Sp} : ok a → ok b → EqS a b → Melt (l ++ add a b :: r) y → Melt (l ++ a :: b :: r) y
theorem bt_eqs {a b c : Sp} (ha : ok a) (hb : ok b) (hc : ok c) (h : bt a b = true) (e : EqS b c) : bt a c = true := by
  rw [bt_true] at h ⊢
  exact fun n => h (nb_trans ha hc hb n e.2)
theorem desc_melt : ∀ {xs r : List Sp}, FallR r → allOk r → allOk xs → Desc (r.reverse ++ xs) → Melt (r.reverse ++ xs) (xs.foldl push r).reverse
  | [], r, _, _, _, _ => by rw [List.append_nil]; exact .refl
  | x :: xs, [], _, _, hx, d => by
    have h0 := hx x List.mem_cons_self
    exact desc_melt (xs := xs) (r := [x]) trivial (fun y hy => by rw [List.mem_singleton.mp hy]; exact h0) (fun y hy => hx y (List.mem_cons_of_mem _ hy)) d
  | x :: xs, t :: r, f, hr, hx, d => by
    have h0 := hx x List.mem_cons_self
    have ht := hr t List.mem_cons_self
    have hr' : allOk r := fun y hy => hr y (List.mem_cons_of_mem _ hy)
    have hx' : allOk xs := fun y hy => hx y (List.mem_cons_of_mem _ hy)
    have e0 : (t :: r).reverse ++ x :: xs = r.reverse ++ t :: x :: xs := by simp
    rw [List.foldl_cons]
    by_cases c : bt t x = true
    · have e : push (t :: r) x = x :: t :: r := if_pos c
      rw [e]
      have e1 : (t :: r).reverse ++ x :: xs = (x :: t :: r).reverse ++ xs := by simp
      rw [e1] at d ⊢
      exact desc_melt (xs := xs) (r := x :: t :: r) ⟨c, f⟩ (fun y hy => (List.mem_cons.mp hy).elim (fun e => by rw [e]; exact h0) (hr y)) hx' d
    · have e : push (t :: r) x = push r (add t x) := if_neg c
      have n : nb t x := bt_false.mp (by simpa using c)
      rw [e0] at d ⊢
      obtain ⟨d1, d2, d3⟩ := desc_app.mp d
      have eq : EqS t x := ⟨n, d2.1 x List.mem_cons_self⟩
      have hax := ok_add ht h0
      have ea : EqS t (add t x) := eq.add
      have e2 : push r (add t x) = add t x :: r := by
        cases r with
        | nil => rfl
        | cons u r => exact if_pos (bt_eqs (hr' u List.mem_cons_self) ht hax f.1 ea)
      rw [e, e2]
      refine .step ht h0 eq ?_
      have e3 : r.reverse ++ add t x :: xs = (add t x :: r).reverse ++ xs := by simp
      have d4 : Desc (r.reverse ++ add t x :: xs) := by
        refine desc_app.mpr ⟨d1, ⟨fun y hy => nb_trans (hx' y hy) ht hax (d2.1 y (List.mem_cons_of_mem _ hy)) ea.1, d2.2.2⟩, fun y hy w hw => ?_⟩
        rcases List.mem_cons.mp hw with e | hw
        · rw [e]; exact nb_trans hax ht (hr' y (List.mem_reverse.mp hy)) ea.2 (d3 y hy t List.mem_cons_self)
        · exact d3 y hy w (List.mem_cons_of_mem _ (List.mem_cons_of_mem _ hw))
      rw [e3] at d4 ⊢
      refine desc_melt (xs := xs) (r := add t x :: r) ?_ (fun y hy => (List.mem_cons.mp hy).elim (fun e => by rw [e]; exact hax) (hr' y)) hx' d4
      cases r with
      | nil => trivial
      | cons u r => exact ⟨bt_eqs (hr' u List.mem_cons_self) ht hax f.1 ea, f.2⟩
theorem melt_hull {x : List Sp} (h : allOk x) (d : Desc x) : Melt x (hull x) := desc_melt (r := []) trivial (fun _ h => by cases h) h d
/-- a sum over the steps that alike ones may share -/
theorem melt_sum {g : Sp → Int} (hg : ∀ a b, ok a → ok b → EqS a b → g (add a b) = g a + g b) : ∀ {x y : List Sp}, Melt x y → (x.map g).sum = (y.map g).sum
  | _, _, .refl => rfl
  | _, _, .step (l := l) (r := r) (a := a) (b := b) ha hb e m => by
    rw [← melt_sum hg m]
    simp only [List.map_append, List.map_cons, List.sum_append, List.sum_cons, hg a b ha hb e]
    omega
theorem melt_can : ∀ {x y : List Sp}, Melt x y → ∀ {z : List Sp}, allOk x → allOk z → can (x ++ z) = can (y ++ z)
  | _, _, .refl, _, _, _ => rfl
  | _, _, .step (l := l) (r := r) (a := a) (b := b) ha hb e m, z, hx, hz => by
    have hl : allOk l := fun y hy => hx y (List.mem_append_left _ hy)
    have hr : allOk r := fun y hy => hx y (List.mem_append_right _ (List.mem_cons_of_mem _ (List.mem_cons_of_mem _ hy)))
    have h2 : allOk (l ++ add a b :: r) := fun y hy => (List.mem_append.mp hy).elim (hl y) fun h => (List.mem_cons.mp h).elim (fun e => by rw [e]; exact ok_add ha hb) (hr y)
    rw [← melt_can m h2 hz]
    have hrest : allOk (l ++ r ++ z) := fun y hy => (List.mem_append.mp hy).elim (fun h => (List.mem_append.mp h).elim (hl y) (hr y)) (hz y)
    have p1 : (l ++ a :: b :: r ++ z).Perm (a :: b :: (l ++ r ++ z)) := by
      simp only [List.append_assoc, List.cons_append]
      exact List.perm_middle.trans (List.perm_middle.cons a)
    have p2 : (l ++ add a b :: r ++ z).Perm (add a b :: (l ++ r ++ z)) := by
      simp only [List.append_assoc, List.cons_append]
      exact List.perm_middle
    have o1 : allOk (l ++ a :: b :: r ++ z) := fun y hy => (List.mem_append.mp hy).elim (hx y) (hz y)
    have o2 : allOk (l ++ add a b :: r ++ z) := fun y hy => (List.mem_append.mp hy).elim (h2 y) (hz y)
    rw [can_perm o1 p1, can_perm o2 p2, can_merge ha hb hrest e]
theorem fall_desc : ∀ {x : List Sp}, allOk x → Fall x → Desc x
  | [], _, _ => trivial
  | [a], _, _ => ⟨fun _ h => (by cases h), trivial⟩
  | a :: b :: r, h, f => by
    have hr : allOk (b :: r) := fun y hy => h y (List.mem_cons_of_mem _ hy)
    have ih := fall_desc hr f.2
    refine ⟨fun y hy => ?_, ih⟩
    have n := nb_of_bt f.1
    rcases List.mem_cons.mp hy with e | hy
    · rw [e]; exact n
    · exact nb_trans (hr y (List.mem_cons_of_mem _ hy)) (hr b List.mem_cons_self) (h a List.mem_cons_self) (ih.1 y hy) n
theorem allOk_app {x y : List Sp} (hx : allOk x) (hy : allOk y) : allOk (x ++ y) := fun z hz => (List.mem_append.mp hz).elim (hx z) (hy z)
theorem can_ok {x : List Sp} (h : allOk x) : allOk (can x) := hull_ok (srt_ok h)
theorem can_fall (x : List Sp) : Fall (can x) := hull_is_fall _
theorem can_can {x z : List Sp} (hx : allOk x) (hz : allOk z) : can (can x ++ z) = can (x ++ z) := by
  have m := melt_hull (srt_ok hx) (srt_desc hx)
  have h1 := melt_can m (z := z) (srt_ok hx) hz
  unfold can at h1 ⊢
  rw [← h1]
  exact can_perm (allOk_app (srt_ok hx) hz) ((srt_perm x).append_right z)
/-! ### meetings -/
def mt (s o : Sp) : Int := min (s.1 * o.2) (o.1 * s.2)
theorem mt_comm (s o : Sp) : mt s o = mt o s := by
  unfold mt
  rw [Int.min_comm]
theorem mt_add {a b : Sp} (o : Sp) (ha : ok a) (hb : ok b) (ho : ok o) (e : EqS a b) : mt (add a b) o = mt a o + mt b o := by
  unfold mt add
  simp only [Int.add_mul, Int.mul_add]
  rcases nb_total o a with h | h
  · have h2 := nb_trans ho ha hb h e.1
    unfold nb at h h2
    have e1 : o.2 * a.1 = a.1 * o.2 := Int.mul_comm _ _
    have e2 : o.2 * b.1 = b.1 * o.2 := Int.mul_comm _ _
    have e3 : a.2 * o.1 = o.1 * a.2 := Int.mul_comm _ _
    have e4 : b.2 * o.1 = o.1 * b.2 := Int.mul_comm _ _
    omega
  · have h2 := nb_trans hb ha ho e.2 h
    unfold nb at h h2
    have e1 : o.2 * a.1 = a.1 * o.2 := Int.mul_comm _ _
    have e2 : o.2 * b.1 = b.1 * o.2 := Int.mul_comm _ _
    have e3 : a.2 * o.1 = o.1 * a.2 := Int.mul_comm _ _
    have e4 : b.2 * o.1 = o.1 * b.2 := Int.mul_comm _ _
    omega
def met1 (s : Sp) (y : List Sp) : Int := (y.map (mt s)).sum
def met (x y : List Sp) : Int := (x.map fun s => met1 s y).sum
theorem met_app_left (x x' y : List Sp) : met (x ++ x') y = met x y + met x' y := by simp [met]
theorem met1_app (s : Sp) (y y' : List Sp) : met1 s (y ++ y') = met1 s y + met1 s y' := by simp [met1]
theorem met_app_right : ∀ (x y y' : List Sp), met x (y ++ y') = met x y + met x y'
  | [], _, _ => rfl
  | s :: x, y, y' => by
    have ih := met_app_right x y y'
    simp only [met, List.map_cons, List.sum_cons, met1_app] at *
    omega
theorem met_nil_right : ∀ x : List Sp, met x [] = 0
  | [] => rfl
  | s :: x => by
    have ih := met_nil_right x
    simp only [met, List.map_cons, List.sum_cons] at *
    rw [ih]; rfl
theorem met_cons_right (x : List Sp) (o : Sp) (y : List Sp) : met x (o :: y) = met1 o x + met x y := by
  induction x with
  | nil => rfl
  | cons s x ih =>
    simp only [met, met1, List.map_cons, List.sum_cons] at *
    rw [ih, mt_comm s o]
    omega
theorem met_comm : ∀ (x y : List Sp), met x y = met y x
  | x, [] => met_nil_right x
  | x, o :: y => by
    rw [met_cons_right, met_comm x y]
    simp [met]
theorem perm_sum {x y : List Int} (p : x.Perm y) : x.sum = y.sum := by
  induction p with
  | nil => rfl
  | cons a _ ih => simp only [List.sum_cons, ih]
  | swap a b l => simp only [List.sum_cons]; omega
  | trans _ _ h1 h2 => exact h1.trans h2
theorem met_perm {x x' y : List Sp} (p : x.Perm x') : met x y = met x' y := by
  unfold met
  exact perm_sum (p.map _)
theorem met1_add {a b : Sp} (ha : ok a) (hb : ok b) (e : EqS a b) : ∀ {y : List Sp}, allOk y → met1 (add a b) y = met1 a y + met1 b y
  | [], _ => rfl
  | o :: y, h => by
    have ih := met1_add ha hb e (y := y) fun z hz => h z (List.mem_cons_of_mem _ hz)
    simp only [met1, List.map_cons, List.sum_cons] at *
    rw [ih, mt_add o ha hb (h o List.mem_cons_self) e]
    omega
theorem met_can {x y : List Sp} (hx : allOk x) (hy : allOk y) : met (can x) y = met x y := by
  have m := melt_hull (srt_ok hx) (srt_desc hx)
  have := melt_sum (g := fun s => met1 s y) (fun a b ha hb e => met1_add ha hb e hy) m
  unfold can
  show met (hull (srt x)) y = _
  rw [show met (hull (srt x)) y = met (srt x) y from this.symm, met_perm (srt_perm x)]
end TL.Bw

/-! TBow3: joining bows; copies and times. -/
namespace TL.Bw
structure Bow where
  c : Int
  s : List Sp
/-- a bow: steps that are some, each better than the next -/
structure Bow.good (x : Bow) : Prop where
  ok : allOk x.s
  fall : Fall x.s
def rowB (x y : Bow) : Bow := ⟨x.c + y.c + sm1 x.s * sm2 y.s, hull (x.s ++ y.s)⟩
def sideB (x y : Bow) : Bow := ⟨x.c + y.c + met x.s y.s, hull (mrg x.s y.s)⟩
theorem Bow.ext' {x y : Bow} (h : x.c = y.c) (g : x.s = y.s) : x = y := by
  cases x; cases y; simp_all
theorem Bow.good.desc {x : Bow} (g : x.good) : Desc x.s := fall_desc g.ok g.fall
theorem rowB_good {x y : Bow} (hx : x.good) (hy : y.good) : (rowB x y).good := ⟨hull_ok (allOk_app hx.ok hy.ok), hull_is_fall _⟩
theorem sideB_s {x y : Bow} (hx : x.good) (hy : y.good) : (sideB x y).s = can (x.s ++ y.s) := can_mrg hx.ok hy.ok hx.desc hy.desc
theorem sideB_good {x y : Bow} (hx : x.good) (hy : y.good) : (sideB x y).good := ⟨by rw [sideB_s hx hy]; exact can_ok (allOk_app hx.ok hy.ok), by rw [sideB_s hx hy]; exact can_fall _⟩
theorem rowB_assoc {x y z : Bow} (hx : x.good) (hy : y.good) (hz : z.good) : rowB (rowB x y) z = rowB x (rowB y z) := by
  refine Bow.ext' ?_ ?_
  · simp only [rowB, (hull_sum _).1, (hull_sum _).2, sm1_app, sm2_app, Int.mul_add, Int.add_mul]
    omega
  · simp only [rowB]
    rw [hull_left (allOk_app hx.ok hy.ok), hull_right hx.ok (allOk_app hy.ok hz.ok), List.append_assoc]
theorem sideB_comm {x y : Bow} (hx : x.good) (hy : y.good) : sideB x y = sideB y x := by
  refine Bow.ext' ?_ ?_
  · simp only [sideB, met_comm x.s y.s]
    omega
  · rw [sideB_s hx hy, sideB_s hy hx]
    exact can_perm (allOk_app hx.ok hy.ok) List.perm_append_comm
theorem sideB_assoc {x y z : Bow} (hx : x.good) (hy : y.good) (hz : z.good) : sideB (sideB x y) z = sideB x (sideB y z) := by
  have hxy := sideB_good hx hy
  have hyz := sideB_good hy hz
  refine Bow.ext' ?_ ?_
  · have e1 : met (sideB x y).s z.s = met x.s z.s + met y.s z.s := by
      rw [sideB_s hx hy, met_can (allOk_app hx.ok hy.ok) hz.ok, met_app_left]
    have e2 : met x.s (sideB y z).s = met x.s y.s + met x.s z.s := by
      rw [sideB_s hy hz, met_comm, met_can (allOk_app hy.ok hz.ok) hx.ok, met_app_left, met_comm y.s x.s, met_comm z.s x.s]
    show (x.c + y.c + met x.s y.s) + z.c + met (sideB x y).s z.s = x.c + (y.c + z.c + met y.s z.s) + met x.s (sideB y z).s
    rw [e1, e2]
    omega
  · rw [sideB_s hxy hz, sideB_s hx hyz, sideB_s hx hy, sideB_s hy hz, can_can (allOk_app hx.ok hy.ok) hz.ok]
    have p1 : (x.s ++ can (y.s ++ z.s)).Perm (can (y.s ++ z.s) ++ x.s) := List.perm_append_comm
    rw [can_perm (allOk_app hx.ok (can_ok (allOk_app hy.ok hz.ok))) p1, can_can (allOk_app hy.ok hz.ok) hx.ok]
    refine can_perm (allOk_app (allOk_app hx.ok hy.ok) hz.ok) ?_
    rw [List.append_assoc]
    exact List.perm_append_comm
/-! ### so many times -/
/-- n + 1 of x by op, from the left -/
def pw (op : Bow → Bow → Bow) (x : Bow) : Nat → Bow
  | 0 => x
  | n + 1 => op (pw op x n) x
theorem pw_good {op : Bow → Bow → Bow} (hop : ∀ {x y : Bow}, x.good → y.good → (op x y).good) {x : Bow} (h : x.good) : ∀ n, (pw op x n).good
  | 0 => h
  | n + 1 => hop (pw_good hop h n) h
theorem pw_add {op : Bow → Bow → Bow} (hop : ∀ {x y : Bow}, x.good → y.good → (op x y).good) (as : ∀ {x y z : Bow}, x.good → y.good → z.good → op (op x y) z = op x (op y z)) {x : Bow} (h : x.good) (n : Nat) : ∀ m, pw op x (n + m + 1) = op (pw op x n) (pw op x m)
  | 0 => rfl
  | m + 1 => by
    show op (pw op x (n + m + 1)) x = op (pw op x n) (op (pw op x m) x)
    rw [pw_add hop as h n m, as (pw_good hop h n) (pw_good hop h m) h]
def scl (n : Int) (x : List Sp) : List Sp := x.map fun a => (n * a.1, n * a.2)
theorem scl_ok {n : Int} (hn : 1 ≤ n) {x : List Sp} (h : allOk x) : allOk (scl n x) := fun z hz => by
  obtain ⟨a, ha, rfl⟩ := List.mem_map.mp hz
  obtain ⟨a1, a2, a3⟩ := h a ha
  refine ⟨Int.mul_nonneg (by omega) a1, Int.mul_nonneg (by omega) a2, fun e => a3 ⟨?_, ?_⟩⟩
  · exact (Int.mul_eq_zero.mp e.1).resolve_left (by omega)
  · exact (Int.mul_eq_zero.mp e.2).resolve_left (by omega)
theorem bt_scl {n : Int} (hn : 1 ≤ n) {a b : Sp} : bt (n * a.1, n * a.2) (n * b.1, n * b.2) = bt a b := by
  unfold bt
  have e1 : n * b.2 * (n * a.1) = (n * n) * (b.2 * a.1) := by rw [Int.mul_assoc, Int.mul_left_comm b.2, ← Int.mul_assoc]
  have e2 : n * a.2 * (n * b.1) = (n * n) * (a.2 * b.1) := by rw [Int.mul_assoc, Int.mul_left_comm a.2, ← Int.mul_assoc]
  simp only [e1, e2]
  have hp : 0 < n * n := Int.mul_pos (by omega) (by omega)
  refine decide_eq_decide.mpr ⟨fun h => ?_, fun h => ?_⟩
  · exact Int.lt_of_mul_lt_mul_left h (Int.le_of_lt hp)
  · exact Int.mul_lt_mul_of_pos_left h hp
theorem fall_scl {n : Int} (hn : 1 ≤ n) : ∀ {x : List Sp}, Fall x → Fall (scl n x)
  | [], _ => trivial
  | [_], _ => trivial
  | a :: b :: r, h => ⟨by rw [bt_scl hn]; exact h.1, fall_scl hn (x := b :: r) h.2⟩
theorem eqs_scl {n : Int} (hn : 1 ≤ n) (a : Sp) : EqS (n * a.1, n * a.2) a := by
  have e : n * a.2 * a.1 = a.2 * (n * a.1) := by rw [Int.mul_comm n a.2, Int.mul_assoc]
  exact ⟨Int.le_of_eq e, Int.le_of_eq e.symm⟩
/-- n of a step and the step: alike, n + 1 of it -/
theorem can_scl {n : Int} (hn : 1 ≤ n) : ∀ {x z : List Sp}, allOk x → allOk z → can (scl n x ++ x ++ z) = can (scl (n + 1) x ++ z)
  | [], _, _, _ => rfl
  | a :: x, z, h, hz => by
    have ha := h a List.mem_cons_self
    have hx : allOk x := fun y hy => h y (List.mem_cons_of_mem _ hy)
    have hna : ok (n * a.1, n * a.2) := scl_ok hn (x := [a]) (fun y hy => by rw [List.mem_singleton.mp hy]; exact ha) _ List.mem_cons_self
    have hrest : allOk (scl n x ++ x ++ z) := allOk_app (allOk_app (scl_ok hn hx) hx) hz
    have hs : add (n * a.1, n * a.2) a = ((n + 1) * a.1, (n + 1) * a.2) := by
      unfold add
      simp only [Int.add_mul, Int.one_mul]
    have o1 : allOk (scl n (a :: x) ++ (a :: x) ++ z) := allOk_app (allOk_app (scl_ok hn h) h) hz
    have p1 : (scl n (a :: x) ++ (a :: x) ++ z).Perm ((n * a.1, n * a.2) :: a :: (scl n x ++ x ++ z)) := by
      show ((n * a.1, n * a.2) :: (scl n x ++ (a :: x) ++ z)).Perm _
      refine List.Perm.cons _ ?_
      rw [List.append_assoc, List.append_assoc]
      exact List.perm_middle
    have hsum : ok ((n + 1) * a.1, (n + 1) * a.2) := by rw [← hs]; exact ok_add hna ha
    rw [can_perm o1 p1, can_merge hna ha hrest (eqs_scl hn a), hs]
    -- the sum goes behind, the rest by the same
    have o2 : allOk (((n + 1) * a.1, (n + 1) * a.2) :: (scl n x ++ x ++ z)) := fun y hy => (List.mem_cons.mp hy).elim (fun e => by rw [e]; exact hsum) (hrest y)
    have p2 : (((n + 1) * a.1, (n + 1) * a.2) :: (scl n x ++ x ++ z)).Perm (scl n x ++ x ++ (((n + 1) * a.1, (n + 1) * a.2) :: z)) := List.perm_middle.symm
    have hz2 : allOk (((n + 1) * a.1, (n + 1) * a.2) :: z) := fun y hy => (List.mem_cons.mp hy).elim (fun e => by rw [e]; exact hsum) (hz y)
    rw [can_perm o2 p2, can_scl hn hx hz2]
    refine can_perm (allOk_app (scl_ok (by omega) hx) hz2) ?_
    exact List.perm_middle
theorem can_fall_self {x : List Sp} (h : allOk x) (f : Fall x) : can x = x := by
  rw [can_of h (fall_desc h f) (.refl _), hull_fall f]
/-- copies beside one another, by formula -/
def copB (x : Bow) (n : Int) : Bow := ⟨n * x.c + n * (n - 1) / 2 * met x.s x.s, scl n x.s⟩
theorem tri (n : Int) : (n + 1) * n / 2 = n * (n - 1) / 2 + n := by
  have e : (n + 1) * n = n * (n - 1) + n * 2 := by
    simp only [Int.add_mul, Int.mul_sub, Int.one_mul, Int.mul_one]
    omega
  rw [e, Int.add_mul_ediv_right _ _ (by decide)]
theorem met_scl (n : Int) : ∀ (x y : List Sp), 0 ≤ n → met (scl n x) y = n * met x y := by
  have h1 : ∀ (a : Sp) (y : List Sp), 0 ≤ n → met1 (n * a.1, n * a.2) y = n * met1 a y := by
    intro a y hn
    induction y with
    | nil => simp [met1]
    | cons o y ih =>
      simp only [met1, List.map_cons, List.sum_cons] at *
      rw [ih, Int.mul_add]
      congr 1
      unfold mt
      have e1 : n * a.1 * o.2 = n * (a.1 * o.2) := Int.mul_assoc _ _ _
      have e2 : o.1 * (n * a.2) = n * (o.1 * a.2) := Int.mul_left_comm _ _ _
      simp only [e1, e2]
      rcases Int.le_total (a.1 * o.2) (o.1 * a.2) with h | h
      · rw [Int.min_eq_left h, Int.min_eq_left (Int.mul_le_mul_of_nonneg_left h hn)]
      · rw [Int.min_eq_right h, Int.min_eq_right (Int.mul_le_mul_of_nonneg_left h hn)]
  intro x y hn
  induction x with
  | nil => simp [met, scl]
  | cons a x ih =>
    simp only [met, scl, List.map_cons, List.sum_cons] at *
    rw [ih, Int.mul_add, h1 a y hn]
theorem pw_side {x : Bow} (h : x.good) : ∀ n : Nat, pw sideB x n = copB x ((n : Int) + 1)
  | 0 => by
    refine Bow.ext' ?_ ?_
    · simp [pw, copB]
    · simp [pw, copB, scl]
  | n + 1 => by
    have ih := pw_side h n
    have n1 : (1 : Int) ≤ (n : Int) + 1 := by omega
    have gp : (copB x ((n : Int) + 1)).good := ⟨scl_ok n1 h.ok, fall_scl n1 h.fall⟩
    show sideB (pw sideB x n) x = _
    rw [ih]
    refine Bow.ext' ?_ ?_
    · show (copB x ((n : Int) + 1)).c + x.c + met (scl ((n : Int) + 1) x.s) x.s = (copB x (((n + 1 : Nat) : Int) + 1)).c
      rw [met_scl _ _ _ (by omega)]
      have e : ((n + 1 : Nat) : Int) = (n : Int) + 1 := by omega
      rw [e]
      generalize (n : Int) + 1 = k
      simp only [copB]
      have t := tri k
      rw [Int.add_sub_cancel, t]
      simp only [Int.add_mul, Int.one_mul]
      omega
    · rw [sideB_s gp h]
      have c1 := can_scl n1 (x := x.s) (z := []) h.ok (fun _ hh => by cases hh)
      simp only [List.append_nil] at c1
      show can (scl ((n : Int) + 1) x.s ++ x.s) = scl (((n + 1 : Nat) : Int) + 1) x.s
      rw [c1]
      have e : ((n + 1 : Nat) : Int) + 1 = (n : Int) + 1 + 1 := by omega
      rw [e]
      exact can_fall_self (scl_ok (by omega) h.ok) (fall_scl (by omega) h.fall)
end TL.Bw

/-! TBow4: times by formula. -/
namespace TL.Bw
def smP (x : List Sp) : Sp := (sm1 x, sm2 x)
theorem smP_app (x y : List Sp) : smP (x ++ y) = add (smP x) (smP y) := by
  unfold smP add
  rw [sm1_app, sm2_app]
theorem smP_one (a : Sp) : smP [a] = a := by
  unfold smP sm1 sm2
  simp
/-- sums of blocks that lie one behind another -/
inductive Blk : List Sp → List Sp → Prop
  | nil : Blk [] []
  | cons {b ys xs : List Sp} : b ≠ [] → Blk ys xs → Blk (smP b :: ys) (b ++ xs)
theorem Blk.snoc {a : Sp} : ∀ {ys xs : List Sp}, Blk ys xs → Blk (ys ++ [a]) (xs ++ [a])
  | _, _, .nil => by
    have := Blk.cons (b := [a]) (by simp) Blk.nil
    rw [smP_one] at this
    simpa using this
  | _, _, .cons (b := b) h k => by
    rw [List.append_assoc]
    exact .cons h k.snoc
theorem Blk.merge {t a : Sp} : ∀ {ys xs : List Sp}, Blk (ys ++ [t, a]) xs → Blk (ys ++ [add t a]) xs
  | [], xs, h => by
    have h' : Blk [t, a] xs := h
    cases h' with
    | @cons b _ xs1 hb k =>
      cases k with
      | @cons b2 _ xs2 hb2 k2 =>
        cases k2
        have := Blk.cons (b := b ++ b2) (by simp [hb]) Blk.nil
        rw [smP_app] at this
        simpa using this
  | y :: ys, xs, h => by
    have h' : Blk (y :: (ys ++ [t, a])) xs := h
    cases h' with
    | cons hb k => exact .cons hb (Blk.merge k)
theorem push_blk {xs : List Sp} : ∀ {r : List Sp} {a : Sp}, Blk (r.reverse ++ [a]) xs → Blk (push r a).reverse xs
  | [], a, h => h
  | t :: r, a, h => by
    unfold push
    split
    · simpa using h
    · refine push_blk (Blk.merge ?_)
      simpa using h
theorem foldl_blk : ∀ {xs r done : List Sp}, Blk r.reverse done → Blk (xs.foldl push r).reverse (done ++ xs)
  | [], r, done, h => by simpa using h
  | x :: xs, r, done, h => by
    have := foldl_blk (xs := xs) (push_blk (r := r) (a := x) h.snoc)
    simpa using this
theorem hull_blk (xs : List Sp) : Blk (hull xs) xs := by
  have := foldl_blk (xs := xs) (r := []) Blk.nil
  simpa [hull] using this
theorem smP_hull (x : List Sp) : smP (hull x) = smP x := by
  unfold smP
  rw [(hull_sum x).1, (hull_sum x).2]
/-- what is nowhere better than the whole melts to one -/
theorem hull_single {B : List Sp} {S : Sp} (hB : allOk B) (hS : ok S) (hne : B ≠ []) (hp : ∀ p q, B = p ++ q → p ≠ [] → nb (smP p) S) (hT : ok (smP B)) (ht : EqS (smP B) S) : hull B = [smP B] := by
  have blk := hull_blk B
  have fall := hull_is_fall B
  have okh := hull_ok hB
  have sum := smP_hull B
  generalize hull B = H at blk fall okh sum
  match H, blk, fall, okh, sum with
  | [], blk, _, _, _ => cases blk; exact absurd rfl hne
  | [h], _, _, _, sum => rw [← sum, smP_one]
  | h1 :: h2 :: hs, blk, fall, okh, sum =>
    exfalso
    have d := fall_desc okh fall
    have o1 := okh h1 List.mem_cons_self
    have n1 : nb h1 S := by
      cases blk with
      | cons hb k => exact hp _ _ rfl hb
    have nT : nb h1 (smP B) := nb_trans o1 hS hT n1 ht.2
    have f2 := bt_true.mp fall.1
    have lin : ∀ l : List Sp, (∀ y ∈ l, nb y h1) → sm2 l * h1.1 ≤ h1.2 * sm1 l := by
      intro l
      induction l with
      | nil => intro _; simp [sm1, sm2]
      | cons y l ih =>
        intro h
        have a := ih fun z hz => h z (List.mem_cons_of_mem _ hz)
        have b := h y List.mem_cons_self
        unfold nb at b
        simp only [sm1, sm2, List.map_cons, List.sum_cons, Int.add_mul, Int.mul_add] at *
        omega
    have l1 := lin hs fun y hy => d.1 y (List.mem_cons_of_mem _ hy)
    rw [← sum] at nT
    unfold nb smP at nT
    unfold nb at f2
    simp only [sm1, sm2, List.map_cons, List.sum_cons, Int.add_mul, Int.mul_add] at *
    have c1 : h1.2 * h1.1 = h1.2 * h1.1 := rfl
    omega
/-- better than the whole, and not -/
theorem fall_split {S : Sp} (hS : ok S) : ∀ {a : List Sp}, allOk a → Fall a → ∃ u w, a = u ++ w ∧ (∀ s ∈ u, nb S s) ∧ ∀ s ∈ w, nb s S
  | [], _, _ => ⟨[], [], rfl, fun _ h => (by cases h), fun _ h => (by cases h)⟩
  | s :: a, h, f => by
    have hs := h s List.mem_cons_self
    have ha : allOk a := fun y hy => h y (List.mem_cons_of_mem _ hy)
    by_cases c : nb s S
    · refine ⟨[], s :: a, rfl, fun _ h => (by cases h), fun y hy => ?_⟩
      rcases List.mem_cons.mp hy with e | hy
      · rw [e]; exact c
      · exact nb_trans (ha y hy) hs hS ((fall_desc h f).1 y hy) c
    · have f2 : Fall a := by
        cases a with
        | nil => trivial
        | cons b a => exact f.2
      obtain ⟨u, w, e, h1, h2⟩ := fall_split hS ha f2
      refine ⟨s :: u, w, by rw [e]; rfl, fun y hy => ?_, h2⟩
      rcases List.mem_cons.mp hy with e | hy
      · rw [e]; exact (nb_total S s).resolve_right c
      · exact h1 y hy
def sc (k : Int) (S : Sp) : Sp := (k * S.1, k * S.2)
theorem sc_one (S : Sp) : sc 1 S = S := by unfold sc; simp
theorem sc_add (k l : Int) (S : Sp) : add (sc k S) (sc l S) = sc (k + l) S := by
  unfold sc add
  simp only [Int.add_mul]
theorem sc_ok {k : Int} (hk : 1 ≤ k) {S : Sp} (h : ok S) : ok (sc k S) := scl_ok hk (x := [S]) (fun y hy => by rw [List.mem_singleton.mp hy]; exact h) _ List.mem_cons_self
theorem sc_eqs {k : Int} (hk : 1 ≤ k) (S : Sp) : EqS (sc k S) S := eqs_scl hk S
theorem nb_sum_left {S : Sp} : ∀ {l : List Sp}, (∀ s ∈ l, nb s S) → nb (smP l) S
  | [], _ => by unfold nb smP sm1 sm2; simp
  | s :: l, h => by
    have := nb_sum_left (l := l) fun y hy => h y (List.mem_cons_of_mem _ hy)
    have e : smP (s :: l) = add s (smP l) := by rw [show s :: l = [s] ++ l from rfl, smP_app, smP_one]
    rw [e]
    exact nb_add_left (h s List.mem_cons_self) this
theorem nb_sum_right {S : Sp} : ∀ {l : List Sp}, (∀ s ∈ l, nb S s) → nb S (smP l)
  | [], _ => by unfold nb smP sm1 sm2; simp
  | s :: l, h => by
    have := nb_sum_right (l := l) fun y hy => h y (List.mem_cons_of_mem _ hy)
    have e : smP (s :: l) = add s (smP l) := by rw [show s :: l = [s] ++ l from rfl, smP_app, smP_one]
    rw [e]
    exact nb_add_right (h s List.mem_cons_self) this
theorem allOk_one {a : Sp} (h : ok a) : allOk [a] := fun y hy => by rw [List.mem_singleton.mp hy]; exact h
/-- worse ones, some of the whole, better ones: together so many of the whole -/
theorem block {S : Sp} (hS : ok S) {u w m : List Sp} {k : Int} (hk : 0 ≤ k) (hu : allOk u) (hw : allOk w) (hm : allOk m) (h1 : ∀ s ∈ u, nb S s) (h2 : ∀ s ∈ w, nb s S) (h3 : ∀ s ∈ m, nb s S) (hmS : smP m = sc k S) (hs : add (smP u) (smP w) = S) :
    Eqv (w ++ m ++ u) [sc (k + 1) S] := by
  have oB : allOk (w ++ m ++ u) := allOk_app (allOk_app hw hm) hu
  have tot : smP (w ++ m ++ u) = sc (k + 1) S := by
    rw [smP_app, smP_app, hmS, ← sc_add, sc_one, add_comm (smP w), add_assoc, add_comm (smP w), hs]
  have ne : w ++ m ++ u ≠ [] := fun e => by
    rw [e] at tot
    have : smP ([] : List Sp) = (0, 0) := rfl
    rw [this] at tot
    have o := sc_ok (k := k + 1) (by omega) hS
    rw [← tot] at o
    exact o.2.2 ⟨rfl, rfl⟩
  have single := hull_single oB hS ne ?_ (by rw [tot]; exact sc_ok (by omega) hS) (by rw [tot]; exact sc_eqs (by omega) S)
  · have e := hull_eqv oB
    rw [single, tot] at e
    exact e
  · intro p q e hp
    -- a beginning of the worse ones and the middle, or all these and some better ones
    have all2 : ∀ s ∈ w ++ m, nb s S := fun s hs => (List.mem_append.mp hs).elim (h2 s) (h3 s)
    rcases List.append_eq_append_iff.mp e with ⟨l, e1, e2⟩ | ⟨l, e1, e2⟩
    · -- p = (w ++ m) ++ l, u = l ++ q
      have hq : nb S (smP q) := nb_sum_right fun s hs => h1 s (by rw [e2]; exact List.mem_append_right _ hs)
      have t2 : add (smP p) (smP q) = sc (k + 1) S := by rw [← smP_app, ← e, tot]
      have a1 : (smP p).1 + (smP q).1 = (k + 1) * S.1 := congrArg Prod.fst t2
      have a2 : (smP p).2 + (smP q).2 = (k + 1) * S.2 := congrArg Prod.snd t2
      unfold nb at hq ⊢
      have b1 : (smP p).1 = (k + 1) * S.1 - (smP q).1 := by omega
      have b2 : (smP p).2 = (k + 1) * S.2 - (smP q).2 := by omega
      rw [b1, b2, Int.sub_mul, Int.mul_sub]
      have c : (k + 1) * S.2 * S.1 = S.2 * ((k + 1) * S.1) := by rw [Int.mul_comm (k + 1) S.2, Int.mul_assoc]
      omega
    · -- w ++ m = p ++ l
      exact nb_sum_left fun s hs => all2 s (by rw [e1]; exact List.mem_append_left _ hs)
/-- times, by formula -/
def timB (x : Bow) (n : Int) : Bow := if n = 1 then x else ⟨n * x.c + n * (n - 1) / 2 * sm1 x.s * sm2 x.s, hull (x.s ++ (if n > 2 then [((n - 2) * sm1 x.s, (n - 2) * sm2 x.s)] else []) ++ x.s)⟩
theorem pw_row_s {x : Bow} (h : x.good) {u w : List Sp} (hS : ok (smP x.s)) (e : x.s = u ++ w) (h1 : ∀ s ∈ u, nb (smP x.s) s) (h2 : ∀ s ∈ w, nb s (smP x.s)) : ∀ n : Nat, (pw rowB x (n + 1)).s = hull (u ++ [sc ((n : Int) + 1) (smP x.s)] ++ w)
  | 0 => by
    have ou : allOk u := fun y hy => h.ok y (by rw [e]; exact List.mem_append_left _ hy)
    have ow : allOk w := fun y hy => h.ok y (by rw [e]; exact List.mem_append_right _ hy)
    have hs : add (smP u) (smP w) = smP x.s := by rw [e, smP_app]
    have b := block hS (k := 0) (m := []) (by omega) ou ow (fun _ hh => by cases hh) h1 h2 (fun _ hh => by cases hh) (by unfold sc smP sm1 sm2; simp) hs
    have := ((b.left ou).right w).hull
    show hull (x.s ++ x.s) = _
    rw [List.append_nil] at this
    have e3 : x.s ++ x.s = u ++ (w ++ u) ++ w := by rw [e]; simp
    rw [e3]
    exact this
  | n + 1 => by
    have ih := pw_row_s h hS e h1 h2 n
    have ou : allOk u := fun y hy => h.ok y (by rw [e]; exact List.mem_append_left _ hy)
    have ow : allOk w := fun y hy => h.ok y (by rw [e]; exact List.mem_append_right _ hy)
    have hs : add (smP u) (smP w) = smP x.s := by rw [e, smP_app]
    have b := block hS (k := 0) (m := []) (by omega) ou ow (fun _ hh => by cases hh) h1 h2 (fun _ hh => by cases hh) (by unfold sc smP sm1 sm2; simp) hs
    rw [List.append_nil] at b
    have on := sc_ok (k := (n : Int) + 1) (by omega) hS
    have oo : allOk (u ++ [sc ((n : Int) + 1) (smP x.s)]) := allOk_app ou (allOk_one on)
    show hull ((pw rowB x (n + 1)).s ++ x.s) = _
    rw [ih, hull_left (allOk_app oo ow)]
    have e3 : u ++ [sc ((n : Int) + 1) (smP x.s)] ++ w ++ x.s = (u ++ [sc ((n : Int) + 1) (smP x.s)]) ++ (w ++ u) ++ w := by
      generalize sc ((n : Int) + 1) (smP x.s) = mid
      rw [e]
      simp
    rw [e3, ((b.left oo).right w).hull]
    have o1 := sc_ok (k := 0 + 1) (by omega) hS
    have eq1 : EqS (sc ((n : Int) + 1) (smP x.s)) (sc (0 + 1) (smP x.s)) := (sc_eqs (by omega) _).trans on hS o1 (sc_eqs (by omega) _).symm
    have hm := hull_merge (l := u) (r := w) ou on o1 eq1.1
    rw [sc_add] at hm
    have e4 : ((n + 1 : Nat) : Int) + 1 = (n : Int) + 1 + (0 + 1) := by omega
    rw [e4]
    simpa using hm
theorem pw_row_c {x : Bow} : ∀ n : Nat, (pw rowB x n).c = ((n : Int) + 1) * x.c + ((n : Int) + 1) * (n : Int) / 2 * sm1 x.s * sm2 x.s ∧ sm1 (pw rowB x n).s = ((n : Int) + 1) * sm1 x.s ∧ sm2 (pw rowB x n).s = ((n : Int) + 1) * sm2 x.s
  | 0 => by simp [pw]
  | n + 1 => by
    obtain ⟨a, b, c⟩ := pw_row_c (x := x) n
    have e : ((n + 1 : Nat) : Int) = (n : Int) + 1 := by omega
    have t := tri ((n : Int) + 1)
    rw [Int.add_sub_cancel] at t
    refine ⟨?_, ?_, ?_⟩
    · show (pw rowB x n).c + x.c + sm1 (pw rowB x n).s * sm2 x.s = _
      rw [a, b, e, t]
      simp only [Int.add_mul, Int.one_mul]
      omega
    · show sm1 (hull _) = _
      rw [(hull_sum _).1, sm1_app, b, e]
      simp only [Int.add_mul, Int.one_mul]
    · show sm2 (hull _) = _
      rw [(hull_sum _).2, sm2_app, c, e]
      simp only [Int.add_mul, Int.one_mul]
theorem pw_row {x : Bow} (h : x.good) (hS : ok (smP x.s)) : ∀ n : Nat, pw rowB x n = timB x ((n : Int) + 1)
  | 0 => by
    unfold timB
    rw [if_pos (by simp)]
    rfl
  | n + 1 => by
    obtain ⟨u, w, e, h1, h2⟩ := fall_split hS h.ok h.fall
    have ou : allOk u := fun y hy => h.ok y (by rw [e]; exact List.mem_append_left _ hy)
    have ow : allOk w := fun y hy => h.ok y (by rw [e]; exact List.mem_append_right _ hy)
    have hs : add (smP u) (smP w) = smP x.s := by rw [e, smP_app]
    have en : ((n + 1 : Nat) : Int) + 1 = (n : Int) + 2 := by omega
    rw [en]
    unfold timB
    rw [if_neg (by omega)]
    refine Bow.ext' ?_ ?_
    · rw [(pw_row_c (n + 1)).1]
      have e2 : ((n + 1 : Nat) : Int) = (n : Int) + 2 - 1 := by omega
      rw [e2]
      have e3 : (n : Int) + 2 - 1 + 1 = (n : Int) + 2 := by omega
      rw [e3]
    · rw [pw_row_s h hS e h1 h2 n]
      cases n with
      | zero =>
        have b := block hS (k := 0) (m := []) (by omega) ou ow (fun _ hh => by cases hh) h1 h2 (fun _ hh => by cases hh) (by unfold sc smP sm1 sm2; simp) hs
        rw [List.append_nil] at b
        have := ((b.left ou).right w).hull
        have e3 : x.s ++ [] ++ x.s = u ++ (w ++ u) ++ w := by rw [e]; simp
        show _ = hull (x.s ++ [] ++ x.s)
        rw [e3]
        exact this.symm
      | succ n =>
        have k0 : (0 : Int) ≤ ((n + 1 : Nat) : Int) + 2 - 2 := by omega
        have k1 : (1 : Int) ≤ ((n + 1 : Nat) : Int) + 2 - 2 := by omega
        have om : allOk [sc (((n + 1 : Nat) : Int) + 2 - 2) (smP x.s)] := allOk_one (sc_ok k1 hS)
        have b := block hS (k := ((n + 1 : Nat) : Int) + 2 - 2) (m := [sc (((n + 1 : Nat) : Int) + 2 - 2) (smP x.s)]) k0 ou ow om h1 h2 (fun s hs2 => by rw [List.mem_singleton.mp hs2]; exact (sc_eqs k1 _).1) (smP_one _) hs
        have := ((b.left ou).right w).hull
        have cnd : (((n + 1 : Nat) : Int) + 2 > 2) := by omega
        rw [if_pos cnd]
        have e3 : x.s ++ [((((n + 1 : Nat) : Int) + 2 - 2) * sm1 x.s, (((n + 1 : Nat) : Int) + 2 - 2) * sm2 x.s)] ++ x.s = u ++ (w ++ [sc (((n + 1 : Nat) : Int) + 2 - 2) (smP x.s)] ++ u) ++ w := by
          have e4 : sc (((n + 1 : Nat) : Int) + 2 - 2) (smP x.s) = ((((n + 1 : Nat) : Int) + 2 - 2) * sm1 x.s, (((n + 1 : Nat) : Int) + 2 - 2) * sm2 x.s) := rfl
          rw [e4]
          generalize ((((n + 1 : Nat) : Int) + 2 - 2) * sm1 x.s, (((n + 1 : Nat) : Int) + 2 - 2) * sm2 x.s) = mid
          rw [e]
          simp
        rw [e3, this]
        have e5 : ((n + 1 : Nat) : Int) + 2 - 2 + 1 = ((n + 1 : Nat) : Int) + 1 := by omega
        rw [e5]
end TL.Bw

/-! TBow5: bows of plans. -/
namespace TL.Bw
theorem push_len : ∀ (r : List Sp) (a : Sp), (push r a).length ≤ r.length + 1
  | [], a => Nat.le_refl _
  | t :: r, a => by
    unfold push
    split
    · exact Nat.le_refl _
    · exact Nat.le_trans (push_len r _) (by simp)
theorem foldl_len : ∀ (xs r : List Sp), (xs.foldl push r).length ≤ r.length + xs.length
  | [], r => by simp
  | x :: xs, r => by
    have a := foldl_len xs (push r x)
    have b := push_len r x
    simp only [List.foldl_cons, List.length_cons]
    omega
theorem hull_len (xs : List Sp) : (hull xs).length ≤ xs.length := by
  unfold hull
  rw [List.length_reverse]
  simpa using foldl_len xs []
theorem hull_ne {xs : List Sp} (h : xs ≠ []) : hull xs ≠ [] := fun e => by
  have b := hull_blk xs
  rw [e] at b
  cases b
  exact h rfl
theorem sums_nn : ∀ {x : List Sp}, allOk x → 0 ≤ sm1 x ∧ 0 ≤ sm2 x
  | [], _ => by simp [sm1, sm2]
  | s :: x, h => by
    obtain ⟨a, b⟩ := sums_nn (x := x) fun y hy => h y (List.mem_cons_of_mem _ hy)
    obtain ⟨c, d, _⟩ := h s List.mem_cons_self
    simp only [sm1, sm2, List.map_cons, List.sum_cons] at *
    omega
theorem smP_ok : ∀ {x : List Sp}, allOk x → x ≠ [] → ok (smP x)
  | [], _, h => absurd rfl h
  | s :: x, h, _ => by
    obtain ⟨a, b⟩ := sums_nn (x := x) fun y hy => h y (List.mem_cons_of_mem _ hy)
    obtain ⟨c, d, e⟩ := h s List.mem_cons_self
    unfold ok smP
    simp only [sm1, sm2, List.map_cons, List.sum_cons] at *
    omega
theorem step_le : ∀ {x : List Sp}, allOk x → ∀ s ∈ x, s.1 ≤ sm1 x ∧ s.2 ≤ sm2 x
  | [], _, s, h => by cases h
  | t :: x, h, s, hs => by
    have hx : allOk x := fun y hy => h y (List.mem_cons_of_mem _ hy)
    obtain ⟨a, b⟩ := sums_nn hx
    obtain ⟨c, d, _⟩ := h t List.mem_cons_self
    rcases List.mem_cons.mp hs with e | hs
    · rw [e]
      simp only [sm1, sm2, List.map_cons, List.sum_cons] at *
      omega
    · obtain ⟨f, g⟩ := step_le hx s hs
      simp only [sm1, sm2, List.map_cons, List.sum_cons] at *
      omega
theorem met1_le {s : Sp} (hs : ok s) : ∀ {y : List Sp}, allOk y → 0 ≤ met1 s y ∧ met1 s y ≤ s.1 * sm2 y
  | [], _ => by simp [met1, sm2]
  | o :: y, h => by
    obtain ⟨a, b⟩ := met1_le hs (y := y) fun z hz => h z (List.mem_cons_of_mem _ hz)
    obtain ⟨c, d, _⟩ := h o List.mem_cons_self
    have p1 : 0 ≤ s.1 * o.2 := Int.mul_nonneg hs.1 d
    have p2 : 0 ≤ o.1 * s.2 := Int.mul_nonneg c hs.2.1
    simp only [met1, mt, sm2, List.map_cons, List.sum_cons, Int.mul_add] at *
    omega
theorem met_le {y : List Sp} (hy : allOk y) : ∀ {x : List Sp}, allOk x → 0 ≤ met x y ∧ met x y ≤ sm1 x * sm2 y
  | [], _ => by simp [met, sm1]
  | s :: x, h => by
    obtain ⟨a, b⟩ := met_le hy (x := x) fun z hz => h z (List.mem_cons_of_mem _ hz)
    obtain ⟨c, d⟩ := met1_le (h s List.mem_cons_self) hy
    simp only [met, sm1, List.map_cons, List.sum_cons, Int.add_mul] at *
    omega
/-- how dear a bow may be, by its sums -/
def CB : Int := 1606938044258990275541962092341162602522202993782792835301376
theorem CB_eq : CB = 2 ^ 200 := by decide +kernel
theorem CB_mul {v : Int} (h : 0 ≤ v) : v ≤ CB * v := by
  have := Int.mul_le_mul_of_nonneg_right (show (1 : Int) ≤ CB by decide +kernel) h
  omega
/-- a bow of at most n steps -/
structure Fit (x : Bow) (n : Nat) : Prop where
  good : x.good
  ne : x.s ≠ []
  len : x.s.length ≤ n
  c0 : 0 ≤ x.c
  c1 : x.c ≤ CB * ((sm1 x.s + sm2 x.s) * (sm1 x.s + sm2 x.s))
def opB (r : Bool) : Bow → Bow → Bow := if r then rowB else sideB
theorem opB_good {r : Bool} {x y : Bow} (hx : x.good) (hy : y.good) : (opB r x y).good := by
  cases r
  · exact sideB_good hx hy
  · exact rowB_good hx hy
theorem opB_assoc {r : Bool} {x y z : Bow} (hx : x.good) (hy : y.good) (hz : z.good) : opB r (opB r x y) z = opB r x (opB r y z) := by
  cases r
  · exact sideB_assoc hx hy hz
  · exact rowB_assoc hx hy hz
theorem mrg_len (a b : List Sp) : (mrg a b).length = a.length + b.length := by
  rw [(mrg_perm a b).length_eq, List.length_append]
theorem perm_sm {x y : List Sp} (p : x.Perm y) : sm1 x = sm1 y ∧ sm2 x = sm2 y := ⟨perm_sum (p.map _), perm_sum (p.map _)⟩
theorem op_sums (r : Bool) (x y : Bow) : sm1 (opB r x y).s = sm1 x.s + sm1 y.s ∧ sm2 (opB r x y).s = sm2 x.s + sm2 y.s := by
  cases r
  · show sm1 (hull (mrg x.s y.s)) = _ ∧ sm2 (hull (mrg x.s y.s)) = _
    rw [(hull_sum _).1, (hull_sum _).2, (perm_sm (mrg_perm _ _)).1, (perm_sm (mrg_perm _ _)).2, sm1_app, sm2_app]
    exact ⟨rfl, rfl⟩
  · show sm1 (hull (x.s ++ y.s)) = _ ∧ sm2 (hull (x.s ++ y.s)) = _
    rw [(hull_sum _).1, (hull_sum _).2, sm1_app, sm2_app]
    exact ⟨rfl, rfl⟩
theorem op_len (r : Bool) (x y : Bow) : (opB r x y).s.length ≤ x.s.length + y.s.length := by
  cases r
  · exact Nat.le_trans (hull_len _) (by rw [mrg_len]; exact Nat.le_refl _)
  · exact Nat.le_trans (hull_len _) (by rw [List.length_append]; exact Nat.le_refl _)
theorem fit_op {r : Bool} {x y : Bow} {n m : Nat} (hx : Fit x n) (hy : Fit y m) : Fit (opB r x y) (n + m) := by
  obtain ⟨a, b⟩ := sums_nn hx.good.ok
  obtain ⟨c, d⟩ := sums_nn hy.good.ok
  have p1 := Int.mul_nonneg a d
  have p2 := Int.mul_nonneg c b
  have x0 := hx.c0
  have x1 := hx.c1
  have y0 := hy.c0
  have y1 := hy.c1
  have ml := met_le hy.good.ok hx.good.ok
  refine ⟨opB_good hx.good hy.good, ?_, Nat.le_trans (op_len r x y) (Nat.add_le_add hx.len hy.len), ?_, ?_⟩
  · cases r
    · refine hull_ne fun e => ?_
      have := mrg_len x.s y.s
      rw [e] at this
      exact hx.ne (List.eq_nil_of_length_eq_zero (by simp at this; omega))
    · refine hull_ne fun e => hx.ne ?_
      exact (List.append_eq_nil_iff.mp e).1
  · cases r
    · show 0 ≤ x.c + y.c + met x.s y.s
      omega
    · show 0 ≤ x.c + y.c + sm1 x.s * sm2 y.s
      omega
  · rw [(op_sums r x y).1, (op_sums r x y).2]
    have sq : ∀ a b : Int, (a + b) * (a + b) = a * a + b * b + (a * b + a * b) := fun a b => by
      rw [Int.add_mul, Int.mul_add, Int.mul_add, Int.mul_comm b a]
      omega
    have fin : ∀ X Y : Int, CB * ((X + Y) * (X + Y)) = CB * (X * X) + CB * (Y * Y) + (CB * (X * Y) + CB * (X * Y)) := fun X Y => by rw [sq, Int.mul_add CB, Int.mul_add CB, Int.mul_add CB]
    have g0 : 0 ≤ (sm1 x.s + sm2 x.s) * (sm1 y.s + sm2 y.s) := Int.mul_nonneg (by omega) (by omega)
    have g1 : sm1 x.s * sm2 y.s ≤ (sm1 x.s + sm2 x.s) * (sm1 y.s + sm2 y.s) := Int.mul_le_mul (by omega) (by omega) d (by omega)
    have g2 := CB_mul g0
    rw [show sm1 x.s + sm1 y.s + (sm2 x.s + sm2 y.s) = (sm1 x.s + sm2 x.s) + (sm1 y.s + sm2 y.s) by omega, fin]
    cases r
    · show x.c + y.c + met x.s y.s ≤ _
      have ml2 := met_le hy.good.ok hx.good.ok
      omega
    · show x.c + y.c + sm1 x.s * sm2 y.s ≤ _
      omega
theorem pw_op {r : Bool} {x : Bow} (h : x.good) (hS : ok (smP x.s)) (n : Nat) : pw (opB r) x n = if r then timB x ((n : Int) + 1) else copB x ((n : Int) + 1) := by
  cases r
  · exact pw_side h n
  · exact pw_row h hS n
theorem scl_len (n : Int) (x : List Sp) : (scl n x).length = x.length := by simp [scl]
theorem pw_len {r : Bool} {x : Bow} (h : x.good) (hS : ok (smP x.s)) : ∀ n : Nat, (pw (opB r) x n).s.length ≤ x.s.length + 1
  | 0 => Nat.le_succ _
  | n + 1 => by
    cases r
    · have : pw (opB false) x (n + 1) = _ := pw_side h (n + 1)
      rw [this]
      show (scl _ x.s).length ≤ _
      rw [scl_len]
      exact Nat.le_succ _
    · obtain ⟨u, w, e, h1, h2⟩ := fall_split hS h.ok h.fall
      have : (pw (opB true) x (n + 1)).s = _ := pw_row_s h hS e h1 h2 n
      rw [this]
      refine Nat.le_trans (hull_len _) ?_
      rw [e]
      simp only [List.length_append, List.length_cons, List.length_nil]
      omega
theorem fit_pw {r : Bool} {x : Bow} {m : Nat} (h : Fit x m) (n : Nat) : Fit (pw (opB r) x n) (m + 1) := by
  have w : ∀ n, ∃ k, Fit (pw (opB r) x n) k := by
    intro n
    induction n with
    | zero => exact ⟨m, h⟩
    | succ n ih =>
      obtain ⟨k, f⟩ := ih
      exact ⟨_, fit_op f h⟩
  obtain ⟨k, f⟩ := w n
  exact ⟨f.good, f.ne, Nat.le_trans (pw_len h.good (smP_ok h.good.ok h.ne) n) (Nat.succ_le_succ h.len), f.c0, f.c1⟩
theorem pw_sums (r : Bool) (x : Bow) : ∀ n : Nat, sm1 (pw (opB r) x n).s = ((n : Int) + 1) * sm1 x.s ∧ sm2 (pw (opB r) x n).s = ((n : Int) + 1) * sm2 x.s
  | 0 => by simp [pw]
  | n + 1 => by
    obtain ⟨a, b⟩ := pw_sums r x n
    have e : ((n + 1 : Nat) : Int) = (n : Int) + 1 := by omega
    have := op_sums r (pw (opB r) x n) x
    show sm1 (opB r (pw (opB r) x n) x).s = _ ∧ sm2 (opB r (pw (opB r) x n) x).s = _
    rw [this.1, this.2, a, b, e]
    simp only [Int.add_mul, Int.one_mul]
    exact ⟨trivial, trivial⟩
theorem pw_half {r : Bool} {x : Bow} (h : x.good) (a b : Nat) : opB r (pw (opB r) x a) (pw (opB r) x b) = pw (opB r) x (a + b + 1) :=
  (pw_add (op := opB r) (fun a b => opB_good a b) (fun a b c => opB_assoc a b c) h a b).symm
/-! ### plans -/
def jnL (r : Bool) : List Bow → Bow
  | [] => ⟨0, []⟩
  | b :: bs => bs.foldl (opB r) b
def jnR (r : Bool) : List Bow → Bow
  | [] => ⟨0, []⟩
  | [b] => b
  | b :: c :: bs => opB r b (jnR r (c :: bs))
theorem foldl_op {r : Bool} : ∀ {bs : List Bow} {x y : Bow}, x.good → y.good → (∀ b ∈ bs, b.good) → bs.foldl (opB r) (opB r x y) = opB r x (bs.foldl (opB r) y)
  | [], _, _, _, _, _ => rfl
  | b :: bs, x, y, hx, hy, h => by
    have hb := h b List.mem_cons_self
    simp only [List.foldl_cons]
    rw [opB_assoc hx hy hb]
    exact foldl_op hx (opB_good hy hb) fun c hc => h c (List.mem_cons_of_mem _ hc)
theorem jnL_R {r : Bool} : ∀ {bs : List Bow}, (∀ b ∈ bs, b.good) → jnR r bs = jnL r bs
  | [], _ => rfl
  | [b], _ => rfl
  | b :: c :: bs, h => by
    have hc : ∀ d ∈ c :: bs, d.good := fun d hd => h d (List.mem_cons_of_mem _ hd)
    show opB r b (jnR r (c :: bs)) = bs.foldl (opB r) (opB r b c)
    rw [jnL_R hc, foldl_op (h b List.mem_cons_self) (hc c List.mem_cons_self) fun d hd => hc d (List.mem_cons_of_mem _ hd)]
    rfl
theorem jnL_good {r : Bool} : ∀ {bs : List Bow}, bs ≠ [] → (∀ b ∈ bs, b.good) → (jnL r bs).good
  | [], h, _ => absurd rfl h
  | b :: bs, _, h => by
    have : ∀ (bs : List Bow) (b : Bow), b.good → (∀ c ∈ bs, c.good) → (bs.foldl (opB r) b).good := by
      intro bs
      induction bs with
      | nil => intro b hb _; exact hb
      | cons c bs ih => intro b hb hc; exact ih _ (opB_good hb (hc c List.mem_cons_self)) fun d hd => hc d (List.mem_cons_of_mem _ hd)
    exact this bs b (h b List.mem_cons_self) fun c hc => h c (List.mem_cons_of_mem _ hc)
/-- rows of rows are one row -/
theorem jnL_app {r : Bool} : ∀ {as bs : List Bow}, as ≠ [] → bs ≠ [] → (∀ b ∈ as, b.good) → (∀ b ∈ bs, b.good) → jnL r (as ++ bs) = opB r (jnL r as) (jnL r bs)
  | [], _, h, _, _, _ => absurd rfl h
  | a :: as, b :: bs, _, _, ha, hb => by
    show (as ++ b :: bs).foldl (opB r) a = opB r (as.foldl (opB r) a) (bs.foldl (opB r) b)
    rw [List.foldl_append, List.foldl_cons]
    exact foldl_op (jnL_good (r := r) (bs := a :: as) (by simp) ha) (hb b List.mem_cons_self) fun c hc => hb c (List.mem_cons_of_mem _ hc)
  | _ :: _, [], _, h, _, _ => absurd rfl h
theorem jnL_rep {r : Bool} {x : Bow} : ∀ n : Nat, jnL r (List.replicate (n + 1) x) = pw (opB r) x n
  | 0 => rfl
  | n + 1 => by
    have e : List.replicate (n + 1 + 1) x = List.replicate (n + 1) x ++ [x] := by rw [List.replicate_succ']
    have ih := jnL_rep (r := r) (x := x) n
    rw [e, List.replicate_succ]
    rw [List.replicate_succ] at ih
    show ((List.replicate n x) ++ [x]).foldl (opB r) x = opB r (pw (opB r) x n) x
    rw [List.foldl_append, ← ih]
    rfl
theorem jnL_perm {as bs : List Bow} (p : as.Perm bs) : (∀ b ∈ as, b.good) → jnL false as = jnL false bs := by
  have comm : ∀ {x y : Bow}, x.good → y.good → opB false x y = opB false y x := fun hx hy => sideB_comm hx hy
  induction p with
  | nil => intro _; rfl
  | @cons x as bs p ih =>
    intro h
    have ha : ∀ b ∈ as, b.good := fun b hb => h b (List.mem_cons_of_mem _ hb)
    cases as with
    | nil => rw [p.nil_eq]
    | cons a as =>
      have hb : ∀ b ∈ bs, b.good := fun b hb => ha b (p.symm.subset hb)
      have nb : bs ≠ [] := fun e => by rw [e] at p; exact absurd p.eq_nil (by simp)
      have e1 := jnL_app (r := false) (as := [x]) (bs := a :: as) (by simp) (by simp) (fun b hb => h b (by simp at hb; simp [hb])) ha
      have e2 := jnL_app (r := false) (as := [x]) (bs := bs) (by simp) nb (fun b hb => h b (by simp at hb; simp [hb])) hb
      have e3 := ih ha
      rw [show x :: a :: as = [x] ++ (a :: as) from rfl, show x :: bs = [x] ++ bs from rfl, e1, e2, e3]
  | swap x y as =>
    intro h
    show as.foldl (opB false) (opB false y x) = as.foldl (opB false) (opB false x y)
    rw [comm (h y (by simp)) (h x (by simp))]
  | trans p q ih1 ih2 =>
    intro h
    exact (ih1 h).trans (ih2 fun b hb => h b (p.symm.subset hb))
end TL.Bw
namespace TL
open TL.Bw
mutual
def Pl.bow : Pl → Bow
  | .place l w => ⟨l * w, [(l, w)]⟩
  | .rep c n p => if c then copB p.bow n else timB p.bow n
  | .join r ps => jnL r ps.bows
def Pls.bows : Pls → List Bow
  | .nil => []
  | .cons p r => p.bow :: r.bows
end
theorem foldl_fit {r : Bool} : ∀ {ps : Pls} {x : Bow} {n : Nat}, Fit x n → (∀ b ∈ ps.bows, ∃ m, Fit b m) → True := fun _ _ => trivial
mutual
theorem Pl.fit : ∀ {p : Pl}, p.ok → Fit p.bow p.size ∧ sm1 p.bow.s = p.tl ∧ sm2 p.bow.s = p.tw
  | .place l w, ⟨a, b, c, d, e⟩ => by
    have o : ok (l, w) := ⟨a, c, e⟩
    refine ⟨⟨⟨fun x hx => by rw [List.mem_singleton.mp hx]; exact o, trivial⟩, by simp [Pl.bow], by simp [Pl.bow, Pl.size], Int.mul_nonneg a c, by
      have g := Int.mul_le_mul (show l ≤ l + w by omega) (show w ≤ l + w by omega) c (show 0 ≤ l + w by omega)
      have g2 := CB_mul (Int.mul_nonneg (show 0 ≤ l + w by omega) (show 0 ≤ l + w by omega))
      simp only [Pl.bow, sm1, sm2, List.map_cons, List.map_nil, List.sum_cons, List.sum_nil, Int.add_zero]
      omega⟩, by simp [Pl.bow, sm1, Pl.tl, Pl.val], by simp [Pl.bow, sm2, Pl.tw, Pl.val]⟩
  | .rep c n p, ⟨h1, h2, h3⟩ => by
    obtain ⟨f, e1, e2⟩ := Pl.fit h3
    have hS := smP_ok f.good.ok f.ne
    have en : ((n.toNat - 1 : Nat) : Int) + 1 = n := by omega
    have eb : (Pl.rep c n p).bow = pw (opB (!c)) p.bow (n.toNat - 1) := by
      rw [pw_op f.good hS, en]
      cases c <;> rfl
    have s := pw_sums (!c) p.bow (n.toNat - 1)
    rw [en] at s
    rw [eb]
    exact ⟨fit_pw f _, by rw [s.1, e1]; rfl, by rw [s.2, e2]; rfl⟩
  | .join r ps, ⟨h1, h2, h3⟩ => by
    match ps, h1, h3 with
    | .cons p ps, _, h3 =>
      obtain ⟨f, e1, e2⟩ := Pl.fit h3.1
      obtain ⟨f2, e3, e4⟩ := Pls.fit (r := r) h3.2 f
      refine ⟨⟨f2.good, f2.ne, Nat.le_trans f2.len (by simp only [Pl.size, Pls.size]; omega), f2.c0, f2.c1⟩, ?_, ?_⟩
      · show sm1 (ps.bows.foldl (opB r) p.bow).s = _
        rw [e3, e1]; rfl
      · show sm2 (ps.bows.foldl (opB r) p.bow).s = _
        rw [e4, e2]; rfl
theorem Pls.fit {r : Bool} : ∀ {ps : Pls}, ps.ok → ∀ {x : Bow} {n : Nat}, Fit x n → Fit (ps.bows.foldl (opB r) x) (n + ps.size) ∧ sm1 (ps.bows.foldl (opB r) x).s = sm1 x.s + ps.val (fun l _ => l) ∧ sm2 (ps.bows.foldl (opB r) x).s = sm2 x.s + ps.val (fun _ w => w)
  | .nil, _, x, n, f => ⟨f, by simp [Pls.bows, Pls.val], by simp [Pls.bows, Pls.val]⟩
  | .cons p ps, h, x, n, f => by
    obtain ⟨g, e1, e2⟩ := Pl.fit h.1
    obtain ⟨f2, e3, e4⟩ := Pls.fit (r := r) h.2 (fit_op (r := r) f g)
    have s := op_sums r x p.bow
    simp only [Pls.bows, List.foldl_cons, Pls.size, Pls.val]
    refine ⟨by rw [← Nat.add_assoc]; exact f2, ?_, ?_⟩
    · rw [e3, s.1, e1, Int.add_assoc]
    · rw [e4, s.2, e2, Int.add_assoc]
end
theorem Pl.bow_rep {c : Bool} {n : Int} {p : Pl} (h : (Pl.rep c n p).ok) : (Pl.rep c n p).bow = pw (opB (!c)) p.bow (n.toNat - 1) := by
  obtain ⟨h1, h2, h3⟩ := h
  obtain ⟨f, _⟩ := Pl.fit h3
  have en : ((n.toNat - 1 : Nat) : Int) + 1 = n := by omega
  rw [pw_op f.good (smP_ok f.good.ok f.ne), en]
  cases c <;> rfl
theorem Pls.bows_good : ∀ {ps : Pls}, ps.ok → ∀ b ∈ ps.bows, b.good
  | .nil, _, b, h => by cases h
  | .cons p ps, o, b, h => by
    rcases List.mem_cons.mp h with e | h
    · rw [e]; exact (Pl.fit o.1).1.good
    · exact Pls.bows_good o.2 b h
end TL

/-! TPlan2: parts as lists, so many times by halves. -/
namespace TL
open PySem PySem.Spec PyProof.Rows L2
open TL.Bw (Bow sm1 sm2 Fit opB jnL jnR pw)
def Pls.toL : Pls → List Pl
  | .nil => []
  | .cons p r => p :: r.toL
def Pls.ofL : List Pl → Pls
  | [] => .nil
  | p :: r => .cons p (Pls.ofL r)
theorem Pls.of_to : ∀ ps : Pls, Pls.ofL ps.toL = ps
  | .nil => rfl
  | .cons p r => by simp only [Pls.toL, Pls.ofL, Pls.of_to r]
theorem Pls.to_of : ∀ L : List Pl, (Pls.ofL L).toL = L
  | [] => rfl
  | p :: r => by simp only [Pls.toL, Pls.ofL, Pls.to_of r]
theorem Pls.tvs_toL : ∀ ps : Pls, ps.tvs = ps.toL.map Pl.tv
  | .nil => rfl
  | .cons p r => by simp only [Pls.tvs, Pls.toL, List.map_cons, Pls.tvs_toL r]
theorem Pls.tvs_ofL (L : List Pl) : (Pls.ofL L).tvs = L.map Pl.tv := by rw [Pls.tvs_toL, Pls.to_of]
theorem Pls.bows_toL : ∀ ps : Pls, ps.bows = ps.toL.map Pl.bow
  | .nil => rfl
  | .cons p r => by simp only [Pls.bows, Pls.toL, List.map_cons, Pls.bows_toL r]
theorem Pls.bows_ofL (L : List Pl) : (Pls.ofL L).bows = L.map Pl.bow := by rw [Pls.bows_toL, Pls.to_of]
theorem Pls.len_toL : ∀ ps : Pls, ps.len = ps.toL.length
  | .nil => rfl
  | .cons p r => by simp only [Pls.len, Pls.toL, List.length_cons, Pls.len_toL r]
theorem Pls.len_ofL (L : List Pl) : (Pls.ofL L).len = L.length := by rw [Pls.len_toL, Pls.to_of]
theorem Pls.ok_toL : ∀ {ps : Pls}, ps.ok ↔ ∀ p ∈ ps.toL, p.ok
  | .nil => by simp [Pls.ok, Pls.toL]
  | .cons p r => by simp only [Pls.ok, Pls.toL, List.mem_cons, forall_eq_or_imp, Pls.ok_toL (ps := r)]
theorem Pls.ok_ofL {L : List Pl} : (Pls.ofL L).ok ↔ ∀ p ∈ L, p.ok := by rw [Pls.ok_toL, Pls.to_of]
theorem Pls.dep_ofL {d : Nat} : ∀ {L : List Pl}, (∀ p ∈ L, p.dep ≤ d) → (Pls.ofL L).dep ≤ d
  | [], _ => Nat.zero_le _
  | p :: r, h => Nat.max_le.mpr ⟨h p List.mem_cons_self, Pls.dep_ofL fun q hq => h q (List.mem_cons_of_mem _ hq)⟩
theorem Pls.dep_mem : ∀ {ps : Pls} {p : Pl}, p ∈ ps.toL → p.dep ≤ ps.dep
  | .nil, _, h => by cases h
  | .cons q r, p, h => by
    rcases List.mem_cons.mp h with e | h
    · rw [e]; exact Nat.le_max_left _ _
    · exact Nat.le_trans (Pls.dep_mem h) (Nat.le_max_right _ _)
theorem Pls.size_mem : ∀ {ps : Pls} {p : Pl}, p ∈ ps.toL → p.size ≤ ps.size
  | .nil, _, h => by cases h
  | .cons q r, p, h => by
    rcases List.mem_cons.mp h with e | h
    · rw [e]; exact Nat.le_add_right _ _
    · exact Nat.le_trans (Pls.size_mem h) (Nat.le_add_left _ _)
theorem perm_map {α β : Type} {f : α → β} {zs ws : List β} (p : zs.Perm ws) : ∀ {L : List α}, ws = L.map f → ∃ L' : List α, zs = L'.map f ∧ L'.Perm L := by
  induction p with
  | nil => intro L e; exact ⟨[], rfl, by cases L with | nil => exact .refl _ | cons => cases e⟩
  | @cons x l1 l2 _ ih =>
    intro L e
    cases L with
    | nil => cases e
    | cons a L =>
      cases e
      obtain ⟨L', e, p⟩ := ih rfl
      exact ⟨a :: L', by rw [e]; rfl, p.cons a⟩
  | swap x y l =>
    intro L e
    match L, e with
    | a :: b :: L, e =>
      cases e
      exact ⟨b :: a :: L, rfl, .swap a b L⟩
    | [_], e => cases e
    | [], e => cases e
  | trans _ _ ih1 ih2 =>
    intro L e
    obtain ⟨L2, e2, p2⟩ := ih2 e
    obtain ⟨L1, e1, p1⟩ := ih1 e2
    exact ⟨L1, e1, p1.trans p2⟩
/-- so many of one bow -/
def pc (r : Bool) (x : Bow) (n : Nat) : Bow := pw (opB r) x (n - 1)
theorem pc_add {r : Bool} {x : Bow} (h : x.good) {a b : Nat} (ha : 1 ≤ a) (hb : 1 ≤ b) : opB r (pc r x a) (pc r x b) = pc r x (a + b) := by
  unfold pc
  rw [Bw.pw_half h, show a - 1 + (b - 1) + 1 = a + b - 1 by omega]
theorem pc_one (r : Bool) (x : Bow) : pc r x 1 = x := rfl
theorem pc_fit {r : Bool} {x : Bow} {m : Nat} (h : Fit x m) (n : Nat) : Fit (pc r x n) (m + 1) := Bw.fit_pw h _
theorem pc_sums {r : Bool} {x : Bow} {n : Nat} (h : 1 ≤ n) : sm1 (pc r x n).s = (n : Int) * sm1 x.s ∧ sm2 (pc r x n).s = (n : Int) * sm2 x.s := by
  have := Bw.pw_sums r x (n - 1)
  have e : ((n - 1 : Nat) : Int) + 1 = (n : Int) := by omega
  rw [e] at this
  exact this
theorem pc_len {r : Bool} {x : Bow} {m : Nat} (h : Fit x m) (n : Nat) : (pc r x n).s.length ≤ x.s.length + 1 := Bw.pw_len h.good (Bw.smP_ok h.good.ok h.ne) _
end TL

namespace TL
open PySem PySem.Spec PyProof.Rows L2
def topS (i : Nat) : Stmt := PySem.Challenge.pw_soonfound_k10_whole_bows_joined.main.body.getD i (.Pass ⟨0, 0, 0, 0⟩)
abbrev n_is_int : List Str := ["thing"]
abbrev p_is_int : List Str := ["thing"]
def b_is_int (G : Gx) : Sms :=
  (.cons (.ret (.and (.bi .isi (.cons (.loc 0) (.cons (.glb "int" (.ty "int")) .nil))) (.nt (.bi .isi (.cons (.loc 0) (.cons (.glb "bool" (.ty "bool")) .nil))))))
    .nil)
abbrev t_is_int : Stmt := topS 4
theorem sc_is_int : FnScope n_is_int p_is_int (defScope t_is_int) := ⟨rfl, rfl, rfl, by decide +kernel, rfl, by decide +kernel, by decide +kernel⟩
theorem ck_is_int {G : Gx} : ckSs n_is_int (defScope t_is_int) (b_is_int G) (defBody t_is_int) = true := by rfl
theorem bi_is_int {K : PySem.W.Frag} {f : Addr} {fd : FuncData} (F : Fun K "is_int" "is_int" t_is_int f fd) : Binds K fd p_is_int [] := F.binds fun _ _ _ _ _ _ us hl => match us, hl with | [_], _ => rfl
abbrev n_is_amount : List Str := ["thing"]
abbrev p_is_amount : List Str := ["thing"]
def b_is_amount (G : Gx) (s_is_int : TSp) : Sms :=
  (.cons (.ret (.and (.call "is_int" (adr G "is_int") s_is_int (.cons (.loc 0) .nil)) (.cmp .ge (.loc 0) (.cst (.int 0)))))
    .nil)
abbrev t_is_amount : Stmt := topS 5
theorem sc_is_amount : FnScope n_is_amount p_is_amount (defScope t_is_amount) := ⟨rfl, rfl, rfl, by decide +kernel, rfl, by decide +kernel, by decide +kernel⟩
theorem ck_is_amount {G : Gx} {s_is_int : TSp} : ckSs n_is_amount (defScope t_is_amount) (b_is_amount G s_is_int) (defBody t_is_amount) = true := by rfl
theorem bi_is_amount {K : PySem.W.Frag} {f : Addr} {fd : FuncData} (F : Fun K "is_amount" "is_amount" t_is_amount f fd) : Binds K fd p_is_amount [] := F.binds fun _ _ _ _ _ _ us hl => match us, hl with | [_], _ => rfl
abbrev n_is_pair : List Str := ["thing"]
abbrev p_is_pair : List Str := ["thing"]
def b_is_pair (G : Gx) (s_is_int : TSp) : Sms :=
  (.cons (.ret (.and (.bi .isi (.cons (.loc 0) (.cons (.glb "tuple" (.ty "tuple")) .nil))) (.and (.cmp .eq (.bi .len (.cons (.loc 0) .nil)) (.cst (.int 2))) (.and (.call "is_int" (adr G "is_int") s_is_int (.cons (.ix (.loc 0) (.cst (.int 0))) .nil)) (.call "is_int" (adr G "is_int") s_is_int (.cons (.ix (.loc 0) (.cst (.int 1))) .nil))))))
    .nil)
abbrev t_is_pair : Stmt := topS 6
theorem sc_is_pair : FnScope n_is_pair p_is_pair (defScope t_is_pair) := ⟨rfl, rfl, rfl, by decide +kernel, rfl, by decide +kernel, by decide +kernel⟩
theorem ck_is_pair {G : Gx} {s_is_int : TSp} : ckSs n_is_pair (defScope t_is_pair) (b_is_pair G s_is_int) (defBody t_is_pair) = true := by rfl
theorem bi_is_pair {K : PySem.W.Frag} {f : Addr} {fd : FuncData} (F : Fun K "is_pair" "is_pair" t_is_pair f fd) : Binds K fd p_is_pair [] := F.binds fun _ _ _ _ _ _ us hl => match us, hl with | [_], _ => rfl
abbrev n_is_step : List Str := ["thing"]
abbrev p_is_step : List Str := ["thing"]
def b_is_step (G : Gx) (s_is_pair : TSp) : Sms :=
  (.cons (.ret (.and (.call "is_pair" (adr G "is_pair") s_is_pair (.cons (.loc 0) .nil)) (.and (.cmp .ge (.ix (.loc 0) (.cst (.int 0))) (.cst (.int 0))) (.and (.cmp .ge (.ix (.loc 0) (.cst (.int 1))) (.cst (.int 0))) (.cmp .ne (.loc 0) (.tup (.cons (.cst (.int 0)) (.cons (.cst (.int 0)) .nil))))))))
    .nil)
abbrev t_is_step : Stmt := topS 7
theorem sc_is_step : FnScope n_is_step p_is_step (defScope t_is_step) := ⟨rfl, rfl, rfl, by decide +kernel, rfl, by decide +kernel, by decide +kernel⟩
theorem ck_is_step {G : Gx} {s_is_pair : TSp} : ckSs n_is_step (defScope t_is_step) (b_is_step G s_is_pair) (defBody t_is_step) = true := by rfl
theorem bi_is_step {K : PySem.W.Frag} {f : Addr} {fd : FuncData} (F : Fun K "is_step" "is_step" t_is_step f fd) : Binds K fd p_is_step [] := F.binds fun _ _ _ _ _ _ us hl => match us, hl with | [_], _ => rfl
abbrev n_is_better : List Str := ["one", "other"]
abbrev p_is_better : List Str := ["one", "other"]
def b_is_better (G : Gx) : Sms :=
  (.cons (.ret (.cmp .gt (.bin .mul (.ix (.loc 0) (.cst (.int 1))) (.ix (.loc 1) (.cst (.int 0)))) (.bin .mul (.ix (.loc 1) (.cst (.int 1))) (.ix (.loc 0) (.cst (.int 0))))))
    .nil)
abbrev t_is_better : Stmt := topS 10
theorem sc_is_better : FnScope n_is_better p_is_better (defScope t_is_better) := ⟨rfl, rfl, rfl, by decide +kernel, rfl, by decide +kernel, by decide +kernel⟩
theorem ck_is_better {G : Gx} : ckSs n_is_better (defScope t_is_better) (b_is_better G) (defBody t_is_better) = true := by rfl
theorem bi_is_better {K : PySem.W.Frag} {f : Addr} {fd : FuncData} (F : Fun K "is_better" "is_better" t_is_better f fd) : Binds K fd p_is_better [] := F.binds fun _ _ _ _ _ _ us hl => match us, hl with | [_, _], _ => rfl
abbrev n_drawn_in : List Str := ["steps", "found", "step", "one", "other"]
abbrev p_drawn_in : List Str := ["steps"]
def b_drawn_in (G : Gx) (s_is_better : TSp) : Sms :=
  (.cons (.set 1 (.lst .nil))
    (.cons (.fr (.name 2) (.seq (.loc 0)) (.cons (.exp (.mth .append (.loc 1) (.cons (.loc 2) .nil)))
    (.cons (.whl (.and (.val (.cmp .gt (.bi .len (.cons (.loc 1) .nil)) (.cst (.int 1)))) (.nt (.val (.call "is_better" (adr G "is_better") s_is_better (.cons (.ix (.loc 1) (.neg (.cst (.int 2)))) (.cons (.ix (.loc 1) (.neg (.cst (.int 1)))) .nil)))))) (.cons (.par [3, 4] (.cons (.ix (.loc 1) (.neg (.cst (.int 2)))) (.cons (.ix (.loc 1) (.neg (.cst (.int 1)))) .nil)))
    (.cons (.set 1 (.bin .add (.sl (.loc 1) .no (.so (.neg (.cst (.int 2))))) (.lst (.cons (.tup (.cons (.bin .add (.ix (.loc 3) (.cst (.int 0))) (.ix (.loc 4) (.cst (.int 0)))) (.cons (.bin .add (.ix (.loc 3) (.cst (.int 1))) (.ix (.loc 4) (.cst (.int 1)))) .nil))) .nil))))
    .nil)))
    .nil)))
    (.cons (.ret (.bi .tuple (.cons (.loc 1) .nil)))
    .nil)))
abbrev t_drawn_in : Stmt := topS 11
theorem sc_drawn_in : FnScope n_drawn_in p_drawn_in (defScope t_drawn_in) := ⟨rfl, rfl, rfl, by decide +kernel, rfl, by decide +kernel, by decide +kernel⟩
theorem ck_drawn_in {G : Gx} {s_is_better : TSp} : ckSs n_drawn_in (defScope t_drawn_in) (b_drawn_in G s_is_better) (defBody t_drawn_in) = true := by rfl
theorem bi_drawn_in {K : PySem.W.Frag} {f : Addr} {fd : FuncData} (F : Fun K "drawn_in" "drawn_in" t_drawn_in f fd) : Binds K fd p_drawn_in [] := F.binds fun _ _ _ _ _ _ us hl => match us, hl with | [_], _ => rfl
abbrev n_is_steps : List Str := ["thing", "step"]
abbrev p_is_steps : List Str := ["thing"]
def b_is_steps (G : Gx) (s_is_step : TSp) : Sms :=
  (.cons (.ret (.and (.bi .isi (.cons (.loc 0) (.cons (.glb "tuple" (.ty "tuple")) .nil))) (.and (.chn .le .le (.cst (.int 1)) (.bi .len (.cons (.loc 0) .nil)) (.glb "MOST_ROW" (.int 1000))) (.bi .all (.cons (.lc (.name 1) (.seq (.loc 0)) .no (.call "is_step" (adr G "is_step") s_is_step (.cons (.loc 1) .nil)) [("step", 1)]) .nil)))))
    .nil)
abbrev t_is_steps : Stmt := topS 12
theorem sc_is_steps : FnScope n_is_steps p_is_steps (defScope t_is_steps) := ⟨rfl, rfl, rfl, by decide +kernel, rfl, by decide +kernel, by decide +kernel⟩
theorem ck_is_steps {G : Gx} {s_is_step : TSp} : ckSs n_is_steps (defScope t_is_steps) (b_is_steps G s_is_step) (defBody t_is_steps) = true := by rfl
theorem bi_is_steps {K : PySem.W.Frag} {f : Addr} {fd : FuncData} (F : Fun K "is_steps" "is_steps" t_is_steps f fd) : Binds K fd p_is_steps [] := F.binds fun _ _ _ _ _ _ us hl => match us, hl with | [_], _ => rfl
abbrev n_is_bow : List Str := ["thing", "one", "other"]
abbrev p_is_bow : List Str := ["thing"]
def b_is_bow (G : Gx) (s_is_better s_is_steps s_is_amount : TSp) : Sms :=
  (.cons (.ife (.or (.nt (.val (.bi .isi (.cons (.loc 0) (.cons (.glb "tuple" (.ty "tuple")) .nil))))) (.or (.val (.cmp .ne (.bi .len (.cons (.loc 0) .nil)) (.cst (.int 2)))) (.or (.nt (.val (.call "is_amount" (adr G "is_amount") s_is_amount (.cons (.ix (.loc 0) (.cst (.int 0))) .nil)))) (.nt (.val (.call "is_steps" (adr G "is_steps") s_is_steps (.cons (.ix (.loc 0) (.cst (.int 1))) .nil))))))) (.cons (.ret (.cst (.bl false)))
    .nil) .nil)
    (.cons (.ret (.bi .all (.cons (.lc (.tup [1, 2]) (.zip (.ix (.loc 0) (.cst (.int 1))) (.sl (.ix (.loc 0) (.cst (.int 1))) (.so (.cst (.int 1))) .no)) .no (.call "is_better" (adr G "is_better") s_is_better (.cons (.loc 1) (.cons (.loc 2) .nil))) [("one", 1), ("other", 2)]) .nil)))
    .nil))
abbrev t_is_bow : Stmt := topS 13
theorem sc_is_bow : FnScope n_is_bow p_is_bow (defScope t_is_bow) := ⟨rfl, rfl, rfl, by decide +kernel, rfl, by decide +kernel, by decide +kernel⟩
theorem ck_is_bow {G : Gx} {s_is_better s_is_steps s_is_amount : TSp} : ckSs n_is_bow (defScope t_is_bow) (b_is_bow G s_is_better s_is_steps s_is_amount) (defBody t_is_bow) = true := by rfl
theorem bi_is_bow {K : PySem.W.Frag} {f : Addr} {fd : FuncData} (F : Fun K "is_bow" "is_bow" t_is_bow f fd) : Binds K fd p_is_bow [] := F.binds fun _ _ _ _ _ _ us hl => match us, hl with | [_], _ => rfl
abbrev n_check_bow : List Str := ["thing"]
abbrev p_check_bow : List Str := ["thing"]
def b_check_bow (G : Gx) (s_is_bow : TSp) : Sms :=
  (.cons (.ife (.nt (.val (.call "is_bow" (adr G "is_bow") s_is_bow (.cons (.loc 0) .nil)))) (.cons (.rais "BadBow" (adr G "BadBow"))
    .nil) .nil)
    .nil)
abbrev t_check_bow : Stmt := topS 14
theorem sc_check_bow : FnScope n_check_bow p_check_bow (defScope t_check_bow) := ⟨rfl, rfl, rfl, by decide +kernel, rfl, by decide +kernel, by decide +kernel⟩
theorem ck_check_bow {G : Gx} {s_is_bow : TSp} : ckSs n_check_bow (defScope t_check_bow) (b_check_bow G s_is_bow) (defBody t_check_bow) = true := by rfl
theorem bi_check_bow {K : PySem.W.Frag} {f : Addr} {fd : FuncData} (F : Fun K "check_bow" "check_bow" t_check_bow f fd) : Binds K fd p_check_bow [] := F.binds fun _ _ _ _ _ _ us hl => match us, hl with | [_], _ => rfl
abbrev n_ends_of : List Str := ["steps", "step"]
abbrev p_ends_of : List Str := ["steps"]
def b_ends_of (G : Gx) : Sms :=
  (.cons (.ret (.tup (.cons (.bi .sum (.cons (.lc (.name 1) (.seq (.loc 0)) .no (.ix (.loc 1) (.cst (.int 0))) [("step", 1)]) .nil)) (.cons (.bi .sum (.cons (.lc (.name 1) (.seq (.loc 0)) .no (.ix (.loc 1) (.cst (.int 1))) [("step", 1)]) .nil)) .nil))))
    .nil)
abbrev t_ends_of : Stmt := topS 15
theorem sc_ends_of : FnScope n_ends_of p_ends_of (defScope t_ends_of) := ⟨rfl, rfl, rfl, by decide +kernel, rfl, by decide +kernel, by decide +kernel⟩
theorem ck_ends_of {G : Gx} : ckSs n_ends_of (defScope t_ends_of) (b_ends_of G) (defBody t_ends_of) = true := by rfl
theorem bi_ends_of {K : PySem.W.Frag} {f : Addr} {fd : FuncData} (F : Fun K "ends_of" "ends_of" t_ends_of f fd) : Binds K fd p_ends_of [] := F.binds fun _ _ _ _ _ _ us hl => match us, hl with | [_], _ => rfl
abbrev n_rowed : List Str := ["one", "other", "cost"]
abbrev p_rowed : List Str := ["one", "other"]
def b_rowed (G : Gx) (s_drawn_in s_ends_of : TSp) : Sms :=
  (.cons (.set 2 (.bin .add (.bin .add (.ix (.loc 0) (.cst (.int 0))) (.ix (.loc 1) (.cst (.int 0)))) (.bin .mul (.ix (.call "ends_of" (adr G "ends_of") s_ends_of (.cons (.ix (.loc 0) (.cst (.int 1))) .nil)) (.cst (.int 0))) (.ix (.call "ends_of" (adr G "ends_of") s_ends_of (.cons (.ix (.loc 1) (.cst (.int 1))) .nil)) (.cst (.int 1))))))
    (.cons (.ret (.tup (.cons (.loc 2) (.cons (.call "drawn_in" (adr G "drawn_in") s_drawn_in (.cons (.bin .add (.ix (.loc 0) (.cst (.int 1))) (.ix (.loc 1) (.cst (.int 1)))) .nil)) .nil))))
    .nil))
abbrev t_rowed : Stmt := topS 17
theorem sc_rowed : FnScope n_rowed p_rowed (defScope t_rowed) := ⟨rfl, rfl, rfl, by decide +kernel, rfl, by decide +kernel, by decide +kernel⟩
theorem ck_rowed {G : Gx} {s_drawn_in s_ends_of : TSp} : ckSs n_rowed (defScope t_rowed) (b_rowed G s_drawn_in s_ends_of) (defBody t_rowed) = true := by rfl
theorem bi_rowed {K : PySem.W.Frag} {f : Addr} {fd : FuncData} (F : Fun K "rowed" "rowed" t_rowed f fd) : Binds K fd p_rowed [] := F.binds fun _ _ _ _ _ _ us hl => match us, hl with | [_, _], _ => rfl
abbrev n_in_row : List Str := ["one", "other"]
abbrev p_in_row : List Str := ["one", "other"]
def b_in_row (G : Gx) (s_rowed s_check_bow : TSp) : Sms :=
  (.cons (.exp (.call "check_bow" (adr G "check_bow") s_check_bow (.cons (.loc 0) .nil)))
    (.cons (.exp (.call "check_bow" (adr G "check_bow") s_check_bow (.cons (.loc 1) .nil)))
    (.cons (.ret (.call "rowed" (adr G "rowed") s_rowed (.cons (.loc 0) (.cons (.loc 1) .nil))))
    .nil)))
abbrev t_in_row : Stmt := topS 18
theorem sc_in_row : FnScope n_in_row p_in_row (defScope t_in_row) := ⟨rfl, rfl, rfl, by decide +kernel, rfl, by decide +kernel, by decide +kernel⟩
theorem ck_in_row {G : Gx} {s_rowed s_check_bow : TSp} : ckSs n_in_row (defScope t_in_row) (b_in_row G s_rowed s_check_bow) (defBody t_in_row) = true := by rfl
theorem bi_in_row {K : PySem.W.Frag} {f : Addr} {fd : FuncData} (F : Fun K "in_row" "in_row" t_in_row f fd) : Binds K fd p_in_row [] := F.binds fun _ _ _ _ _ _ us hl => match us, hl with | [_, _], _ => rfl
abbrev n_met : List Str := ["steps", "others", "p", "w", "q", "v"]
abbrev p_met : List Str := ["steps", "others"]
def b_met (G : Gx) : Sms :=
  (.cons (.ret (.bi .sum (.cons (.lc2 (.tup [2, 3]) (.seq (.loc 0)) .no (.tup [4, 5]) (.seq (.loc 1)) .no (.bi .min2 (.cons (.bin .mul (.loc 2) (.loc 5)) (.cons (.bin .mul (.loc 4) (.loc 3)) .nil))) [("p", 2), ("w", 3), ("q", 4), ("v", 5)] [4, 5]) .nil)))
    .nil)
abbrev t_met : Stmt := topS 19
theorem sc_met : FnScope n_met p_met (defScope t_met) := ⟨rfl, rfl, rfl, by decide +kernel, rfl, by decide +kernel, by decide +kernel⟩
theorem ck_met {G : Gx} : ckSs n_met (defScope t_met) (b_met G) (defBody t_met) = true := by rfl
theorem bi_met {K : PySem.W.Frag} {f : Addr} {fd : FuncData} (F : Fun K "met" "met" t_met f fd) : Binds K fd p_met [] := F.binds fun _ _ _ _ _ _ us hl => match us, hl with | [_, _], _ => rfl
abbrev n_meeting : List Str := ["one", "other"]
abbrev p_meeting : List Str := ["one", "other"]
def b_meeting (G : Gx) (s_met s_check_bow : TSp) : Sms :=
  (.cons (.exp (.call "check_bow" (adr G "check_bow") s_check_bow (.cons (.loc 0) .nil)))
    (.cons (.exp (.call "check_bow" (adr G "check_bow") s_check_bow (.cons (.loc 1) .nil)))
    (.cons (.ret (.call "met" (adr G "met") s_met (.cons (.ix (.loc 0) (.cst (.int 1))) (.cons (.ix (.loc 1) (.cst (.int 1))) .nil))))
    .nil)))
abbrev t_meeting : Stmt := topS 20
theorem sc_meeting : FnScope n_meeting p_meeting (defScope t_meeting) := ⟨rfl, rfl, rfl, by decide +kernel, rfl, by decide +kernel, by decide +kernel⟩
theorem ck_meeting {G : Gx} {s_met s_check_bow : TSp} : ckSs n_meeting (defScope t_meeting) (b_meeting G s_met s_check_bow) (defBody t_meeting) = true := by rfl
theorem bi_meeting {K : PySem.W.Frag} {f : Addr} {fd : FuncData} (F : Fun K "meeting" "meeting" t_meeting f fd) : Binds K fd p_meeting [] := F.binds fun _ _ _ _ _ _ us hl => match us, hl with | [_, _], _ => rfl
abbrev n_merged : List Str := ["steps", "others", "found", "at", "place", "is_first"]
abbrev p_merged : List Str := ["steps", "others"]
def b_merged (G : Gx) (s_drawn_in : TSp) : Sms :=
  (.cons (.par [2, 3, 4] (.cons (.lst .nil) (.cons (.cst (.int 0)) (.cons (.cst (.int 0)) .nil))))
    (.cons (.whl (.or (.val (.cmp .lt (.loc 3) (.bi .len (.cons (.loc 0) .nil)))) (.val (.cmp .lt (.loc 4) (.bi .len (.cons (.loc 1) .nil))))) (.cons (.ife (.val (.cmp .eq (.loc 4) (.bi .len (.cons (.loc 1) .nil)))) (.cons (.set 5 (.cst (.bl true)))
    .nil) (.cons (.ife (.val (.cmp .eq (.loc 3) (.bi .len (.cons (.loc 0) .nil)))) (.cons (.set 5 (.cst (.bl false)))
    .nil) (.cons (.set 5 (.cmp .ge (.bin .mul (.ix (.ix (.loc 0) (.loc 3)) (.cst (.int 1))) (.ix (.ix (.loc 1) (.loc 4)) (.cst (.int 0)))) (.bin .mul (.ix (.ix (.loc 1) (.loc 4)) (.cst (.int 1))) (.ix (.ix (.loc 0) (.loc 3)) (.cst (.int 0))))))
    .nil))
    .nil))
    (.cons (.exp (.mth .append (.loc 2) (.cons (.ite (.val (.loc 5)) (.ix (.loc 0) (.loc 3)) (.ix (.loc 1) (.loc 4))) .nil)))
    (.cons (.asg [3, 4] (.ite (.val (.loc 5)) (.tup (.cons (.bin .add (.loc 3) (.cst (.int 1))) (.cons (.loc 4) .nil))) (.tup (.cons (.loc 3) (.cons (.bin .add (.loc 4) (.cst (.int 1))) .nil)))))
    .nil))))
    (.cons (.ret (.call "drawn_in" (adr G "drawn_in") s_drawn_in (.cons (.bi .tuple (.cons (.loc 2) .nil)) .nil)))
    .nil)))
abbrev t_merged : Stmt := topS 21
theorem sc_merged : FnScope n_merged p_merged (defScope t_merged) := ⟨rfl, rfl, rfl, by decide +kernel, rfl, by decide +kernel, by decide +kernel⟩
theorem ck_merged {G : Gx} {s_drawn_in : TSp} : ckSs n_merged (defScope t_merged) (b_merged G s_drawn_in) (defBody t_merged) = true := by rfl
theorem bi_merged {K : PySem.W.Frag} {f : Addr} {fd : FuncData} (F : Fun K "merged" "merged" t_merged f fd) : Binds K fd p_merged [] := F.binds fun _ _ _ _ _ _ us hl => match us, hl with | [_, _], _ => rfl
abbrev n_sided : List Str := ["one", "other"]
abbrev p_sided : List Str := ["one", "other"]
def b_sided (G : Gx) (s_merged s_met : TSp) : Sms :=
  (.cons (.ret (.tup (.cons (.bin .add (.bin .add (.ix (.loc 0) (.cst (.int 0))) (.ix (.loc 1) (.cst (.int 0)))) (.call "met" (adr G "met") s_met (.cons (.ix (.loc 0) (.cst (.int 1))) (.cons (.ix (.loc 1) (.cst (.int 1))) .nil)))) (.cons (.call "merged" (adr G "merged") s_merged (.cons (.ix (.loc 0) (.cst (.int 1))) (.cons (.ix (.loc 1) (.cst (.int 1))) .nil))) .nil))))
    .nil)
abbrev t_sided : Stmt := topS 22
theorem sc_sided : FnScope n_sided p_sided (defScope t_sided) := ⟨rfl, rfl, rfl, by decide +kernel, rfl, by decide +kernel, by decide +kernel⟩
theorem ck_sided {G : Gx} {s_merged s_met : TSp} : ckSs n_sided (defScope t_sided) (b_sided G s_merged s_met) (defBody t_sided) = true := by rfl
theorem bi_sided {K : PySem.W.Frag} {f : Addr} {fd : FuncData} (F : Fun K "sided" "sided" t_sided f fd) : Binds K fd p_sided [] := F.binds fun _ _ _ _ _ _ us hl => match us, hl with | [_, _], _ => rfl
abbrev n_beside : List Str := ["one", "other"]
abbrev p_beside : List Str := ["one", "other"]
def b_beside (G : Gx) (s_sided s_check_bow : TSp) : Sms :=
  (.cons (.exp (.call "check_bow" (adr G "check_bow") s_check_bow (.cons (.loc 0) .nil)))
    (.cons (.exp (.call "check_bow" (adr G "check_bow") s_check_bow (.cons (.loc 1) .nil)))
    (.cons (.ret (.call "sided" (adr G "sided") s_sided (.cons (.loc 0) (.cons (.loc 1) .nil))))
    .nil)))
abbrev t_beside : Stmt := topS 23
theorem sc_beside : FnScope n_beside p_beside (defScope t_beside) := ⟨rfl, rfl, rfl, by decide +kernel, rfl, by decide +kernel, by decide +kernel⟩
theorem ck_beside {G : Gx} {s_sided s_check_bow : TSp} : ckSs n_beside (defScope t_beside) (b_beside G s_sided s_check_bow) (defBody t_beside) = true := by rfl
theorem bi_beside {K : PySem.W.Frag} {f : Addr} {fd : FuncData} (F : Fun K "beside" "beside" t_beside f fd) : Binds K fd p_beside [] := F.binds fun _ _ _ _ _ _ us hl => match us, hl with | [_, _], _ => rfl
abbrev n__law_hand : List Str := ["script", "cells", "cell"]
abbrev p__law_hand : List Str := ["script"]
def b__law_hand (G : Gx) : Sms :=
  (.cons (.set 1 (.lc (.name 2) (.seq (.sl (.loc 0) .no (.so (.cst (.int 63))))) .no (.bi .abs (.cons (.bi .int (.cons (.loc 2) .nil)) .nil)) [("cell", 2)]))
    (.cons (.ret (.lst (.cons (.loc 1) (.cons (.cst (.int 0)) (.cons (.cst (.int 0)) (.cons (.bin .add (.cst (.int 107)) (.bin .mul (.cst (.int 9)) (.bi .len (.cons (.loc 1) .nil)))) (.cons (.cst (.int 0)) .nil)))))))
    .nil))
abbrev t__law_hand : Stmt := topS 25
theorem sc__law_hand : FnScope n__law_hand p__law_hand (defScope t__law_hand) := ⟨rfl, rfl, rfl, by decide +kernel, rfl, by decide +kernel, by decide +kernel⟩
theorem ck__law_hand {G : Gx} : ckSs n__law_hand (defScope t__law_hand) (b__law_hand G) (defBody t__law_hand) = true := by rfl
theorem bi__law_hand {K : PySem.W.Frag} {f : Addr} {fd : FuncData} (F : Fun K "_law_hand" "_law_hand" t__law_hand f fd) : Binds K fd p__law_hand [] := F.binds fun _ _ _ _ _ _ us hl => match us, hl with | [_], _ => rfl
abbrev n__law_draw : List Str := ["hand", "many", "number", "cell", "digit"]
abbrev p__law_draw : List Str := ["hand", "many"]
def b__law_draw (G : Gx) : Sms :=
  (.cons (.ife (.and (.val (.cmp .eq (.ix (.loc 0) (.cst (.int 2))) (.cst (.int 0)))) (.val (.cmp .lt (.ix (.loc 0) (.cst (.int 1))) (.bi .len (.cons (.ix (.loc 0) (.cst (.int 0))) .nil))))) (.cons (.set 3 (.ix (.ix (.loc 0) (.cst (.int 0))) (.ix (.loc 0) (.cst (.int 1)))))
    (.cons (.sti (.loc 0) (.cst (.int 1)) (.bin .add (.ix (.loc 0) (.cst (.int 1))) (.cst (.int 1))))
    (.cons (.sti (.loc 0) (.cst (.int 3)) (.bin .mod (.bi .int (.cons (.bin .add (.bin .add (.bin .mul (.ix (.loc 0) (.cst (.int 3))) (.cst (.int 69621))) (.loc 3)) (.cst (.int 53))) .nil)) (.cst (.int 2147483629))))
    (.cons (.ife (.val (.cmp .ge (.loc 3) (.bin .pow (.cst (.int 10)) (.cst (.int 18))))) (.cons (.sti (.loc 0) (.cst (.int 2)) (.loc 3))
    .nil) .nil)
    .nil)))) .nil)
    (.cons (.ife (.val (.cmp .gt (.ix (.loc 0) (.cst (.int 2))) (.cst (.int 0)))) (.cons (.set 4 (.bin .mod (.bi .int (.cons (.ix (.loc 0) (.cst (.int 2))) .nil)) (.loc 1)))
    (.cons (.sti (.loc 0) (.cst (.int 2)) (.bin .fdiv (.ix (.loc 0) (.cst (.int 2))) (.loc 1)))
    (.cons (.ret (.loc 4))
    .nil))) .nil)
    (.cons (.sti (.loc 0) (.cst (.int 4)) (.bin .add (.ix (.loc 0) (.cst (.int 4))) (.cst (.int 1))))
    (.cons (.set 2 (.bin .mod (.bi .int (.cons (.bin .mul (.bi .int (.cons (.bin .add (.ix (.loc 0) (.cst (.int 3))) (.bin .mul (.cst (.int 7919)) (.ix (.loc 0) (.cst (.int 4))))) .nil)) (.cst (.int 48271))) .nil)) (.cst (.int 2147483647))))
    (.cons (.set 2 (.bin .mod (.bi .int (.cons (.bin .mul (.loc 2) (.bin .add (.bin .fdiv (.loc 2) (.cst (.int 1009))) (.cst (.int 69621)))) .nil)) (.cst (.int 2147483647))))
    (.cons (.set 2 (.bin .mod (.bi .int (.cons (.bin .mul (.loc 2) (.bin .add (.bin .fdiv (.loc 2) (.cst (.int 2003))) (.cst (.int 40692)))) .nil)) (.cst (.int 2147483399))))
    (.cons (.ret (.bin .mod (.bi .int (.cons (.bin .fdiv (.loc 2) (.cst (.int 16))) .nil)) (.loc 1)))
    .nil)))))))
abbrev t__law_draw : Stmt := topS 26
theorem sc__law_draw : FnScope n__law_draw p__law_draw (defScope t__law_draw) := ⟨rfl, rfl, rfl, by decide +kernel, rfl, by decide +kernel, by decide +kernel⟩
theorem ck__law_draw {G : Gx} : ckSs n__law_draw (defScope t__law_draw) (b__law_draw G) (defBody t__law_draw) = true := by rfl
theorem bi__law_draw {K : PySem.W.Frag} {f : Addr} {fd : FuncData} (F : Fun K "_law_draw" "_law_draw" t__law_draw f fd) : Binds K fd p__law_draw [] := F.binds fun _ _ _ _ _ _ us hl => match us, hl with | [_, _], _ => rfl
abbrev n__law_some : List Str := ["hand", "things"]
abbrev p__law_some : List Str := ["hand", "things"]
def b__law_some (G : Gx) (s__law_draw : TSp) : Sms :=
  (.cons (.ret (.ix (.loc 1) (.call "_law_draw" (adr G "_law_draw") s__law_draw (.cons (.loc 0) (.cons (.bi .len (.cons (.loc 1) .nil)) .nil)))))
    .nil)
abbrev t__law_some : Stmt := topS 27
theorem sc__law_some : FnScope n__law_some p__law_some (defScope t__law_some) := ⟨rfl, rfl, rfl, by decide +kernel, rfl, by decide +kernel, by decide +kernel⟩
theorem ck__law_some {G : Gx} {s__law_draw : TSp} : ckSs n__law_some (defScope t__law_some) (b__law_some G s__law_draw) (defBody t__law_some) = true := by rfl
theorem bi__law_some {K : PySem.W.Frag} {f : Addr} {fd : FuncData} (F : Fun K "_law_some" "_law_some" t__law_some f fd) : Binds K fd p__law_some [] := F.binds fun _ _ _ _ _ _ us hl => match us, hl with | [_, _], _ => rfl
abbrev n__law_is : List Str := ["got", "due", "one", "other"]
abbrev p__law_is : List Str := ["got", "due"]
def b__law_is (G : Gx) (s__law_is : TSp) : Sms :=
  (.cons (.ife (.val (.bi .isi (.cons (.loc 1) (.cons (.tup (.cons (.glb "tuple" (.ty "tuple")) (.cons (.glb "list" (.ty "list")) .nil))) .nil)))) (.cons (.ife (.val (.cmp .ne (.bi .isi (.cons (.loc 0) (.cons (.glb "tuple" (.ty "tuple")) .nil))) (.bi .isi (.cons (.loc 1) (.cons (.glb "tuple" (.ty "tuple")) .nil))))) (.cons (.ret (.cst (.bl false)))
    .nil) .nil)
    (.cons (.ife (.or (.val (.cmp .ne (.bi .isi (.cons (.loc 0) (.cons (.glb "list" (.ty "list")) .nil))) (.bi .isi (.cons (.loc 1) (.cons (.glb "list" (.ty "list")) .nil))))) (.val (.cmp .ne (.bi .len (.cons (.loc 0) .nil)) (.bi .len (.cons (.loc 1) .nil))))) (.cons (.ret (.cst (.bl false)))
    .nil) .nil)
    (.cons (.ret (.bi .all (.cons (.lc (.tup [2, 3]) (.zip (.loc 0) (.loc 1)) .no (.call "_law_is" (adr G "_law_is") s__law_is (.cons (.loc 2) (.cons (.loc 3) .nil))) [("one", 2), ("other", 3)]) .nil)))
    .nil))) .nil)
    (.cons (.ife (.or (.val (.cmp .is (.loc 1) (.cst .non))) (.val (.cmp .is (.loc 0) (.cst .non)))) (.cons (.ret (.and (.cmp .is (.loc 1) (.cst .non)) (.cmp .is (.loc 0) (.cst .non))))
    .nil) .nil)
    (.cons (.ife (.val (.cmp .ne (.bi .isi (.cons (.loc 0) (.cons (.glb "bool" (.ty "bool")) .nil))) (.bi .isi (.cons (.loc 1) (.cons (.glb "bool" (.ty "bool")) .nil))))) (.cons (.ret (.cst (.bl false)))
    .nil) .nil)
    (.cons (.ret (.and (.cmp .eq (.bi .isi (.cons (.loc 0) (.cons (.glb "str" (.ty "str")) .nil))) (.bi .isi (.cons (.loc 1) (.cons (.glb "str" (.ty "str")) .nil)))) (.cmp .eq (.loc 0) (.loc 1))))
    .nil))))
abbrev t__law_is : Stmt := topS 28
theorem sc__law_is : FnScope n__law_is p__law_is (defScope t__law_is) := ⟨rfl, rfl, rfl, by decide +kernel, rfl, by decide +kernel, by decide +kernel⟩
theorem ck__law_is {G : Gx} {s__law_is : TSp} : ckSs n__law_is (defScope t__law_is) (b__law_is G s__law_is) (defBody t__law_is) = true := by rfl
theorem bi__law_is {K : PySem.W.Frag} {f : Addr} {fd : FuncData} (F : Fun K "_law_is" "_law_is" t__law_is f fd) : Binds K fd p__law_is [] := F.binds fun _ _ _ _ _ _ us hl => match us, hl with | [_, _], _ => rfl
abbrev n__law_place : List Str := ["hand", "most", "length", "weight"]
abbrev p__law_place : List Str := ["hand", "most"]
def b__law_place (G : Gx) (s__law_some s__law_draw : TSp) : Sms :=
  (.cons (.par [2, 3] (.cons (.call "_law_draw" (adr G "_law_draw") s__law_draw (.cons (.loc 0) (.cons (.bin .add (.loc 1) (.cst (.int 1))) .nil))) (.cons (.call "_law_draw" (adr G "_law_draw") s__law_draw (.cons (.loc 0) (.cons (.bin .add (.loc 1) (.cst (.int 1))) .nil))) .nil)))
    (.cons (.ife (.val (.cmp .eq (.call "_law_draw" (adr G "_law_draw") s__law_draw (.cons (.loc 0) (.cons (.cst (.int 6)) .nil))) (.cst (.int 0)))) (.cons (.set 2 (.cst (.int 0)))
    .nil) .nil)
    (.cons (.ife (.and (.val (.cmp .eq (.loc 2) (.cst (.int 0)))) (.val (.cmp .eq (.loc 3) (.cst (.int 0))))) (.cons (.ret (.call "_law_some" (adr G "_law_some") s__law_some (.cons (.loc 0) (.cons (.lst (.cons (.tup (.cons (.cst (.int 0)) (.cons (.cst (.int 1)) .nil))) (.cons (.tup (.cons (.cst (.int 1)) (.cons (.cst (.int 0)) .nil))) (.cons (.tup (.cons (.cst (.int 1)) (.cons (.cst (.int 1)) .nil))) .nil)))) .nil))))
    .nil) .nil)
    (.cons (.ret (.tup (.cons (.loc 2) (.cons (.loc 3) .nil))))
    .nil))))
abbrev t__law_place : Stmt := topS 29
theorem sc__law_place : FnScope n__law_place p__law_place (defScope t__law_place) := ⟨rfl, rfl, rfl, by decide +kernel, rfl, by decide +kernel, by decide +kernel⟩
theorem ck__law_place {G : Gx} {s__law_some s__law_draw : TSp} : ckSs n__law_place (defScope t__law_place) (b__law_place G s__law_some s__law_draw) (defBody t__law_place) = true := by rfl
theorem bi__law_place {K : PySem.W.Frag} {f : Addr} {fd : FuncData} (F : Fun K "_law_place" "_law_place" t__law_place f fd) : Binds K fd p__law_place [] := F.binds fun _ _ _ _ _ _ us hl => match us, hl with | [_, _], _ => rfl
abbrev n__law_steps : List Str := ["hand", "many", "top", "turn"]
abbrev p__law_steps : List Str := ["hand", "many", "top"]
def b__law_steps (G : Gx) (s__law_place : TSp) : Sms :=
  (.cons (.ret (.bi .tuple (.cons (.lc (.name 3) (.rng1 (.loc 1)) .no (.call "_law_place" (adr G "_law_place") s__law_place (.cons (.loc 0) (.cons (.loc 2) .nil))) [("turn", 3)]) .nil)))
    .nil)
abbrev t__law_steps : Stmt := topS 30
theorem sc__law_steps : FnScope n__law_steps p__law_steps (defScope t__law_steps) := ⟨rfl, rfl, rfl, by decide +kernel, rfl, by decide +kernel, by decide +kernel⟩
theorem ck__law_steps {G : Gx} {s__law_place : TSp} : ckSs n__law_steps (defScope t__law_steps) (b__law_steps G s__law_place) (defBody t__law_steps) = true := by rfl
theorem bi__law_steps {K : PySem.W.Frag} {f : Addr} {fd : FuncData} (F : Fun K "_law_steps" "_law_steps" t__law_steps f fd) : Binds K fd p__law_steps [] := F.binds fun _ _ _ _ _ _ us hl => match us, hl with | [_, _, _], _ => rfl
abbrev n__law_is_better : List Str := ["one", "other"]
abbrev p__law_is_better : List Str := ["one", "other"]
def b__law_is_better (G : Gx) : Sms :=
  (.cons (.ret (.cmp .gt (.bin .mul (.ix (.loc 0) (.cst (.int 1))) (.ix (.loc 1) (.cst (.int 0)))) (.bin .mul (.ix (.loc 1) (.cst (.int 1))) (.ix (.loc 0) (.cst (.int 0))))))
    .nil)
abbrev t__law_is_better : Stmt := topS 31
theorem sc__law_is_better : FnScope n__law_is_better p__law_is_better (defScope t__law_is_better) := ⟨rfl, rfl, rfl, by decide +kernel, rfl, by decide +kernel, by decide +kernel⟩
theorem ck__law_is_better {G : Gx} : ckSs n__law_is_better (defScope t__law_is_better) (b__law_is_better G) (defBody t__law_is_better) = true := by rfl
theorem bi__law_is_better {K : PySem.W.Frag} {f : Addr} {fd : FuncData} (F : Fun K "_law_is_better" "_law_is_better" t__law_is_better f fd) : Binds K fd p__law_is_better [] := F.binds fun _ _ _ _ _ _ us hl => match us, hl with | [_, _], _ => rfl
abbrev n__law_tight : List Str := ["steps", "found", "step", "last"]
abbrev p__law_tight : List Str := ["steps"]
def b__law_tight (G : Gx) (s__law_is_better : TSp) : Sms :=
  (.cons (.set 1 (.lst .nil))
    (.cons (.fr (.name 2) (.seq (.loc 0)) (.cons (.exp (.mth .append (.loc 1) (.cons (.loc 2) .nil)))
    (.cons (.whl (.and (.val (.cmp .gt (.bi .len (.cons (.loc 1) .nil)) (.cst (.int 1)))) (.nt (.val (.call "_law_is_better" (adr G "_law_is_better") s__law_is_better (.cons (.ix (.loc 1) (.neg (.cst (.int 2)))) (.cons (.ix (.loc 1) (.neg (.cst (.int 1)))) .nil)))))) (.cons (.set 3 (.mth .pop0 (.loc 1) .nil))
    (.cons (.sti (.loc 1) (.neg (.cst (.int 1))) (.tup (.cons (.bin .add (.ix (.ix (.loc 1) (.neg (.cst (.int 1)))) (.cst (.int 0))) (.ix (.loc 3) (.cst (.int 0)))) (.cons (.bin .add (.ix (.ix (.loc 1) (.neg (.cst (.int 1)))) (.cst (.int 1))) (.ix (.loc 3) (.cst (.int 1)))) .nil))))
    .nil)))
    .nil)))
    (.cons (.ret (.bi .tuple (.cons (.loc 1) .nil)))
    .nil)))
abbrev t__law_tight : Stmt := topS 32
theorem sc__law_tight : FnScope n__law_tight p__law_tight (defScope t__law_tight) := ⟨rfl, rfl, rfl, by decide +kernel, rfl, by decide +kernel, by decide +kernel⟩
theorem ck__law_tight {G : Gx} {s__law_is_better : TSp} : ckSs n__law_tight (defScope t__law_tight) (b__law_tight G s__law_is_better) (defBody t__law_tight) = true := by rfl
theorem bi__law_tight {K : PySem.W.Frag} {f : Addr} {fd : FuncData} (F : Fun K "_law_tight" "_law_tight" t__law_tight f fd) : Binds K fd p__law_tight [] := F.binds fun _ _ _ _ _ _ us hl => match us, hl with | [_], _ => rfl
abbrev n__law_sums : List Str := ["steps", "step"]
abbrev p__law_sums : List Str := ["steps"]
def b__law_sums (G : Gx) : Sms :=
  (.cons (.ret (.tup (.cons (.bi .sum (.cons (.lc (.name 1) (.seq (.loc 0)) .no (.ix (.loc 1) (.cst (.int 0))) [("step", 1)]) .nil)) (.cons (.bi .sum (.cons (.lc (.name 1) (.seq (.loc 0)) .no (.ix (.loc 1) (.cst (.int 1))) [("step", 1)]) .nil)) .nil))))
    .nil)
abbrev t__law_sums : Stmt := topS 33
theorem sc__law_sums : FnScope n__law_sums p__law_sums (defScope t__law_sums) := ⟨rfl, rfl, rfl, by decide +kernel, rfl, by decide +kernel, by decide +kernel⟩
theorem ck__law_sums {G : Gx} : ckSs n__law_sums (defScope t__law_sums) (b__law_sums G) (defBody t__law_sums) = true := by rfl
theorem bi__law_sums {K : PySem.W.Frag} {f : Addr} {fd : FuncData} (F : Fun K "_law_sums" "_law_sums" t__law_sums f fd) : Binds K fd p__law_sums [] := F.binds fun _ _ _ _ _ _ us hl => match us, hl with | [_], _ => rfl
abbrev n__law_put_behind : List Str := ["one", "other", "ahead", "after"]
abbrev p__law_put_behind : List Str := ["one", "other"]
def b__law_put_behind (G : Gx) (s__law_tight s__law_sums : TSp) : Sms :=
  (.cons (.par [2, 3] (.cons (.ix (.call "_law_sums" (adr G "_law_sums") s__law_sums (.cons (.ix (.loc 0) (.cst (.int 1))) .nil)) (.cst (.int 0))) (.cons (.ix (.call "_law_sums" (adr G "_law_sums") s__law_sums (.cons (.ix (.loc 1) (.cst (.int 1))) .nil)) (.cst (.int 1))) .nil)))
    (.cons (.ret (.tup (.cons (.bin .add (.bin .add (.ix (.loc 0) (.cst (.int 0))) (.ix (.loc 1) (.cst (.int 0)))) (.bin .mul (.loc 2) (.loc 3))) (.cons (.call "_law_tight" (adr G "_law_tight") s__law_tight (.cons (.bin .add (.ix (.loc 0) (.cst (.int 1))) (.ix (.loc 1) (.cst (.int 1)))) .nil)) .nil))))
    .nil))
abbrev t__law_put_behind : Stmt := topS 34
theorem sc__law_put_behind : FnScope n__law_put_behind p__law_put_behind (defScope t__law_put_behind) := ⟨rfl, rfl, rfl, by decide +kernel, rfl, by decide +kernel, by decide +kernel⟩
theorem ck__law_put_behind {G : Gx} {s__law_tight s__law_sums : TSp} : ckSs n__law_put_behind (defScope t__law_put_behind) (b__law_put_behind G s__law_tight s__law_sums) (defBody t__law_put_behind) = true := by rfl
theorem bi__law_put_behind {K : PySem.W.Frag} {f : Addr} {fd : FuncData} (F : Fun K "_law_put_behind" "_law_put_behind" t__law_put_behind f fd) : Binds K fd p__law_put_behind [] := F.binds fun _ _ _ _ _ _ us hl => match us, hl with | [_, _], _ => rfl
abbrev n__law_merged : List Str := ["one", "other", "rest", "more", "found"]
abbrev p__law_merged : List Str := ["one", "other"]
def b__law_merged (G : Gx) (s__law_is_better : TSp) : Sms :=
  (.cons (.par [2, 3, 4] (.cons (.bi .list (.cons (.loc 0) .nil)) (.cons (.bi .list (.cons (.loc 1) .nil)) (.cons (.lst .nil) .nil))))
    (.cons (.whl (.val (.cmp .gt (.bin .add (.bi .len (.cons (.loc 2) .nil)) (.bi .len (.cons (.loc 3) .nil))) (.cst (.int 0)))) (.cons (.ife (.or (.val (.cmp .eq (.bi .len (.cons (.loc 3) .nil)) (.cst (.int 0)))) (.and (.val (.cmp .gt (.bi .len (.cons (.loc 2) .nil)) (.cst (.int 0)))) (.nt (.val (.call "_law_is_better" (adr G "_law_is_better") s__law_is_better (.cons (.ix (.loc 3) (.cst (.int 0))) (.cons (.ix (.loc 2) (.cst (.int 0))) .nil))))))) (.cons (.exp (.mth .append (.loc 4) (.cons (.mth .pop1 (.loc 2) (.cons (.cst (.int 0)) .nil)) .nil)))
    .nil) (.cons (.exp (.mth .append (.loc 4) (.cons (.mth .pop1 (.loc 3) (.cons (.cst (.int 0)) .nil)) .nil)))
    .nil))
    .nil))
    (.cons (.ret (.bi .tuple (.cons (.loc 4) .nil)))
    .nil)))
abbrev t__law_merged : Stmt := topS 35
theorem sc__law_merged : FnScope n__law_merged p__law_merged (defScope t__law_merged) := ⟨rfl, rfl, rfl, by decide +kernel, rfl, by decide +kernel, by decide +kernel⟩
theorem ck__law_merged {G : Gx} {s__law_is_better : TSp} : ckSs n__law_merged (defScope t__law_merged) (b__law_merged G s__law_is_better) (defBody t__law_merged) = true := by rfl
theorem bi__law_merged {K : PySem.W.Frag} {f : Addr} {fd : FuncData} (F : Fun K "_law_merged" "_law_merged" t__law_merged f fd) : Binds K fd p__law_merged [] := F.binds fun _ _ _ _ _ _ us hl => match us, hl with | [_, _], _ => rfl
abbrev n__law_meet : List Str := ["one", "other", "p", "w", "q", "v"]
abbrev p__law_meet : List Str := ["one", "other"]
def b__law_meet (G : Gx) : Sms :=
  (.cons (.ret (.bi .sum (.cons (.lc (.tup [2, 3]) (.seq (.ix (.loc 0) (.cst (.int 1)))) .no (.bi .sum (.cons (.lc (.tup [4, 5]) (.seq (.ix (.loc 1) (.cst (.int 1)))) .no (.bi .min2 (.cons (.bin .mul (.loc 2) (.loc 5)) (.cons (.bin .mul (.loc 4) (.loc 3)) .nil))) [("q", 4), ("v", 5)]) .nil)) [("p", 2), ("w", 3)]) .nil)))
    .nil)
abbrev t__law_meet : Stmt := topS 36
theorem sc__law_meet : FnScope n__law_meet p__law_meet (defScope t__law_meet) := ⟨rfl, rfl, rfl, by decide +kernel, rfl, by decide +kernel, by decide +kernel⟩
theorem ck__law_meet {G : Gx} : ckSs n__law_meet (defScope t__law_meet) (b__law_meet G) (defBody t__law_meet) = true := by rfl
theorem bi__law_meet {K : PySem.W.Frag} {f : Addr} {fd : FuncData} (F : Fun K "_law_meet" "_law_meet" t__law_meet f fd) : Binds K fd p__law_meet [] := F.binds fun _ _ _ _ _ _ us hl => match us, hl with | [_, _], _ => rfl
abbrev n__law_put_beside : List Str := ["one", "other"]
abbrev p__law_put_beside : List Str := ["one", "other"]
def b__law_put_beside (G : Gx) (s__law_merged s__law_tight s__law_meet : TSp) : Sms :=
  (.cons (.ret (.tup (.cons (.bin .add (.bin .add (.ix (.loc 0) (.cst (.int 0))) (.ix (.loc 1) (.cst (.int 0)))) (.call "_law_meet" (adr G "_law_meet") s__law_meet (.cons (.loc 0) (.cons (.loc 1) .nil)))) (.cons (.call "_law_tight" (adr G "_law_tight") s__law_tight (.cons (.call "_law_merged" (adr G "_law_merged") s__law_merged (.cons (.ix (.loc 0) (.cst (.int 1))) (.cons (.ix (.loc 1) (.cst (.int 1))) .nil))) .nil)) .nil))))
    .nil)
abbrev t__law_put_beside : Stmt := topS 37
theorem sc__law_put_beside : FnScope n__law_put_beside p__law_put_beside (defScope t__law_put_beside) := ⟨rfl, rfl, rfl, by decide +kernel, rfl, by decide +kernel, by decide +kernel⟩
theorem ck__law_put_beside {G : Gx} {s__law_merged s__law_tight s__law_meet : TSp} : ckSs n__law_put_beside (defScope t__law_put_beside) (b__law_put_beside G s__law_merged s__law_tight s__law_meet) (defBody t__law_put_beside) = true := by rfl
theorem bi__law_put_beside {K : PySem.W.Frag} {f : Addr} {fd : FuncData} (F : Fun K "_law_put_beside" "_law_put_beside" t__law_put_beside f fd) : Binds K fd p__law_put_beside [] := F.binds fun _ _ _ _ _ _ us hl => match us, hl with | [_, _], _ => rfl
abbrev n__law_drawn : List Str := ["hand", "row", "by", "p", "w"]
abbrev p__law_drawn : List Str := ["hand"]
def b__law_drawn (G : Gx) (s__law_tight s__law_some s__law_draw s__law_steps : TSp) : Sms :=
  (.cons (.set 1 (.call "_law_steps" (adr G "_law_steps") s__law_steps (.cons (.loc 0) (.cons (.bin .add (.cst (.int 1)) (.call "_law_draw" (adr G "_law_draw") s__law_draw (.cons (.loc 0) (.cons (.cst (.int 9)) .nil)))) (.cons (.call "_law_some" (adr G "_law_some") s__law_some (.cons (.loc 0) (.cons (.lst (.cons (.cst (.int 3)) (.cons (.cst (.int 20)) (.cons (.bin .sub (.bin .pow (.cst (.int 10)) (.cst (.int 12))) (.cst (.int 1))) .nil)))) .nil))) .nil)))))
    (.cons (.ife (.val (.cmp .eq (.call "_law_draw" (adr G "_law_draw") s__law_draw (.cons (.loc 0) (.cons (.cst (.int 4)) .nil))) (.cst (.int 0)))) (.cons (.set 2 (.call "_law_some" (adr G "_law_some") s__law_some (.cons (.loc 0) (.cons (.lst (.cons (.bin .pow (.cst (.int 10)) (.cst (.int 40))) (.cons (.bin .mul (.bin .pow (.cst (.int 10)) (.cst (.int 50))) (.bin .pow (.cst (.int 10)) (.cst (.int 50)))) (.cons (.cst (.int 7)) .nil)))) .nil))))
    (.cons (.set 1 (.bi .tuple (.cons (.lc (.tup [3, 4]) (.seq (.loc 1)) .no (.tup (.cons (.bin .mul (.loc 3) (.loc 2)) (.cons (.bin .mul (.loc 4) (.loc 2)) .nil))) [("p", 3), ("w", 4)]) .nil)))
    .nil)) .nil)
    (.cons (.ret (.tup (.cons (.call "_law_draw" (adr G "_law_draw") s__law_draw (.cons (.loc 0) (.cons (.call "_law_some" (adr G "_law_some") s__law_some (.cons (.loc 0) (.cons (.lst (.cons (.cst (.int 5)) (.cons (.bin .pow (.cst (.int 10)) (.cst (.int 12))) .nil))) .nil))) .nil))) (.cons (.call "_law_tight" (adr G "_law_tight") s__law_tight (.cons (.loc 1) .nil)) .nil))))
    .nil)))
abbrev t__law_drawn : Stmt := topS 38
theorem sc__law_drawn : FnScope n__law_drawn p__law_drawn (defScope t__law_drawn) := ⟨rfl, rfl, rfl, by decide +kernel, rfl, by decide +kernel, by decide +kernel⟩
theorem ck__law_drawn {G : Gx} {s__law_tight s__law_some s__law_draw s__law_steps : TSp} : ckSs n__law_drawn (defScope t__law_drawn) (b__law_drawn G s__law_tight s__law_some s__law_draw s__law_steps) (defBody t__law_drawn) = true := by rfl
theorem bi__law_drawn {K : PySem.W.Frag} {f : Addr} {fd : FuncData} (F : Fun K "_law_drawn" "_law_drawn" t__law_drawn f fd) : Binds K fd p__law_drawn [] := F.binds fun _ _ _ _ _ _ us hl => match us, hl with | [_], _ => rfl
abbrev n__law_is_two_right : List Str := ["one", "other", "before", "turn", "row", "back", "both", "meet", "arc"]
abbrev p__law_is_two_right : List Str := ["one", "other"]
def b__law_is_two_right (G : Gx) (s_is_bow s_meeting s_beside s__law_is s_in_row s__law_meet s__law_put_beside s__law_put_behind : TSp) : Sms :=
  (.cons (.par [4, 5] (.cons (.call "_law_put_behind" (adr G "_law_put_behind") s__law_put_behind (.cons (.loc 0) (.cons (.loc 1) .nil))) (.cons (.call "_law_put_behind" (adr G "_law_put_behind") s__law_put_behind (.cons (.loc 1) (.cons (.loc 0) .nil))) .nil)))
    (.cons (.par [6, 7] (.cons (.call "_law_put_beside" (adr G "_law_put_beside") s__law_put_beside (.cons (.loc 0) (.cons (.loc 1) .nil))) (.cons (.call "_law_meet" (adr G "_law_meet") s__law_meet (.cons (.loc 0) (.cons (.loc 1) .nil))) .nil)))
    (.cons (.set 2 (.rep (.tup (.cons (.loc 0) (.cons (.loc 1) .nil)))))
    (.cons (.fr (.name 3) (.seq (.tup (.cons (.cst (.int 0)) (.cons (.cst (.int 1)) .nil)))) (.cons (.ife (.nt (.val (.call "_law_is" (adr G "_law_is") s__law_is (.cons (.lst (.cons (.call "in_row" (adr G "in_row") s_in_row (.cons (.loc 0) (.cons (.loc 1) .nil))) (.cons (.call "in_row" (adr G "in_row") s_in_row (.cons (.loc 1) (.cons (.loc 0) .nil))) (.cons (.call "beside" (adr G "beside") s_beside (.cons (.loc 0) (.cons (.loc 1) .nil))) .nil)))) (.cons (.lst (.cons (.loc 4) (.cons (.loc 5) (.cons (.loc 6) .nil)))) .nil))))) (.cons (.ret (.cst (.bl false)))
    .nil) .nil)
    (.cons (.ife (.nt (.val (.call "_law_is" (adr G "_law_is") s__law_is (.cons (.lst (.cons (.call "beside" (adr G "beside") s_beside (.cons (.loc 1) (.cons (.loc 0) .nil))) (.cons (.call "meeting" (adr G "meeting") s_meeting (.cons (.loc 0) (.cons (.loc 1) .nil))) (.cons (.call "meeting" (adr G "meeting") s_meeting (.cons (.loc 1) (.cons (.loc 0) .nil))) .nil)))) (.cons (.lst (.cons (.loc 6) (.cons (.loc 7) (.cons (.loc 7) .nil)))) .nil))))) (.cons (.ret (.cst (.bl false)))
    .nil) .nil)
    .nil)))
    (.cons (.ife (.or (.nt (.val (.bi .all (.cons (.lc (.name 8) (.seq (.tup (.cons (.loc 4) (.cons (.loc 6) .nil)))) .no (.cmp .is (.call "is_bow" (adr G "is_bow") s_is_bow (.cons (.loc 8) .nil)) (.cst (.bl true))) [("arc", 8)]) .nil)))) (.val (.cmp .gt (.ix (.loc 6) (.cst (.int 0))) (.bi .min2 (.cons (.ix (.loc 4) (.cst (.int 0))) (.cons (.ix (.loc 5) (.cst (.int 0))) .nil)))))) (.cons (.ret (.cst (.bl false)))
    .nil) .nil)
    (.cons (.ret (.cmp .eq (.rep (.tup (.cons (.loc 0) (.cons (.loc 1) .nil)))) (.loc 2)))
    .nil))))))
abbrev t__law_is_two_right : Stmt := topS 39
theorem sc__law_is_two_right : FnScope n__law_is_two_right p__law_is_two_right (defScope t__law_is_two_right) := ⟨rfl, rfl, rfl, by decide +kernel, rfl, by decide +kernel, by decide +kernel⟩
theorem ck__law_is_two_right {G : Gx} {s_is_bow s_meeting s_beside s__law_is s_in_row s__law_meet s__law_put_beside s__law_put_behind : TSp} : ckSs n__law_is_two_right (defScope t__law_is_two_right) (b__law_is_two_right G s_is_bow s_meeting s_beside s__law_is s_in_row s__law_meet s__law_put_beside s__law_put_behind) (defBody t__law_is_two_right) = true := by rfl
theorem bi__law_is_two_right {K : PySem.W.Frag} {f : Addr} {fd : FuncData} (F : Fun K "_law_is_two_right" "_law_is_two_right" t__law_is_two_right f fd) : Binds K fd p__law_is_two_right [] := F.binds fun _ _ _ _ _ _ us hl => match us, hl with | [_, _], _ => rfl
abbrev n__law_is_three_right : List Str := ["one", "other", "third", "rows", "some", "due"]
abbrev p__law_is_three_right : List Str := ["one", "other", "third"]
def b__law_is_three_right (G : Gx) (s_meeting s_beside s__law_is s__law_put_behind s__law_put_beside s_in_row : TSp) : Sms :=
  (.cons (.set 3 (.lst (.cons (.call "in_row" (adr G "in_row") s_in_row (.cons (.call "in_row" (adr G "in_row") s_in_row (.cons (.loc 0) (.cons (.loc 1) .nil))) (.cons (.loc 2) .nil))) (.cons (.call "in_row" (adr G "in_row") s_in_row (.cons (.loc 0) (.cons (.call "in_row" (adr G "in_row") s_in_row (.cons (.loc 1) (.cons (.loc 2) .nil))) .nil))) .nil))))
    (.cons (.set 4 (.lst (.cons (.call "beside" (adr G "beside") s_beside (.cons (.call "beside" (adr G "beside") s_beside (.cons (.loc 0) (.cons (.loc 1) .nil))) (.cons (.loc 2) .nil))) (.cons (.call "beside" (adr G "beside") s_beside (.cons (.loc 0) (.cons (.call "beside" (adr G "beside") s_beside (.cons (.loc 1) (.cons (.loc 2) .nil))) .nil))) .nil))))
    (.cons (.set 4 (.bin .add (.loc 4) (.lst (.cons (.call "beside" (adr G "beside") s_beside (.cons (.loc 2) (.cons (.call "beside" (adr G "beside") s_beside (.cons (.loc 1) (.cons (.loc 0) .nil))) .nil))) (.cons (.call "beside" (adr G "beside") s_beside (.cons (.call "beside" (adr G "beside") s_beside (.cons (.loc 1) (.cons (.loc 2) .nil))) (.cons (.loc 0) .nil))) .nil)))))
    (.cons (.set 5 (.call "_law_put_beside" (adr G "_law_put_beside") s__law_put_beside (.cons (.call "_law_put_beside" (adr G "_law_put_beside") s__law_put_beside (.cons (.loc 2) (.cons (.loc 0) .nil))) (.cons (.loc 1) .nil))))
    (.cons (.ife (.nt (.val (.call "_law_is" (adr G "_law_is") s__law_is (.cons (.loc 3) (.cons (.bin .mul (.lst (.cons (.call "_law_put_behind" (adr G "_law_put_behind") s__law_put_behind (.cons (.call "_law_put_behind" (adr G "_law_put_behind") s__law_put_behind (.cons (.loc 0) (.cons (.loc 1) .nil))) (.cons (.loc 2) .nil))) .nil)) (.cst (.int 2))) .nil))))) (.cons (.ret (.cst (.bl false)))
    .nil) .nil)
    (.cons (.ife (.nt (.val (.call "_law_is" (adr G "_law_is") s__law_is (.cons (.loc 4) (.cons (.bin .mul (.lst (.cons (.loc 5) .nil)) (.cst (.int 4))) .nil))))) (.cons (.ret (.cst (.bl false)))
    .nil) .nil)
    (.cons (.ret (.call "_law_is" (adr G "_law_is") s__law_is (.cons (.call "meeting" (adr G "meeting") s_meeting (.cons (.loc 0) (.cons (.call "beside" (adr G "beside") s_beside (.cons (.loc 1) (.cons (.loc 2) .nil))) .nil))) (.cons (.bin .add (.call "meeting" (adr G "meeting") s_meeting (.cons (.loc 0) (.cons (.loc 1) .nil))) (.call "meeting" (adr G "meeting") s_meeting (.cons (.loc 0) (.cons (.loc 2) .nil)))) .nil))))
    .nil)))))))
abbrev t__law_is_three_right : Stmt := topS 40
theorem sc__law_is_three_right : FnScope n__law_is_three_right p__law_is_three_right (defScope t__law_is_three_right) := ⟨rfl, rfl, rfl, by decide +kernel, rfl, by decide +kernel, by decide +kernel⟩
theorem ck__law_is_three_right {G : Gx} {s_meeting s_beside s__law_is s__law_put_behind s__law_put_beside s_in_row : TSp} : ckSs n__law_is_three_right (defScope t__law_is_three_right) (b__law_is_three_right G s_meeting s_beside s__law_is s__law_put_behind s__law_put_beside s_in_row) (defBody t__law_is_three_right) = true := by rfl
theorem bi__law_is_three_right {K : PySem.W.Frag} {f : Addr} {fd : FuncData} (F : Fun K "_law_is_three_right" "_law_is_three_right" t__law_is_three_right f fd) : Binds K fd p__law_is_three_right [] := F.binds fun _ _ _ _ _ _ us hl => match us, hl with | [_, _, _], _ => rfl
abbrev n__law_said : List Str := ["call", "found", "error"]
abbrev p__law_said : List Str := ["call"]
def b__law_said (G : Gx) (f : Addr) (φ : Hp → Prop) (θ : Thk) : Sms :=
  (.cons (.set 1 (.cst (.str "let")))
    (.cons (.tri .exp "call" f φ θ "FindError" (.ref (adr G "FindError")) (ktL [(adr G "BadBow", true)]) 2 (fun a D =>
    (.cons (.set 1 (.ite (.and (.val (.ise 2 a D "BadBow" (.ref (adr G "BadBow")) (ktL [(adr G "BadBow", true)]))) (.val (.ise 2 a D "ValueError" (.type "ValueError") (ktL [(adr G "BadBow", true)])))) (.cst (.str "bow")) (.cst (.str "other"))))
    .nil)))
    (.cons (.ret (.loc 1))
    .nil)))
abbrev t__law_said : Stmt := topS 41
theorem sc__law_said : FnScope n__law_said p__law_said (defScope t__law_said) := ⟨rfl, rfl, rfl, by decide +kernel, rfl, by decide +kernel, by decide +kernel⟩
theorem ck__law_said {G : Gx} {f : Addr} {φ : Hp → Prop} {θ : Thk} : ckSs n__law_said (defScope t__law_said) (b__law_said G f φ θ) (defBody t__law_said) = true := by rfl
theorem bi__law_said {K : PySem.W.Frag} {f : Addr} {fd : FuncData} (F : Fun K "_law_said" "_law_said" t__law_said f fd) : Binds K fd p__law_said [] := F.binds fun _ _ _ _ _ _ us hl => match us, hl with | [_], _ => rfl
abbrev n__law_are_errors_right : List Str := ["hand", "one", "some", "bad", "words", "call", "cost", "steps"]
abbrev p__law_are_errors_right : List Str := ["hand", "one"]
def b__law_are_errors_right (G : Gx) (s__law_some : TSp) (f__law_said : TLam) : Sms :=
  (.cons (.asg [6, 7] (.loc 1))
    (.cons (.set 2 (.lst (.cons (.cst .non) (.cons (.loc 7) (.cons (.tup (.cons (.loc 6) (.cons (.bi .list (.cons (.loc 7) .nil)) .nil))) (.cons (.tup (.cons (.neg (.cst (.int 1))) (.cons (.loc 7) .nil))) (.cons (.tup (.cons (.loc 6) (.cons (.tup .nil) .nil))) (.cons (.tup (.cons (.loc 6) (.cons (.tup (.cons (.tup (.cons (.cst (.int 0)) (.cons (.cst (.int 0)) .nil))) .nil)) .nil))) (.cons (.tup (.cons (.loc 6) (.cons (.bin .add (.loc 7) (.loc 7)) .nil))) .nil)))))))))
    (.cons (.set 3 (.call "_law_some" (adr G "_law_some") s__law_some (.cons (.loc 0) (.cons (.bin .add (.loc 2) (.lst (.cons (.cst (.int 0)) (.cons .dic0 (.cons (.lst (.cons (.loc 6) (.cons (.loc 7) .nil))) (.cons (.tup (.cons (.loc 6) .nil)) (.cons (.tup (.cons (.cst (.bl true)) (.cons (.loc 7) .nil))) (.cons (.tup (.cons (.loc 6) (.cons (.tup (.cons (.tup (.cons (.cst (.int 1)) (.cons (.cst (.int 1)) .nil))) (.cons (.tup (.cons (.cst (.int 1)) (.cons (.cst (.int 2)) .nil))) .nil))) .nil))) (.cons (.cst (.str "bow")) .nil))))))))) .nil))))
    (.cons (.set 4 (.lst .nil))
    (.cons (.fr (.name 5) (.seq (.tup (.cons (.glb "in_row" (.ref (adr G "in_row"))) (.cons (.glb "beside" (.ref (adr G "beside"))) (.cons (.glb "meeting" (.ref (adr G "meeting"))) .nil))))) (.cons (.set 4 (.bin .add (.loc 4) (.lst (.cons (.lam "_law_said" (adr G "_law_said") f__law_said (tabA G "_law_are_errors_right") ("_law_are_errors_right" ++ ".<locals>." ++ "<lambda>") (.cav 5 (.cons (.loc 3) (.cons (.loc 1) .nil)))) (.cons (.lamd "_law_said" (adr G "_law_said") f__law_said (tabA G "_law_are_errors_right") ("_law_are_errors_right" ++ ".<locals>." ++ "<lambda>") (.cav 5 (.cons (.loc 1) (.cons (.loc 3) .nil)))) .nil)))))
    (.cons (.exp (.mth .append (.loc 4) (.cons (.lam "_law_said" (adr G "_law_said") f__law_said (tabA G "_law_are_errors_right") ("_law_are_errors_right" ++ ".<locals>." ++ "<lambda>") (.cav 5 (.cons (.loc 3) (.cons (.loc 3) .nil)))) .nil)))
    .nil)))
    (.cons (.ret (.cmp .eq (.loc 4) (.bin .mul (.lst (.cons (.cst (.str "bow")) .nil)) (.cst (.int 9)))))
    .nil))))))
abbrev t__law_are_errors_right : Stmt := topS 42
theorem sc__law_are_errors_right : FnScope n__law_are_errors_right p__law_are_errors_right (defScope t__law_are_errors_right) := ⟨rfl, rfl, rfl, by decide +kernel, rfl, by decide +kernel, by decide +kernel⟩
theorem ck__law_are_errors_right {G : Gx} {s__law_some : TSp} {f__law_said : TLam} : ckSs n__law_are_errors_right (defScope t__law_are_errors_right) (b__law_are_errors_right G s__law_some f__law_said) (defBody t__law_are_errors_right) = true := by rfl
theorem bi__law_are_errors_right {K : PySem.W.Frag} {f : Addr} {fd : FuncData} (F : Fun K "_law_are_errors_right" "_law_are_errors_right" t__law_are_errors_right f fd) : Binds K fd p__law_are_errors_right [] := F.binds fun _ _ _ _ _ _ us hl => match us, hl with | [_, _], _ => rfl
abbrev n_law : List Str := ["script", "hand", "told", "turn", "one", "other", "some", "again"]
abbrev p_law : List Str := ["script"]
def b_law (G : Gx) (s__law_are_errors_right s__law_is_three_right s__law_is_two_right s__law_drawn s__law_is s_meeting s_beside s_in_row s__law_hand : TSp) : Sms :=
  (.cons (.set 1 (.call "_law_hand" (adr G "_law_hand") s__law_hand (.cons (.loc 0) .nil)))
    (.cons (.asg [4, 5] (.tup (.cons (.tup (.cons (.cst (.int 9)) (.cons (.tup (.cons (.tup (.cons (.cst (.int 3)) (.cons (.cst (.int 3)) .nil))) .nil)) .nil))) (.cons (.tup (.cons (.cst (.int 11)) (.cons (.tup (.cons (.tup (.cons (.cst (.int 3)) (.cons (.cst (.int 4)) .nil))) .nil)) .nil))) .nil))))
    (.cons (.set 2 (.lst (.cons (.call "in_row" (adr G "in_row") s_in_row (.cons (.loc 4) (.cons (.loc 5) .nil))) (.cons (.call "beside" (adr G "beside") s_beside (.cons (.loc 4) (.cons (.loc 5) .nil))) (.cons (.call "meeting" (adr G "meeting") s_meeting (.cons (.loc 4) (.cons (.loc 5) .nil))) .nil)))))
    (.cons (.ife (.nt (.val (.call "_law_is" (adr G "_law_is") s__law_is (.cons (.loc 2) (.cons (.lst (.cons (.tup (.cons (.cst (.int 32)) (.cons (.tup (.cons (.tup (.cons (.cst (.int 6)) (.cons (.cst (.int 7)) .nil))) .nil)) .nil))) (.cons (.tup (.cons (.cst (.int 29)) (.cons (.tup (.cons (.tup (.cons (.cst (.int 3)) (.cons (.cst (.int 4)) .nil))) (.cons (.tup (.cons (.cst (.int 3)) (.cons (.cst (.int 3)) .nil))) .nil))) .nil))) (.cons (.cst (.int 9)) .nil)))) .nil))))) (.cons (.ret (.cst (.bl false)))
    .nil) .nil)
    (.cons (.fr (.name 3) (.rng1 (.cst (.int 5))) (.cons (.set 6 (.lc (.name 7) (.rng1 (.cst (.int 3))) .no (.call "_law_drawn" (adr G "_law_drawn") s__law_drawn (.cons (.loc 1) .nil)) [("again", 7)]))
    (.cons (.ife (.or (.nt (.val (.call "_law_is_two_right" (adr G "_law_is_two_right") s__law_is_two_right (.cons (.ix (.loc 6) (.cst (.int 0))) (.cons (.ix (.loc 6) (.cst (.int 1))) .nil))))) (.nt (.val (.call "_law_is_three_right" (adr G "_law_is_three_right") s__law_is_three_right (.cons (.ix (.loc 6) (.cst (.int 0))) (.cons (.ix (.loc 6) (.cst (.int 1))) (.cons (.ix (.loc 6) (.cst (.int 2))) .nil))))))) (.cons (.ret (.cst (.bl false)))
    .nil) .nil)
    (.cons (.ife (.nt (.val (.call "_law_are_errors_right" (adr G "_law_are_errors_right") s__law_are_errors_right (.cons (.loc 1) (.cons (.ix (.loc 6) (.cst (.int 2))) .nil))))) (.cons (.ret (.cst (.bl false)))
    .nil) .nil)
    .nil))))
    (.cons (.ret (.cst (.bl true)))
    .nil))))))
abbrev t_law : Stmt := topS 43
theorem sc_law : FnScope n_law p_law (defScope t_law) := ⟨rfl, rfl, rfl, by decide +kernel, rfl, by decide +kernel, by decide +kernel⟩
theorem ck_law {G : Gx} {s__law_are_errors_right s__law_is_three_right s__law_is_two_right s__law_drawn s__law_is s_meeting s_beside s_in_row s__law_hand : TSp} : ckSs n_law (defScope t_law) (b_law G s__law_are_errors_right s__law_is_three_right s__law_is_two_right s__law_drawn s__law_is s_meeting s_beside s_in_row s__law_hand) (defBody t_law) = true := by rfl
theorem bi_law {K : PySem.W.Frag} {f : Addr} {fd : FuncData} (F : Fun K "law" "law" t_law f fd) : Binds K fd p_law [] := F.binds fun _ _ _ _ _ _ us hl => match us, hl with | [_], _ => rfl
structure Facts (G : Gx) : Prop where
  d_is_int : Df G "is_int" t_is_int p_is_int
  d_is_amount : Df G "is_amount" t_is_amount p_is_amount
  d_is_pair : Df G "is_pair" t_is_pair p_is_pair
  d_is_step : Df G "is_step" t_is_step p_is_step
  d_is_better : Df G "is_better" t_is_better p_is_better
  d_drawn_in : Df G "drawn_in" t_drawn_in p_drawn_in
  d_is_steps : Df G "is_steps" t_is_steps p_is_steps
  d_is_bow : Df G "is_bow" t_is_bow p_is_bow
  d_check_bow : Df G "check_bow" t_check_bow p_check_bow
  d_ends_of : Df G "ends_of" t_ends_of p_ends_of
  d_rowed : Df G "rowed" t_rowed p_rowed
  d_in_row : Df G "in_row" t_in_row p_in_row
  d_met : Df G "met" t_met p_met
  d_meeting : Df G "meeting" t_meeting p_meeting
  d_merged : Df G "merged" t_merged p_merged
  d_sided : Df G "sided" t_sided p_sided
  d_beside : Df G "beside" t_beside p_beside
  d__law_hand : Df G "_law_hand" t__law_hand p__law_hand
  d__law_draw : Df G "_law_draw" t__law_draw p__law_draw
  d__law_some : Df G "_law_some" t__law_some p__law_some
  d__law_is : Df G "_law_is" t__law_is p__law_is
  d__law_place : Df G "_law_place" t__law_place p__law_place
  d__law_steps : Df G "_law_steps" t__law_steps p__law_steps
  d__law_is_better : Df G "_law_is_better" t__law_is_better p__law_is_better
  d__law_tight : Df G "_law_tight" t__law_tight p__law_tight
  d__law_sums : Df G "_law_sums" t__law_sums p__law_sums
  d__law_put_behind : Df G "_law_put_behind" t__law_put_behind p__law_put_behind
  d__law_merged : Df G "_law_merged" t__law_merged p__law_merged
  d__law_meet : Df G "_law_meet" t__law_meet p__law_meet
  d__law_put_beside : Df G "_law_put_beside" t__law_put_beside p__law_put_beside
  d__law_drawn : Df G "_law_drawn" t__law_drawn p__law_drawn
  d__law_is_two_right : Df G "_law_is_two_right" t__law_is_two_right p__law_is_two_right
  d__law_is_three_right : Df G "_law_is_three_right" t__law_is_three_right p__law_is_three_right
  d__law_said : Df G "_law_said" t__law_said p__law_said
  d__law_are_errors_right : Df G "_law_are_errors_right" t__law_are_errors_right p__law_are_errors_right
  d_law : Df G "law" t_law p_law
  t__law_are_errors_right : TabF G "_law_are_errors_right"
  g_MOST_ROW : GlV G "MOST_ROW" (.int 1000)
  z_ValueError : G.mg "ValueError" = none
  z_abs : G.mg "abs" = none
  z_all : G.mg "all" = none
  z_bool : G.mg "bool" = none
  z_int : G.mg "int" = none
  z_isinstance : G.mg "isinstance" = none
  z_len : G.mg "len" = none
  z_list : G.mg "list" = none
  z_min : G.mg "min" = none
  z_range : G.mg "range" = none
  z_repr : G.mg "repr" = none
  z_str : G.mg "str" = none
  z_sum : G.mg "sum" = none
  z_tuple : G.mg "tuple" = none
  z_zip : G.mg "zip" = none
  e_BadBow : ErrF G "BadBow"
  c_FindError : ClsF G "FindError"
  c_BadBow : ClsF G "BadBow"
  k_BadBow_BadBow : PySem.W.kitOne G.K (.ref (adr G "BadBow")) (.ref (adr G "BadBow")) = some true
  k_BadBow_ValueError : PySem.W.kitOne G.K (.ref (adr G "BadBow")) (.type "ValueError") = some true
  x_BadBow_FindError : PySem.W.exmOne G.K (.ref (adr G "BadBow")) (.ref (adr G "FindError")) = some true
theorem Facts.y_ValueError {G : Gx} (F : Facts G) : GlV G "ValueError" (.ty "ValueError") := glv_ty F.z_ValueError rfl
theorem Facts.y_bool {G : Gx} (F : Facts G) : GlV G "bool" (.ty "bool") := glv_ty F.z_bool rfl
theorem Facts.y_int {G : Gx} (F : Facts G) : GlV G "int" (.ty "int") := glv_ty F.z_int rfl
theorem Facts.y_list {G : Gx} (F : Facts G) : GlV G "list" (.ty "list") := glv_ty F.z_list rfl
theorem Facts.y_str {G : Gx} (F : Facts G) : GlV G "str" (.ty "str") := glv_ty F.z_str rfl
theorem Facts.y_tuple {G : Gx} (F : Facts G) : GlV G "tuple" (.ty "tuple") := glv_ty F.z_tuple rfl
theorem Facts.r_is_int {G : Gx} (F : Facts G) : GlV G "is_int" (.ref (adr G "is_int")) := glv_ref F.d_is_int.has
theorem Facts.r_is_amount {G : Gx} (F : Facts G) : GlV G "is_amount" (.ref (adr G "is_amount")) := glv_ref F.d_is_amount.has
theorem Facts.r_is_pair {G : Gx} (F : Facts G) : GlV G "is_pair" (.ref (adr G "is_pair")) := glv_ref F.d_is_pair.has
theorem Facts.r_is_step {G : Gx} (F : Facts G) : GlV G "is_step" (.ref (adr G "is_step")) := glv_ref F.d_is_step.has
theorem Facts.r_is_better {G : Gx} (F : Facts G) : GlV G "is_better" (.ref (adr G "is_better")) := glv_ref F.d_is_better.has
theorem Facts.r_drawn_in {G : Gx} (F : Facts G) : GlV G "drawn_in" (.ref (adr G "drawn_in")) := glv_ref F.d_drawn_in.has
theorem Facts.r_is_steps {G : Gx} (F : Facts G) : GlV G "is_steps" (.ref (adr G "is_steps")) := glv_ref F.d_is_steps.has
theorem Facts.r_is_bow {G : Gx} (F : Facts G) : GlV G "is_bow" (.ref (adr G "is_bow")) := glv_ref F.d_is_bow.has
theorem Facts.r_check_bow {G : Gx} (F : Facts G) : GlV G "check_bow" (.ref (adr G "check_bow")) := glv_ref F.d_check_bow.has
theorem Facts.r_ends_of {G : Gx} (F : Facts G) : GlV G "ends_of" (.ref (adr G "ends_of")) := glv_ref F.d_ends_of.has
theorem Facts.r_rowed {G : Gx} (F : Facts G) : GlV G "rowed" (.ref (adr G "rowed")) := glv_ref F.d_rowed.has
theorem Facts.r_in_row {G : Gx} (F : Facts G) : GlV G "in_row" (.ref (adr G "in_row")) := glv_ref F.d_in_row.has
theorem Facts.r_met {G : Gx} (F : Facts G) : GlV G "met" (.ref (adr G "met")) := glv_ref F.d_met.has
theorem Facts.r_meeting {G : Gx} (F : Facts G) : GlV G "meeting" (.ref (adr G "meeting")) := glv_ref F.d_meeting.has
theorem Facts.r_merged {G : Gx} (F : Facts G) : GlV G "merged" (.ref (adr G "merged")) := glv_ref F.d_merged.has
theorem Facts.r_sided {G : Gx} (F : Facts G) : GlV G "sided" (.ref (adr G "sided")) := glv_ref F.d_sided.has
theorem Facts.r_beside {G : Gx} (F : Facts G) : GlV G "beside" (.ref (adr G "beside")) := glv_ref F.d_beside.has
theorem Facts.r__law_hand {G : Gx} (F : Facts G) : GlV G "_law_hand" (.ref (adr G "_law_hand")) := glv_ref F.d__law_hand.has
theorem Facts.r__law_draw {G : Gx} (F : Facts G) : GlV G "_law_draw" (.ref (adr G "_law_draw")) := glv_ref F.d__law_draw.has
theorem Facts.r__law_some {G : Gx} (F : Facts G) : GlV G "_law_some" (.ref (adr G "_law_some")) := glv_ref F.d__law_some.has
theorem Facts.r__law_is {G : Gx} (F : Facts G) : GlV G "_law_is" (.ref (adr G "_law_is")) := glv_ref F.d__law_is.has
theorem Facts.r__law_place {G : Gx} (F : Facts G) : GlV G "_law_place" (.ref (adr G "_law_place")) := glv_ref F.d__law_place.has
theorem Facts.r__law_steps {G : Gx} (F : Facts G) : GlV G "_law_steps" (.ref (adr G "_law_steps")) := glv_ref F.d__law_steps.has
theorem Facts.r__law_is_better {G : Gx} (F : Facts G) : GlV G "_law_is_better" (.ref (adr G "_law_is_better")) := glv_ref F.d__law_is_better.has
theorem Facts.r__law_tight {G : Gx} (F : Facts G) : GlV G "_law_tight" (.ref (adr G "_law_tight")) := glv_ref F.d__law_tight.has
theorem Facts.r__law_sums {G : Gx} (F : Facts G) : GlV G "_law_sums" (.ref (adr G "_law_sums")) := glv_ref F.d__law_sums.has
theorem Facts.r__law_put_behind {G : Gx} (F : Facts G) : GlV G "_law_put_behind" (.ref (adr G "_law_put_behind")) := glv_ref F.d__law_put_behind.has
theorem Facts.r__law_merged {G : Gx} (F : Facts G) : GlV G "_law_merged" (.ref (adr G "_law_merged")) := glv_ref F.d__law_merged.has
theorem Facts.r__law_meet {G : Gx} (F : Facts G) : GlV G "_law_meet" (.ref (adr G "_law_meet")) := glv_ref F.d__law_meet.has
theorem Facts.r__law_put_beside {G : Gx} (F : Facts G) : GlV G "_law_put_beside" (.ref (adr G "_law_put_beside")) := glv_ref F.d__law_put_beside.has
theorem Facts.r__law_drawn {G : Gx} (F : Facts G) : GlV G "_law_drawn" (.ref (adr G "_law_drawn")) := glv_ref F.d__law_drawn.has
theorem Facts.r__law_is_two_right {G : Gx} (F : Facts G) : GlV G "_law_is_two_right" (.ref (adr G "_law_is_two_right")) := glv_ref F.d__law_is_two_right.has
theorem Facts.r__law_is_three_right {G : Gx} (F : Facts G) : GlV G "_law_is_three_right" (.ref (adr G "_law_is_three_right")) := glv_ref F.d__law_is_three_right.has
theorem Facts.r__law_said {G : Gx} (F : Facts G) : GlV G "_law_said" (.ref (adr G "_law_said")) := glv_ref F.d__law_said.has
theorem Facts.r__law_are_errors_right {G : Gx} (F : Facts G) : GlV G "_law_are_errors_right" (.ref (adr G "_law_are_errors_right")) := glv_ref F.d__law_are_errors_right.has
theorem Facts.r_law {G : Gx} (F : Facts G) : GlV G "law" (.ref (adr G "law")) := glv_ref F.d_law.has
theorem ok_is_int {G : Gx} (F : Facts G) {kk : Nat} {kq : Str} {kc : Value} {kt : Option (Str × Addr × (Hp → Prop) × Thk)} {kg : Bool} : okSs G ⟨kk, kq, kc, none, kt, kg⟩ (b_is_int G) := ⟨⟨⟨⟨F.z_isinstance, rfl⟩, ⟨trivial, ⟨F.y_int, trivial⟩⟩⟩, ⟨⟨F.z_isinstance, rfl⟩, ⟨trivial, ⟨F.y_bool, trivial⟩⟩⟩⟩, trivial⟩
theorem ok_is_amount {G : Gx} (F : Facts G) {kk : Nat} {kq : Str} {kc : Value} {kt : Option (Str × Addr × (Hp → Prop) × Thk)} {kg : Bool} {s_is_int : TSp} (h_is_int : HeldX G kg kk (adr G "is_int") s_is_int) : okSs G ⟨kk, kq, kc, none, kt, kg⟩ (b_is_amount G s_is_int) := ⟨⟨⟨⟨F.d_is_int.has, h_is_int, rfl⟩, ⟨trivial, trivial⟩⟩, ⟨trivial, trivial⟩⟩, trivial⟩
theorem ok_is_pair {G : Gx} (F : Facts G) {kk : Nat} {kq : Str} {kc : Value} {kt : Option (Str × Addr × (Hp → Prop) × Thk)} {kg : Bool} {s_is_int : TSp} (h_is_int : HeldX G kg kk (adr G "is_int") s_is_int) : okSs G ⟨kk, kq, kc, none, kt, kg⟩ (b_is_pair G s_is_int) := ⟨⟨⟨⟨F.z_isinstance, rfl⟩, ⟨trivial, ⟨F.y_tuple, trivial⟩⟩⟩, ⟨⟨⟨⟨F.z_len, rfl⟩, ⟨trivial, trivial⟩⟩, trivial⟩, ⟨⟨⟨F.d_is_int.has, h_is_int, rfl⟩, ⟨⟨trivial, trivial⟩, trivial⟩⟩, ⟨⟨F.d_is_int.has, h_is_int, rfl⟩, ⟨⟨trivial, trivial⟩, trivial⟩⟩⟩⟩⟩, trivial⟩
theorem ok_is_step {G : Gx} (F : Facts G) {kk : Nat} {kq : Str} {kc : Value} {kt : Option (Str × Addr × (Hp → Prop) × Thk)} {kg : Bool} {s_is_pair : TSp} (h_is_pair : HeldX G kg kk (adr G "is_pair") s_is_pair) : okSs G ⟨kk, kq, kc, none, kt, kg⟩ (b_is_step G s_is_pair) := ⟨⟨⟨⟨F.d_is_pair.has, h_is_pair, rfl⟩, ⟨trivial, trivial⟩⟩, ⟨⟨⟨trivial, trivial⟩, trivial⟩, ⟨⟨⟨trivial, trivial⟩, trivial⟩, ⟨trivial, ⟨trivial, ⟨trivial, trivial⟩⟩⟩⟩⟩⟩, trivial⟩
theorem ok_is_better {G : Gx} (F : Facts G) {kk : Nat} {kq : Str} {kc : Value} {kt : Option (Str × Addr × (Hp → Prop) × Thk)} {kg : Bool} : okSs G ⟨kk, kq, kc, none, kt, kg⟩ (b_is_better G) := ⟨⟨⟨⟨trivial, trivial⟩, ⟨trivial, trivial⟩⟩, ⟨⟨trivial, trivial⟩, ⟨trivial, trivial⟩⟩⟩, trivial⟩
theorem ok_drawn_in {G : Gx} (F : Facts G) {kk : Nat} {kq : Str} {kc : Value} {kt : Option (Str × Addr × (Hp → Prop) × Thk)} {kg : Bool} {s_is_better : TSp} (h_is_better : HeldX G kg kk (adr G "is_better") s_is_better) : okSs G ⟨kk, kq, kc, none, kt, kg⟩ (b_drawn_in G s_is_better) := ⟨trivial, ⟨⟨trivial, ⟨⟨trivial, ⟨trivial, trivial⟩⟩, ⟨⟨⟨⟨⟨⟨F.z_len, rfl⟩, ⟨trivial, trivial⟩⟩, trivial⟩, ⟨⟨F.d_is_better.has, h_is_better, rfl⟩, ⟨⟨trivial, trivial⟩, ⟨⟨trivial, trivial⟩, trivial⟩⟩⟩⟩, ⟨⟨⟨⟨trivial, trivial⟩, ⟨⟨trivial, trivial⟩, trivial⟩⟩, rfl⟩, ⟨⟨⟨trivial, trivial, trivial⟩, ⟨⟨⟨⟨trivial, trivial⟩, ⟨trivial, trivial⟩⟩, ⟨⟨⟨trivial, trivial⟩, ⟨trivial, trivial⟩⟩, trivial⟩⟩, trivial⟩⟩, trivial⟩⟩⟩, trivial⟩⟩, rfl⟩, ⟨⟨⟨F.z_tuple, rfl⟩, ⟨trivial, trivial⟩⟩, trivial⟩⟩⟩
theorem ok_is_steps {G : Gx} (F : Facts G) {kk : Nat} {kq : Str} {kc : Value} {kt : Option (Str × Addr × (Hp → Prop) × Thk)} {kg : Bool} {s_is_step : TSp} (h_is_step : HeldX G kg kk (adr G "is_step") s_is_step) : okSs G ⟨kk, kq, kc, none, kt, kg⟩ (b_is_steps G s_is_step) := ⟨⟨⟨⟨F.z_isinstance, rfl⟩, ⟨trivial, ⟨F.y_tuple, trivial⟩⟩⟩, ⟨⟨trivial, ⟨⟨F.z_len, rfl⟩, ⟨trivial, trivial⟩⟩, F.g_MOST_ROW⟩, ⟨⟨F.z_all, rfl⟩, ⟨⟨trivial, trivial, ⟨⟨F.d_is_step.has, h_is_step, rfl⟩, ⟨trivial, trivial⟩⟩, rfl⟩, trivial⟩⟩⟩⟩, trivial⟩
theorem ok_is_bow {G : Gx} (F : Facts G) {kk : Nat} {kq : Str} {kc : Value} {kt : Option (Str × Addr × (Hp → Prop) × Thk)} {kg : Bool} {s_is_better : TSp} {s_is_steps : TSp} {s_is_amount : TSp} (h_is_better : HeldX G kg kk (adr G "is_better") s_is_better) (h_is_steps : HeldX G kg kk (adr G "is_steps") s_is_steps) (h_is_amount : HeldX G kg kk (adr G "is_amount") s_is_amount) : okSs G ⟨kk, kq, kc, none, kt, kg⟩ (b_is_bow G s_is_better s_is_steps s_is_amount) := ⟨⟨⟨⟨⟨F.z_isinstance, rfl⟩, ⟨trivial, ⟨F.y_tuple, trivial⟩⟩⟩, ⟨⟨⟨⟨F.z_len, rfl⟩, ⟨trivial, trivial⟩⟩, trivial⟩, ⟨⟨⟨F.d_is_amount.has, h_is_amount, rfl⟩, ⟨⟨trivial, trivial⟩, trivial⟩⟩, ⟨⟨F.d_is_steps.has, h_is_steps, rfl⟩, ⟨⟨trivial, trivial⟩, trivial⟩⟩⟩⟩⟩, ⟨trivial, trivial⟩, trivial⟩, ⟨⟨⟨F.z_all, rfl⟩, ⟨⟨⟨F.z_zip, ⟨trivial, trivial⟩, ⟨⟨trivial, trivial⟩, trivial, trivial⟩⟩, trivial, ⟨⟨F.d_is_better.has, h_is_better, rfl⟩, ⟨trivial, ⟨trivial, trivial⟩⟩⟩, rfl⟩, trivial⟩⟩, trivial⟩⟩
theorem ok_check_bow {G : Gx} (F : Facts G) {kk : Nat} {kq : Str} {kc : Value} {kt : Option (Str × Addr × (Hp → Prop) × Thk)} {kg : Bool} {s_is_bow : TSp} (h_is_bow : HeldX G kg kk (adr G "is_bow") s_is_bow) : okSs G ⟨kk, kq, kc, none, kt, kg⟩ (b_check_bow G s_is_bow) := ⟨⟨⟨⟨F.d_is_bow.has, h_is_bow, rfl⟩, ⟨trivial, trivial⟩⟩, ⟨⟨F.e_BadBow.err, rfl⟩, trivial⟩, trivial⟩, trivial⟩
theorem ok_ends_of {G : Gx} (F : Facts G) {kk : Nat} {kq : Str} {kc : Value} {kt : Option (Str × Addr × (Hp → Prop) × Thk)} {kg : Bool} : okSs G ⟨kk, kq, kc, none, kt, kg⟩ (b_ends_of G) := ⟨⟨⟨⟨F.z_sum, rfl⟩, ⟨⟨trivial, trivial, ⟨trivial, trivial⟩, rfl⟩, trivial⟩⟩, ⟨⟨⟨F.z_sum, rfl⟩, ⟨⟨trivial, trivial, ⟨trivial, trivial⟩, rfl⟩, trivial⟩⟩, trivial⟩⟩, trivial⟩
theorem ok_rowed {G : Gx} (F : Facts G) {kk : Nat} {kq : Str} {kc : Value} {kt : Option (Str × Addr × (Hp → Prop) × Thk)} {kg : Bool} {s_drawn_in : TSp} {s_ends_of : TSp} (h_drawn_in : HeldX G kg kk (adr G "drawn_in") s_drawn_in) (h_ends_of : HeldX G kg kk (adr G "ends_of") s_ends_of) : okSs G ⟨kk, kq, kc, none, kt, kg⟩ (b_rowed G s_drawn_in s_ends_of) := ⟨⟨⟨⟨trivial, trivial⟩, ⟨trivial, trivial⟩⟩, ⟨⟨⟨⟨F.d_ends_of.has, h_ends_of, rfl⟩, ⟨⟨trivial, trivial⟩, trivial⟩⟩, trivial⟩, ⟨⟨⟨F.d_ends_of.has, h_ends_of, rfl⟩, ⟨⟨trivial, trivial⟩, trivial⟩⟩, trivial⟩⟩⟩, ⟨⟨trivial, ⟨⟨⟨F.d_drawn_in.has, h_drawn_in, rfl⟩, ⟨⟨⟨trivial, trivial⟩, ⟨trivial, trivial⟩⟩, trivial⟩⟩, trivial⟩⟩, trivial⟩⟩
theorem ok_in_row {G : Gx} (F : Facts G) {kk : Nat} {kq : Str} {kc : Value} {kt : Option (Str × Addr × (Hp → Prop) × Thk)} {kg : Bool} {s_rowed : TSp} {s_check_bow : TSp} (h_rowed : HeldX G kg kk (adr G "rowed") s_rowed) (h_check_bow : HeldX G kg kk (adr G "check_bow") s_check_bow) : okSs G ⟨kk, kq, kc, none, kt, kg⟩ (b_in_row G s_rowed s_check_bow) := ⟨⟨⟨F.d_check_bow.has, h_check_bow, rfl⟩, ⟨trivial, trivial⟩⟩, ⟨⟨⟨F.d_check_bow.has, h_check_bow, rfl⟩, ⟨trivial, trivial⟩⟩, ⟨⟨⟨F.d_rowed.has, h_rowed, rfl⟩, ⟨trivial, ⟨trivial, trivial⟩⟩⟩, trivial⟩⟩⟩
theorem ok_met {G : Gx} (F : Facts G) {kk : Nat} {kq : Str} {kc : Value} {kt : Option (Str × Addr × (Hp → Prop) × Thk)} {kg : Bool} : okSs G ⟨kk, kq, kc, none, kt, kg⟩ (b_met G) := ⟨⟨⟨F.z_sum, rfl⟩, ⟨⟨trivial, trivial, trivial, trivial, ⟨⟨F.z_min, rfl⟩, ⟨⟨trivial, trivial⟩, ⟨⟨trivial, trivial⟩, trivial⟩⟩⟩, rfl⟩, trivial⟩⟩, trivial⟩
theorem ok_meeting {G : Gx} (F : Facts G) {kk : Nat} {kq : Str} {kc : Value} {kt : Option (Str × Addr × (Hp → Prop) × Thk)} {kg : Bool} {s_met : TSp} {s_check_bow : TSp} (h_met : HeldX G kg kk (adr G "met") s_met) (h_check_bow : HeldX G kg kk (adr G "check_bow") s_check_bow) : okSs G ⟨kk, kq, kc, none, kt, kg⟩ (b_meeting G s_met s_check_bow) := ⟨⟨⟨F.d_check_bow.has, h_check_bow, rfl⟩, ⟨trivial, trivial⟩⟩, ⟨⟨⟨F.d_check_bow.has, h_check_bow, rfl⟩, ⟨trivial, trivial⟩⟩, ⟨⟨⟨F.d_met.has, h_met, rfl⟩, ⟨⟨trivial, trivial⟩, ⟨⟨trivial, trivial⟩, trivial⟩⟩⟩, trivial⟩⟩⟩
theorem ok_merged {G : Gx} (F : Facts G) {kk : Nat} {kq : Str} {kc : Value} {kt : Option (Str × Addr × (Hp → Prop) × Thk)} {kg : Bool} {s_drawn_in : TSp} (h_drawn_in : HeldX G kg kk (adr G "drawn_in") s_drawn_in) : okSs G ⟨kk, kq, kc, none, kt, kg⟩ (b_merged G s_drawn_in) := ⟨⟨⟨trivial, ⟨trivial, ⟨trivial, trivial⟩⟩⟩, rfl⟩, ⟨⟨⟨⟨trivial, ⟨⟨F.z_len, rfl⟩, ⟨trivial, trivial⟩⟩⟩, ⟨trivial, ⟨⟨F.z_len, rfl⟩, ⟨trivial, trivial⟩⟩⟩⟩, ⟨⟨⟨trivial, ⟨⟨F.z_len, rfl⟩, ⟨trivial, trivial⟩⟩⟩, ⟨trivial, trivial⟩, ⟨⟨⟨trivial, ⟨⟨F.z_len, rfl⟩, ⟨trivial, trivial⟩⟩⟩, ⟨trivial, trivial⟩, ⟨⟨⟨⟨⟨trivial, trivial⟩, trivial⟩, ⟨⟨trivial, trivial⟩, trivial⟩⟩, ⟨⟨⟨trivial, trivial⟩, trivial⟩, ⟨⟨trivial, trivial⟩, trivial⟩⟩⟩, trivial⟩⟩, trivial⟩⟩, ⟨⟨trivial, ⟨⟨trivial, ⟨trivial, trivial⟩, ⟨trivial, trivial⟩⟩, trivial⟩⟩, ⟨⟨⟨trivial, ⟨⟨trivial, trivial⟩, ⟨trivial, trivial⟩⟩, ⟨trivial, ⟨⟨trivial, trivial⟩, trivial⟩⟩⟩, rfl⟩, trivial⟩⟩⟩⟩, ⟨⟨⟨F.d_drawn_in.has, h_drawn_in, rfl⟩, ⟨⟨⟨F.z_tuple, rfl⟩, ⟨trivial, trivial⟩⟩, trivial⟩⟩, trivial⟩⟩⟩
theorem ok_sided {G : Gx} (F : Facts G) {kk : Nat} {kq : Str} {kc : Value} {kt : Option (Str × Addr × (Hp → Prop) × Thk)} {kg : Bool} {s_merged : TSp} {s_met : TSp} (h_merged : HeldX G kg kk (adr G "merged") s_merged) (h_met : HeldX G kg kk (adr G "met") s_met) : okSs G ⟨kk, kq, kc, none, kt, kg⟩ (b_sided G s_merged s_met) := ⟨⟨⟨⟨⟨trivial, trivial⟩, ⟨trivial, trivial⟩⟩, ⟨⟨F.d_met.has, h_met, rfl⟩, ⟨⟨trivial, trivial⟩, ⟨⟨trivial, trivial⟩, trivial⟩⟩⟩⟩, ⟨⟨⟨F.d_merged.has, h_merged, rfl⟩, ⟨⟨trivial, trivial⟩, ⟨⟨trivial, trivial⟩, trivial⟩⟩⟩, trivial⟩⟩, trivial⟩
theorem ok_beside {G : Gx} (F : Facts G) {kk : Nat} {kq : Str} {kc : Value} {kt : Option (Str × Addr × (Hp → Prop) × Thk)} {kg : Bool} {s_sided : TSp} {s_check_bow : TSp} (h_sided : HeldX G kg kk (adr G "sided") s_sided) (h_check_bow : HeldX G kg kk (adr G "check_bow") s_check_bow) : okSs G ⟨kk, kq, kc, none, kt, kg⟩ (b_beside G s_sided s_check_bow) := ⟨⟨⟨F.d_check_bow.has, h_check_bow, rfl⟩, ⟨trivial, trivial⟩⟩, ⟨⟨⟨F.d_check_bow.has, h_check_bow, rfl⟩, ⟨trivial, trivial⟩⟩, ⟨⟨⟨F.d_sided.has, h_sided, rfl⟩, ⟨trivial, ⟨trivial, trivial⟩⟩⟩, trivial⟩⟩⟩
theorem ok__law_hand {G : Gx} (F : Facts G) {kk : Nat} {kq : Str} {kc : Value} {kt : Option (Str × Addr × (Hp → Prop) × Thk)} {kg : Bool} : okSs G ⟨kk, kq, kc, none, kt, kg⟩ (b__law_hand G) := ⟨⟨⟨trivial, trivial, trivial⟩, trivial, ⟨⟨F.z_abs, rfl⟩, ⟨⟨⟨F.z_int, rfl⟩, ⟨trivial, trivial⟩⟩, trivial⟩⟩, rfl⟩, ⟨⟨trivial, ⟨trivial, ⟨trivial, ⟨⟨trivial, ⟨trivial, ⟨⟨F.z_len, rfl⟩, ⟨trivial, trivial⟩⟩⟩⟩, ⟨trivial, trivial⟩⟩⟩⟩⟩, trivial⟩⟩
theorem ok__law_draw {G : Gx} (F : Facts G) {kk : Nat} {kq : Str} {kc : Value} {kt : Option (Str × Addr × (Hp → Prop) × Thk)} {kg : Bool} : okSs G ⟨kk, kq, kc, none, kt, kg⟩ (b__law_draw G) := ⟨⟨⟨⟨⟨trivial, trivial⟩, trivial⟩, ⟨⟨trivial, trivial⟩, ⟨⟨F.z_len, rfl⟩, ⟨⟨trivial, trivial⟩, trivial⟩⟩⟩⟩, ⟨⟨⟨trivial, trivial⟩, ⟨trivial, trivial⟩⟩, ⟨⟨trivial, trivial, ⟨⟨trivial, trivial⟩, trivial⟩⟩, ⟨⟨trivial, trivial, ⟨⟨⟨F.z_int, rfl⟩, ⟨⟨⟨⟨⟨trivial, trivial⟩, trivial⟩, trivial⟩, trivial⟩, trivial⟩⟩, trivial⟩⟩, ⟨⟨⟨trivial, ⟨trivial, trivial⟩⟩, ⟨⟨trivial, trivial, trivial⟩, trivial⟩, trivial⟩, trivial⟩⟩⟩⟩, trivial⟩, ⟨⟨⟨⟨trivial, trivial⟩, trivial⟩, ⟨⟨⟨⟨F.z_int, rfl⟩, ⟨⟨trivial, trivial⟩, trivial⟩⟩, trivial⟩, ⟨⟨trivial, trivial, ⟨⟨trivial, trivial⟩, trivial⟩⟩, ⟨trivial, trivial⟩⟩⟩, trivial⟩, ⟨⟨trivial, trivial, ⟨⟨trivial, trivial⟩, trivial⟩⟩, ⟨⟨⟨⟨F.z_int, rfl⟩, ⟨⟨⟨⟨F.z_int, rfl⟩, ⟨⟨⟨trivial, trivial⟩, ⟨trivial, ⟨trivial, trivial⟩⟩⟩, trivial⟩⟩, trivial⟩, trivial⟩⟩, trivial⟩, ⟨⟨⟨⟨F.z_int, rfl⟩, ⟨⟨trivial, ⟨⟨trivial, trivial⟩, trivial⟩⟩, trivial⟩⟩, trivial⟩, ⟨⟨⟨⟨F.z_int, rfl⟩, ⟨⟨trivial, ⟨⟨trivial, trivial⟩, trivial⟩⟩, trivial⟩⟩, trivial⟩, ⟨⟨⟨⟨F.z_int, rfl⟩, ⟨⟨trivial, trivial⟩, trivial⟩⟩, trivial⟩, trivial⟩⟩⟩⟩⟩⟩⟩
theorem ok__law_some {G : Gx} (F : Facts G) {kk : Nat} {kq : Str} {kc : Value} {kt : Option (Str × Addr × (Hp → Prop) × Thk)} {kg : Bool} {s__law_draw : TSp} (h__law_draw : HeldX G kg kk (adr G "_law_draw") s__law_draw) : okSs G ⟨kk, kq, kc, none, kt, kg⟩ (b__law_some G s__law_draw) := ⟨⟨trivial, ⟨⟨F.d__law_draw.has, h__law_draw, rfl⟩, ⟨trivial, ⟨⟨⟨F.z_len, rfl⟩, ⟨trivial, trivial⟩⟩, trivial⟩⟩⟩⟩, trivial⟩
theorem ok__law_is {G : Gx} (F : Facts G) {kk : Nat} {kq : Str} {kc : Value} {kt : Option (Str × Addr × (Hp → Prop) × Thk)} {kg : Bool} {s__law_is : TSp} (h__law_is : HeldX G kg kk (adr G "_law_is") s__law_is) : okSs G ⟨kk, kq, kc, none, kt, kg⟩ (b__law_is G s__law_is) := ⟨⟨⟨⟨F.z_isinstance, rfl⟩, ⟨trivial, ⟨⟨F.y_tuple, ⟨F.y_list, trivial⟩⟩, trivial⟩⟩⟩, ⟨⟨⟨⟨⟨F.z_isinstance, rfl⟩, ⟨trivial, ⟨F.y_tuple, trivial⟩⟩⟩, ⟨⟨F.z_isinstance, rfl⟩, ⟨trivial, ⟨F.y_tuple, trivial⟩⟩⟩⟩, ⟨trivial, trivial⟩, trivial⟩, ⟨⟨⟨⟨⟨⟨F.z_isinstance, rfl⟩, ⟨trivial, ⟨F.y_list, trivial⟩⟩⟩, ⟨⟨F.z_isinstance, rfl⟩, ⟨trivial, ⟨F.y_list, trivial⟩⟩⟩⟩, ⟨⟨⟨F.z_len, rfl⟩, ⟨trivial, trivial⟩⟩, ⟨⟨F.z_len, rfl⟩, ⟨trivial, trivial⟩⟩⟩⟩, ⟨trivial, trivial⟩, trivial⟩, ⟨⟨⟨F.z_all, rfl⟩, ⟨⟨⟨F.z_zip, trivial, trivial⟩, trivial, ⟨⟨F.d__law_is.has, h__law_is, rfl⟩, ⟨trivial, ⟨trivial, trivial⟩⟩⟩, rfl⟩, trivial⟩⟩, trivial⟩⟩⟩, trivial⟩, ⟨⟨⟨⟨trivial, trivial⟩, ⟨trivial, trivial⟩⟩, ⟨⟨⟨trivial, trivial⟩, ⟨trivial, trivial⟩⟩, trivial⟩, trivial⟩, ⟨⟨⟨⟨⟨F.z_isinstance, rfl⟩, ⟨trivial, ⟨F.y_bool, trivial⟩⟩⟩, ⟨⟨F.z_isinstance, rfl⟩, ⟨trivial, ⟨F.y_bool, trivial⟩⟩⟩⟩, ⟨trivial, trivial⟩, trivial⟩, ⟨⟨⟨⟨⟨F.z_isinstance, rfl⟩, ⟨trivial, ⟨F.y_str, trivial⟩⟩⟩, ⟨⟨F.z_isinstance, rfl⟩, ⟨trivial, ⟨F.y_str, trivial⟩⟩⟩⟩, ⟨trivial, trivial⟩⟩, trivial⟩⟩⟩⟩
theorem ok__law_place {G : Gx} (F : Facts G) {kk : Nat} {kq : Str} {kc : Value} {kt : Option (Str × Addr × (Hp → Prop) × Thk)} {kg : Bool} {s__law_some : TSp} {s__law_draw : TSp} (h__law_some : HeldX G kg kk (adr G "_law_some") s__law_some) (h__law_draw : HeldX G kg kk (adr G "_law_draw") s__law_draw) : okSs G ⟨kk, kq, kc, none, kt, kg⟩ (b__law_place G s__law_some s__law_draw) := ⟨⟨⟨⟨⟨F.d__law_draw.has, h__law_draw, rfl⟩, ⟨trivial, ⟨⟨trivial, trivial⟩, trivial⟩⟩⟩, ⟨⟨⟨F.d__law_draw.has, h__law_draw, rfl⟩, ⟨trivial, ⟨⟨trivial, trivial⟩, trivial⟩⟩⟩, trivial⟩⟩, rfl⟩, ⟨⟨⟨⟨⟨F.d__law_draw.has, h__law_draw, rfl⟩, ⟨trivial, ⟨trivial, trivial⟩⟩⟩, trivial⟩, ⟨trivial, trivial⟩, trivial⟩, ⟨⟨⟨⟨trivial, trivial⟩, ⟨trivial, trivial⟩⟩, ⟨⟨⟨F.d__law_some.has, h__law_some, rfl⟩, ⟨trivial, ⟨⟨⟨trivial, ⟨trivial, trivial⟩⟩, ⟨⟨trivial, ⟨trivial, trivial⟩⟩, ⟨⟨trivial, ⟨trivial, trivial⟩⟩, trivial⟩⟩⟩, trivial⟩⟩⟩, trivial⟩, trivial⟩, ⟨⟨trivial, ⟨trivial, trivial⟩⟩, trivial⟩⟩⟩⟩
theorem ok__law_steps {G : Gx} (F : Facts G) {kk : Nat} {kq : Str} {kc : Value} {kt : Option (Str × Addr × (Hp → Prop) × Thk)} {kg : Bool} {s__law_place : TSp} (h__law_place : HeldX G kg kk (adr G "_law_place") s__law_place) : okSs G ⟨kk, kq, kc, none, kt, kg⟩ (b__law_steps G s__law_place) := ⟨⟨⟨F.z_tuple, rfl⟩, ⟨⟨⟨F.z_range, trivial⟩, trivial, ⟨⟨F.d__law_place.has, h__law_place, rfl⟩, ⟨trivial, ⟨trivial, trivial⟩⟩⟩, rfl⟩, trivial⟩⟩, trivial⟩
theorem ok__law_is_better {G : Gx} (F : Facts G) {kk : Nat} {kq : Str} {kc : Value} {kt : Option (Str × Addr × (Hp → Prop) × Thk)} {kg : Bool} : okSs G ⟨kk, kq, kc, none, kt, kg⟩ (b__law_is_better G) := ⟨⟨⟨⟨trivial, trivial⟩, ⟨trivial, trivial⟩⟩, ⟨⟨trivial, trivial⟩, ⟨trivial, trivial⟩⟩⟩, trivial⟩
theorem ok__law_tight {G : Gx} (F : Facts G) {kk : Nat} {kq : Str} {kc : Value} {kt : Option (Str × Addr × (Hp → Prop) × Thk)} {kg : Bool} {s__law_is_better : TSp} (h__law_is_better : HeldX G kg kk (adr G "_law_is_better") s__law_is_better) : okSs G ⟨kk, kq, kc, none, kt, kg⟩ (b__law_tight G s__law_is_better) := ⟨trivial, ⟨⟨trivial, ⟨⟨trivial, ⟨trivial, trivial⟩⟩, ⟨⟨⟨⟨⟨⟨F.z_len, rfl⟩, ⟨trivial, trivial⟩⟩, trivial⟩, ⟨⟨F.d__law_is_better.has, h__law_is_better, rfl⟩, ⟨⟨trivial, trivial⟩, ⟨⟨trivial, trivial⟩, trivial⟩⟩⟩⟩, ⟨⟨trivial, trivial⟩, ⟨⟨trivial, trivial, ⟨⟨⟨⟨trivial, trivial⟩, trivial⟩, ⟨trivial, trivial⟩⟩, ⟨⟨⟨⟨trivial, trivial⟩, trivial⟩, ⟨trivial, trivial⟩⟩, trivial⟩⟩⟩, trivial⟩⟩⟩, trivial⟩⟩, rfl⟩, ⟨⟨⟨F.z_tuple, rfl⟩, ⟨trivial, trivial⟩⟩, trivial⟩⟩⟩
theorem ok__law_sums {G : Gx} (F : Facts G) {kk : Nat} {kq : Str} {kc : Value} {kt : Option (Str × Addr × (Hp → Prop) × Thk)} {kg : Bool} : okSs G ⟨kk, kq, kc, none, kt, kg⟩ (b__law_sums G) := ⟨⟨⟨⟨F.z_sum, rfl⟩, ⟨⟨trivial, trivial, ⟨trivial, trivial⟩, rfl⟩, trivial⟩⟩, ⟨⟨⟨F.z_sum, rfl⟩, ⟨⟨trivial, trivial, ⟨trivial, trivial⟩, rfl⟩, trivial⟩⟩, trivial⟩⟩, trivial⟩
theorem ok__law_put_behind {G : Gx} (F : Facts G) {kk : Nat} {kq : Str} {kc : Value} {kt : Option (Str × Addr × (Hp → Prop) × Thk)} {kg : Bool} {s__law_tight : TSp} {s__law_sums : TSp} (h__law_tight : HeldX G kg kk (adr G "_law_tight") s__law_tight) (h__law_sums : HeldX G kg kk (adr G "_law_sums") s__law_sums) : okSs G ⟨kk, kq, kc, none, kt, kg⟩ (b__law_put_behind G s__law_tight s__law_sums) := ⟨⟨⟨⟨⟨⟨F.d__law_sums.has, h__law_sums, rfl⟩, ⟨⟨trivial, trivial⟩, trivial⟩⟩, trivial⟩, ⟨⟨⟨⟨F.d__law_sums.has, h__law_sums, rfl⟩, ⟨⟨trivial, trivial⟩, trivial⟩⟩, trivial⟩, trivial⟩⟩, rfl⟩, ⟨⟨⟨⟨⟨trivial, trivial⟩, ⟨trivial, trivial⟩⟩, ⟨trivial, trivial⟩⟩, ⟨⟨⟨F.d__law_tight.has, h__law_tight, rfl⟩, ⟨⟨⟨trivial, trivial⟩, ⟨trivial, trivial⟩⟩, trivial⟩⟩, trivial⟩⟩, trivial⟩⟩
theorem ok__law_merged {G : Gx} (F : Facts G) {kk : Nat} {kq : Str} {kc : Value} {kt : Option (Str × Addr × (Hp → Prop) × Thk)} {kg : Bool} {s__law_is_better : TSp} (h__law_is_better : HeldX G kg kk (adr G "_law_is_better") s__law_is_better) : okSs G ⟨kk, kq, kc, none, kt, kg⟩ (b__law_merged G s__law_is_better) := ⟨⟨⟨⟨⟨F.z_list, rfl⟩, ⟨trivial, trivial⟩⟩, ⟨⟨⟨F.z_list, rfl⟩, ⟨trivial, trivial⟩⟩, ⟨trivial, trivial⟩⟩⟩, rfl⟩, ⟨⟨⟨⟨⟨⟨F.z_len, rfl⟩, ⟨trivial, trivial⟩⟩, ⟨⟨F.z_len, rfl⟩, ⟨trivial, trivial⟩⟩⟩, trivial⟩, ⟨⟨⟨⟨⟨⟨F.z_len, rfl⟩, ⟨trivial, trivial⟩⟩, trivial⟩, ⟨⟨⟨⟨F.z_len, rfl⟩, ⟨trivial, trivial⟩⟩, trivial⟩, ⟨⟨F.d__law_is_better.has, h__law_is_better, rfl⟩, ⟨⟨trivial, trivial⟩, ⟨⟨trivial, trivial⟩, trivial⟩⟩⟩⟩⟩, ⟨⟨trivial, ⟨⟨trivial, ⟨trivial, trivial⟩⟩, trivial⟩⟩, trivial⟩, ⟨⟨trivial, ⟨⟨trivial, ⟨trivial, trivial⟩⟩, trivial⟩⟩, trivial⟩⟩, trivial⟩⟩, ⟨⟨⟨F.z_tuple, rfl⟩, ⟨trivial, trivial⟩⟩, trivial⟩⟩⟩
theorem ok__law_meet {G : Gx} (F : Facts G) {kk : Nat} {kq : Str} {kc : Value} {kt : Option (Str × Addr × (Hp → Prop) × Thk)} {kg : Bool} : okSs G ⟨kk, kq, kc, none, kt, kg⟩ (b__law_meet G) := ⟨⟨⟨F.z_sum, rfl⟩, ⟨⟨⟨trivial, trivial⟩, trivial, ⟨⟨F.z_sum, rfl⟩, ⟨⟨⟨trivial, trivial⟩, trivial, ⟨⟨F.z_min, rfl⟩, ⟨⟨trivial, trivial⟩, ⟨⟨trivial, trivial⟩, trivial⟩⟩⟩, rfl⟩, trivial⟩⟩, rfl⟩, trivial⟩⟩, trivial⟩
theorem ok__law_put_beside {G : Gx} (F : Facts G) {kk : Nat} {kq : Str} {kc : Value} {kt : Option (Str × Addr × (Hp → Prop) × Thk)} {kg : Bool} {s__law_merged : TSp} {s__law_tight : TSp} {s__law_meet : TSp} (h__law_merged : HeldX G kg kk (adr G "_law_merged") s__law_merged) (h__law_tight : HeldX G kg kk (adr G "_law_tight") s__law_tight) (h__law_meet : HeldX G kg kk (adr G "_law_meet") s__law_meet) : okSs G ⟨kk, kq, kc, none, kt, kg⟩ (b__law_put_beside G s__law_merged s__law_tight s__law_meet) := ⟨⟨⟨⟨⟨trivial, trivial⟩, ⟨trivial, trivial⟩⟩, ⟨⟨F.d__law_meet.has, h__law_meet, rfl⟩, ⟨trivial, ⟨trivial, trivial⟩⟩⟩⟩, ⟨⟨⟨F.d__law_tight.has, h__law_tight, rfl⟩, ⟨⟨⟨F.d__law_merged.has, h__law_merged, rfl⟩, ⟨⟨trivial, trivial⟩, ⟨⟨trivial, trivial⟩, trivial⟩⟩⟩, trivial⟩⟩, trivial⟩⟩, trivial⟩
theorem ok__law_drawn {G : Gx} (F : Facts G) {kk : Nat} {kq : Str} {kc : Value} {kt : Option (Str × Addr × (Hp → Prop) × Thk)} {kg : Bool} {s__law_tight : TSp} {s__law_some : TSp} {s__law_draw : TSp} {s__law_steps : TSp} (h__law_tight : HeldX G kg kk (adr G "_law_tight") s__law_tight) (h__law_some : HeldX G kg kk (adr G "_law_some") s__law_some) (h__law_draw : HeldX G kg kk (adr G "_law_draw") s__law_draw) (h__law_steps : HeldX G kg kk (adr G "_law_steps") s__law_steps) : okSs G ⟨kk, kq, kc, none, kt, kg⟩ (b__law_drawn G s__law_tight s__law_some s__law_draw s__law_steps) := ⟨⟨⟨F.d__law_steps.has, h__law_steps, rfl⟩, ⟨trivial, ⟨⟨trivial, ⟨⟨F.d__law_draw.has, h__law_draw, rfl⟩, ⟨trivial, ⟨trivial, trivial⟩⟩⟩⟩, ⟨⟨⟨F.d__law_some.has, h__law_some, rfl⟩, ⟨trivial, ⟨⟨trivial, ⟨trivial, ⟨⟨⟨trivial, trivial⟩, trivial⟩, trivial⟩⟩⟩, trivial⟩⟩⟩, trivial⟩⟩⟩⟩, ⟨⟨⟨⟨⟨F.d__law_draw.has, h__law_draw, rfl⟩, ⟨trivial, ⟨trivial, trivial⟩⟩⟩, trivial⟩, ⟨⟨⟨F.d__law_some.has, h__law_some, rfl⟩, ⟨trivial, ⟨⟨⟨trivial, trivial⟩, ⟨⟨⟨trivial, trivial⟩, ⟨trivial, trivial⟩⟩, ⟨trivial, trivial⟩⟩⟩, trivial⟩⟩⟩, ⟨⟨⟨F.z_tuple, rfl⟩, ⟨⟨trivial, trivial, ⟨⟨trivial, trivial⟩, ⟨⟨trivial, trivial⟩, trivial⟩⟩, rfl⟩, trivial⟩⟩, trivial⟩⟩, trivial⟩, ⟨⟨⟨⟨F.d__law_draw.has, h__law_draw, rfl⟩, ⟨trivial, ⟨⟨⟨F.d__law_some.has, h__law_some, rfl⟩, ⟨trivial, ⟨⟨trivial, ⟨⟨trivial, trivial⟩, trivial⟩⟩, trivial⟩⟩⟩, trivial⟩⟩⟩, ⟨⟨⟨F.d__law_tight.has, h__law_tight, rfl⟩, ⟨trivial, trivial⟩⟩, trivial⟩⟩, trivial⟩⟩⟩
theorem ok__law_is_two_right {G : Gx} (F : Facts G) {kk : Nat} {kq : Str} {kc : Value} {kt : Option (Str × Addr × (Hp → Prop) × Thk)} {s_is_bow : TSp} {s_meeting : TSp} {s_beside : TSp} {s__law_is : TSp} {s_in_row : TSp} {s__law_meet : TSp} {s__law_put_beside : TSp} {s__law_put_behind : TSp} (h_is_bow : HeldX G true kk (adr G "is_bow") s_is_bow) (h_meeting : HeldX G true kk (adr G "meeting") s_meeting) (h_beside : HeldX G true kk (adr G "beside") s_beside) (h__law_is : HeldX G true kk (adr G "_law_is") s__law_is) (h_in_row : HeldX G true kk (adr G "in_row") s_in_row) (h__law_meet : HeldX G true kk (adr G "_law_meet") s__law_meet) (h__law_put_beside : HeldX G true kk (adr G "_law_put_beside") s__law_put_beside) (h__law_put_behind : HeldX G true kk (adr G "_law_put_behind") s__law_put_behind) : okSs G ⟨kk, kq, kc, none, kt, true⟩ (b__law_is_two_right G s_is_bow s_meeting s_beside s__law_is s_in_row s__law_meet s__law_put_beside s__law_put_behind) := ⟨⟨⟨⟨⟨F.d__law_put_behind.has, h__law_put_behind, rfl⟩, ⟨trivial, ⟨trivial, trivial⟩⟩⟩, ⟨⟨⟨F.d__law_put_behind.has, h__law_put_behind, rfl⟩, ⟨trivial, ⟨trivial, trivial⟩⟩⟩, trivial⟩⟩, rfl⟩, ⟨⟨⟨⟨⟨F.d__law_put_beside.has, h__law_put_beside, rfl⟩, ⟨trivial, ⟨trivial, trivial⟩⟩⟩, ⟨⟨⟨F.d__law_meet.has, h__law_meet, rfl⟩, ⟨trivial, ⟨trivial, trivial⟩⟩⟩, trivial⟩⟩, rfl⟩, ⟨⟨⟨F.z_repr, rfl⟩, ⟨trivial, ⟨trivial, trivial⟩⟩⟩, ⟨⟨⟨trivial, ⟨trivial, trivial⟩⟩, ⟨⟨⟨⟨F.d__law_is.has, h__law_is, rfl⟩, ⟨⟨⟨⟨F.d_in_row.has, h_in_row, rfl⟩, ⟨trivial, ⟨trivial, trivial⟩⟩⟩, ⟨⟨⟨F.d_in_row.has, h_in_row, rfl⟩, ⟨trivial, ⟨trivial, trivial⟩⟩⟩, ⟨⟨⟨F.d_beside.has, h_beside, rfl⟩, ⟨trivial, ⟨trivial, trivial⟩⟩⟩, trivial⟩⟩⟩, ⟨⟨trivial, ⟨trivial, ⟨trivial, trivial⟩⟩⟩, trivial⟩⟩⟩, ⟨trivial, trivial⟩, trivial⟩, ⟨⟨⟨⟨F.d__law_is.has, h__law_is, rfl⟩, ⟨⟨⟨⟨F.d_beside.has, h_beside, rfl⟩, ⟨trivial, ⟨trivial, trivial⟩⟩⟩, ⟨⟨⟨F.d_meeting.has, h_meeting, rfl⟩, ⟨trivial, ⟨trivial, trivial⟩⟩⟩, ⟨⟨⟨F.d_meeting.has, h_meeting, rfl⟩, ⟨trivial, ⟨trivial, trivial⟩⟩⟩, trivial⟩⟩⟩, ⟨⟨trivial, ⟨trivial, ⟨trivial, trivial⟩⟩⟩, trivial⟩⟩⟩, ⟨trivial, trivial⟩, trivial⟩, trivial⟩⟩, rfl⟩, ⟨⟨⟨⟨⟨F.z_all, rfl⟩, ⟨⟨⟨trivial, ⟨trivial, trivial⟩⟩, trivial, ⟨⟨⟨F.d_is_bow.has, h_is_bow, rfl⟩, ⟨trivial, trivial⟩⟩, trivial⟩, rfl⟩, trivial⟩⟩, ⟨⟨trivial, trivial⟩, ⟨⟨F.z_min, rfl⟩, ⟨⟨trivial, trivial⟩, ⟨⟨trivial, trivial⟩, trivial⟩⟩⟩⟩⟩, ⟨trivial, trivial⟩, trivial⟩, ⟨⟨⟨⟨F.z_repr, rfl⟩, ⟨trivial, ⟨trivial, trivial⟩⟩⟩, trivial⟩, trivial⟩⟩⟩⟩⟩⟩
theorem ok__law_is_three_right {G : Gx} (F : Facts G) {kk : Nat} {kq : Str} {kc : Value} {kt : Option (Str × Addr × (Hp → Prop) × Thk)} {kg : Bool} {s_meeting : TSp} {s_beside : TSp} {s__law_is : TSp} {s__law_put_behind : TSp} {s__law_put_beside : TSp} {s_in_row : TSp} (h_meeting : HeldX G kg kk (adr G "meeting") s_meeting) (h_beside : HeldX G kg kk (adr G "beside") s_beside) (h__law_is : HeldX G kg kk (adr G "_law_is") s__law_is) (h__law_put_behind : HeldX G kg kk (adr G "_law_put_behind") s__law_put_behind) (h__law_put_beside : HeldX G kg kk (adr G "_law_put_beside") s__law_put_beside) (h_in_row : HeldX G kg kk (adr G "in_row") s_in_row) : okSs G ⟨kk, kq, kc, none, kt, kg⟩ (b__law_is_three_right G s_meeting s_beside s__law_is s__law_put_behind s__law_put_beside s_in_row) := ⟨⟨⟨⟨F.d_in_row.has, h_in_row, rfl⟩, ⟨⟨⟨F.d_in_row.has, h_in_row, rfl⟩, ⟨trivial, ⟨trivial, trivial⟩⟩⟩, ⟨trivial, trivial⟩⟩⟩, ⟨⟨⟨F.d_in_row.has, h_in_row, rfl⟩, ⟨trivial, ⟨⟨⟨F.d_in_row.has, h_in_row, rfl⟩, ⟨trivial, ⟨trivial, trivial⟩⟩⟩, trivial⟩⟩⟩, trivial⟩⟩, ⟨⟨⟨⟨F.d_beside.has, h_beside, rfl⟩, ⟨⟨⟨F.d_beside.has, h_beside, rfl⟩, ⟨trivial, ⟨trivial, trivial⟩⟩⟩, ⟨trivial, trivial⟩⟩⟩, ⟨⟨⟨F.d_beside.has, h_beside, rfl⟩, ⟨trivial, ⟨⟨⟨F.d_beside.has, h_beside, rfl⟩, ⟨trivial, ⟨trivial, trivial⟩⟩⟩, trivial⟩⟩⟩, trivial⟩⟩, ⟨⟨trivial, ⟨⟨⟨F.d_beside.has, h_beside, rfl⟩, ⟨trivial, ⟨⟨⟨F.d_beside.has, h_beside, rfl⟩, ⟨trivial, ⟨trivial, trivial⟩⟩⟩, trivial⟩⟩⟩, ⟨⟨⟨F.d_beside.has, h_beside, rfl⟩, ⟨⟨⟨F.d_beside.has, h_beside, rfl⟩, ⟨trivial, ⟨trivial, trivial⟩⟩⟩, ⟨trivial, trivial⟩⟩⟩, trivial⟩⟩⟩, ⟨⟨⟨F.d__law_put_beside.has, h__law_put_beside, rfl⟩, ⟨⟨⟨F.d__law_put_beside.has, h__law_put_beside, rfl⟩, ⟨trivial, ⟨trivial, trivial⟩⟩⟩, ⟨trivial, trivial⟩⟩⟩, ⟨⟨⟨⟨F.d__law_is.has, h__law_is, rfl⟩, ⟨trivial, ⟨⟨⟨⟨⟨F.d__law_put_behind.has, h__law_put_behind, rfl⟩, ⟨⟨⟨F.d__law_put_behind.has, h__law_put_behind, rfl⟩, ⟨trivial, ⟨trivial, trivial⟩⟩⟩, ⟨trivial, trivial⟩⟩⟩, trivial⟩, trivial⟩, trivial⟩⟩⟩, ⟨trivial, trivial⟩, trivial⟩, ⟨⟨⟨⟨F.d__law_is.has, h__law_is, rfl⟩, ⟨trivial, ⟨⟨⟨trivial, trivial⟩, trivial⟩, trivial⟩⟩⟩, ⟨trivial, trivial⟩, trivial⟩, ⟨⟨⟨F.d__law_is.has, h__law_is, rfl⟩, ⟨⟨⟨F.d_meeting.has, h_meeting, rfl⟩, ⟨trivial, ⟨⟨⟨F.d_beside.has, h_beside, rfl⟩, ⟨trivial, ⟨trivial, trivial⟩⟩⟩, trivial⟩⟩⟩, ⟨⟨⟨⟨F.d_meeting.has, h_meeting, rfl⟩, ⟨trivial, ⟨trivial, trivial⟩⟩⟩, ⟨⟨F.d_meeting.has, h_meeting, rfl⟩, ⟨trivial, ⟨trivial, trivial⟩⟩⟩⟩, trivial⟩⟩⟩, trivial⟩⟩⟩⟩⟩⟩⟩
theorem ok__law_said {G : Gx} (F : Facts G) {kk : Nat} {kq : Str} {kc : Value} {kg : Bool} {f : Addr} {φ : Hp → Prop} {θ : Thk} : okSs G ⟨kk, kq, kc, none, (some (("call" : Str), f, φ, θ)), kg⟩ (b__law_said G f φ θ) := ⟨trivial, ⟨⟨rfl, .inl F.c_FindError.has, cm_ok (all1 F.x_BadBow_FindError), fun a D => (eqSs_cons (eqS_set (eqE_ite (eqB_and (eqB_val eqE_ise) (eqB_val eqE_ise)) (fun _ _ _ => rfl) (fun _ _ _ => rfl))) (fun _ _ _ => rfl)), fun a D => ⟨⟨⟨⟨rfl, F.z_isinstance, ⟨_, glv_ref F.c_BadBow.has, ref_cv⟩, kt_ok (all1 ⟨F.e_BadBow.exc, F.k_BadBow_BadBow⟩)⟩, ⟨rfl, F.z_isinstance, ⟨_, F.y_ValueError, ty_cv⟩, kt_ok (all1 ⟨F.e_BadBow.exc, F.k_BadBow_ValueError⟩)⟩⟩, trivial, trivial⟩, trivial⟩⟩, ⟨trivial, trivial⟩⟩⟩
theorem ok__law_are_errors_right {G : Gx} (F : Facts G) {j : Nat} (h2 : 2 ≤ j) (hcl : cavK ≤ j - 2) {s__law_some : TSp} (h__law_some : HeldG G j (adr G "_law_some") s__law_some) {f__law_said : TLam} (h__law_said : HeldL G j "_law_said" (adr G "_law_said") f__law_said) : okSs G (ctiG G j "_law_are_errors_right" (adr G "_law_are_errors_right")) (b__law_are_errors_right G s__law_some f__law_said) := ⟨⟨trivial, rfl⟩, ⟨⟨trivial, ⟨trivial, ⟨⟨trivial, ⟨⟨⟨F.z_list, rfl⟩, ⟨trivial, trivial⟩⟩, trivial⟩⟩, ⟨⟨trivial, ⟨trivial, trivial⟩⟩, ⟨⟨trivial, ⟨trivial, trivial⟩⟩, ⟨⟨trivial, ⟨⟨⟨trivial, ⟨trivial, trivial⟩⟩, trivial⟩, trivial⟩⟩, ⟨⟨trivial, ⟨⟨trivial, trivial⟩, trivial⟩⟩, trivial⟩⟩⟩⟩⟩⟩⟩, ⟨⟨⟨F.d__law_some.has, h__law_some, rfl⟩, ⟨trivial, ⟨⟨trivial, ⟨trivial, ⟨trivial, ⟨⟨trivial, ⟨trivial, trivial⟩⟩, ⟨⟨trivial, trivial⟩, ⟨⟨trivial, ⟨trivial, trivial⟩⟩, ⟨⟨trivial, ⟨⟨⟨trivial, ⟨trivial, trivial⟩⟩, ⟨⟨trivial, ⟨trivial, trivial⟩⟩, trivial⟩⟩, trivial⟩⟩, ⟨trivial, trivial⟩⟩⟩⟩⟩⟩⟩⟩, trivial⟩⟩⟩, ⟨trivial, ⟨⟨⟨F.r_in_row, ⟨F.r_beside, ⟨F.r_meeting, trivial⟩⟩⟩, ⟨⟨trivial, ⟨⟨⟨F.d__law_said.has, h__law_said, rfl⟩, ⟨rfl, h2, F.t__law_are_errors_right.ok⟩, ⟨⟨hcl, rfl⟩, ⟨trivial, ⟨trivial, trivial⟩⟩⟩⟩, ⟨⟨⟨F.d__law_said.has, h__law_said, rfl⟩, ⟨rfl, h2, F.t__law_are_errors_right.ok⟩, ⟨⟨hcl, rfl⟩, ⟨trivial, ⟨trivial, trivial⟩⟩⟩⟩, trivial⟩⟩⟩, ⟨⟨trivial, ⟨⟨⟨F.d__law_said.has, h__law_said, rfl⟩, ⟨rfl, h2, F.t__law_are_errors_right.ok⟩, ⟨⟨hcl, rfl⟩, ⟨trivial, ⟨trivial, trivial⟩⟩⟩⟩, trivial⟩⟩, trivial⟩⟩, rfl⟩, ⟨⟨trivial, ⟨⟨trivial, trivial⟩, trivial⟩⟩, trivial⟩⟩⟩⟩⟩⟩
theorem ok_law {G : Gx} (F : Facts G) {kk : Nat} {kq : Str} {kc : Value} {kt : Option (Str × Addr × (Hp → Prop) × Thk)} {kg : Bool} {s__law_are_errors_right : TSp} {s__law_is_three_right : TSp} {s__law_is_two_right : TSp} {s__law_drawn : TSp} {s__law_is : TSp} {s_meeting : TSp} {s_beside : TSp} {s_in_row : TSp} {s__law_hand : TSp} (h__law_are_errors_right : HeldX G kg kk (adr G "_law_are_errors_right") s__law_are_errors_right) (h__law_is_three_right : HeldX G kg kk (adr G "_law_is_three_right") s__law_is_three_right) (h__law_is_two_right : HeldX G kg kk (adr G "_law_is_two_right") s__law_is_two_right) (h__law_drawn : HeldX G kg kk (adr G "_law_drawn") s__law_drawn) (h__law_is : HeldX G kg kk (adr G "_law_is") s__law_is) (h_meeting : HeldX G kg kk (adr G "meeting") s_meeting) (h_beside : HeldX G kg kk (adr G "beside") s_beside) (h_in_row : HeldX G kg kk (adr G "in_row") s_in_row) (h__law_hand : HeldX G kg kk (adr G "_law_hand") s__law_hand) : okSs G ⟨kk, kq, kc, none, kt, kg⟩ (b_law G s__law_are_errors_right s__law_is_three_right s__law_is_two_right s__law_drawn s__law_is s_meeting s_beside s_in_row s__law_hand) := ⟨⟨⟨F.d__law_hand.has, h__law_hand, rfl⟩, ⟨trivial, trivial⟩⟩, ⟨⟨⟨⟨trivial, ⟨⟨⟨trivial, ⟨trivial, trivial⟩⟩, trivial⟩, trivial⟩⟩, ⟨⟨trivial, ⟨⟨⟨trivial, ⟨trivial, trivial⟩⟩, trivial⟩, trivial⟩⟩, trivial⟩⟩, rfl⟩, ⟨⟨⟨⟨F.d_in_row.has, h_in_row, rfl⟩, ⟨trivial, ⟨trivial, trivial⟩⟩⟩, ⟨⟨⟨F.d_beside.has, h_beside, rfl⟩, ⟨trivial, ⟨trivial, trivial⟩⟩⟩, ⟨⟨⟨F.d_meeting.has, h_meeting, rfl⟩, ⟨trivial, ⟨trivial, trivial⟩⟩⟩, trivial⟩⟩⟩, ⟨⟨⟨⟨F.d__law_is.has, h__law_is, rfl⟩, ⟨trivial, ⟨⟨⟨trivial, ⟨⟨⟨trivial, ⟨trivial, trivial⟩⟩, trivial⟩, trivial⟩⟩, ⟨⟨trivial, ⟨⟨⟨trivial, ⟨trivial, trivial⟩⟩, ⟨⟨trivial, ⟨trivial, trivial⟩⟩, trivial⟩⟩, trivial⟩⟩, ⟨trivial, trivial⟩⟩⟩, trivial⟩⟩⟩, ⟨trivial, trivial⟩, trivial⟩, ⟨⟨⟨F.z_range, trivial⟩, ⟨⟨⟨F.z_range, trivial⟩, trivial, ⟨⟨F.d__law_drawn.has, h__law_drawn, rfl⟩, ⟨trivial, trivial⟩⟩, rfl⟩, ⟨⟨⟨⟨⟨F.d__law_is_two_right.has, h__law_is_two_right, rfl⟩, ⟨⟨trivial, trivial⟩, ⟨⟨trivial, trivial⟩, trivial⟩⟩⟩, ⟨⟨F.d__law_is_three_right.has, h__law_is_three_right, rfl⟩, ⟨⟨trivial, trivial⟩, ⟨⟨trivial, trivial⟩, ⟨⟨trivial, trivial⟩, trivial⟩⟩⟩⟩⟩, ⟨trivial, trivial⟩, trivial⟩, ⟨⟨⟨⟨F.d__law_are_errors_right.has, h__law_are_errors_right, rfl⟩, ⟨trivial, ⟨⟨trivial, trivial⟩, trivial⟩⟩⟩, ⟨trivial, trivial⟩, trivial⟩, trivial⟩⟩⟩, rfl⟩, ⟨trivial, trivial⟩⟩⟩⟩⟩⟩
end TL

namespace TL
open PySem PySem.Spec PyProof.Rows L2
open TL.Bw (Bow bt hull allOk sm1 sm2 push Fall FallR Fit)
/-! X11A: ints, steps, bows, judged. -/
def spT (a : Bw.Sp) : TV := .tup [.int a.1, .int a.2]
def stT (s : List Bw.Sp) : TV := .tup (s.map spT)
def bwT (x : Bow) : TV := .tup [.int x.c, stT x.s]
/-- so large a sum may be -/
def KB : Int := 2 ^ 40000
theorem KB_log {v : Int} (h0 : 0 ≤ v) (h : v ≤ KB) : v.natAbs.log2 ≤ 40000 := log_le (k := 40000) h0 h
theorem KB_pow {n : Nat} (h : n ≤ 40000) : (2 : Int) ^ n ≤ KB := by
  have a : (2 : Nat) ^ n ≤ 2 ^ 40000 := Nat.pow_le_pow_right (by decide) h
  have b : ((2 ^ n : Nat) : Int) ≤ ((2 ^ 40000 : Nat) : Int) := Int.ofNat_le.mpr a
  rw [Int.natCast_pow, Int.natCast_pow] at b
  exact b
/-- a step that isn't too great -/
def okK (a : Bw.Sp) : Prop := Bw.ok a ∧ a.1 ≤ KB ∧ a.2 ≤ KB
theorem okK_of {s : List Bw.Sp} (h : allOk s) (h1 : sm1 s ≤ KB) (h2 : sm2 s ≤ KB) : ∀ a ∈ s, okK a := fun a ha => ⟨h a ha, Int.le_trans (Bw.step_le h a ha).1 h1, Int.le_trans (Bw.step_le h a ha).2 h2⟩
theorem mulK {a b : Int} (a0 : 0 ≤ a) (a1 : a ≤ KB) (b0 : 0 ≤ b) (b1 : b ≤ KB) : a.natAbs.log2 + b.natAbs.log2 < 1000000 := by
  have := KB_log a0 a1
  have := KB_log b0 b1
  omega
theorem atI_m1 {α : Type} {l : List α} {x : α} : atI (l ++ [x]) (-1) = some x := by
  unfold atI ixN
  rw [List.length_append, List.length_singleton, if_neg (by decide), if_pos (by omega)]
  have e : ((-1 : Int) + ((l.length + 1 : Nat) : Int)).toNat = l.length := by omega
  rw [e]
  show (l ++ [x])[l.length]? = some x
  simp
theorem atI_m1b {α : Type} {l : List α} {x y : α} : atI (l ++ [x, y]) (-1) = some y := by
  have := atI_m1 (l := l ++ [x]) (x := y)
  rwa [List.append_assoc] at this
theorem atI_m2 {α : Type} {l : List α} {x y : α} : atI (l ++ [x, y]) (-2) = some x := by
  unfold atI ixN
  rw [List.length_append, if_neg (by decide), if_pos (by simp; omega)]
  have e : ((-2 : Int) + ((l.length + [x, y].length : Nat) : Int)).toNat = l.length := by simp; omega
  rw [e]
  show (l ++ [x, y])[l.length]? = some x
  simp
theorem cut_m2 {l : List TV} {x y : TV} : cutT (l ++ [x, y]) none (some (-2)) = l := by
  have e : HT.sIx (l ++ [x, y]).length (l ++ [x, y]).length (some (-2)) = l.length := by
    show (if (-2 : Int) < 0 then ((-2 : Int) + (((l ++ [x, y]).length : Nat) : Int)).toNat else min (-2 : Int).toNat (l ++ [x, y]).length) = _
    rw [if_pos (by decide)]
    simp
    omega
  unfold cutT
  rw [e, HT.sIx_none]
  simp
theorem whL_at {c : WT} {b : WS} {D : TEnds} (I : Nat → TSt → TM → Prop) (h : ∀ n σ M, I n σ M → ∀ K : TSt → TM → Prop, (∀ m σ' M', m < n → I m σ' M' → K σ' M') → c σ M (fun k M1 => if k = true then b { D with nx := K, ct := K, bk := D.nx } σ M1 else D.nx σ M1) (fun x M1 => D.ex x σ M1)) :
    ∀ N n σ M, n < N → I n σ M → whL c b N D σ M
  | 0, n, _, _, hn, _ => absurd hn (Nat.not_lt_zero _)
  | N + 1, n, σ, M, hn, hI => h n σ M hI (whL c b N D) fun m σ' M' hm hI' => whL_at I h N m σ' M' (by omega) hI'
theorem Subm.over {A B : TM} {a : Addr} {o : MO} (h : Subm A B) (n : A a = none) : Subm A (updM B a o) := fun b u e => by
  have : b ≠ a := fun e2 => by subst e2; rw [n] at e; cases e
  rw [updM_ne this]
  exact h b u e
theorem allB_true : ∀ l : List TV, allB (l.map fun _ => TV.bl true) = some (l.map fun _ => true)
  | [] => rfl
  | _ :: r => by simp only [List.map_cons, allB, allB_true r]

def tailS : Sms → Sms
  | .cons _ r => r
  | .nil => .nil
theorem nF {G : Gx} {k : Nat} : ∀ f sp, noF f sp → HeldT G k f sp := fun _ _ h => h.elim
def isI : TV → Bool
  | .int _ => true
  | _ => false
/-- what isinstance knows -/
def knM (M : TM) (x : TV) : Prop := (tyN M x).isSome = true
theorem tyN_mem {M : TM} {x : TV} {n : String} (h : tyN M x = some n) : (n = "int" ∧ isI x = true) ∨ (n ∈ ["NoneType", "bool", "str", "tuple", "list", "dict"] ∧ isI x = false) := by
  cases x with
  | ref a =>
    simp only [tyN] at h
    split at h <;> first | (cases h; done) | (cases h; exact .inr ⟨by simp, rfl⟩)
  | _ => first | (cases h; done) | (cases h; first | exact .inl ⟨rfl, rfl⟩ | exact .inr ⟨by simp, rfl⟩)
theorem isi_ty {M : TM} {x : TV} {n : String} (h : tyN M x = some n) (t : String) : isiG M x (.ty t) = kitB n t := by
  show isiF M x (.ty t) = _
  unfold isiF
  rw [h]
  rfl
theorem kn_int {M : TM} (i : Int) : knM M (.int i) := rfl
theorem kn_str {M : TM} (i : Str) : knM M (.str i) := rfl
theorem kn_tup {M : TM} (i : List TV) : knM M (.tup i) := rfl
def s_is_int : TSp := fun xs M Q _ => ∃ x, xs = [x] ∧ knM M x ∧ Q (.bl (isI x)) M
theorem v_is_int {G : Gx} : ∀ xs M Q R, s_is_int xs M Q R → wSs noF (b_is_int G) (endsT Q R) (startT n_is_int xs) M := by
  rintro xs M Q R ⟨x, rfl, h, q⟩
  unfold b_is_int
  obtain ⟨n, hn⟩ := Option.isSome_iff_exists.mp h
  rcases tyN_mem hn with ⟨rfl, e⟩ | ⟨hm, e⟩
  · rw [e] at q
    simp only [wSs, wS, wE, wEs, wO, wB, wBo, wI, wTg, gs, startT, List.map_cons, List.map_nil, List.length_cons, List.length_nil, List.cons_append, List.nil_append, List.replicate, Nat.reduceAdd, Nat.reduceSub, Nat.zero_add, exEq, wCop, wIx, wTru, bif_len, bif_abs, bif_int, bif_isi, bif_tuple, bif_list, bif_sum, bif_all, bif_any, bif_min2, bif_max2, bif_minl, bif_maxl, bop_add_i, bop_add_t, bop_add_l, bop_sub, bop_mul_i, bop_fdiv, bop_mod, bop_pow, aug_add, aug_sub, aug_mul, setAll, tailS, wipeT, List.set, tru_bl, tru_non, tru_int, tru_tup, if_true, if_false, Bool.false_eq_true, Bool.not_true, Bool.not_false, seqM_tup, ix_tup, len_tup, atI_0, atI_1, atI_2, atI_3, atI_4, Option.some.injEq, exists_eq_left', eq_int, cmp_lt, cmp_le, cmp_gt, cmp_ge, cmp_eq, cmp_ne, cmp_is, cmp_isn, cmp_in, cmp_nin, Option.map, is_nn, is_in, is_tn, tyn_int, tyn_str, tyn_tup, Int.cast_ofNat_Int, Int.reduceLT, Int.reduceLE, Int.reduceAdd, Int.reduceMul, Int.reduceSub, BEq.rfl, decide_true, decide_false, Int.reduceBEq, isi_ty hn, kit_int_int, kit_int_bool]
    exact rtF (.refl _) q
  · rw [e] at q
    simp only [List.mem_cons, List.not_mem_nil, or_false] at hm
    rcases hm with rfl | rfl | rfl | rfl | rfl | rfl
    · simp only [wSs, wS, wE, wEs, wO, wB, wBo, wI, wTg, gs, startT, List.map_cons, List.map_nil, List.length_cons, List.length_nil, List.cons_append, List.nil_append, List.replicate, Nat.reduceAdd, Nat.reduceSub, Nat.zero_add, exEq, wCop, wIx, wTru, bif_len, bif_abs, bif_int, bif_isi, bif_tuple, bif_list, bif_sum, bif_all, bif_any, bif_min2, bif_max2, bif_minl, bif_maxl, bop_add_i, bop_add_t, bop_add_l, bop_sub, bop_mul_i, bop_fdiv, bop_mod, bop_pow, aug_add, aug_sub, aug_mul, setAll, tailS, wipeT, List.set, tru_bl, tru_non, tru_int, tru_tup, if_true, if_false, Bool.false_eq_true, Bool.not_true, Bool.not_false, seqM_tup, ix_tup, len_tup, atI_0, atI_1, atI_2, atI_3, atI_4, Option.some.injEq, exists_eq_left', eq_int, cmp_lt, cmp_le, cmp_gt, cmp_ge, cmp_eq, cmp_ne, cmp_is, cmp_isn, cmp_in, cmp_nin, Option.map, is_nn, is_in, is_tn, tyn_int, tyn_str, tyn_tup, Int.cast_ofNat_Int, Int.reduceLT, Int.reduceLE, Int.reduceAdd, Int.reduceMul, Int.reduceSub, BEq.rfl, decide_true, decide_false, Int.reduceBEq, isi_ty hn, kit_NoneType_int, kit_NoneType_bool]
      exact rtF (.refl _) q
    · simp only [wSs, wS, wE, wEs, wO, wB, wBo, wI, wTg, gs, startT, List.map_cons, List.map_nil, List.length_cons, List.length_nil, List.cons_append, List.nil_append, List.replicate, Nat.reduceAdd, Nat.reduceSub, Nat.zero_add, exEq, wCop, wIx, wTru, bif_len, bif_abs, bif_int, bif_isi, bif_tuple, bif_list, bif_sum, bif_all, bif_any, bif_min2, bif_max2, bif_minl, bif_maxl, bop_add_i, bop_add_t, bop_add_l, bop_sub, bop_mul_i, bop_fdiv, bop_mod, bop_pow, aug_add, aug_sub, aug_mul, setAll, tailS, wipeT, List.set, tru_bl, tru_non, tru_int, tru_tup, if_true, if_false, Bool.false_eq_true, Bool.not_true, Bool.not_false, seqM_tup, ix_tup, len_tup, atI_0, atI_1, atI_2, atI_3, atI_4, Option.some.injEq, exists_eq_left', eq_int, cmp_lt, cmp_le, cmp_gt, cmp_ge, cmp_eq, cmp_ne, cmp_is, cmp_isn, cmp_in, cmp_nin, Option.map, is_nn, is_in, is_tn, tyn_int, tyn_str, tyn_tup, Int.cast_ofNat_Int, Int.reduceLT, Int.reduceLE, Int.reduceAdd, Int.reduceMul, Int.reduceSub, BEq.rfl, decide_true, decide_false, Int.reduceBEq, isi_ty hn, kit_bool_int, kit_bool_bool]
      exact rtF (.refl _) q
    · simp only [wSs, wS, wE, wEs, wO, wB, wBo, wI, wTg, gs, startT, List.map_cons, List.map_nil, List.length_cons, List.length_nil, List.cons_append, List.nil_append, List.replicate, Nat.reduceAdd, Nat.reduceSub, Nat.zero_add, exEq, wCop, wIx, wTru, bif_len, bif_abs, bif_int, bif_isi, bif_tuple, bif_list, bif_sum, bif_all, bif_any, bif_min2, bif_max2, bif_minl, bif_maxl, bop_add_i, bop_add_t, bop_add_l, bop_sub, bop_mul_i, bop_fdiv, bop_mod, bop_pow, aug_add, aug_sub, aug_mul, setAll, tailS, wipeT, List.set, tru_bl, tru_non, tru_int, tru_tup, if_true, if_false, Bool.false_eq_true, Bool.not_true, Bool.not_false, seqM_tup, ix_tup, len_tup, atI_0, atI_1, atI_2, atI_3, atI_4, Option.some.injEq, exists_eq_left', eq_int, cmp_lt, cmp_le, cmp_gt, cmp_ge, cmp_eq, cmp_ne, cmp_is, cmp_isn, cmp_in, cmp_nin, Option.map, is_nn, is_in, is_tn, tyn_int, tyn_str, tyn_tup, Int.cast_ofNat_Int, Int.reduceLT, Int.reduceLE, Int.reduceAdd, Int.reduceMul, Int.reduceSub, BEq.rfl, decide_true, decide_false, Int.reduceBEq, isi_ty hn, kit_str_int, kit_str_bool]
      exact rtF (.refl _) q
    · simp only [wSs, wS, wE, wEs, wO, wB, wBo, wI, wTg, gs, startT, List.map_cons, List.map_nil, List.length_cons, List.length_nil, List.cons_append, List.nil_append, List.replicate, Nat.reduceAdd, Nat.reduceSub, Nat.zero_add, exEq, wCop, wIx, wTru, bif_len, bif_abs, bif_int, bif_isi, bif_tuple, bif_list, bif_sum, bif_all, bif_any, bif_min2, bif_max2, bif_minl, bif_maxl, bop_add_i, bop_add_t, bop_add_l, bop_sub, bop_mul_i, bop_fdiv, bop_mod, bop_pow, aug_add, aug_sub, aug_mul, setAll, tailS, wipeT, List.set, tru_bl, tru_non, tru_int, tru_tup, if_true, if_false, Bool.false_eq_true, Bool.not_true, Bool.not_false, seqM_tup, ix_tup, len_tup, atI_0, atI_1, atI_2, atI_3, atI_4, Option.some.injEq, exists_eq_left', eq_int, cmp_lt, cmp_le, cmp_gt, cmp_ge, cmp_eq, cmp_ne, cmp_is, cmp_isn, cmp_in, cmp_nin, Option.map, is_nn, is_in, is_tn, tyn_int, tyn_str, tyn_tup, Int.cast_ofNat_Int, Int.reduceLT, Int.reduceLE, Int.reduceAdd, Int.reduceMul, Int.reduceSub, BEq.rfl, decide_true, decide_false, Int.reduceBEq, isi_ty hn, kit_tuple_int, kit_tuple_bool]
      exact rtF (.refl _) q
    · simp only [wSs, wS, wE, wEs, wO, wB, wBo, wI, wTg, gs, startT, List.map_cons, List.map_nil, List.length_cons, List.length_nil, List.cons_append, List.nil_append, List.replicate, Nat.reduceAdd, Nat.reduceSub, Nat.zero_add, exEq, wCop, wIx, wTru, bif_len, bif_abs, bif_int, bif_isi, bif_tuple, bif_list, bif_sum, bif_all, bif_any, bif_min2, bif_max2, bif_minl, bif_maxl, bop_add_i, bop_add_t, bop_add_l, bop_sub, bop_mul_i, bop_fdiv, bop_mod, bop_pow, aug_add, aug_sub, aug_mul, setAll, tailS, wipeT, List.set, tru_bl, tru_non, tru_int, tru_tup, if_true, if_false, Bool.false_eq_true, Bool.not_true, Bool.not_false, seqM_tup, ix_tup, len_tup, atI_0, atI_1, atI_2, atI_3, atI_4, Option.some.injEq, exists_eq_left', eq_int, cmp_lt, cmp_le, cmp_gt, cmp_ge, cmp_eq, cmp_ne, cmp_is, cmp_isn, cmp_in, cmp_nin, Option.map, is_nn, is_in, is_tn, tyn_int, tyn_str, tyn_tup, Int.cast_ofNat_Int, Int.reduceLT, Int.reduceLE, Int.reduceAdd, Int.reduceMul, Int.reduceSub, BEq.rfl, decide_true, decide_false, Int.reduceBEq, isi_ty hn, kit_list_int, kit_list_bool]
      exact rtF (.refl _) q
    · simp only [wSs, wS, wE, wEs, wO, wB, wBo, wI, wTg, gs, startT, List.map_cons, List.map_nil, List.length_cons, List.length_nil, List.cons_append, List.nil_append, List.replicate, Nat.reduceAdd, Nat.reduceSub, Nat.zero_add, exEq, wCop, wIx, wTru, bif_len, bif_abs, bif_int, bif_isi, bif_tuple, bif_list, bif_sum, bif_all, bif_any, bif_min2, bif_max2, bif_minl, bif_maxl, bop_add_i, bop_add_t, bop_add_l, bop_sub, bop_mul_i, bop_fdiv, bop_mod, bop_pow, aug_add, aug_sub, aug_mul, setAll, tailS, wipeT, List.set, tru_bl, tru_non, tru_int, tru_tup, if_true, if_false, Bool.false_eq_true, Bool.not_true, Bool.not_false, seqM_tup, ix_tup, len_tup, atI_0, atI_1, atI_2, atI_3, atI_4, Option.some.injEq, exists_eq_left', eq_int, cmp_lt, cmp_le, cmp_gt, cmp_ge, cmp_eq, cmp_ne, cmp_is, cmp_isn, cmp_in, cmp_nin, Option.map, is_nn, is_in, is_tn, tyn_int, tyn_str, tyn_tup, Int.cast_ofNat_Int, Int.reduceLT, Int.reduceLE, Int.reduceAdd, Int.reduceMul, Int.reduceSub, BEq.rfl, decide_true, decide_false, Int.reduceBEq, isi_ty hn, kit_dict_int, kit_dict_bool]
      exact rtF (.refl _) q
theorem h_is_int {G : Gx} (F : Facts G) : HeldT G 1 (adr G "is_int") s_is_int :=
  F.d_is_int.held (k := 0) sc_is_int ck_is_int (ok_is_int F) nF (fun xs M Q R ⟨x, e, _⟩ => by rw [e]; rfl) v_is_int
theorem updM_self {M : TM} {b : Addr} {o : MO} (h : M b = some o) : updM M b o = M := by
  funext a
  by_cases e : a = b
  · subst e; rw [updM_same, h]
  · rw [updM_ne e]
theorem lcL_at {chk : TM → Prop} {step : List TV → TV → TM → (List TV → TM → Prop) → Prop} {fin : List TV → TM → Prop} (I : List TV → List TV → TM → Prop) : ∀ {items acc : List TV} {M : TM}, I items acc M → (∀ r acc M, I r acc M → chk M) →
    (∀ x r acc M k, I (x :: r) acc M → (∀ acc' M', I r acc' M' → k acc' M') → step acc x M k) → (∀ acc M, I [] acc M → fin acc M) → lcL chk step fin items acc M
  | [], acc, M, h, hc, hs, hf => ⟨hc _ _ _ h, hf _ _ h⟩
  | x :: r, acc, M, h, hc, hs, hf => ⟨hc _ _ _ h, hs x r acc M _ h fun acc' M' h' => lcL_at I (items := r) h' hc hs hf⟩
theorem mul_pos_ge {n c : Int} (h : 1 ≤ n) (g : 1 ≤ c) : 1 ≤ n * c ∧ n ≤ n * c ∧ c ≤ n * c := by
  have h1 := Int.mul_le_mul_of_nonneg_left g (show 0 ≤ n by omega)
  have h2 := Int.mul_le_mul_of_nonneg_right h (show 0 ≤ c by omega)
  omega
theorem knM.sub {M M' : TM} {x : TV} (k : knM M x) (s : Subm M M') : knM M' x := by
  cases x with
  | ref a =>
    unfold knM at k ⊢
    simp only [tyN] at k ⊢
    cases q : M a with
    | none => rw [q] at k; cases k
    | some o => rw [s a o q]; rw [q] at k; exact k
  | _ => exact k
/-! amounts -/
def amtT : TV → Bool
  | .int i => decide (0 ≤ i)
  | _ => false
def s_is_amount : TSp := fun xs M Q _ => ∃ x, xs = [x] ∧ knM M x ∧ Q (.bl (amtT x)) M
theorem v_is_amount {G : Gx} : ∀ xs M Q R, s_is_amount xs M Q R → wSs noF (b_is_amount G s_is_int) (endsT Q R) (startT n_is_amount xs) M := by
  rintro xs M Q R ⟨x, rfl, h, q⟩
  unfold b_is_amount
  simp only [wSs, wS, wE, wEs, wO, wB, wBo, wI, wTg, gs, startT, List.map_cons, List.map_nil, List.length_cons, List.length_nil, List.cons_append, List.nil_append, List.replicate, Nat.reduceAdd, Nat.reduceSub, Nat.zero_add, exEq, wCop, wIx, wTru, bif_len, bif_abs, bif_int, bif_isi, bif_tuple, bif_list, bif_sum, bif_all, bif_any, bif_min2, bif_max2, bif_minl, bif_maxl, bop_add_i, bop_add_t, bop_add_l, bop_sub, bop_mul_i, bop_fdiv, bop_mod, bop_pow, aug_add, aug_sub, aug_mul, setAll, tailS, wipeT, List.set, tru_bl, tru_non, tru_int, tru_tup, if_true, if_false, Bool.false_eq_true, Bool.not_true, Bool.not_false, seqM_tup, ix_tup, len_tup, atI_0, atI_1, atI_2, atI_3, atI_4, Option.some.injEq, exists_eq_left', eq_int, cmp_lt, cmp_le, cmp_gt, cmp_ge, cmp_eq, cmp_ne, cmp_is, cmp_isn, cmp_in, cmp_nin, Option.map, is_nn, is_in, is_tn, tyn_int, tyn_str, tyn_tup, Int.cast_ofNat_Int, Int.reduceLT, Int.reduceLE, Int.reduceAdd, Int.reduceMul, Int.reduceSub, BEq.rfl, decide_true, decide_false, Int.reduceBEq]
  refine ⟨_, rfl, h, ?_⟩
  cases x with
  | int i =>
    simp only [wSs, wS, wE, wEs, wO, wB, wBo, wI, wTg, gs, startT, List.map_cons, List.map_nil, List.length_cons, List.length_nil, List.cons_append, List.nil_append, List.replicate, Nat.reduceAdd, Nat.reduceSub, Nat.zero_add, exEq, wCop, wIx, wTru, bif_len, bif_abs, bif_int, bif_isi, bif_tuple, bif_list, bif_sum, bif_all, bif_any, bif_min2, bif_max2, bif_minl, bif_maxl, bop_add_i, bop_add_t, bop_add_l, bop_sub, bop_mul_i, bop_fdiv, bop_mod, bop_pow, aug_add, aug_sub, aug_mul, setAll, tailS, wipeT, List.set, tru_bl, tru_non, tru_int, tru_tup, if_true, if_false, Bool.false_eq_true, Bool.not_true, Bool.not_false, seqM_tup, ix_tup, len_tup, atI_0, atI_1, atI_2, atI_3, atI_4, Option.some.injEq, exists_eq_left', eq_int, cmp_lt, cmp_le, cmp_gt, cmp_ge, cmp_eq, cmp_ne, cmp_is, cmp_isn, cmp_in, cmp_nin, Option.map, is_nn, is_in, is_tn, tyn_int, tyn_str, tyn_tup, Int.cast_ofNat_Int, Int.reduceLT, Int.reduceLE, Int.reduceAdd, Int.reduceMul, Int.reduceSub, BEq.rfl, decide_true, decide_false, Int.reduceBEq, isI]
    exact rtF (.refl _) q
  | _ =>
    simp only [wSs, wS, wE, wEs, wO, wB, wBo, wI, wTg, gs, startT, List.map_cons, List.map_nil, List.length_cons, List.length_nil, List.cons_append, List.nil_append, List.replicate, Nat.reduceAdd, Nat.reduceSub, Nat.zero_add, exEq, wCop, wIx, wTru, bif_len, bif_abs, bif_int, bif_isi, bif_tuple, bif_list, bif_sum, bif_all, bif_any, bif_min2, bif_max2, bif_minl, bif_maxl, bop_add_i, bop_add_t, bop_add_l, bop_sub, bop_mul_i, bop_fdiv, bop_mod, bop_pow, aug_add, aug_sub, aug_mul, setAll, tailS, wipeT, List.set, tru_bl, tru_non, tru_int, tru_tup, if_true, if_false, Bool.false_eq_true, Bool.not_true, Bool.not_false, seqM_tup, ix_tup, len_tup, atI_0, atI_1, atI_2, atI_3, atI_4, Option.some.injEq, exists_eq_left', eq_int, cmp_lt, cmp_le, cmp_gt, cmp_ge, cmp_eq, cmp_ne, cmp_is, cmp_isn, cmp_in, cmp_nin, Option.map, is_nn, is_in, is_tn, tyn_int, tyn_str, tyn_tup, Int.cast_ofNat_Int, Int.reduceLT, Int.reduceLE, Int.reduceAdd, Int.reduceMul, Int.reduceSub, BEq.rfl, decide_true, decide_false, Int.reduceBEq, isI]
    exact rtF (.refl _) q
theorem h_is_amount {G : Gx} (F : Facts G) : HeldT G 2 (adr G "is_amount") s_is_amount :=
  F.d_is_amount.held (k := 1) sc_is_amount ck_is_amount (ok_is_amount F (h_is_int F)) nF (fun xs M Q R ⟨x, e, _⟩ => by rw [e]; rfl) v_is_amount
/-! pairs, steps -/
def wfP (M : TM) (x : TV) : Prop := knM M x ∧ ∀ u v, x = .tup [u, v] → knM M u ∧ knM M v
theorem wfP.sub {M M' : TM} {x : TV} (k : wfP M x) (s : Subm M M') : wfP M' x := ⟨k.1.sub s, fun u v e => ⟨(k.2 u v e).1.sub s, (k.2 u v e).2.sub s⟩⟩
def pairT : TV → Bool
  | .tup [u, v] => isI u && isI v
  | _ => false
def stepT : TV → Bool
  | .tup [.int p, .int q] => decide (0 ≤ p) && decide (0 ≤ q) && !(p == 0 && q == 0)
  | _ => false
def s_is_pair : TSp := fun xs M Q _ => ∃ x, xs = [x] ∧ wfP M x ∧ Q (.bl (pairT x)) M
/-- what is no tuple is none to isinstance -/
theorem tyn_cases {M : TM} {x : TV} (h : knM M x) : (∃ L, x = .tup L) ∨ (∃ n, tyN M x = some n ∧ kitB n "tuple" = some false ∧ ∀ L, x ≠ .tup L) := by
  cases x with
  | tup L => exact .inl ⟨L, rfl⟩
  | non => exact .inr ⟨_, rfl, kit_NoneType_tuple, fun _ z => by cases z⟩
  | bl b => exact .inr ⟨_, rfl, kit_bool_tuple, fun _ z => by cases z⟩
  | int b => exact .inr ⟨_, rfl, kit_int_tuple, fun _ z => by cases z⟩
  | str b => exact .inr ⟨_, rfl, kit_str_tuple, fun _ z => by cases z⟩
  | ref a =>
    unfold knM at h
    cases q : tyN M (.ref a) with
    | none => rw [q] at h; cases h
    | some n =>
      have q' := q
      simp only [tyN] at q
      split at q <;> first | (cases q; done) | skip
      · cases q; exact .inr ⟨_, rfl, kit_list_tuple, fun _ z => by cases z⟩
      · cases q; exact .inr ⟨_, rfl, kit_list_tuple, fun _ z => by cases z⟩
      · cases q; exact .inr ⟨_, rfl, kit_dict_tuple, fun _ z => by cases z⟩
  | ty b => cases h
  | kl b => cases h
  | thk b c => cases h
theorem len_two {L : List TV} : (((L.length : Nat) : Int) == 2) = true → ∃ u v, L = [u, v] := fun h => by
  have : L.length = 2 := by simp at h; omega
  match L, this with
  | [u, v], _ => exact ⟨u, v, rfl⟩
theorem v_is_pair {G : Gx} : ∀ xs M Q R, s_is_pair xs M Q R → wSs noF (b_is_pair G s_is_int) (endsT Q R) (startT n_is_pair xs) M := by
  rintro xs M Q R ⟨x, rfl, ⟨k, kp⟩, q⟩
  unfold b_is_pair
  rcases tyn_cases k with ⟨L, rfl⟩ | ⟨n, hn, hk, hx⟩
  · simp only [wSs, wS, wE, wEs, wO, wB, wBo, wI, wTg, gs, startT, List.map_cons, List.map_nil, List.length_cons, List.length_nil, List.cons_append, List.nil_append, List.replicate, Nat.reduceAdd, Nat.reduceSub, Nat.zero_add, exEq, wCop, wIx, wTru, bif_len, bif_abs, bif_int, bif_isi, bif_tuple, bif_list, bif_sum, bif_all, bif_any, bif_min2, bif_max2, bif_minl, bif_maxl, bop_add_i, bop_add_t, bop_add_l, bop_sub, bop_mul_i, bop_fdiv, bop_mod, bop_pow, aug_add, aug_sub, aug_mul, setAll, tailS, wipeT, List.set, tru_bl, tru_non, tru_int, tru_tup, if_true, if_false, Bool.false_eq_true, Bool.not_true, Bool.not_false, seqM_tup, ix_tup, len_tup, atI_0, atI_1, atI_2, atI_3, atI_4, Option.some.injEq, exists_eq_left', eq_int, cmp_lt, cmp_le, cmp_gt, cmp_ge, cmp_eq, cmp_ne, cmp_is, cmp_isn, cmp_in, cmp_nin, Option.map, is_nn, is_in, is_tn, tyn_int, tyn_str, tyn_tup, Int.cast_ofNat_Int, Int.reduceLT, Int.reduceLE, Int.reduceAdd, Int.reduceMul, Int.reduceSub, BEq.rfl, decide_true, decide_false, Int.reduceBEq, isi_tup, kit_tuple_tuple]
    cases c : (((L.length : Nat) : Int) == 2) with
    | true =>
      obtain ⟨u, v, rfl⟩ := len_two c
      obtain ⟨ku, kv⟩ := kp u v rfl
      simp only [wSs, wS, wE, wEs, wO, wB, wBo, wI, wTg, gs, startT, List.map_cons, List.map_nil, List.length_cons, List.length_nil, List.cons_append, List.nil_append, List.replicate, Nat.reduceAdd, Nat.reduceSub, Nat.zero_add, exEq, wCop, wIx, wTru, bif_len, bif_abs, bif_int, bif_isi, bif_tuple, bif_list, bif_sum, bif_all, bif_any, bif_min2, bif_max2, bif_minl, bif_maxl, bop_add_i, bop_add_t, bop_add_l, bop_sub, bop_mul_i, bop_fdiv, bop_mod, bop_pow, aug_add, aug_sub, aug_mul, setAll, tailS, wipeT, List.set, tru_bl, tru_non, tru_int, tru_tup, if_true, if_false, Bool.false_eq_true, Bool.not_true, Bool.not_false, seqM_tup, ix_tup, len_tup, atI_0, atI_1, atI_2, atI_3, atI_4, Option.some.injEq, exists_eq_left', eq_int, cmp_lt, cmp_le, cmp_gt, cmp_ge, cmp_eq, cmp_ne, cmp_is, cmp_isn, cmp_in, cmp_nin, Option.map, is_nn, is_in, is_tn, tyn_int, tyn_str, tyn_tup, Int.cast_ofNat_Int, Int.reduceLT, Int.reduceLE, Int.reduceAdd, Int.reduceMul, Int.reduceSub, BEq.rfl, decide_true, decide_false, Int.reduceBEq]
      refine ⟨_, rfl, ku, ?_⟩
      cases hu : isI u with
      | true =>
        simp only [wSs, wS, wE, wEs, wO, wB, wBo, wI, wTg, gs, startT, List.map_cons, List.map_nil, List.length_cons, List.length_nil, List.cons_append, List.nil_append, List.replicate, Nat.reduceAdd, Nat.reduceSub, Nat.zero_add, exEq, wCop, wIx, wTru, bif_len, bif_abs, bif_int, bif_isi, bif_tuple, bif_list, bif_sum, bif_all, bif_any, bif_min2, bif_max2, bif_minl, bif_maxl, bop_add_i, bop_add_t, bop_add_l, bop_sub, bop_mul_i, bop_fdiv, bop_mod, bop_pow, aug_add, aug_sub, aug_mul, setAll, tailS, wipeT, List.set, tru_bl, tru_non, tru_int, tru_tup, if_true, if_false, Bool.false_eq_true, Bool.not_true, Bool.not_false, seqM_tup, ix_tup, len_tup, atI_0, atI_1, atI_2, atI_3, atI_4, Option.some.injEq, exists_eq_left', eq_int, cmp_lt, cmp_le, cmp_gt, cmp_ge, cmp_eq, cmp_ne, cmp_is, cmp_isn, cmp_in, cmp_nin, Option.map, is_nn, is_in, is_tn, tyn_int, tyn_str, tyn_tup, Int.cast_ofNat_Int, Int.reduceLT, Int.reduceLE, Int.reduceAdd, Int.reduceMul, Int.reduceSub, BEq.rfl, decide_true, decide_false, Int.reduceBEq]
        refine ⟨_, rfl, kv, rtF (.refl _) ?_⟩
        simpa only [pairT, hu, Bool.true_and] using q
      | false =>
        simp only [wSs, wS, wE, wEs, wO, wB, wBo, wI, wTg, gs, startT, List.map_cons, List.map_nil, List.length_cons, List.length_nil, List.cons_append, List.nil_append, List.replicate, Nat.reduceAdd, Nat.reduceSub, Nat.zero_add, exEq, wCop, wIx, wTru, bif_len, bif_abs, bif_int, bif_isi, bif_tuple, bif_list, bif_sum, bif_all, bif_any, bif_min2, bif_max2, bif_minl, bif_maxl, bop_add_i, bop_add_t, bop_add_l, bop_sub, bop_mul_i, bop_fdiv, bop_mod, bop_pow, aug_add, aug_sub, aug_mul, setAll, tailS, wipeT, List.set, tru_bl, tru_non, tru_int, tru_tup, if_true, if_false, Bool.false_eq_true, Bool.not_true, Bool.not_false, seqM_tup, ix_tup, len_tup, atI_0, atI_1, atI_2, atI_3, atI_4, Option.some.injEq, exists_eq_left', eq_int, cmp_lt, cmp_le, cmp_gt, cmp_ge, cmp_eq, cmp_ne, cmp_is, cmp_isn, cmp_in, cmp_nin, Option.map, is_nn, is_in, is_tn, tyn_int, tyn_str, tyn_tup, Int.cast_ofNat_Int, Int.reduceLT, Int.reduceLE, Int.reduceAdd, Int.reduceMul, Int.reduceSub, BEq.rfl, decide_true, decide_false, Int.reduceBEq]
        exact rtF (.refl _) (by simpa only [pairT, hu, Bool.false_and] using q)
    | false =>
      simp only [wSs, wS, wE, wEs, wO, wB, wBo, wI, wTg, gs, startT, List.map_cons, List.map_nil, List.length_cons, List.length_nil, List.cons_append, List.nil_append, List.replicate, Nat.reduceAdd, Nat.reduceSub, Nat.zero_add, exEq, wCop, wIx, wTru, bif_len, bif_abs, bif_int, bif_isi, bif_tuple, bif_list, bif_sum, bif_all, bif_any, bif_min2, bif_max2, bif_minl, bif_maxl, bop_add_i, bop_add_t, bop_add_l, bop_sub, bop_mul_i, bop_fdiv, bop_mod, bop_pow, aug_add, aug_sub, aug_mul, setAll, tailS, wipeT, List.set, tru_bl, tru_non, tru_int, tru_tup, if_true, if_false, Bool.false_eq_true, Bool.not_true, Bool.not_false, seqM_tup, ix_tup, len_tup, atI_0, atI_1, atI_2, atI_3, atI_4, Option.some.injEq, exists_eq_left', eq_int, cmp_lt, cmp_le, cmp_gt, cmp_ge, cmp_eq, cmp_ne, cmp_is, cmp_isn, cmp_in, cmp_nin, Option.map, is_nn, is_in, is_tn, tyn_int, tyn_str, tyn_tup, Int.cast_ofNat_Int, Int.reduceLT, Int.reduceLE, Int.reduceAdd, Int.reduceMul, Int.reduceSub, BEq.rfl, decide_true, decide_false, Int.reduceBEq]
      refine rtF (.refl _) ?_
      have : pairT (.tup L) = false := by
        unfold pairT
        split
        · rename_i u v e
          cases e
          simp at c
        · rfl
      rw [this] at q
      exact q
  · simp only [wSs, wS, wE, wEs, wO, wB, wBo, wI, wTg, gs, startT, List.map_cons, List.map_nil, List.length_cons, List.length_nil, List.cons_append, List.nil_append, List.replicate, Nat.reduceAdd, Nat.reduceSub, Nat.zero_add, exEq, wCop, wIx, wTru, bif_len, bif_abs, bif_int, bif_isi, bif_tuple, bif_list, bif_sum, bif_all, bif_any, bif_min2, bif_max2, bif_minl, bif_maxl, bop_add_i, bop_add_t, bop_add_l, bop_sub, bop_mul_i, bop_fdiv, bop_mod, bop_pow, aug_add, aug_sub, aug_mul, setAll, tailS, wipeT, List.set, tru_bl, tru_non, tru_int, tru_tup, if_true, if_false, Bool.false_eq_true, Bool.not_true, Bool.not_false, seqM_tup, ix_tup, len_tup, atI_0, atI_1, atI_2, atI_3, atI_4, Option.some.injEq, exists_eq_left', eq_int, cmp_lt, cmp_le, cmp_gt, cmp_ge, cmp_eq, cmp_ne, cmp_is, cmp_isn, cmp_in, cmp_nin, Option.map, is_nn, is_in, is_tn, tyn_int, tyn_str, tyn_tup, Int.cast_ofNat_Int, Int.reduceLT, Int.reduceLE, Int.reduceAdd, Int.reduceMul, Int.reduceSub, BEq.rfl, decide_true, decide_false, Int.reduceBEq, isi_ty hn, hk]
    have : pairT x = false := by
      unfold pairT
      split
      · exact absurd rfl (hx _)
      · rfl
    rw [this] at q
    exact rtF (.refl _) q
theorem h_is_pair {G : Gx} (F : Facts G) : HeldT G 2 (adr G "is_pair") s_is_pair :=
  F.d_is_pair.held (k := 1) sc_is_pair ck_is_pair (ok_is_pair F (h_is_int F)) nF (fun xs M Q R ⟨x, e, _⟩ => by rw [e]; rfl) v_is_pair
theorem pair_ints {x : TV} (h : pairT x = true) : ∃ p q, x = .tup [.int p, .int q] := by
  unfold pairT at h
  split at h
  · rename_i u v
    simp only [Bool.and_eq_true] at h
    cases u <;> first | (cases h.1; done) | skip
    cases v <;> first | (cases h.2; done) | skip
    exact ⟨_, _, rfl⟩
  · cases h
theorem step_pair {x : TV} (h : pairT x = false) : stepT x = false := by
  unfold stepT
  split
  · cases h
  · rfl
def s_is_step : TSp := fun xs M Q _ => ∃ x, xs = [x] ∧ wfP M x ∧ Q (.bl (stepT x)) M
theorem v_is_step {G : Gx} : ∀ xs M Q R, s_is_step xs M Q R → wSs noF (b_is_step G s_is_pair) (endsT Q R) (startT n_is_step xs) M := by
  rintro xs M Q R ⟨x, rfl, k, q⟩
  unfold b_is_step
  simp only [wSs, wS, wE, wEs, wO, wB, wBo, wI, wTg, gs, startT, List.map_cons, List.map_nil, List.length_cons, List.length_nil, List.cons_append, List.nil_append, List.replicate, Nat.reduceAdd, Nat.reduceSub, Nat.zero_add, exEq, wCop, wIx, wTru, bif_len, bif_abs, bif_int, bif_isi, bif_tuple, bif_list, bif_sum, bif_all, bif_any, bif_min2, bif_max2, bif_minl, bif_maxl, bop_add_i, bop_add_t, bop_add_l, bop_sub, bop_mul_i, bop_fdiv, bop_mod, bop_pow, aug_add, aug_sub, aug_mul, setAll, tailS, wipeT, List.set, tru_bl, tru_non, tru_int, tru_tup, if_true, if_false, Bool.false_eq_true, Bool.not_true, Bool.not_false, seqM_tup, ix_tup, len_tup, atI_0, atI_1, atI_2, atI_3, atI_4, Option.some.injEq, exists_eq_left', eq_int, cmp_lt, cmp_le, cmp_gt, cmp_ge, cmp_eq, cmp_ne, cmp_is, cmp_isn, cmp_in, cmp_nin, Option.map, is_nn, is_in, is_tn, tyn_int, tyn_str, tyn_tup, Int.cast_ofNat_Int, Int.reduceLT, Int.reduceLE, Int.reduceAdd, Int.reduceMul, Int.reduceSub, BEq.rfl, decide_true, decide_false, Int.reduceBEq]
  refine ⟨_, rfl, k, ?_⟩
  cases hp : pairT x with
  | false =>
    simp only [wSs, wS, wE, wEs, wO, wB, wBo, wI, wTg, gs, startT, List.map_cons, List.map_nil, List.length_cons, List.length_nil, List.cons_append, List.nil_append, List.replicate, Nat.reduceAdd, Nat.reduceSub, Nat.zero_add, exEq, wCop, wIx, wTru, bif_len, bif_abs, bif_int, bif_isi, bif_tuple, bif_list, bif_sum, bif_all, bif_any, bif_min2, bif_max2, bif_minl, bif_maxl, bop_add_i, bop_add_t, bop_add_l, bop_sub, bop_mul_i, bop_fdiv, bop_mod, bop_pow, aug_add, aug_sub, aug_mul, setAll, tailS, wipeT, List.set, tru_bl, tru_non, tru_int, tru_tup, if_true, if_false, Bool.false_eq_true, Bool.not_true, Bool.not_false, seqM_tup, ix_tup, len_tup, atI_0, atI_1, atI_2, atI_3, atI_4, Option.some.injEq, exists_eq_left', eq_int, cmp_lt, cmp_le, cmp_gt, cmp_ge, cmp_eq, cmp_ne, cmp_is, cmp_isn, cmp_in, cmp_nin, Option.map, is_nn, is_in, is_tn, tyn_int, tyn_str, tyn_tup, Int.cast_ofNat_Int, Int.reduceLT, Int.reduceLE, Int.reduceAdd, Int.reduceMul, Int.reduceSub, BEq.rfl, decide_true, decide_false, Int.reduceBEq]
    rw [step_pair hp] at q
    exact rtF (.refl _) q
  | true =>
    obtain ⟨a, b, rfl⟩ := pair_ints hp
    simp only [wSs, wS, wE, wEs, wO, wB, wBo, wI, wTg, gs, startT, List.map_cons, List.map_nil, List.length_cons, List.length_nil, List.cons_append, List.nil_append, List.replicate, Nat.reduceAdd, Nat.reduceSub, Nat.zero_add, exEq, wCop, wIx, wTru, bif_len, bif_abs, bif_int, bif_isi, bif_tuple, bif_list, bif_sum, bif_all, bif_any, bif_min2, bif_max2, bif_minl, bif_maxl, bop_add_i, bop_add_t, bop_add_l, bop_sub, bop_mul_i, bop_fdiv, bop_mod, bop_pow, aug_add, aug_sub, aug_mul, setAll, tailS, wipeT, List.set, tru_bl, tru_non, tru_int, tru_tup, if_true, if_false, Bool.false_eq_true, Bool.not_true, Bool.not_false, seqM_tup, ix_tup, len_tup, atI_0, atI_1, atI_2, atI_3, atI_4, Option.some.injEq, exists_eq_left', eq_int, cmp_lt, cmp_le, cmp_gt, cmp_ge, cmp_eq, cmp_ne, cmp_is, cmp_isn, cmp_in, cmp_nin, Option.map, is_nn, is_in, is_tn, tyn_int, tyn_str, tyn_tup, Int.cast_ofNat_Int, Int.reduceLT, Int.reduceLE, Int.reduceAdd, Int.reduceMul, Int.reduceSub, BEq.rfl, decide_true, decide_false, Int.reduceBEq, eq_pair, Option.map]
    simp only [stepT] at q
    cases ha : decide (0 ≤ a) with
    | false =>
      rw [ha] at q
      simp only [wSs, wS, wE, wEs, wO, wB, wBo, wI, wTg, gs, startT, List.map_cons, List.map_nil, List.length_cons, List.length_nil, List.cons_append, List.nil_append, List.replicate, Nat.reduceAdd, Nat.reduceSub, Nat.zero_add, exEq, wCop, wIx, wTru, bif_len, bif_abs, bif_int, bif_isi, bif_tuple, bif_list, bif_sum, bif_all, bif_any, bif_min2, bif_max2, bif_minl, bif_maxl, bop_add_i, bop_add_t, bop_add_l, bop_sub, bop_mul_i, bop_fdiv, bop_mod, bop_pow, aug_add, aug_sub, aug_mul, setAll, tailS, wipeT, List.set, tru_bl, tru_non, tru_int, tru_tup, if_true, if_false, Bool.false_eq_true, Bool.not_true, Bool.not_false, seqM_tup, ix_tup, len_tup, atI_0, atI_1, atI_2, atI_3, atI_4, Option.some.injEq, exists_eq_left', eq_int, cmp_lt, cmp_le, cmp_gt, cmp_ge, cmp_eq, cmp_ne, cmp_is, cmp_isn, cmp_in, cmp_nin, Option.map, is_nn, is_in, is_tn, tyn_int, tyn_str, tyn_tup, Int.cast_ofNat_Int, Int.reduceLT, Int.reduceLE, Int.reduceAdd, Int.reduceMul, Int.reduceSub, BEq.rfl, decide_true, decide_false, Int.reduceBEq]
      exact rtF (.refl _) (by simpa only [Bool.false_and] using q)
    | true =>
      cases hb : decide (0 ≤ b) with
      | false =>
        rw [ha, hb] at q
        simp only [wSs, wS, wE, wEs, wO, wB, wBo, wI, wTg, gs, startT, List.map_cons, List.map_nil, List.length_cons, List.length_nil, List.cons_append, List.nil_append, List.replicate, Nat.reduceAdd, Nat.reduceSub, Nat.zero_add, exEq, wCop, wIx, wTru, bif_len, bif_abs, bif_int, bif_isi, bif_tuple, bif_list, bif_sum, bif_all, bif_any, bif_min2, bif_max2, bif_minl, bif_maxl, bop_add_i, bop_add_t, bop_add_l, bop_sub, bop_mul_i, bop_fdiv, bop_mod, bop_pow, aug_add, aug_sub, aug_mul, setAll, tailS, wipeT, List.set, tru_bl, tru_non, tru_int, tru_tup, if_true, if_false, Bool.false_eq_true, Bool.not_true, Bool.not_false, seqM_tup, ix_tup, len_tup, atI_0, atI_1, atI_2, atI_3, atI_4, Option.some.injEq, exists_eq_left', eq_int, cmp_lt, cmp_le, cmp_gt, cmp_ge, cmp_eq, cmp_ne, cmp_is, cmp_isn, cmp_in, cmp_nin, Option.map, is_nn, is_in, is_tn, tyn_int, tyn_str, tyn_tup, Int.cast_ofNat_Int, Int.reduceLT, Int.reduceLE, Int.reduceAdd, Int.reduceMul, Int.reduceSub, BEq.rfl, decide_true, decide_false, Int.reduceBEq]
        exact rtF (.refl _) (by simpa only [Bool.true_and, Bool.false_and] using q)
      | true =>
        rw [ha, hb] at q
        simp only [wSs, wS, wE, wEs, wO, wB, wBo, wI, wTg, gs, startT, List.map_cons, List.map_nil, List.length_cons, List.length_nil, List.cons_append, List.nil_append, List.replicate, Nat.reduceAdd, Nat.reduceSub, Nat.zero_add, exEq, wCop, wIx, wTru, bif_len, bif_abs, bif_int, bif_isi, bif_tuple, bif_list, bif_sum, bif_all, bif_any, bif_min2, bif_max2, bif_minl, bif_maxl, bop_add_i, bop_add_t, bop_add_l, bop_sub, bop_mul_i, bop_fdiv, bop_mod, bop_pow, aug_add, aug_sub, aug_mul, setAll, tailS, wipeT, List.set, tru_bl, tru_non, tru_int, tru_tup, if_true, if_false, Bool.false_eq_true, Bool.not_true, Bool.not_false, seqM_tup, ix_tup, len_tup, atI_0, atI_1, atI_2, atI_3, atI_4, Option.some.injEq, exists_eq_left', eq_int, cmp_lt, cmp_le, cmp_gt, cmp_ge, cmp_eq, cmp_ne, cmp_is, cmp_isn, cmp_in, cmp_nin, Option.map, is_nn, is_in, is_tn, tyn_int, tyn_str, tyn_tup, Int.cast_ofNat_Int, Int.reduceLT, Int.reduceLE, Int.reduceAdd, Int.reduceMul, Int.reduceSub, BEq.rfl, decide_true, decide_false, Int.reduceBEq]
        exact rtF (.refl _) (by simpa only [Bool.true_and, Bool.and_true] using q)
theorem h_is_step {G : Gx} (F : Facts G) : HeldT G 3 (adr G "is_step") s_is_step :=
  F.d_is_step.held (k := 2) sc_is_step ck_is_step (ok_is_step F (h_is_pair F)) nF (fun xs M Q R ⟨x, e, _⟩ => by rw [e]; rfl) v_is_step
/-! rows of steps -/
theorem allB_of {α : Type} (f : α → Bool) (g : α → TV) (hg : ∀ a, g a = .bl (f a)) : ∀ l : List α, allB (l.map g) = some (l.map f)
  | [] => rfl
  | a :: r => by simp only [List.map_cons, hg a, allB, allB_of f g hg r]
def wfS (M : TM) (x : TV) : Prop := knM M x ∧ ∀ L, x = .tup L → ∀ z ∈ L, wfP M z
def stpsT : TV → Bool
  | .tup L => decide (1 ≤ L.length) && decide (L.length ≤ 1000) && L.all stepT
  | _ => false
def s_is_steps : TSp := fun xs M Q _ => ∃ x, xs = [x] ∧ wfS M x ∧ Q (.bl (stpsT x)) M
theorem v_is_steps {G : Gx} : ∀ xs M Q R, s_is_steps xs M Q R → wSs noF (b_is_steps G s_is_step) (endsT Q R) (startT n_is_steps xs) M := by
  rintro xs M Q R ⟨x, rfl, ⟨k, kp⟩, q⟩
  unfold b_is_steps
  rcases tyn_cases k with ⟨L, rfl⟩ | ⟨n, hn, hk, hx⟩
  · have kz := kp L rfl
    simp only [wSs, wS, wE, wEs, wO, wB, wBo, wI, wTg, gs, startT, List.map_cons, List.map_nil, List.length_cons, List.length_nil, List.cons_append, List.nil_append, List.replicate, Nat.reduceAdd, Nat.reduceSub, Nat.zero_add, exEq, wCop, wIx, wTru, bif_len, bif_abs, bif_int, bif_isi, bif_tuple, bif_list, bif_sum, bif_all, bif_any, bif_min2, bif_max2, bif_minl, bif_maxl, bop_add_i, bop_add_t, bop_add_l, bop_sub, bop_mul_i, bop_fdiv, bop_mod, bop_pow, aug_add, aug_sub, aug_mul, setAll, tailS, wipeT, List.set, tru_bl, tru_non, tru_int, tru_tup, if_true, if_false, Bool.false_eq_true, Bool.not_true, Bool.not_false, seqM_tup, ix_tup, len_tup, atI_0, atI_1, atI_2, atI_3, atI_4, Option.some.injEq, exists_eq_left', eq_int, cmp_lt, cmp_le, cmp_gt, cmp_ge, cmp_eq, cmp_ne, cmp_is, cmp_isn, cmp_in, cmp_nin, Option.map, is_nn, is_in, is_tn, tyn_int, tyn_str, tyn_tup, Int.cast_ofNat_Int, Int.reduceLT, Int.reduceLE, Int.reduceAdd, Int.reduceMul, Int.reduceSub, BEq.rfl, decide_true, decide_false, Int.reduceBEq, isi_tup, kit_tuple_tuple]
    simp only [stpsT] at q
    have c1 : decide ((1 : Int) ≤ (L.length : Nat)) = decide (1 ≤ L.length) := by rw [decide_eq_decide]; omega
    have c2 : decide (((L.length : Nat) : Int) ≤ 1000) = decide (L.length ≤ 1000) := by rw [decide_eq_decide]; omega
    rw [c1, c2]
    cases h1 : decide (1 ≤ L.length) with
    | false =>
      rw [h1] at q
      simp only [wSs, wS, wE, wEs, wO, wB, wBo, wI, wTg, gs, startT, List.map_cons, List.map_nil, List.length_cons, List.length_nil, List.cons_append, List.nil_append, List.replicate, Nat.reduceAdd, Nat.reduceSub, Nat.zero_add, exEq, wCop, wIx, wTru, bif_len, bif_abs, bif_int, bif_isi, bif_tuple, bif_list, bif_sum, bif_all, bif_any, bif_min2, bif_max2, bif_minl, bif_maxl, bop_add_i, bop_add_t, bop_add_l, bop_sub, bop_mul_i, bop_fdiv, bop_mod, bop_pow, aug_add, aug_sub, aug_mul, setAll, tailS, wipeT, List.set, tru_bl, tru_non, tru_int, tru_tup, if_true, if_false, Bool.false_eq_true, Bool.not_true, Bool.not_false, seqM_tup, ix_tup, len_tup, atI_0, atI_1, atI_2, atI_3, atI_4, Option.some.injEq, exists_eq_left', eq_int, cmp_lt, cmp_le, cmp_gt, cmp_ge, cmp_eq, cmp_ne, cmp_is, cmp_isn, cmp_in, cmp_nin, Option.map, is_nn, is_in, is_tn, tyn_int, tyn_str, tyn_tup, Int.cast_ofNat_Int, Int.reduceLT, Int.reduceLE, Int.reduceAdd, Int.reduceMul, Int.reduceSub, BEq.rfl, decide_true, decide_false, Int.reduceBEq]
      exact rtF (.refl _) (by simpa only [Bool.false_and] using q)
    | true =>
      cases h2 : decide (L.length ≤ 1000) with
      | false =>
        rw [h1, h2] at q
        simp only [wSs, wS, wE, wEs, wO, wB, wBo, wI, wTg, gs, startT, List.map_cons, List.map_nil, List.length_cons, List.length_nil, List.cons_append, List.nil_append, List.replicate, Nat.reduceAdd, Nat.reduceSub, Nat.zero_add, exEq, wCop, wIx, wTru, bif_len, bif_abs, bif_int, bif_isi, bif_tuple, bif_list, bif_sum, bif_all, bif_any, bif_min2, bif_max2, bif_minl, bif_maxl, bop_add_i, bop_add_t, bop_add_l, bop_sub, bop_mul_i, bop_fdiv, bop_mod, bop_pow, aug_add, aug_sub, aug_mul, setAll, tailS, wipeT, List.set, tru_bl, tru_non, tru_int, tru_tup, if_true, if_false, Bool.false_eq_true, Bool.not_true, Bool.not_false, seqM_tup, ix_tup, len_tup, atI_0, atI_1, atI_2, atI_3, atI_4, Option.some.injEq, exists_eq_left', eq_int, cmp_lt, cmp_le, cmp_gt, cmp_ge, cmp_eq, cmp_ne, cmp_is, cmp_isn, cmp_in, cmp_nin, Option.map, is_nn, is_in, is_tn, tyn_int, tyn_str, tyn_tup, Int.cast_ofNat_Int, Int.reduceLT, Int.reduceLE, Int.reduceAdd, Int.reduceMul, Int.reduceSub, BEq.rfl, decide_true, decide_false, Int.reduceBEq]
        exact rtF (.refl _) (by simpa only [Bool.true_and, Bool.false_and] using q)
      | true =>
        rw [h1, h2] at q
        simp only [wSs, wS, wE, wEs, wO, wB, wBo, wI, wTg, gs, startT, List.map_cons, List.map_nil, List.length_cons, List.length_nil, List.cons_append, List.nil_append, List.replicate, Nat.reduceAdd, Nat.reduceSub, Nat.zero_add, exEq, wCop, wIx, wTru, bif_len, bif_abs, bif_int, bif_isi, bif_tuple, bif_list, bif_sum, bif_all, bif_any, bif_min2, bif_max2, bif_minl, bif_maxl, bop_add_i, bop_add_t, bop_add_l, bop_sub, bop_mul_i, bop_fdiv, bop_mod, bop_pow, aug_add, aug_sub, aug_mul, setAll, tailS, wipeT, List.set, tru_bl, tru_non, tru_int, tru_tup, if_true, if_false, Bool.false_eq_true, Bool.not_true, Bool.not_false, seqM_tup, ix_tup, len_tup, atI_0, atI_1, atI_2, atI_3, atI_4, Option.some.injEq, exists_eq_left', eq_int, cmp_lt, cmp_le, cmp_gt, cmp_ge, cmp_eq, cmp_ne, cmp_is, cmp_isn, cmp_in, cmp_nin, Option.map, is_nn, is_in, is_tn, tyn_int, tyn_str, tyn_tup, Int.cast_ofNat_Int, Int.reduceLT, Int.reduceLE, Int.reduceAdd, Int.reduceMul, Int.reduceSub, BEq.rfl, decide_true, decide_false, Int.reduceBEq]
        refine lcL_map (fun z => .bl (stepT z)) (.refl _) (fun _ _ => trivial) ?_ ?_
        · intro z hz acc M2 k s2 hk
          exact ⟨_, rfl, (kz z hz).sub s2, hk _ (.refl _)⟩
        · intro M2 s2 p hp
          rw [List.nil_append]
          refine ⟨_, _, lsM_upd, allB_of stepT _ (fun _ => rfl) L, ?_⟩
          have e : (L.map stepT).all id = L.all stepT := by rw [List.all_map]; rfl
          rw [e]
          exact rtF (s2.new hp) (by simpa only [Bool.true_and] using q)
  · simp only [wSs, wS, wE, wEs, wO, wB, wBo, wI, wTg, gs, startT, List.map_cons, List.map_nil, List.length_cons, List.length_nil, List.cons_append, List.nil_append, List.replicate, Nat.reduceAdd, Nat.reduceSub, Nat.zero_add, exEq, wCop, wIx, wTru, bif_len, bif_abs, bif_int, bif_isi, bif_tuple, bif_list, bif_sum, bif_all, bif_any, bif_min2, bif_max2, bif_minl, bif_maxl, bop_add_i, bop_add_t, bop_add_l, bop_sub, bop_mul_i, bop_fdiv, bop_mod, bop_pow, aug_add, aug_sub, aug_mul, setAll, tailS, wipeT, List.set, tru_bl, tru_non, tru_int, tru_tup, if_true, if_false, Bool.false_eq_true, Bool.not_true, Bool.not_false, seqM_tup, ix_tup, len_tup, atI_0, atI_1, atI_2, atI_3, atI_4, Option.some.injEq, exists_eq_left', eq_int, cmp_lt, cmp_le, cmp_gt, cmp_ge, cmp_eq, cmp_ne, cmp_is, cmp_isn, cmp_in, cmp_nin, Option.map, is_nn, is_in, is_tn, tyn_int, tyn_str, tyn_tup, Int.cast_ofNat_Int, Int.reduceLT, Int.reduceLE, Int.reduceAdd, Int.reduceMul, Int.reduceSub, BEq.rfl, decide_true, decide_false, Int.reduceBEq, isi_ty hn, hk]
    have : stpsT x = false := by
      unfold stpsT
      split
      · exact absurd rfl (hx _)
      · rfl
    rw [this] at q
    exact rtF (.refl _) q
theorem h_is_steps {G : Gx} (F : Facts G) : HeldT G 4 (adr G "is_steps") s_is_steps :=
  F.d_is_steps.held (k := 3) sc_is_steps ck_is_steps (ok_is_steps F (h_is_step F)) nF (fun xs M Q R ⟨x, e, _⟩ => by rw [e]; rfl) v_is_steps
end TL

namespace TL
open PySem PySem.Spec PyProof.Rows L2
/-! X11B: tightening; numbers of times. -/
open TL.Bw (Bow bt hull allOk sm1 sm2 push Fall FallR)
def s_is_better : TSp := fun xs M Q _ => ∃ a b, xs = [spT a, spT b] ∧ okK a ∧ okK b ∧ Q (.bl (bt a b)) M
theorem v_is_better {G : Gx} : ∀ xs M Q R, s_is_better xs M Q R → wSs noF (b_is_better G) (endsT Q R) (startT n_is_better xs) M := by
  rintro xs M Q R ⟨a, b, rfl, ⟨⟨a1, a2, a3⟩, a4, a5⟩, ⟨⟨b1, b2, b3⟩, b4, b5⟩, q⟩
  unfold b_is_better
  simp only [wSs, wS, wE, wEs, wO, wB, wBo, wI, wTg, gs, startT, List.map_cons, List.map_nil, List.length_cons, List.length_nil, List.cons_append, List.nil_append, List.replicate, Nat.reduceAdd, Nat.reduceSub, Nat.zero_add, exEq, wCop, wIx, wTru, bif_len, bif_abs, bif_int, bif_isi, bif_tuple, bif_list, bif_sum, bif_all, bif_any, bif_min2, bif_max2, bif_minl, bif_maxl, bop_add_i, bop_add_t, bop_add_l, bop_sub, bop_mul_i, bop_fdiv, bop_mod, bop_pow, aug_add, aug_sub, aug_mul, setAll, tailS, wipeT, List.set, tru_bl, tru_non, tru_int, tru_tup, if_true, if_false, Bool.false_eq_true, Bool.not_true, Bool.not_false, seqM_tup, ix_tup, len_tup, atI_0, atI_1, atI_2, atI_3, atI_4, Option.some.injEq, exists_eq_left', eq_int, cmp_lt, cmp_le, cmp_gt, cmp_ge, cmp_eq, cmp_ne, cmp_is, cmp_isn, cmp_in, cmp_nin, Option.map, is_nn, is_in, is_tn, tyn_int, tyn_str, tyn_tup, Int.cast_ofNat_Int, Int.reduceLT, Int.reduceLE, Int.reduceAdd, Int.reduceMul, Int.reduceSub, BEq.rfl, decide_true, decide_false, Int.reduceBEq, spT]
  exact ⟨.inr (mulK a2 a5 b1 b4), .inr (mulK b2 b5 a1 a4), rtF (.refl _) q⟩
theorem h_is_better {G : Gx} (F : Facts G) : HeldT G 1 (adr G "is_better") s_is_better :=
  F.d_is_better.held (k := 0) sc_is_better ck_is_better (ok_is_better F) nF (fun xs M Q R ⟨x, _, e, _⟩ => by rw [e]; rfl) v_is_better
theorem v__law_is_better {G : Gx} : ∀ xs M Q R, s_is_better xs M Q R → wSs noF (b__law_is_better G) (endsT Q R) (startT n__law_is_better xs) M := by
  rintro xs M Q R ⟨a, b, rfl, ⟨⟨a1, a2, a3⟩, a4, a5⟩, ⟨⟨b1, b2, b3⟩, b4, b5⟩, q⟩
  unfold b__law_is_better
  simp only [wSs, wS, wE, wEs, wO, wB, wBo, wI, wTg, gs, startT, List.map_cons, List.map_nil, List.length_cons, List.length_nil, List.cons_append, List.nil_append, List.replicate, Nat.reduceAdd, Nat.reduceSub, Nat.zero_add, exEq, wCop, wIx, wTru, bif_len, bif_abs, bif_int, bif_isi, bif_tuple, bif_list, bif_sum, bif_all, bif_any, bif_min2, bif_max2, bif_minl, bif_maxl, bop_add_i, bop_add_t, bop_add_l, bop_sub, bop_mul_i, bop_fdiv, bop_mod, bop_pow, aug_add, aug_sub, aug_mul, setAll, tailS, wipeT, List.set, tru_bl, tru_non, tru_int, tru_tup, if_true, if_false, Bool.false_eq_true, Bool.not_true, Bool.not_false, seqM_tup, ix_tup, len_tup, atI_0, atI_1, atI_2, atI_3, atI_4, Option.some.injEq, exists_eq_left', eq_int, cmp_lt, cmp_le, cmp_gt, cmp_ge, cmp_eq, cmp_ne, cmp_is, cmp_isn, cmp_in, cmp_nin, Option.map, is_nn, is_in, is_tn, tyn_int, tyn_str, tyn_tup, Int.cast_ofNat_Int, Int.reduceLT, Int.reduceLE, Int.reduceAdd, Int.reduceMul, Int.reduceSub, BEq.rfl, decide_true, decide_false, Int.reduceBEq, spT]
  exact ⟨.inr (mulK a2 a5 b1 b4), .inr (mulK b2 b5 a1 a4), rtF (.refl _) q⟩
theorem h__law_is_better {G : Gx} (F : Facts G) : HeldT G 1 (adr G "_law_is_better") s_is_better :=
  F.d__law_is_better.held (k := 0) sc__law_is_better ck__law_is_better (ok__law_is_better F) nF (fun xs M Q R ⟨x, _, e, _⟩ => by rw [e]; rfl) v__law_is_better
/-! tightening -/
/-- steps that the defs take -/
structure Row (s : List Bw.Sp) : Prop where
  ok : allOk s
  k1 : sm1 s ≤ KB
  k2 : sm2 s ≤ KB
  len : s.length ≤ 10000
def s_drawn_in : TSp := fun xs M Q _ => ∃ s, xs = [stT s] ∧ Row s ∧ Q (stT (hull s)) M
theorem rev2 {t u : Bw.Sp} {r : List Bw.Sp} : (t :: u :: r).reverse.map spT = r.reverse.map spT ++ [spT u, spT t] := by simp
theorem rev1 {t : Bw.Sp} {r : List Bw.Sp} : (t :: r).reverse.map spT = r.reverse.map spT ++ [spT t] := by simp
/-- what is kept while steps are drawn in -/
structure Dr (ss r rest : List Bw.Sp) : Prop where
  okr : allOk r
  okx : allOk rest
  e1 : sm1 r + sm1 rest = sm1 ss
  e2 : sm2 r + sm2 rest = sm2 ss
  len : r.length + rest.length ≤ ss.length
  res : rest.foldl push r = ss.foldl push []
theorem v_drawn_in {G : Gx} : ∀ xs M Q R, s_drawn_in xs M Q R → wSs noF (b_drawn_in G s_is_better) (endsT Q R) (startT n_drawn_in xs) M := by
  rintro xs M Q R ⟨ss, rfl, row, q⟩
  unfold b_drawn_in
  simp only [wSs, wS, wE, wEs, wO, wB, wBo, wI, wTg, gs, startT, List.map_cons, List.map_nil, List.length_cons, List.length_nil, List.cons_append, List.nil_append, List.replicate, Nat.reduceAdd, Nat.reduceSub, Nat.zero_add, exEq, wCop, wIx, wTru, bif_len, bif_abs, bif_int, bif_isi, bif_tuple, bif_list, bif_sum, bif_all, bif_any, bif_min2, bif_max2, bif_minl, bif_maxl, bop_add_i, bop_add_t, bop_add_l, bop_sub, bop_mul_i, bop_fdiv, bop_mod, bop_pow, aug_add, aug_sub, aug_mul, setAll, tailS, wipeT, List.set, tru_bl, tru_non, tru_int, tru_tup, if_true, if_false, Bool.false_eq_true, Bool.not_true, Bool.not_false, seqM_tup, ix_tup, len_tup, atI_0, atI_1, atI_2, atI_3, atI_4, Option.some.injEq, exists_eq_left', eq_int, cmp_lt, cmp_le, cmp_gt, cmp_ge, cmp_eq, cmp_ne, cmp_is, cmp_isn, cmp_in, cmp_nin, Option.map, is_nn, is_in, is_tn, tyn_int, tyn_str, tyn_tup, Int.cast_ofNat_Int, Int.reduceLT, Int.reduceLE, Int.reduceAdd, Int.reduceMul, Int.reduceSub, BEq.rfl, decide_true, decide_false, Int.reduceBEq, stT]
  intro p hp
  refine foL_at (d := []) (fun _ rest σ M' => ∃ (a : Addr) (r rest' : List Bw.Sp) (o2 o3 o4 : Option TV), rest = rest'.map spT ∧ σ = [some (.tup (ss.map spT)), some (.ref a), o2, o3, o4] ∧ M' a = some (.lst (r.reverse.map spT)) ∧ M a = none ∧ Dr ss r rest' ∧ Subm M M') ?_ ?_ ?_ ?_
  · exact ⟨p, [], ss, none, none, none, rfl, rfl, updM_same, hp, ⟨fun _ h => (by cases h), row.ok, by simp [sm1], by simp [sm2], by simp, rfl⟩, Subm.new (.refl _) hp⟩
  · rintro _ _ _ M' _
    trivial
  · rintro _ x rest k _ M1 ⟨a, r, rest', o2, o3, o4, e, rfl, ha, na, dr, sub⟩ hk
    cases rest' with
    | nil => cases e
    | cons x' rest' =>
    cases e
    have okx := dr.okx x' List.mem_cons_self
    have okr' : allOk rest' := fun y hy => dr.okx y (List.mem_cons_of_mem _ hy)
    have lenr := dr.len
    simp only [List.length_cons] at lenr
    have nextD : ∀ r2 : List Bw.Sp, r2 = push r x' → sm1 r2 = sm1 r + x'.1 → sm2 r2 = sm2 r + x'.2 → r2.length ≤ r.length + 1 → allOk r2 → Dr ss r2 rest' := fun r2 h1 h2 h3 h4 h5 => by
      refine ⟨h5, okr', ?_, ?_, by omega, ?_⟩
      · have := dr.e1
        rw [h2]
        simp only [sm1, List.map_cons, List.sum_cons] at *
        omega
      · have := dr.e2
        rw [h3]
        simp only [sm2, List.map_cons, List.sum_cons] at *
        omega
      · rw [h1]
        exact dr.res
    simp only [wSs, wS, wE, wEs, wO, wB, wBo, wI, wTg, gs, startT, List.map_cons, List.map_nil, List.length_cons, List.length_nil, List.cons_append, List.nil_append, List.replicate, Nat.reduceAdd, Nat.reduceSub, Nat.zero_add, exEq, wCop, wIx, wTru, bif_len, bif_abs, bif_int, bif_isi, bif_tuple, bif_list, bif_sum, bif_all, bif_any, bif_min2, bif_max2, bif_minl, bif_maxl, bop_add_i, bop_add_t, bop_add_l, bop_sub, bop_mul_i, bop_fdiv, bop_mod, bop_pow, aug_add, aug_sub, aug_mul, setAll, tailS, wipeT, List.set, tru_bl, tru_non, tru_int, tru_tup, if_true, if_false, Bool.false_eq_true, Bool.not_true, Bool.not_false, seqM_tup, ix_tup, len_tup, atI_0, atI_1, atI_2, atI_3, atI_4, Option.some.injEq, exists_eq_left', eq_int, cmp_lt, cmp_le, cmp_gt, cmp_ge, cmp_eq, cmp_ne, cmp_is, cmp_isn, cmp_in, cmp_nin, Option.map, is_nn, is_in, is_tn, tyn_int, tyn_str, tyn_tup, Int.cast_ofNat_Int, Int.reduceLT, Int.reduceLE, Int.reduceAdd, Int.reduceMul, Int.reduceSub, BEq.rfl, decide_true, decide_false, Int.reduceBEq, wMth]
    refine ⟨⟨a, _, rfl, lsM_lst ha⟩, _, ha, by rw [List.length_map, List.length_reverse]; have := row.len; rw [sizeLine_eq]; omega, ?_⟩
    refine ⟨r.length + 1, whL_at (fun n σ M' => ∃ (a : Addr) (t : Bw.Sp) (u : List Bw.Sp) (o3 o4 : Option TV), n = u.length ∧ σ = [some (.tup (ss.map spT)), some (.ref a), some (spT x'), o3, o4] ∧ M' a = some (.lst ((t :: u).reverse.map spT)) ∧ M a = none ∧ Subm M M' ∧ allOk (t :: u) ∧ push u t = push r x' ∧ sm1 (t :: u) = sm1 r + x'.1 ∧ sm2 (t :: u) = sm2 r + x'.2 ∧ (t :: u).length ≤ r.length + 1) ?_ _ r.length _ _ (Nat.lt_succ_self _) ?_⟩
    · rintro n _ M2 ⟨a, t, u, o3, o4, rfl, rfl, ha2, na2, sub2, okt, pe, e1, e2, el⟩ K hK
      simp only [wSs, wS, wE, wEs, wO, wB, wBo, wI, wTg, gs, startT, List.map_cons, List.map_nil, List.length_cons, List.length_nil, List.cons_append, List.nil_append, List.replicate, Nat.reduceAdd, Nat.reduceSub, Nat.zero_add, exEq, wCop, wIx, wTru, bif_len, bif_abs, bif_int, bif_isi, bif_tuple, bif_list, bif_sum, bif_all, bif_any, bif_min2, bif_max2, bif_minl, bif_maxl, bop_add_i, bop_add_t, bop_add_l, bop_sub, bop_mul_i, bop_fdiv, bop_mod, bop_pow, aug_add, aug_sub, aug_mul, setAll, tailS, wipeT, List.set, tru_bl, tru_non, tru_int, tru_tup, if_true, if_false, Bool.false_eq_true, Bool.not_true, Bool.not_false, seqM_tup, ix_tup, len_tup, atI_0, atI_1, atI_2, atI_3, atI_4, Option.some.injEq, exists_eq_left', eq_int, cmp_lt, cmp_le, cmp_gt, cmp_ge, cmp_eq, cmp_ne, cmp_is, cmp_isn, cmp_in, cmp_nin, Option.map, is_nn, is_in, is_tn, tyn_int, tyn_str, tyn_tup, Int.cast_ofNat_Int, Int.reduceLT, Int.reduceLE, Int.reduceAdd, Int.reduceMul, Int.reduceSub, BEq.rfl, decide_true, decide_false, Int.reduceBEq]
      refine ⟨_, len_lst (lsM_lst ha2), ?_⟩
      cases u with
      | nil =>
        simp only [wSs, wS, wE, wEs, wO, wB, wBo, wI, wTg, gs, startT, List.map_cons, List.map_nil, List.length_cons, List.length_nil, List.cons_append, List.nil_append, List.replicate, Nat.reduceAdd, Nat.reduceSub, Nat.zero_add, exEq, wCop, wIx, wTru, bif_len, bif_abs, bif_int, bif_isi, bif_tuple, bif_list, bif_sum, bif_all, bif_any, bif_min2, bif_max2, bif_minl, bif_maxl, bop_add_i, bop_add_t, bop_add_l, bop_sub, bop_mul_i, bop_fdiv, bop_mod, bop_pow, aug_add, aug_sub, aug_mul, setAll, tailS, wipeT, List.set, tru_bl, tru_non, tru_int, tru_tup, if_true, if_false, Bool.false_eq_true, Bool.not_true, Bool.not_false, seqM_tup, ix_tup, len_tup, atI_0, atI_1, atI_2, atI_3, atI_4, Option.some.injEq, exists_eq_left', eq_int, cmp_lt, cmp_le, cmp_gt, cmp_ge, cmp_eq, cmp_ne, cmp_is, cmp_isn, cmp_in, cmp_nin, Option.map, is_nn, is_in, is_tn, tyn_int, tyn_str, tyn_tup, Int.cast_ofNat_Int, Int.reduceLT, Int.reduceLE, Int.reduceAdd, Int.reduceMul, Int.reduceSub, BEq.rfl, decide_true, decide_false, Int.reduceBEq, List.reverse_cons, List.reverse_nil]
        refine hk _ _ ⟨a, [t], rest', _, _, _, rfl, rfl, ha2, na2, nextD [t] pe e1 e2 el okt, sub2⟩
      | cons v u =>
        have kk : ∀ y ∈ t :: v :: u, okK y := okK_of okt (by rw [e1]; have := dr.e1; have := row.k1; have := Bw.sums_nn okr'; simp only [sm1, List.map_cons, List.sum_cons] at *; omega) (by rw [e2]; have := dr.e2; have := row.k2; have := Bw.sums_nn okr'; simp only [sm2, List.map_cons, List.sum_cons] at *; omega)
        rw [rev2] at ha2 ⊢
        have l2 : ((1 : Int) < ((u.reverse.map spT ++ [spT v, spT t]).length : Nat)) := by simp; omega
        simp only [wSs, wS, wE, wEs, wO, wB, wBo, wI, wTg, gs, startT, List.map_cons, List.map_nil, List.length_cons, List.length_nil, List.cons_append, List.nil_append, List.replicate, Nat.reduceAdd, Nat.reduceSub, Nat.zero_add, exEq, wCop, wIx, wTru, bif_len, bif_abs, bif_int, bif_isi, bif_tuple, bif_list, bif_sum, bif_all, bif_any, bif_min2, bif_max2, bif_minl, bif_maxl, bop_add_i, bop_add_t, bop_add_l, bop_sub, bop_mul_i, bop_fdiv, bop_mod, bop_pow, aug_add, aug_sub, aug_mul, setAll, tailS, wipeT, List.set, tru_bl, tru_non, tru_int, tru_tup, if_true, if_false, Bool.false_eq_true, Bool.not_true, Bool.not_false, seqM_tup, ix_tup, len_tup, atI_0, atI_1, atI_2, atI_3, atI_4, Option.some.injEq, exists_eq_left', eq_int, cmp_lt, cmp_le, cmp_gt, cmp_ge, cmp_eq, cmp_ne, cmp_is, cmp_isn, cmp_in, cmp_nin, Option.map, is_nn, is_in, is_tn, tyn_int, tyn_str, tyn_tup, Int.cast_ofNat_Int, Int.reduceLT, Int.reduceLE, Int.reduceAdd, Int.reduceMul, Int.reduceSub, BEq.rfl, decide_true, decide_false, Int.reduceBEq, decide_eq_true l2, ix_lst (lsM_lst ha2), TV.int.injEq, Int.reduceNeg, atI_m2, atI_m1b]
        refine ⟨v, t, rfl, kk v (by simp), kk t (by simp), ?_⟩
        simp only [wSs, wS, wE, wEs, wO, wB, wBo, wI, wTg, gs, startT, List.map_cons, List.map_nil, List.length_cons, List.length_nil, List.cons_append, List.nil_append, List.replicate, Nat.reduceAdd, Nat.reduceSub, Nat.zero_add, exEq, wCop, wIx, wTru, bif_len, bif_abs, bif_int, bif_isi, bif_tuple, bif_list, bif_sum, bif_all, bif_any, bif_min2, bif_max2, bif_minl, bif_maxl, bop_add_i, bop_add_t, bop_add_l, bop_sub, bop_mul_i, bop_fdiv, bop_mod, bop_pow, aug_add, aug_sub, aug_mul, setAll, tailS, wipeT, List.set, tru_bl, tru_non, tru_int, tru_tup, if_true, if_false, Bool.false_eq_true, Bool.not_true, Bool.not_false, seqM_tup, ix_tup, len_tup, atI_0, atI_1, atI_2, atI_3, atI_4, Option.some.injEq, exists_eq_left', eq_int, cmp_lt, cmp_le, cmp_gt, cmp_ge, cmp_eq, cmp_ne, cmp_is, cmp_isn, cmp_in, cmp_nin, Option.map, is_nn, is_in, is_tn, tyn_int, tyn_str, tyn_tup, Int.cast_ofNat_Int, Int.reduceLT, Int.reduceLE, Int.reduceAdd, Int.reduceMul, Int.reduceSub, BEq.rfl, decide_true, decide_false, Int.reduceBEq]
        have okv := okt v (by simp)
        have okt' := okt t (by simp)
        by_cases cb : bt v t = true
        · rw [cb]
          simp only [wSs, wS, wE, wEs, wO, wB, wBo, wI, wTg, gs, startT, List.map_cons, List.map_nil, List.length_cons, List.length_nil, List.cons_append, List.nil_append, List.replicate, Nat.reduceAdd, Nat.reduceSub, Nat.zero_add, exEq, wCop, wIx, wTru, bif_len, bif_abs, bif_int, bif_isi, bif_tuple, bif_list, bif_sum, bif_all, bif_any, bif_min2, bif_max2, bif_minl, bif_maxl, bop_add_i, bop_add_t, bop_add_l, bop_sub, bop_mul_i, bop_fdiv, bop_mod, bop_pow, aug_add, aug_sub, aug_mul, setAll, tailS, wipeT, List.set, tru_bl, tru_non, tru_int, tru_tup, if_true, if_false, Bool.false_eq_true, Bool.not_true, Bool.not_false, seqM_tup, ix_tup, len_tup, atI_0, atI_1, atI_2, atI_3, atI_4, Option.some.injEq, exists_eq_left', eq_int, cmp_lt, cmp_le, cmp_gt, cmp_ge, cmp_eq, cmp_ne, cmp_is, cmp_isn, cmp_in, cmp_nin, Option.map, is_nn, is_in, is_tn, tyn_int, tyn_str, tyn_tup, Int.cast_ofNat_Int, Int.reduceLT, Int.reduceLE, Int.reduceAdd, Int.reduceMul, Int.reduceSub, BEq.rfl, decide_true, decide_false, Int.reduceBEq]
          refine hk _ _ ⟨a, t :: v :: u, rest', _, _, _, rfl, rfl, by rw [rev2]; exact ha2, na2, nextD _ ?_ e1 e2 el okt, sub2⟩
          rw [← pe]
          unfold push
          rw [if_pos cb]
        · have cf : bt v t = false := by simpa using cb
          rw [cf]
          simp only [wSs, wS, wE, wEs, wO, wB, wBo, wI, wTg, gs, startT, List.map_cons, List.map_nil, List.length_cons, List.length_nil, List.cons_append, List.nil_append, List.replicate, Nat.reduceAdd, Nat.reduceSub, Nat.zero_add, exEq, wCop, wIx, wTru, bif_len, bif_abs, bif_int, bif_isi, bif_tuple, bif_list, bif_sum, bif_all, bif_any, bif_min2, bif_max2, bif_minl, bif_maxl, bop_add_i, bop_add_t, bop_add_l, bop_sub, bop_mul_i, bop_fdiv, bop_mod, bop_pow, aug_add, aug_sub, aug_mul, setAll, tailS, wipeT, List.set, tru_bl, tru_non, tru_int, tru_tup, if_true, if_false, Bool.false_eq_true, Bool.not_true, Bool.not_false, seqM_tup, ix_tup, len_tup, atI_0, atI_1, atI_2, atI_3, atI_4, Option.some.injEq, exists_eq_left', eq_int, cmp_lt, cmp_le, cmp_gt, cmp_ge, cmp_eq, cmp_ne, cmp_is, cmp_isn, cmp_in, cmp_nin, Option.map, is_nn, is_in, is_tn, tyn_int, tyn_str, tyn_tup, Int.cast_ofNat_Int, Int.reduceLT, Int.reduceLE, Int.reduceAdd, Int.reduceMul, Int.reduceSub, BEq.rfl, decide_true, decide_false, Int.reduceBEq, wSl, ix_lst (lsM_lst ha2), TV.int.injEq, Int.reduceNeg, atI_m2, atI_m1b, lsM_lst ha2, cut_m2, spT]
          intro p1 h1 p2 h2
          have ne : p1 ≠ p2 := fun e => by subst e; rw [updM_same] at h2; cases h2
          refine ⟨_, _, (updM_ne ne).trans updM_same, updM_same, ?_, fun p3 h3 => hK u.length _ _ (by simp) ⟨p3, Bw.add v t, u, _, _, rfl, rfl, ?_, ((sub2.new h1).new h2).fresh h3, ((sub2.new h1).new h2).new h3, ?_, ?_, ?_, ?_, ?_⟩⟩
          · have := row.len
            simp only [List.length_map, List.length_reverse, List.length_cons, List.length_nil] at *
            rw [sizeLine_eq]
            omega
          · rw [updM_same, rev1]
            rfl
          · exact fun y hy => (List.mem_cons.mp hy).elim (fun e => by rw [e]; exact Bw.ok_add okv okt') fun hy => okt y (by simp [hy])
          · have e : push (v :: u) t = push u (Bw.add v t) := by
              conv => lhs; unfold push
              rw [if_neg cb]
            rw [← e, pe]
          · rw [← e1]
            simp only [sm1, List.map_cons, List.sum_cons, Bw.add]
            omega
          · rw [← e2]
            simp only [sm2, List.map_cons, List.sum_cons, Bw.add]
            omega
          · simp only [List.length_cons] at el ⊢
            omega
    · refine ⟨a, x', r, _, _, rfl, rfl, ?_, na, ?_, ?_, rfl, ?_, ?_, ?_⟩
      · rw [updM_same, rev1]
      · exact sub.over na
      · exact fun y hy => (List.mem_cons.mp hy).elim (fun e => by rw [e]; exact okx) (dr.okr y)
      · simp [sm1]; omega
      · simp [sm2]; omega
      · exact Nat.le_refl _
  · rintro _ _ M1 ⟨a, r, rest', o2, o3, o4, e, rfl, ha, na, dr, sub⟩
    cases rest' with
    | cons _ _ => cases e
    | nil =>
    simp only [wSs, wS, wE, wEs, wO, wB, wBo, wI, wTg, gs, startT, List.map_cons, List.map_nil, List.length_cons, List.length_nil, List.cons_append, List.nil_append, List.replicate, Nat.reduceAdd, Nat.reduceSub, Nat.zero_add, exEq, wCop, wIx, wTru, bif_len, bif_abs, bif_int, bif_isi, bif_tuple, bif_list, bif_sum, bif_all, bif_any, bif_min2, bif_max2, bif_minl, bif_maxl, bop_add_i, bop_add_t, bop_add_l, bop_sub, bop_mul_i, bop_fdiv, bop_mod, bop_pow, aug_add, aug_sub, aug_mul, setAll, tailS, wipeT, List.set, tru_bl, tru_non, tru_int, tru_tup, if_true, if_false, Bool.false_eq_true, Bool.not_true, Bool.not_false, seqM_tup, ix_tup, len_tup, atI_0, atI_1, atI_2, atI_3, atI_4, Option.some.injEq, exists_eq_left', eq_int, cmp_lt, cmp_le, cmp_gt, cmp_ge, cmp_eq, cmp_ne, cmp_is, cmp_isn, cmp_in, cmp_nin, Option.map, is_nn, is_in, is_tn, tyn_int, tyn_str, tyn_tup, Int.cast_ofNat_Int, Int.reduceLT, Int.reduceLE, Int.reduceAdd, Int.reduceMul, Int.reduceSub, BEq.rfl, decide_true, decide_false, Int.reduceBEq]
    refine ⟨_, lsM_lst ha, rtF sub ?_⟩
    have := dr.res
    simp only [List.foldl_nil] at this
    rw [this]
    exact q
theorem h_drawn_in {G : Gx} (F : Facts G) : HeldT G 2 (adr G "drawn_in") s_drawn_in :=
  F.d_drawn_in.held (k := 1) sc_drawn_in ck_drawn_in (ok_drawn_in F (h_is_better F)) nF (fun xs M Q R ⟨x, e, _⟩ => by rw [e]; rfl) v_drawn_in
/-! the law's tightening -/
theorem v__law_tight {G : Gx} : ∀ xs M Q R, s_drawn_in xs M Q R → wSs noF (b__law_tight G s_is_better) (endsT Q R) (startT n__law_tight xs) M := by
  rintro xs M Q R ⟨ss, rfl, row, q⟩
  unfold b__law_tight
  simp only [wSs, wS, wE, wEs, wO, wB, wBo, wI, wTg, gs, startT, List.map_cons, List.map_nil, List.length_cons, List.length_nil, List.cons_append, List.nil_append, List.replicate, Nat.reduceAdd, Nat.reduceSub, Nat.zero_add, exEq, wCop, wIx, wTru, bif_len, bif_abs, bif_int, bif_isi, bif_tuple, bif_list, bif_sum, bif_all, bif_any, bif_min2, bif_max2, bif_minl, bif_maxl, bop_add_i, bop_add_t, bop_add_l, bop_sub, bop_mul_i, bop_fdiv, bop_mod, bop_pow, aug_add, aug_sub, aug_mul, setAll, tailS, wipeT, List.set, tru_bl, tru_non, tru_int, tru_tup, if_true, if_false, Bool.false_eq_true, Bool.not_true, Bool.not_false, seqM_tup, ix_tup, len_tup, atI_0, atI_1, atI_2, atI_3, atI_4, Option.some.injEq, exists_eq_left', eq_int, cmp_lt, cmp_le, cmp_gt, cmp_ge, cmp_eq, cmp_ne, cmp_is, cmp_isn, cmp_in, cmp_nin, Option.map, is_nn, is_in, is_tn, tyn_int, tyn_str, tyn_tup, Int.cast_ofNat_Int, Int.reduceLT, Int.reduceLE, Int.reduceAdd, Int.reduceMul, Int.reduceSub, BEq.rfl, decide_true, decide_false, Int.reduceBEq, stT]
  intro p hp
  refine foL_at (d := []) (fun _ rest σ M' => ∃ (a : Addr) (r rest' : List Bw.Sp) (o2 o3 : Option TV), rest = rest'.map spT ∧ σ = [some (.tup (ss.map spT)), some (.ref a), o2, o3] ∧ M' a = some (.lst (r.reverse.map spT)) ∧ M a = none ∧ Dr ss r rest' ∧ Subm M M') ?_ ?_ ?_ ?_
  · exact ⟨p, [], ss, none, none, rfl, rfl, updM_same, hp, ⟨fun _ h => (by cases h), row.ok, by simp [sm1], by simp [sm2], by simp, rfl⟩, Subm.new (.refl _) hp⟩
  · rintro _ _ _ M' _
    trivial
  · rintro _ x rest k _ M1 ⟨a, r, rest', o2, o3, e, rfl, ha, na, dr, sub⟩ hk
    cases rest' with
    | nil => cases e
    | cons x' rest' =>
    cases e
    have okx := dr.okx x' List.mem_cons_self
    have okr' : allOk rest' := fun y hy => dr.okx y (List.mem_cons_of_mem _ hy)
    have lenr := dr.len
    simp only [List.length_cons] at lenr
    have nextD : ∀ r2 : List Bw.Sp, r2 = push r x' → sm1 r2 = sm1 r + x'.1 → sm2 r2 = sm2 r + x'.2 → r2.length ≤ r.length + 1 → allOk r2 → Dr ss r2 rest' := fun r2 h1 h2 h3 h4 h5 => by
      refine ⟨h5, okr', ?_, ?_, by omega, ?_⟩
      · have := dr.e1
        rw [h2]
        simp only [sm1, List.map_cons, List.sum_cons] at *
        omega
      · have := dr.e2
        rw [h3]
        simp only [sm2, List.map_cons, List.sum_cons] at *
        omega
      · rw [h1]
        exact dr.res
    simp only [wSs, wS, wE, wEs, wO, wB, wBo, wI, wTg, gs, startT, List.map_cons, List.map_nil, List.length_cons, List.length_nil, List.cons_append, List.nil_append, List.replicate, Nat.reduceAdd, Nat.reduceSub, Nat.zero_add, exEq, wCop, wIx, wTru, bif_len, bif_abs, bif_int, bif_isi, bif_tuple, bif_list, bif_sum, bif_all, bif_any, bif_min2, bif_max2, bif_minl, bif_maxl, bop_add_i, bop_add_t, bop_add_l, bop_sub, bop_mul_i, bop_fdiv, bop_mod, bop_pow, aug_add, aug_sub, aug_mul, setAll, tailS, wipeT, List.set, tru_bl, tru_non, tru_int, tru_tup, if_true, if_false, Bool.false_eq_true, Bool.not_true, Bool.not_false, seqM_tup, ix_tup, len_tup, atI_0, atI_1, atI_2, atI_3, atI_4, Option.some.injEq, exists_eq_left', eq_int, cmp_lt, cmp_le, cmp_gt, cmp_ge, cmp_eq, cmp_ne, cmp_is, cmp_isn, cmp_in, cmp_nin, Option.map, is_nn, is_in, is_tn, tyn_int, tyn_str, tyn_tup, Int.cast_ofNat_Int, Int.reduceLT, Int.reduceLE, Int.reduceAdd, Int.reduceMul, Int.reduceSub, BEq.rfl, decide_true, decide_false, Int.reduceBEq, wMth]
    refine ⟨⟨a, _, rfl, lsM_lst ha⟩, _, ha, by rw [List.length_map, List.length_reverse]; have := row.len; rw [sizeLine_eq]; omega, ?_⟩
    refine ⟨r.length + 1, whL_at (fun n σ M' => ∃ (a : Addr) (t : Bw.Sp) (u : List Bw.Sp) (o3 : Option TV), n = u.length ∧ σ = [some (.tup (ss.map spT)), some (.ref a), some (spT x'), o3] ∧ M' a = some (.lst ((t :: u).reverse.map spT)) ∧ M a = none ∧ Subm M M' ∧ allOk (t :: u) ∧ push u t = push r x' ∧ sm1 (t :: u) = sm1 r + x'.1 ∧ sm2 (t :: u) = sm2 r + x'.2 ∧ (t :: u).length ≤ r.length + 1) ?_ _ r.length _ _ (Nat.lt_succ_self _) ?_⟩
    · rintro n _ M2 ⟨a, t, u, o3, rfl, rfl, ha2, na2, sub2, okt, pe, e1, e2, el⟩ K hK
      simp only [wSs, wS, wE, wEs, wO, wB, wBo, wI, wTg, gs, startT, List.map_cons, List.map_nil, List.length_cons, List.length_nil, List.cons_append, List.nil_append, List.replicate, Nat.reduceAdd, Nat.reduceSub, Nat.zero_add, exEq, wCop, wIx, wTru, bif_len, bif_abs, bif_int, bif_isi, bif_tuple, bif_list, bif_sum, bif_all, bif_any, bif_min2, bif_max2, bif_minl, bif_maxl, bop_add_i, bop_add_t, bop_add_l, bop_sub, bop_mul_i, bop_fdiv, bop_mod, bop_pow, aug_add, aug_sub, aug_mul, setAll, tailS, wipeT, List.set, tru_bl, tru_non, tru_int, tru_tup, if_true, if_false, Bool.false_eq_true, Bool.not_true, Bool.not_false, seqM_tup, ix_tup, len_tup, atI_0, atI_1, atI_2, atI_3, atI_4, Option.some.injEq, exists_eq_left', eq_int, cmp_lt, cmp_le, cmp_gt, cmp_ge, cmp_eq, cmp_ne, cmp_is, cmp_isn, cmp_in, cmp_nin, Option.map, is_nn, is_in, is_tn, tyn_int, tyn_str, tyn_tup, Int.cast_ofNat_Int, Int.reduceLT, Int.reduceLE, Int.reduceAdd, Int.reduceMul, Int.reduceSub, BEq.rfl, decide_true, decide_false, Int.reduceBEq]
      refine ⟨_, len_lst (lsM_lst ha2), ?_⟩
      cases u with
      | nil =>
        simp only [wSs, wS, wE, wEs, wO, wB, wBo, wI, wTg, gs, startT, List.map_cons, List.map_nil, List.length_cons, List.length_nil, List.cons_append, List.nil_append, List.replicate, Nat.reduceAdd, Nat.reduceSub, Nat.zero_add, exEq, wCop, wIx, wTru, bif_len, bif_abs, bif_int, bif_isi, bif_tuple, bif_list, bif_sum, bif_all, bif_any, bif_min2, bif_max2, bif_minl, bif_maxl, bop_add_i, bop_add_t, bop_add_l, bop_sub, bop_mul_i, bop_fdiv, bop_mod, bop_pow, aug_add, aug_sub, aug_mul, setAll, tailS, wipeT, List.set, tru_bl, tru_non, tru_int, tru_tup, if_true, if_false, Bool.false_eq_true, Bool.not_true, Bool.not_false, seqM_tup, ix_tup, len_tup, atI_0, atI_1, atI_2, atI_3, atI_4, Option.some.injEq, exists_eq_left', eq_int, cmp_lt, cmp_le, cmp_gt, cmp_ge, cmp_eq, cmp_ne, cmp_is, cmp_isn, cmp_in, cmp_nin, Option.map, is_nn, is_in, is_tn, tyn_int, tyn_str, tyn_tup, Int.cast_ofNat_Int, Int.reduceLT, Int.reduceLE, Int.reduceAdd, Int.reduceMul, Int.reduceSub, BEq.rfl, decide_true, decide_false, Int.reduceBEq, List.reverse_cons, List.reverse_nil]
        refine hk _ _ ⟨a, [t], rest', _, _, rfl, rfl, ha2, na2, nextD [t] pe e1 e2 el okt, sub2⟩
      | cons v u =>
        have kk : ∀ y ∈ t :: v :: u, okK y := okK_of okt (by rw [e1]; have := dr.e1; have := row.k1; have := Bw.sums_nn okr'; simp only [sm1, List.map_cons, List.sum_cons] at *; omega) (by rw [e2]; have := dr.e2; have := row.k2; have := Bw.sums_nn okr'; simp only [sm2, List.map_cons, List.sum_cons] at *; omega)
        rw [rev2] at ha2 ⊢
        have l2 : ((1 : Int) < ((u.reverse.map spT ++ [spT v, spT t]).length : Nat)) := by simp; omega
        simp only [wSs, wS, wE, wEs, wO, wB, wBo, wI, wTg, gs, startT, List.map_cons, List.map_nil, List.length_cons, List.length_nil, List.cons_append, List.nil_append, List.replicate, Nat.reduceAdd, Nat.reduceSub, Nat.zero_add, exEq, wCop, wIx, wTru, bif_len, bif_abs, bif_int, bif_isi, bif_tuple, bif_list, bif_sum, bif_all, bif_any, bif_min2, bif_max2, bif_minl, bif_maxl, bop_add_i, bop_add_t, bop_add_l, bop_sub, bop_mul_i, bop_fdiv, bop_mod, bop_pow, aug_add, aug_sub, aug_mul, setAll, tailS, wipeT, List.set, tru_bl, tru_non, tru_int, tru_tup, if_true, if_false, Bool.false_eq_true, Bool.not_true, Bool.not_false, seqM_tup, ix_tup, len_tup, atI_0, atI_1, atI_2, atI_3, atI_4, Option.some.injEq, exists_eq_left', eq_int, cmp_lt, cmp_le, cmp_gt, cmp_ge, cmp_eq, cmp_ne, cmp_is, cmp_isn, cmp_in, cmp_nin, Option.map, is_nn, is_in, is_tn, tyn_int, tyn_str, tyn_tup, Int.cast_ofNat_Int, Int.reduceLT, Int.reduceLE, Int.reduceAdd, Int.reduceMul, Int.reduceSub, BEq.rfl, decide_true, decide_false, Int.reduceBEq, decide_eq_true l2, ix_lst (lsM_lst ha2), TV.int.injEq, Int.reduceNeg, atI_m2, atI_m1b]
        refine ⟨v, t, rfl, kk v (by simp), kk t (by simp), ?_⟩
        simp only [wSs, wS, wE, wEs, wO, wB, wBo, wI, wTg, gs, startT, List.map_cons, List.map_nil, List.length_cons, List.length_nil, List.cons_append, List.nil_append, List.replicate, Nat.reduceAdd, Nat.reduceSub, Nat.zero_add, exEq, wCop, wIx, wTru, bif_len, bif_abs, bif_int, bif_isi, bif_tuple, bif_list, bif_sum, bif_all, bif_any, bif_min2, bif_max2, bif_minl, bif_maxl, bop_add_i, bop_add_t, bop_add_l, bop_sub, bop_mul_i, bop_fdiv, bop_mod, bop_pow, aug_add, aug_sub, aug_mul, setAll, tailS, wipeT, List.set, tru_bl, tru_non, tru_int, tru_tup, if_true, if_false, Bool.false_eq_true, Bool.not_true, Bool.not_false, seqM_tup, ix_tup, len_tup, atI_0, atI_1, atI_2, atI_3, atI_4, Option.some.injEq, exists_eq_left', eq_int, cmp_lt, cmp_le, cmp_gt, cmp_ge, cmp_eq, cmp_ne, cmp_is, cmp_isn, cmp_in, cmp_nin, Option.map, is_nn, is_in, is_tn, tyn_int, tyn_str, tyn_tup, Int.cast_ofNat_Int, Int.reduceLT, Int.reduceLE, Int.reduceAdd, Int.reduceMul, Int.reduceSub, BEq.rfl, decide_true, decide_false, Int.reduceBEq]
        have okv := okt v (by simp)
        have okt' := okt t (by simp)
        by_cases cb : bt v t = true
        · rw [cb]
          simp only [wSs, wS, wE, wEs, wO, wB, wBo, wI, wTg, gs, startT, List.map_cons, List.map_nil, List.length_cons, List.length_nil, List.cons_append, List.nil_append, List.replicate, Nat.reduceAdd, Nat.reduceSub, Nat.zero_add, exEq, wCop, wIx, wTru, bif_len, bif_abs, bif_int, bif_isi, bif_tuple, bif_list, bif_sum, bif_all, bif_any, bif_min2, bif_max2, bif_minl, bif_maxl, bop_add_i, bop_add_t, bop_add_l, bop_sub, bop_mul_i, bop_fdiv, bop_mod, bop_pow, aug_add, aug_sub, aug_mul, setAll, tailS, wipeT, List.set, tru_bl, tru_non, tru_int, tru_tup, if_true, if_false, Bool.false_eq_true, Bool.not_true, Bool.not_false, seqM_tup, ix_tup, len_tup, atI_0, atI_1, atI_2, atI_3, atI_4, Option.some.injEq, exists_eq_left', eq_int, cmp_lt, cmp_le, cmp_gt, cmp_ge, cmp_eq, cmp_ne, cmp_is, cmp_isn, cmp_in, cmp_nin, Option.map, is_nn, is_in, is_tn, tyn_int, tyn_str, tyn_tup, Int.cast_ofNat_Int, Int.reduceLT, Int.reduceLE, Int.reduceAdd, Int.reduceMul, Int.reduceSub, BEq.rfl, decide_true, decide_false, Int.reduceBEq]
          refine hk _ _ ⟨a, t :: v :: u, rest', _, _, rfl, rfl, by rw [rev2]; exact ha2, na2, nextD _ ?_ e1 e2 el okt, sub2⟩
          rw [← pe]
          unfold push
          rw [if_pos cb]
        · have cf : bt v t = false := by simpa using cb
          rw [cf]
          simp only [wSs, wS, wE, wEs, wO, wB, wBo, wI, wTg, gs, startT, List.map_cons, List.map_nil, List.length_cons, List.length_nil, List.cons_append, List.nil_append, List.replicate, Nat.reduceAdd, Nat.reduceSub, Nat.zero_add, exEq, wCop, wIx, wTru, bif_len, bif_abs, bif_int, bif_isi, bif_tuple, bif_list, bif_sum, bif_all, bif_any, bif_min2, bif_max2, bif_minl, bif_maxl, bop_add_i, bop_add_t, bop_add_l, bop_sub, bop_mul_i, bop_fdiv, bop_mod, bop_pow, aug_add, aug_sub, aug_mul, setAll, tailS, wipeT, List.set, tru_bl, tru_non, tru_int, tru_tup, if_true, if_false, Bool.false_eq_true, Bool.not_true, Bool.not_false, seqM_tup, ix_tup, len_tup, atI_0, atI_1, atI_2, atI_3, atI_4, Option.some.injEq, exists_eq_left', eq_int, cmp_lt, cmp_le, cmp_gt, cmp_ge, cmp_eq, cmp_ne, cmp_is, cmp_isn, cmp_in, cmp_nin, Option.map, is_nn, is_in, is_tn, tyn_int, tyn_str, tyn_tup, Int.cast_ofNat_Int, Int.reduceLT, Int.reduceLE, Int.reduceAdd, Int.reduceMul, Int.reduceSub, BEq.rfl, decide_true, decide_false, Int.reduceBEq, wMth]
          have hd : (u.reverse.map spT ++ [spT v, spT t]).dropLast = u.reverse.map spT ++ [spT v] := by
            rw [show u.reverse.map spT ++ [spT v, spT t] = (u.reverse.map spT ++ [spT v]) ++ [spT t] by simp, List.dropLast_concat]
          refine ⟨⟨a, _, rfl, lsM_lst ha2⟩, _, spT t, ha2, by simp, ?_⟩
          rw [hd]
          simp only [wSs, wS, wE, wEs, wO, wB, wBo, wI, wTg, gs, startT, List.map_cons, List.map_nil, List.length_cons, List.length_nil, List.cons_append, List.nil_append, List.replicate, Nat.reduceAdd, Nat.reduceSub, Nat.zero_add, exEq, wCop, wIx, wTru, bif_len, bif_abs, bif_int, bif_isi, bif_tuple, bif_list, bif_sum, bif_all, bif_any, bif_min2, bif_max2, bif_minl, bif_maxl, bop_add_i, bop_add_t, bop_add_l, bop_sub, bop_mul_i, bop_fdiv, bop_mod, bop_pow, aug_add, aug_sub, aug_mul, setAll, tailS, wipeT, List.set, tru_bl, tru_non, tru_int, tru_tup, if_true, if_false, Bool.false_eq_true, Bool.not_true, Bool.not_false, seqM_tup, ix_tup, len_tup, atI_0, atI_1, atI_2, atI_3, atI_4, Option.some.injEq, exists_eq_left', eq_int, cmp_lt, cmp_le, cmp_gt, cmp_ge, cmp_eq, cmp_ne, cmp_is, cmp_isn, cmp_in, cmp_nin, Option.map, is_nn, is_in, is_tn, tyn_int, tyn_str, tyn_tup, Int.cast_ofNat_Int, Int.reduceLT, Int.reduceLE, Int.reduceAdd, Int.reduceMul, Int.reduceSub, BEq.rfl, decide_true, decide_false, Int.reduceBEq, ix_lst lsM_upd, TV.int.injEq, Int.reduceNeg, atI_m1, spT]
          refine ⟨_, u.length, updM_same, ?_, ?_⟩
          · unfold ixN
            simp
            omega
          rw [updM_updM]
          have hset : (u.reverse.map spT ++ [TV.tup [TV.int v.fst, TV.int v.snd]]).set u.length (TV.tup [TV.int (v.fst + t.fst), TV.int (v.snd + t.snd)]) = u.reverse.map spT ++ [TV.tup [TV.int (v.fst + t.fst), TV.int (v.snd + t.snd)]] := by
            have : u.length = (u.reverse.map spT).length := by simp
            rw [this, List.set_append_right _ _ (Nat.le_refl _), Nat.sub_self]
            rfl
          rw [hset]
          refine hK u.length _ _ (by simp) ⟨a, Bw.add v t, u, _, rfl, rfl, ?_, na2, sub2.over na2, ?_, ?_, ?_, ?_, ?_⟩
          · rw [updM_same, rev1]
            rfl
          · exact fun y hy => (List.mem_cons.mp hy).elim (fun e => by rw [e]; exact Bw.ok_add okv okt') fun hy => okt y (by simp [hy])
          · have e : push (v :: u) t = push u (Bw.add v t) := by
              conv => lhs; unfold push
              rw [if_neg cb]
            rw [← e, pe]
          · rw [← e1]
            simp only [sm1, List.map_cons, List.sum_cons, Bw.add]
            omega
          · rw [← e2]
            simp only [sm2, List.map_cons, List.sum_cons, Bw.add]
            omega
          · simp only [List.length_cons] at el ⊢
            omega
    · refine ⟨a, x', r, _, rfl, rfl, ?_, na, ?_, ?_, rfl, ?_, ?_, ?_⟩
      · rw [updM_same, rev1]
      · exact sub.over na
      · exact fun y hy => (List.mem_cons.mp hy).elim (fun e => by rw [e]; exact okx) (dr.okr y)
      · simp [sm1]; omega
      · simp [sm2]; omega
      · exact Nat.le_refl _
  · rintro _ _ M1 ⟨a, r, rest', o2, o3, e, rfl, ha, na, dr, sub⟩
    cases rest' with
    | cons _ _ => cases e
    | nil =>
    simp only [wSs, wS, wE, wEs, wO, wB, wBo, wI, wTg, gs, startT, List.map_cons, List.map_nil, List.length_cons, List.length_nil, List.cons_append, List.nil_append, List.replicate, Nat.reduceAdd, Nat.reduceSub, Nat.zero_add, exEq, wCop, wIx, wTru, bif_len, bif_abs, bif_int, bif_isi, bif_tuple, bif_list, bif_sum, bif_all, bif_any, bif_min2, bif_max2, bif_minl, bif_maxl, bop_add_i, bop_add_t, bop_add_l, bop_sub, bop_mul_i, bop_fdiv, bop_mod, bop_pow, aug_add, aug_sub, aug_mul, setAll, tailS, wipeT, List.set, tru_bl, tru_non, tru_int, tru_tup, if_true, if_false, Bool.false_eq_true, Bool.not_true, Bool.not_false, seqM_tup, ix_tup, len_tup, atI_0, atI_1, atI_2, atI_3, atI_4, Option.some.injEq, exists_eq_left', eq_int, cmp_lt, cmp_le, cmp_gt, cmp_ge, cmp_eq, cmp_ne, cmp_is, cmp_isn, cmp_in, cmp_nin, Option.map, is_nn, is_in, is_tn, tyn_int, tyn_str, tyn_tup, Int.cast_ofNat_Int, Int.reduceLT, Int.reduceLE, Int.reduceAdd, Int.reduceMul, Int.reduceSub, BEq.rfl, decide_true, decide_false, Int.reduceBEq]
    refine ⟨_, lsM_lst ha, rtF sub ?_⟩
    have := dr.res
    simp only [List.foldl_nil] at this
    rw [this]
    exact q
theorem h__law_tight {G : Gx} (F : Facts G) : HeldT G 2 (adr G "_law_tight") s_drawn_in :=
  F.d__law_tight.held (k := 1) sc__law_tight ck__law_tight (ok__law_tight F (h__law_is_better F)) nF (fun xs M Q R ⟨x, e, _⟩ => by rw [e]; rfl) v__law_tight
/-- no number of times -/
def badN (M : TM) (x : TV) : Prop := knM M x ∧ ∀ i, x = .int i → ¬ (1 ≤ i ∧ i ≤ 1000000000000000000000000000000)
end TL

namespace TL
open PySem PySem.Spec PyProof.Rows L2
/-! X11C: what is a bow. -/
open TL.Bw (Bow bt hull allOk sm1 sm2 push Fall FallR Fit)
structure Okb (x : Bow) : Prop where
  fit : Fit x 1000
  k1 : sm1 x.s ≤ KB
  k2 : sm2 x.s ≤ KB
theorem Okb.row {x : Bow} (h : Okb x) : Row x.s := ⟨h.fit.good.ok, h.k1, h.k2, Nat.le_trans h.fit.len (by decide)⟩
/-- each step better than the next -/
def adjL : List Bw.Sp → List Bool
  | a :: b :: r => bt a b :: adjL (b :: r)
  | _ => []
theorem adj_fall : ∀ {s : List Bw.Sp}, Fall s → (adjL s).all id = true
  | [], _ => rfl
  | [a], _ => rfl
  | a :: b :: r, h => by
    simp only [adjL, List.all_cons, id, Bool.and_eq_true]
    exact ⟨h.1, adj_fall h.2⟩
def twoT : TV → TV
  | .tup [.tup [.int p, .int w], .tup [.int q, .int v]] => .bl (bt (p, w) (q, v))
  | x => x
theorem zip_adj : ∀ {a : Bw.Sp} {s : List Bw.Sp}, (zipT (spT a :: s.map spT) (s.map spT)).map twoT = (adjL (a :: s)).map .bl
  | a, [] => rfl
  | a, b :: s => by
    simp only [List.map_cons, zipT, adjL, twoT, spT]
    exact congrArg _ (zip_adj (a := b) (s := s))
theorem zip_mem : ∀ {a : Bw.Sp} {s : List Bw.Sp} {x : TV}, x ∈ zipT (spT a :: s.map spT) (s.map spT) → (∀ y ∈ a :: s, okK y) → ∃ u v, x = .tup [spT u, spT v] ∧ okK u ∧ okK v
  | a, [], x, h, _ => by cases h
  | a, b :: s, x, h, k => by
    simp only [List.map_cons, zipT] at h
    rcases List.mem_cons.mp h with e | h
    · exact ⟨a, b, e, k a (by simp), k b (by simp)⟩
    · exact zip_mem h fun y hy => k y (List.mem_cons_of_mem _ hy)
/-- what has no bow's form -/
def noBw (M : TM) (x : TV) : Prop := knM M x ∧ ∀ a b, x = .tup [a, b] → knM M a ∧ wfS M b ∧ (amtT a = false ∨ stpsT b = false)
/-- steps that are, in a row -/
structure Stp (s : List Bw.Sp) : Prop where
  ok : ∀ a ∈ s, okK a
  ne : s ≠ []
  len : s.length ≤ 1000
theorem spT_step {a : Bw.Sp} (h : Bw.ok a) : stepT (spT a) = true := by
  obtain ⟨h1, h2, h3⟩ := h
  simp only [spT, stepT, decide_eq_true h1, decide_eq_true h2, Bool.and_self, Bool.true_and, Bool.not_eq_true', Bool.and_eq_false_iff, beq_eq_false_iff_ne]
  by_cases z : a.1 = 0
  · exact .inr fun z2 => h3 ⟨z, z2⟩
  · exact .inl z
theorem Stp.ok' {s : List Bw.Sp} (h : Stp s) : stpsT (stT s) = true := by
  have l := h.len
  have n : 1 ≤ s.length := by cases s with | nil => exact absurd rfl h.ne | cons _ _ => simp
  simp only [stT, stpsT, List.length_map, decide_eq_true n, decide_eq_true l, Bool.true_and, List.all_map, List.all_eq_true]
  intro a ha
  exact spT_step (h.ok a ha).1
theorem wfS_st {M : TM} (s : List Bw.Sp) : wfS M (stT s) := ⟨rfl, fun L e z hz => by
  cases e
  obtain ⟨a, _, rfl⟩ := List.mem_map.mp hz
  exact ⟨rfl, fun u v e => by cases e; exact ⟨rfl, rfl⟩⟩⟩
def s_is_bow : TSp := fun xs M Q _ => ∃ x, xs = [x] ∧ ((∃ c s, x = .tup [.int c, stT s] ∧ 0 ≤ c ∧ Stp s ∧ Q (.bl ((adjL s).all id)) M) ∨ (noBw M x ∧ Q (.bl false) M))
theorem v_is_bow {G : Gx} : ∀ xs M Q R, s_is_bow xs M Q R → wSs noF (b_is_bow G s_is_better s_is_steps s_is_amount) (endsT Q R) (startT n_is_bow xs) M := by
  rintro xs M Q R ⟨x, rfl, ⟨c, s, rfl, c0, hs, q⟩ | ⟨⟨k, kp⟩, q⟩⟩
  · unfold b_is_bow
    simp only [wSs, wS, wE, wEs, wO, wB, wBo, wI, wTg, gs, startT, List.map_cons, List.map_nil, List.length_cons, List.length_nil, List.cons_append, List.nil_append, List.replicate, Nat.reduceAdd, Nat.reduceSub, Nat.zero_add, exEq, wCop, wIx, wTru, bif_len, bif_abs, bif_int, bif_isi, bif_tuple, bif_list, bif_sum, bif_all, bif_any, bif_min2, bif_max2, bif_minl, bif_maxl, bop_add_i, bop_add_t, bop_add_l, bop_sub, bop_mul_i, bop_fdiv, bop_mod, bop_pow, aug_add, aug_sub, aug_mul, setAll, tailS, wipeT, List.set, tru_bl, tru_non, tru_int, tru_tup, if_true, if_false, Bool.false_eq_true, Bool.not_true, Bool.not_false, seqM_tup, ix_tup, len_tup, atI_0, atI_1, atI_2, atI_3, atI_4, Option.some.injEq, exists_eq_left', eq_int, cmp_lt, cmp_le, cmp_gt, cmp_ge, cmp_eq, cmp_ne, cmp_is, cmp_isn, cmp_in, cmp_nin, Option.map, is_nn, is_in, is_tn, tyn_int, tyn_str, tyn_tup, Int.cast_ofNat_Int, Int.reduceLT, Int.reduceLE, Int.reduceAdd, Int.reduceMul, Int.reduceSub, BEq.rfl, decide_true, decide_false, Int.reduceBEq, isi_tup, kit_tuple_tuple]
    refine ⟨_, rfl, rfl, ?_⟩
    simp only [wSs, wS, wE, wEs, wO, wB, wBo, wI, wTg, gs, startT, List.map_cons, List.map_nil, List.length_cons, List.length_nil, List.cons_append, List.nil_append, List.replicate, Nat.reduceAdd, Nat.reduceSub, Nat.zero_add, exEq, wCop, wIx, wTru, bif_len, bif_abs, bif_int, bif_isi, bif_tuple, bif_list, bif_sum, bif_all, bif_any, bif_min2, bif_max2, bif_minl, bif_maxl, bop_add_i, bop_add_t, bop_add_l, bop_sub, bop_mul_i, bop_fdiv, bop_mod, bop_pow, aug_add, aug_sub, aug_mul, setAll, tailS, wipeT, List.set, tru_bl, tru_non, tru_int, tru_tup, if_true, if_false, Bool.false_eq_true, Bool.not_true, Bool.not_false, seqM_tup, ix_tup, len_tup, atI_0, atI_1, atI_2, atI_3, atI_4, Option.some.injEq, exists_eq_left', eq_int, cmp_lt, cmp_le, cmp_gt, cmp_ge, cmp_eq, cmp_ne, cmp_is, cmp_isn, cmp_in, cmp_nin, Option.map, is_nn, is_in, is_tn, tyn_int, tyn_str, tyn_tup, Int.cast_ofNat_Int, Int.reduceLT, Int.reduceLE, Int.reduceAdd, Int.reduceMul, Int.reduceSub, BEq.rfl, decide_true, decide_false, Int.reduceBEq, amtT, decide_eq_true c0]
    refine ⟨_, rfl, wfS_st s, ?_⟩
    rw [hs.ok']
    simp only [wSs, wS, wE, wEs, wO, wB, wBo, wI, wTg, gs, startT, List.map_cons, List.map_nil, List.length_cons, List.length_nil, List.cons_append, List.nil_append, List.replicate, Nat.reduceAdd, Nat.reduceSub, Nat.zero_add, exEq, wCop, wIx, wTru, bif_len, bif_abs, bif_int, bif_isi, bif_tuple, bif_list, bif_sum, bif_all, bif_any, bif_min2, bif_max2, bif_minl, bif_maxl, bop_add_i, bop_add_t, bop_add_l, bop_sub, bop_mul_i, bop_fdiv, bop_mod, bop_pow, aug_add, aug_sub, aug_mul, setAll, tailS, wipeT, List.set, tru_bl, tru_non, tru_int, tru_tup, if_true, if_false, Bool.false_eq_true, Bool.not_true, Bool.not_false, seqM_tup, ix_tup, len_tup, atI_0, atI_1, atI_2, atI_3, atI_4, Option.some.injEq, exists_eq_left', eq_int, cmp_lt, cmp_le, cmp_gt, cmp_ge, cmp_eq, cmp_ne, cmp_is, cmp_isn, cmp_in, cmp_nin, Option.map, is_nn, is_in, is_tn, tyn_int, tyn_str, tyn_tup, Int.cast_ofNat_Int, Int.reduceLT, Int.reduceLE, Int.reduceAdd, Int.reduceMul, Int.reduceSub, BEq.rfl, decide_true, decide_false, Int.reduceBEq]
    have kk := hs.ok
    have ne := hs.ne
    cases s with
    | nil => exact absurd rfl ne
    | cons a s =>
    have cut1 : cutT (spT a :: s.map spT) (some 1) none = s.map spT := by
      have e : HT.sIx (spT a :: s.map spT).length 0 (some 1) = 1 := by
        rw [show (1 : Int) = ((1 : Nat) : Int) from rfl, HT.sIx_nat]
        simp
      unfold cutT
      rw [e, HT.sIx_none]
      simp only [List.drop_succ_cons, List.drop_zero, List.length_cons, Nat.add_sub_cancel, List.length_map]
      exact List.take_of_length_le (by simp)
    simp only [wSs, wS, wE, wEs, wO, wB, wBo, wI, wTg, gs, startT, List.map_cons, List.map_nil, List.length_cons, List.length_nil, List.cons_append, List.nil_append, List.replicate, Nat.reduceAdd, Nat.reduceSub, Nat.zero_add, exEq, wCop, wIx, wTru, bif_len, bif_abs, bif_int, bif_isi, bif_tuple, bif_list, bif_sum, bif_all, bif_any, bif_min2, bif_max2, bif_minl, bif_maxl, bop_add_i, bop_add_t, bop_add_l, bop_sub, bop_mul_i, bop_fdiv, bop_mod, bop_pow, aug_add, aug_sub, aug_mul, setAll, tailS, wipeT, List.set, tru_bl, tru_non, tru_int, tru_tup, if_true, if_false, Bool.false_eq_true, Bool.not_true, Bool.not_false, seqM_tup, ix_tup, len_tup, atI_0, atI_1, atI_2, atI_3, atI_4, Option.some.injEq, exists_eq_left', eq_int, cmp_lt, cmp_le, cmp_gt, cmp_ge, cmp_eq, cmp_ne, cmp_is, cmp_isn, cmp_in, cmp_nin, Option.map, is_nn, is_in, is_tn, tyn_int, tyn_str, tyn_tup, Int.cast_ofNat_Int, Int.reduceLT, Int.reduceLE, Int.reduceAdd, Int.reduceMul, Int.reduceSub, BEq.rfl, decide_true, decide_false, Int.reduceBEq, stT, wSl, cut1, TV.int.injEq]
    refine ⟨_, _, rfl, rfl, rfl, lcL_map twoT (.refl _) (fun _ _ => ⟨trivial, trivial⟩) ?_ ?_⟩
    · intro x hx acc M2 k s2 hk
      obtain ⟨u, v, rfl, ku, kv⟩ := zip_mem hx kk
      simp only [wSs, wS, wE, wEs, wO, wB, wBo, wI, wTg, gs, startT, List.map_cons, List.map_nil, List.length_cons, List.length_nil, List.cons_append, List.nil_append, List.replicate, Nat.reduceAdd, Nat.reduceSub, Nat.zero_add, exEq, wCop, wIx, wTru, bif_len, bif_abs, bif_int, bif_isi, bif_tuple, bif_list, bif_sum, bif_all, bif_any, bif_min2, bif_max2, bif_minl, bif_maxl, bop_add_i, bop_add_t, bop_add_l, bop_sub, bop_mul_i, bop_fdiv, bop_mod, bop_pow, aug_add, aug_sub, aug_mul, setAll, tailS, wipeT, List.set, tru_bl, tru_non, tru_int, tru_tup, if_true, if_false, Bool.false_eq_true, Bool.not_true, Bool.not_false, seqM_tup, ix_tup, len_tup, atI_0, atI_1, atI_2, atI_3, atI_4, Option.some.injEq, exists_eq_left', eq_int, cmp_lt, cmp_le, cmp_gt, cmp_ge, cmp_eq, cmp_ne, cmp_is, cmp_isn, cmp_in, cmp_nin, Option.map, is_nn, is_in, is_tn, tyn_int, tyn_str, tyn_tup, Int.cast_ofNat_Int, Int.reduceLT, Int.reduceLE, Int.reduceAdd, Int.reduceMul, Int.reduceSub, BEq.rfl, decide_true, decide_false, Int.reduceBEq]
      exact ⟨trivial, u, v, rfl, ku, kv, hk _ (.refl _)⟩
    · intro M2 s2 p hp
      rw [List.nil_append, zip_adj]
      exact ⟨_, _, lsM_upd, allB_of id _ (fun _ => rfl) _, rtF (s2.new hp) (by simpa only [List.map_id] using q)⟩
  · unfold b_is_bow
    rcases tyn_cases k with ⟨L, rfl⟩ | ⟨n, hn, hk, hx⟩
    · simp only [wSs, wS, wE, wEs, wO, wB, wBo, wI, wTg, gs, startT, List.map_cons, List.map_nil, List.length_cons, List.length_nil, List.cons_append, List.nil_append, List.replicate, Nat.reduceAdd, Nat.reduceSub, Nat.zero_add, exEq, wCop, wIx, wTru, bif_len, bif_abs, bif_int, bif_isi, bif_tuple, bif_list, bif_sum, bif_all, bif_any, bif_min2, bif_max2, bif_minl, bif_maxl, bop_add_i, bop_add_t, bop_add_l, bop_sub, bop_mul_i, bop_fdiv, bop_mod, bop_pow, aug_add, aug_sub, aug_mul, setAll, tailS, wipeT, List.set, tru_bl, tru_non, tru_int, tru_tup, if_true, if_false, Bool.false_eq_true, Bool.not_true, Bool.not_false, seqM_tup, ix_tup, len_tup, atI_0, atI_1, atI_2, atI_3, atI_4, Option.some.injEq, exists_eq_left', eq_int, cmp_lt, cmp_le, cmp_gt, cmp_ge, cmp_eq, cmp_ne, cmp_is, cmp_isn, cmp_in, cmp_nin, Option.map, is_nn, is_in, is_tn, tyn_int, tyn_str, tyn_tup, Int.cast_ofNat_Int, Int.reduceLT, Int.reduceLE, Int.reduceAdd, Int.reduceMul, Int.reduceSub, BEq.rfl, decide_true, decide_false, Int.reduceBEq, isi_tup, kit_tuple_tuple]
      cases c : (((L.length : Nat) : Int) == 2) with
      | false =>
        simp only [wSs, wS, wE, wEs, wO, wB, wBo, wI, wTg, gs, startT, List.map_cons, List.map_nil, List.length_cons, List.length_nil, List.cons_append, List.nil_append, List.replicate, Nat.reduceAdd, Nat.reduceSub, Nat.zero_add, exEq, wCop, wIx, wTru, bif_len, bif_abs, bif_int, bif_isi, bif_tuple, bif_list, bif_sum, bif_all, bif_any, bif_min2, bif_max2, bif_minl, bif_maxl, bop_add_i, bop_add_t, bop_add_l, bop_sub, bop_mul_i, bop_fdiv, bop_mod, bop_pow, aug_add, aug_sub, aug_mul, setAll, tailS, wipeT, List.set, tru_bl, tru_non, tru_int, tru_tup, if_true, if_false, Bool.false_eq_true, Bool.not_true, Bool.not_false, seqM_tup, ix_tup, len_tup, atI_0, atI_1, atI_2, atI_3, atI_4, Option.some.injEq, exists_eq_left', eq_int, cmp_lt, cmp_le, cmp_gt, cmp_ge, cmp_eq, cmp_ne, cmp_is, cmp_isn, cmp_in, cmp_nin, Option.map, is_nn, is_in, is_tn, tyn_int, tyn_str, tyn_tup, Int.cast_ofNat_Int, Int.reduceLT, Int.reduceLE, Int.reduceAdd, Int.reduceMul, Int.reduceSub, BEq.rfl, decide_true, decide_false, Int.reduceBEq]
        exact rtF (.refl _) q
      | true =>
        obtain ⟨u, v, rfl⟩ := len_two c
        obtain ⟨ku, kv, h⟩ := kp u v rfl
        simp only [wSs, wS, wE, wEs, wO, wB, wBo, wI, wTg, gs, startT, List.map_cons, List.map_nil, List.length_cons, List.length_nil, List.cons_append, List.nil_append, List.replicate, Nat.reduceAdd, Nat.reduceSub, Nat.zero_add, exEq, wCop, wIx, wTru, bif_len, bif_abs, bif_int, bif_isi, bif_tuple, bif_list, bif_sum, bif_all, bif_any, bif_min2, bif_max2, bif_minl, bif_maxl, bop_add_i, bop_add_t, bop_add_l, bop_sub, bop_mul_i, bop_fdiv, bop_mod, bop_pow, aug_add, aug_sub, aug_mul, setAll, tailS, wipeT, List.set, tru_bl, tru_non, tru_int, tru_tup, if_true, if_false, Bool.false_eq_true, Bool.not_true, Bool.not_false, seqM_tup, ix_tup, len_tup, atI_0, atI_1, atI_2, atI_3, atI_4, Option.some.injEq, exists_eq_left', eq_int, cmp_lt, cmp_le, cmp_gt, cmp_ge, cmp_eq, cmp_ne, cmp_is, cmp_isn, cmp_in, cmp_nin, Option.map, is_nn, is_in, is_tn, tyn_int, tyn_str, tyn_tup, Int.cast_ofNat_Int, Int.reduceLT, Int.reduceLE, Int.reduceAdd, Int.reduceMul, Int.reduceSub, BEq.rfl, decide_true, decide_false, Int.reduceBEq]
        refine ⟨_, rfl, ku, ?_⟩
        cases ha : amtT u with
        | false =>
          simp only [wSs, wS, wE, wEs, wO, wB, wBo, wI, wTg, gs, startT, List.map_cons, List.map_nil, List.length_cons, List.length_nil, List.cons_append, List.nil_append, List.replicate, Nat.reduceAdd, Nat.reduceSub, Nat.zero_add, exEq, wCop, wIx, wTru, bif_len, bif_abs, bif_int, bif_isi, bif_tuple, bif_list, bif_sum, bif_all, bif_any, bif_min2, bif_max2, bif_minl, bif_maxl, bop_add_i, bop_add_t, bop_add_l, bop_sub, bop_mul_i, bop_fdiv, bop_mod, bop_pow, aug_add, aug_sub, aug_mul, setAll, tailS, wipeT, List.set, tru_bl, tru_non, tru_int, tru_tup, if_true, if_false, Bool.false_eq_true, Bool.not_true, Bool.not_false, seqM_tup, ix_tup, len_tup, atI_0, atI_1, atI_2, atI_3, atI_4, Option.some.injEq, exists_eq_left', eq_int, cmp_lt, cmp_le, cmp_gt, cmp_ge, cmp_eq, cmp_ne, cmp_is, cmp_isn, cmp_in, cmp_nin, Option.map, is_nn, is_in, is_tn, tyn_int, tyn_str, tyn_tup, Int.cast_ofNat_Int, Int.reduceLT, Int.reduceLE, Int.reduceAdd, Int.reduceMul, Int.reduceSub, BEq.rfl, decide_true, decide_false, Int.reduceBEq]
          exact rtF (.refl _) q
        | true =>
          simp only [wSs, wS, wE, wEs, wO, wB, wBo, wI, wTg, gs, startT, List.map_cons, List.map_nil, List.length_cons, List.length_nil, List.cons_append, List.nil_append, List.replicate, Nat.reduceAdd, Nat.reduceSub, Nat.zero_add, exEq, wCop, wIx, wTru, bif_len, bif_abs, bif_int, bif_isi, bif_tuple, bif_list, bif_sum, bif_all, bif_any, bif_min2, bif_max2, bif_minl, bif_maxl, bop_add_i, bop_add_t, bop_add_l, bop_sub, bop_mul_i, bop_fdiv, bop_mod, bop_pow, aug_add, aug_sub, aug_mul, setAll, tailS, wipeT, List.set, tru_bl, tru_non, tru_int, tru_tup, if_true, if_false, Bool.false_eq_true, Bool.not_true, Bool.not_false, seqM_tup, ix_tup, len_tup, atI_0, atI_1, atI_2, atI_3, atI_4, Option.some.injEq, exists_eq_left', eq_int, cmp_lt, cmp_le, cmp_gt, cmp_ge, cmp_eq, cmp_ne, cmp_is, cmp_isn, cmp_in, cmp_nin, Option.map, is_nn, is_in, is_tn, tyn_int, tyn_str, tyn_tup, Int.cast_ofNat_Int, Int.reduceLT, Int.reduceLE, Int.reduceAdd, Int.reduceMul, Int.reduceSub, BEq.rfl, decide_true, decide_false, Int.reduceBEq]
          refine ⟨_, rfl, kv, ?_⟩
          rw [ha] at h
          rw [h.resolve_left (by simp)]
          simp only [wSs, wS, wE, wEs, wO, wB, wBo, wI, wTg, gs, startT, List.map_cons, List.map_nil, List.length_cons, List.length_nil, List.cons_append, List.nil_append, List.replicate, Nat.reduceAdd, Nat.reduceSub, Nat.zero_add, exEq, wCop, wIx, wTru, bif_len, bif_abs, bif_int, bif_isi, bif_tuple, bif_list, bif_sum, bif_all, bif_any, bif_min2, bif_max2, bif_minl, bif_maxl, bop_add_i, bop_add_t, bop_add_l, bop_sub, bop_mul_i, bop_fdiv, bop_mod, bop_pow, aug_add, aug_sub, aug_mul, setAll, tailS, wipeT, List.set, tru_bl, tru_non, tru_int, tru_tup, if_true, if_false, Bool.false_eq_true, Bool.not_true, Bool.not_false, seqM_tup, ix_tup, len_tup, atI_0, atI_1, atI_2, atI_3, atI_4, Option.some.injEq, exists_eq_left', eq_int, cmp_lt, cmp_le, cmp_gt, cmp_ge, cmp_eq, cmp_ne, cmp_is, cmp_isn, cmp_in, cmp_nin, Option.map, is_nn, is_in, is_tn, tyn_int, tyn_str, tyn_tup, Int.cast_ofNat_Int, Int.reduceLT, Int.reduceLE, Int.reduceAdd, Int.reduceMul, Int.reduceSub, BEq.rfl, decide_true, decide_false, Int.reduceBEq]
          exact rtF (.refl _) q
    · simp only [wSs, wS, wE, wEs, wO, wB, wBo, wI, wTg, gs, startT, List.map_cons, List.map_nil, List.length_cons, List.length_nil, List.cons_append, List.nil_append, List.replicate, Nat.reduceAdd, Nat.reduceSub, Nat.zero_add, exEq, wCop, wIx, wTru, bif_len, bif_abs, bif_int, bif_isi, bif_tuple, bif_list, bif_sum, bif_all, bif_any, bif_min2, bif_max2, bif_minl, bif_maxl, bop_add_i, bop_add_t, bop_add_l, bop_sub, bop_mul_i, bop_fdiv, bop_mod, bop_pow, aug_add, aug_sub, aug_mul, setAll, tailS, wipeT, List.set, tru_bl, tru_non, tru_int, tru_tup, if_true, if_false, Bool.false_eq_true, Bool.not_true, Bool.not_false, seqM_tup, ix_tup, len_tup, atI_0, atI_1, atI_2, atI_3, atI_4, Option.some.injEq, exists_eq_left', eq_int, cmp_lt, cmp_le, cmp_gt, cmp_ge, cmp_eq, cmp_ne, cmp_is, cmp_isn, cmp_in, cmp_nin, Option.map, is_nn, is_in, is_tn, tyn_int, tyn_str, tyn_tup, Int.cast_ofNat_Int, Int.reduceLT, Int.reduceLE, Int.reduceAdd, Int.reduceMul, Int.reduceSub, BEq.rfl, decide_true, decide_false, Int.reduceBEq, isi_ty hn, hk]
      exact rtF (.refl _) q
theorem h_is_bow {G : Gx} (F : Facts G) : HeldT G 5 (adr G "is_bow") s_is_bow :=
  F.d_is_bow.held (k := 4) sc_is_bow ck_is_bow (ok_is_bow F ((h_is_better F).mono (by decide)) (h_is_steps F) ((h_is_amount F).mono (by decide))) nF (fun xs M Q R ⟨x, e, _⟩ => by rw [e]; rfl) v_is_bow
/-- what is no bow -/
def badB (M : TM) (x : TV) : Prop := noBw M x ∨ ∃ c s, x = .tup [.int c, stT s] ∧ 0 ≤ c ∧ Stp s ∧ (adjL s).all id = false
def s_check_bow (G : Gx) : TSp := fun xs M Q R => ∃ x, xs = [x] ∧ ((∃ X, x = bwT X ∧ Okb X ∧ Q .non M) ∨ (badB M x ∧ R ⟨.ref (adr G "BadBow"), []⟩ M))
theorem Okb.stp {x : Bow} (h : Okb x) : Stp x.s := ⟨okK_of h.fit.good.ok h.k1 h.k2, h.fit.ne, h.fit.len⟩
theorem v_check_bow {G : Gx} : ∀ xs M Q R, s_check_bow G xs M Q R → wSs noF (b_check_bow G s_is_bow) (endsT Q R) (startT n_check_bow xs) M := by
  rintro xs M Q R ⟨x, rfl, ⟨X, rfl, ok, q⟩ | ⟨h | ⟨c, s, rfl, c0, hs, e⟩, q⟩⟩
  · unfold b_check_bow
    simp only [wSs, wS, wE, wEs, wO, wB, wBo, wI, wTg, gs, startT, List.map_cons, List.map_nil, List.length_cons, List.length_nil, List.cons_append, List.nil_append, List.replicate, Nat.reduceAdd, Nat.reduceSub, Nat.zero_add, exEq, wCop, wIx, wTru, bif_len, bif_abs, bif_int, bif_isi, bif_tuple, bif_list, bif_sum, bif_all, bif_any, bif_min2, bif_max2, bif_minl, bif_maxl, bop_add_i, bop_add_t, bop_add_l, bop_sub, bop_mul_i, bop_fdiv, bop_mod, bop_pow, aug_add, aug_sub, aug_mul, setAll, tailS, wipeT, List.set, tru_bl, tru_non, tru_int, tru_tup, if_true, if_false, Bool.false_eq_true, Bool.not_true, Bool.not_false, seqM_tup, ix_tup, len_tup, atI_0, atI_1, atI_2, atI_3, atI_4, Option.some.injEq, exists_eq_left', eq_int, cmp_lt, cmp_le, cmp_gt, cmp_ge, cmp_eq, cmp_ne, cmp_is, cmp_isn, cmp_in, cmp_nin, Option.map, is_nn, is_in, is_tn, tyn_int, tyn_str, tyn_tup, Int.cast_ofNat_Int, Int.reduceLT, Int.reduceLE, Int.reduceAdd, Int.reduceMul, Int.reduceSub, BEq.rfl, decide_true, decide_false, Int.reduceBEq]
    refine ⟨_, rfl, .inl ⟨X.c, X.s, rfl, ok.fit.c0, ok.stp, ?_⟩⟩
    rw [adj_fall ok.fit.good.fall]
    simp only [wSs, wS, wE, wEs, wO, wB, wBo, wI, wTg, gs, startT, List.map_cons, List.map_nil, List.length_cons, List.length_nil, List.cons_append, List.nil_append, List.replicate, Nat.reduceAdd, Nat.reduceSub, Nat.zero_add, exEq, wCop, wIx, wTru, bif_len, bif_abs, bif_int, bif_isi, bif_tuple, bif_list, bif_sum, bif_all, bif_any, bif_min2, bif_max2, bif_minl, bif_maxl, bop_add_i, bop_add_t, bop_add_l, bop_sub, bop_mul_i, bop_fdiv, bop_mod, bop_pow, aug_add, aug_sub, aug_mul, setAll, tailS, wipeT, List.set, tru_bl, tru_non, tru_int, tru_tup, if_true, if_false, Bool.false_eq_true, Bool.not_true, Bool.not_false, seqM_tup, ix_tup, len_tup, atI_0, atI_1, atI_2, atI_3, atI_4, Option.some.injEq, exists_eq_left', eq_int, cmp_lt, cmp_le, cmp_gt, cmp_ge, cmp_eq, cmp_ne, cmp_is, cmp_isn, cmp_in, cmp_nin, Option.map, is_nn, is_in, is_tn, tyn_int, tyn_str, tyn_tup, Int.cast_ofNat_Int, Int.reduceLT, Int.reduceLE, Int.reduceAdd, Int.reduceMul, Int.reduceSub, BEq.rfl, decide_true, decide_false, Int.reduceBEq]
    exact nxF (.refl _) q
  · unfold b_check_bow
    simp only [wSs, wS, wE, wEs, wO, wB, wBo, wI, wTg, gs, startT, List.map_cons, List.map_nil, List.length_cons, List.length_nil, List.cons_append, List.nil_append, List.replicate, Nat.reduceAdd, Nat.reduceSub, Nat.zero_add, exEq, wCop, wIx, wTru, bif_len, bif_abs, bif_int, bif_isi, bif_tuple, bif_list, bif_sum, bif_all, bif_any, bif_min2, bif_max2, bif_minl, bif_maxl, bop_add_i, bop_add_t, bop_add_l, bop_sub, bop_mul_i, bop_fdiv, bop_mod, bop_pow, aug_add, aug_sub, aug_mul, setAll, tailS, wipeT, List.set, tru_bl, tru_non, tru_int, tru_tup, if_true, if_false, Bool.false_eq_true, Bool.not_true, Bool.not_false, seqM_tup, ix_tup, len_tup, atI_0, atI_1, atI_2, atI_3, atI_4, Option.some.injEq, exists_eq_left', eq_int, cmp_lt, cmp_le, cmp_gt, cmp_ge, cmp_eq, cmp_ne, cmp_is, cmp_isn, cmp_in, cmp_nin, Option.map, is_nn, is_in, is_tn, tyn_int, tyn_str, tyn_tup, Int.cast_ofNat_Int, Int.reduceLT, Int.reduceLE, Int.reduceAdd, Int.reduceMul, Int.reduceSub, BEq.rfl, decide_true, decide_false, Int.reduceBEq]
    refine ⟨_, rfl, .inr ⟨h, ?_⟩⟩
    simp only [wSs, wS, wE, wEs, wO, wB, wBo, wI, wTg, gs, startT, List.map_cons, List.map_nil, List.length_cons, List.length_nil, List.cons_append, List.nil_append, List.replicate, Nat.reduceAdd, Nat.reduceSub, Nat.zero_add, exEq, wCop, wIx, wTru, bif_len, bif_abs, bif_int, bif_isi, bif_tuple, bif_list, bif_sum, bif_all, bif_any, bif_min2, bif_max2, bif_minl, bif_maxl, bop_add_i, bop_add_t, bop_add_l, bop_sub, bop_mul_i, bop_fdiv, bop_mod, bop_pow, aug_add, aug_sub, aug_mul, setAll, tailS, wipeT, List.set, tru_bl, tru_non, tru_int, tru_tup, if_true, if_false, Bool.false_eq_true, Bool.not_true, Bool.not_false, seqM_tup, ix_tup, len_tup, atI_0, atI_1, atI_2, atI_3, atI_4, Option.some.injEq, exists_eq_left', eq_int, cmp_lt, cmp_le, cmp_gt, cmp_ge, cmp_eq, cmp_ne, cmp_is, cmp_isn, cmp_in, cmp_nin, Option.map, is_nn, is_in, is_tn, tyn_int, tyn_str, tyn_tup, Int.cast_ofNat_Int, Int.reduceLT, Int.reduceLE, Int.reduceAdd, Int.reduceMul, Int.reduceSub, BEq.rfl, decide_true, decide_false, Int.reduceBEq]
    exact q
  · unfold b_check_bow
    simp only [wSs, wS, wE, wEs, wO, wB, wBo, wI, wTg, gs, startT, List.map_cons, List.map_nil, List.length_cons, List.length_nil, List.cons_append, List.nil_append, List.replicate, Nat.reduceAdd, Nat.reduceSub, Nat.zero_add, exEq, wCop, wIx, wTru, bif_len, bif_abs, bif_int, bif_isi, bif_tuple, bif_list, bif_sum, bif_all, bif_any, bif_min2, bif_max2, bif_minl, bif_maxl, bop_add_i, bop_add_t, bop_add_l, bop_sub, bop_mul_i, bop_fdiv, bop_mod, bop_pow, aug_add, aug_sub, aug_mul, setAll, tailS, wipeT, List.set, tru_bl, tru_non, tru_int, tru_tup, if_true, if_false, Bool.false_eq_true, Bool.not_true, Bool.not_false, seqM_tup, ix_tup, len_tup, atI_0, atI_1, atI_2, atI_3, atI_4, Option.some.injEq, exists_eq_left', eq_int, cmp_lt, cmp_le, cmp_gt, cmp_ge, cmp_eq, cmp_ne, cmp_is, cmp_isn, cmp_in, cmp_nin, Option.map, is_nn, is_in, is_tn, tyn_int, tyn_str, tyn_tup, Int.cast_ofNat_Int, Int.reduceLT, Int.reduceLE, Int.reduceAdd, Int.reduceMul, Int.reduceSub, BEq.rfl, decide_true, decide_false, Int.reduceBEq]
    refine ⟨_, rfl, .inl ⟨c, s, rfl, c0, hs, ?_⟩⟩
    rw [e]
    simp only [wSs, wS, wE, wEs, wO, wB, wBo, wI, wTg, gs, startT, List.map_cons, List.map_nil, List.length_cons, List.length_nil, List.cons_append, List.nil_append, List.replicate, Nat.reduceAdd, Nat.reduceSub, Nat.zero_add, exEq, wCop, wIx, wTru, bif_len, bif_abs, bif_int, bif_isi, bif_tuple, bif_list, bif_sum, bif_all, bif_any, bif_min2, bif_max2, bif_minl, bif_maxl, bop_add_i, bop_add_t, bop_add_l, bop_sub, bop_mul_i, bop_fdiv, bop_mod, bop_pow, aug_add, aug_sub, aug_mul, setAll, tailS, wipeT, List.set, tru_bl, tru_non, tru_int, tru_tup, if_true, if_false, Bool.false_eq_true, Bool.not_true, Bool.not_false, seqM_tup, ix_tup, len_tup, atI_0, atI_1, atI_2, atI_3, atI_4, Option.some.injEq, exists_eq_left', eq_int, cmp_lt, cmp_le, cmp_gt, cmp_ge, cmp_eq, cmp_ne, cmp_is, cmp_isn, cmp_in, cmp_nin, Option.map, is_nn, is_in, is_tn, tyn_int, tyn_str, tyn_tup, Int.cast_ofNat_Int, Int.reduceLT, Int.reduceLE, Int.reduceAdd, Int.reduceMul, Int.reduceSub, BEq.rfl, decide_true, decide_false, Int.reduceBEq]
    exact q
theorem h_check_bow {G : Gx} (F : Facts G) : HeldT G 6 (adr G "check_bow") (s_check_bow G) :=
  F.d_check_bow.held (k := 5) sc_check_bow ck_check_bow (ok_check_bow F (h_is_bow F)) nF (fun xs M Q R ⟨x, e, _⟩ => by rw [e]; rfl) v_check_bow
end TL

namespace TL
open PySem PySem.Spec PyProof.Rows L2
/-! X11D: bows joined. -/
open TL.Bw (Bow bt hull allOk sm1 sm2 push Fall FallR Fit mt met met1 mrg opB jnL jnR)
theorem chk {G : Gx} {M : TM} {Q : TK} {R : TR} {X : Bow} (ok : Okb X) (q : Q .non M) : s_check_bow G [bwT X] M Q R := ⟨_, rfl, .inl ⟨X, rfl, ok, q⟩⟩
theorem chkN {G : Gx} {M : TM} {Q : TK} {R : TR} {x : TV} (h : badB M x) (q : R ⟨.ref (adr G "BadBow"), []⟩ M) : s_check_bow G [x] M Q R := ⟨_, rfl, .inr ⟨h, q⟩⟩
/-- one of two is no bow -/
def err2 (G : Gx) (M : TM) (x y : TV) (R : TR) : Prop := (badB M x ∧ R ⟨.ref (adr G "BadBow"), []⟩ M) ∨ (∃ X, x = bwT X ∧ Okb X ∧ badB M y ∧ R ⟨.ref (adr G "BadBow"), []⟩ M)
/-! ends -/
theorem allI_map2 {α : Type} (f : α → TV) (g : α → Int) : ∀ l : List α, (∀ a, f a = .int (g a)) → allI (l.map f) = some (l.map g)
  | [], _ => rfl
  | a :: l, h => by simp only [List.map_cons, h a, allI, allI_map2 f g l h]
def s_ends_of : TSp := fun xs M Q _ => ∃ s, xs = [stT s] ∧ Q (.tup [.int (sm1 s), .int (sm2 s)]) M
theorem v_ends_of {G : Gx} : ∀ xs M Q R, s_ends_of xs M Q R → wSs noF (b_ends_of G) (endsT Q R) (startT n_ends_of xs) M := by
  rintro xs M Q R ⟨s, rfl, q⟩
  unfold b_ends_of
  simp only [wSs, wS, wE, wEs, wO, wB, wBo, wI, wTg, gs, startT, List.map_cons, List.map_nil, List.length_cons, List.length_nil, List.cons_append, List.nil_append, List.replicate, Nat.reduceAdd, Nat.reduceSub, Nat.zero_add, exEq, wCop, wIx, wTru, bif_len, bif_abs, bif_int, bif_isi, bif_tuple, bif_list, bif_sum, bif_all, bif_any, bif_min2, bif_max2, bif_minl, bif_maxl, bop_add_i, bop_add_t, bop_add_l, bop_sub, bop_mul_i, bop_fdiv, bop_mod, bop_pow, aug_add, aug_sub, aug_mul, setAll, tailS, wipeT, List.set, tru_bl, tru_non, tru_int, tru_tup, if_true, if_false, Bool.false_eq_true, Bool.not_true, Bool.not_false, seqM_tup, ix_tup, len_tup, atI_0, atI_1, atI_2, atI_3, atI_4, Option.some.injEq, exists_eq_left', eq_int, cmp_lt, cmp_le, cmp_gt, cmp_ge, cmp_eq, cmp_ne, cmp_is, cmp_isn, cmp_in, cmp_nin, Option.map, is_nn, is_in, is_tn, tyn_int, tyn_str, tyn_tup, Int.cast_ofNat_Int, Int.reduceLT, Int.reduceLE, Int.reduceAdd, Int.reduceMul, Int.reduceSub, BEq.rfl, decide_true, decide_false, Int.reduceBEq, stT]
  refine lcL_map fst (.refl _) (fun _ _ => trivial) ?_ ?_
  · intro x hx acc M2 k s2 hk
    obtain ⟨a, ha, rfl⟩ := List.mem_map.mp hx
    simp only [wSs, wS, wE, wEs, wO, wB, wBo, wI, wTg, gs, startT, List.map_cons, List.map_nil, List.length_cons, List.length_nil, List.cons_append, List.nil_append, List.replicate, Nat.reduceAdd, Nat.reduceSub, Nat.zero_add, exEq, wCop, wIx, wTru, bif_len, bif_abs, bif_int, bif_isi, bif_tuple, bif_list, bif_sum, bif_all, bif_any, bif_min2, bif_max2, bif_minl, bif_maxl, bop_add_i, bop_add_t, bop_add_l, bop_sub, bop_mul_i, bop_fdiv, bop_mod, bop_pow, aug_add, aug_sub, aug_mul, setAll, tailS, wipeT, List.set, tru_bl, tru_non, tru_int, tru_tup, if_true, if_false, Bool.false_eq_true, Bool.not_true, Bool.not_false, seqM_tup, ix_tup, len_tup, atI_0, atI_1, atI_2, atI_3, atI_4, Option.some.injEq, exists_eq_left', eq_int, cmp_lt, cmp_le, cmp_gt, cmp_ge, cmp_eq, cmp_ne, cmp_is, cmp_isn, cmp_in, cmp_nin, Option.map, is_nn, is_in, is_tn, tyn_int, tyn_str, tyn_tup, Int.cast_ofNat_Int, Int.reduceLT, Int.reduceLE, Int.reduceAdd, Int.reduceMul, Int.reduceSub, BEq.rfl, decide_true, decide_false, Int.reduceBEq, spT]
    exact hk _ (.refl _)
  · intro M1 s1 p1 h1
    rw [List.nil_append, List.map_map]
    refine ⟨_, _, lsM_upd, allI_map2 (fst ∘ spT) (·.1) s (fun _ => rfl), ?_⟩
    refine lcL_map snd (.refl _) (fun _ _ => trivial) ?_ ?_
    · intro x hx acc M2 k s2 hk
      obtain ⟨a, ha, rfl⟩ := List.mem_map.mp hx
      simp only [wSs, wS, wE, wEs, wO, wB, wBo, wI, wTg, gs, startT, List.map_cons, List.map_nil, List.length_cons, List.length_nil, List.cons_append, List.nil_append, List.replicate, Nat.reduceAdd, Nat.reduceSub, Nat.zero_add, exEq, wCop, wIx, wTru, bif_len, bif_abs, bif_int, bif_isi, bif_tuple, bif_list, bif_sum, bif_all, bif_any, bif_min2, bif_max2, bif_minl, bif_maxl, bop_add_i, bop_add_t, bop_add_l, bop_sub, bop_mul_i, bop_fdiv, bop_mod, bop_pow, aug_add, aug_sub, aug_mul, setAll, tailS, wipeT, List.set, tru_bl, tru_non, tru_int, tru_tup, if_true, if_false, Bool.false_eq_true, Bool.not_true, Bool.not_false, seqM_tup, ix_tup, len_tup, atI_0, atI_1, atI_2, atI_3, atI_4, Option.some.injEq, exists_eq_left', eq_int, cmp_lt, cmp_le, cmp_gt, cmp_ge, cmp_eq, cmp_ne, cmp_is, cmp_isn, cmp_in, cmp_nin, Option.map, is_nn, is_in, is_tn, tyn_int, tyn_str, tyn_tup, Int.cast_ofNat_Int, Int.reduceLT, Int.reduceLE, Int.reduceAdd, Int.reduceMul, Int.reduceSub, BEq.rfl, decide_true, decide_false, Int.reduceBEq, spT]
      exact hk _ (.refl _)
    · intro M2 s2 p2 h2
      rw [List.nil_append, List.map_map]
      refine ⟨_, _, lsM_upd, allI_map2 (snd ∘ spT) (·.2) s (fun _ => rfl), ?_⟩
      exact rtF ((s1.new h1).trans (s2.new h2)) q
theorem h_ends_of {G : Gx} (F : Facts G) : HeldT G 1 (adr G "ends_of") s_ends_of :=
  F.d_ends_of.held (k := 0) sc_ends_of ck_ends_of (ok_ends_of F) nF (fun xs M Q R ⟨x, e, _⟩ => by rw [e]; rfl) v_ends_of
theorem h__law_sums {G : Gx} (F : Facts G) : HeldT G 1 (adr G "_law_sums") s_ends_of :=
  F.d__law_sums.held (k := 0) sc__law_sums ck__law_sums (ok__law_sums F) nF (fun xs M Q R ⟨x, e, _⟩ => by rw [e]; rfl) (v_ends_of (G := G))
/-! rows -/
/-- two bows that may be joined -/
structure Two (x y : Bow) : Prop where
  ox : ∃ n, Fit x n
  oy : ∃ n, Fit y n
  k1 : sm1 x.s + sm1 y.s ≤ KB
  k2 : sm2 x.s + sm2 y.s ≤ KB
  len : x.s.length + y.s.length ≤ 4000
def s_rowed : TSp := fun xs M Q _ => ∃ x y, xs = [bwT x, bwT y] ∧ Two x y ∧ Q (bwT (Bw.rowB x y)) M
theorem Two.row {x y : Bow} (t : Two x y) : Row (x.s ++ y.s) := by
  obtain ⟨n, fx⟩ := t.ox
  obtain ⟨m, fy⟩ := t.oy
  exact ⟨Bw.allOk_app fx.good.ok fy.good.ok, by rw [Bw.sm1_app]; exact t.k1, by rw [Bw.sm2_app]; exact t.k2, by rw [List.length_append]; exact Nat.le_trans t.len (by decide)⟩
theorem Two.nn {x y : Bow} (t : Two x y) : 0 ≤ sm1 x.s ∧ 0 ≤ sm2 x.s ∧ 0 ≤ sm1 y.s ∧ 0 ≤ sm2 y.s := by
  obtain ⟨n, fx⟩ := t.ox
  obtain ⟨m, fy⟩ := t.oy
  have := Bw.sums_nn fx.good.ok
  have := Bw.sums_nn fy.good.ok
  omega
theorem v_rowed {G : Gx} : ∀ xs M Q R, s_rowed xs M Q R → wSs noF (b_rowed G s_drawn_in s_ends_of) (endsT Q R) (startT n_rowed xs) M := by
  rintro xs M Q R ⟨x, y, rfl, t, q⟩
  unfold b_rowed
  simp only [wSs, wS, wE, wEs, wO, wB, wBo, wI, wTg, gs, startT, List.map_cons, List.map_nil, List.length_cons, List.length_nil, List.cons_append, List.nil_append, List.replicate, Nat.reduceAdd, Nat.reduceSub, Nat.zero_add, exEq, wCop, wIx, wTru, bif_len, bif_abs, bif_int, bif_isi, bif_tuple, bif_list, bif_sum, bif_all, bif_any, bif_min2, bif_max2, bif_minl, bif_maxl, bop_add_i, bop_add_t, bop_add_l, bop_sub, bop_mul_i, bop_fdiv, bop_mod, bop_pow, aug_add, aug_sub, aug_mul, setAll, tailS, wipeT, List.set, tru_bl, tru_non, tru_int, tru_tup, if_true, if_false, Bool.false_eq_true, Bool.not_true, Bool.not_false, seqM_tup, ix_tup, len_tup, atI_0, atI_1, atI_2, atI_3, atI_4, Option.some.injEq, exists_eq_left', eq_int, cmp_lt, cmp_le, cmp_gt, cmp_ge, cmp_eq, cmp_ne, cmp_is, cmp_isn, cmp_in, cmp_nin, Option.map, is_nn, is_in, is_tn, tyn_int, tyn_str, tyn_tup, Int.cast_ofNat_Int, Int.reduceLT, Int.reduceLE, Int.reduceAdd, Int.reduceMul, Int.reduceSub, BEq.rfl, decide_true, decide_false, Int.reduceBEq, bwT]
  obtain ⟨a, b, c, d⟩ := t.nn
  have k1 := t.k1
  have k2 := t.k2
  refine ⟨_, rfl, ?_⟩
  simp only [wSs, wS, wE, wEs, wO, wB, wBo, wI, wTg, gs, startT, List.map_cons, List.map_nil, List.length_cons, List.length_nil, List.cons_append, List.nil_append, List.replicate, Nat.reduceAdd, Nat.reduceSub, Nat.zero_add, exEq, wCop, wIx, wTru, bif_len, bif_abs, bif_int, bif_isi, bif_tuple, bif_list, bif_sum, bif_all, bif_any, bif_min2, bif_max2, bif_minl, bif_maxl, bop_add_i, bop_add_t, bop_add_l, bop_sub, bop_mul_i, bop_fdiv, bop_mod, bop_pow, aug_add, aug_sub, aug_mul, setAll, tailS, wipeT, List.set, tru_bl, tru_non, tru_int, tru_tup, if_true, if_false, Bool.false_eq_true, Bool.not_true, Bool.not_false, seqM_tup, ix_tup, len_tup, atI_0, atI_1, atI_2, atI_3, atI_4, Option.some.injEq, exists_eq_left', eq_int, cmp_lt, cmp_le, cmp_gt, cmp_ge, cmp_eq, cmp_ne, cmp_is, cmp_isn, cmp_in, cmp_nin, Option.map, is_nn, is_in, is_tn, tyn_int, tyn_str, tyn_tup, Int.cast_ofNat_Int, Int.reduceLT, Int.reduceLE, Int.reduceAdd, Int.reduceMul, Int.reduceSub, BEq.rfl, decide_true, decide_false, Int.reduceBEq]
  refine ⟨_, rfl, ?_⟩
  simp only [wSs, wS, wE, wEs, wO, wB, wBo, wI, wTg, gs, startT, List.map_cons, List.map_nil, List.length_cons, List.length_nil, List.cons_append, List.nil_append, List.replicate, Nat.reduceAdd, Nat.reduceSub, Nat.zero_add, exEq, wCop, wIx, wTru, bif_len, bif_abs, bif_int, bif_isi, bif_tuple, bif_list, bif_sum, bif_all, bif_any, bif_min2, bif_max2, bif_minl, bif_maxl, bop_add_i, bop_add_t, bop_add_l, bop_sub, bop_mul_i, bop_fdiv, bop_mod, bop_pow, aug_add, aug_sub, aug_mul, setAll, tailS, wipeT, List.set, tru_bl, tru_non, tru_int, tru_tup, if_true, if_false, Bool.false_eq_true, Bool.not_true, Bool.not_false, seqM_tup, ix_tup, len_tup, atI_0, atI_1, atI_2, atI_3, atI_4, Option.some.injEq, exists_eq_left', eq_int, cmp_lt, cmp_le, cmp_gt, cmp_ge, cmp_eq, cmp_ne, cmp_is, cmp_isn, cmp_in, cmp_nin, Option.map, is_nn, is_in, is_tn, tyn_int, tyn_str, tyn_tup, Int.cast_ofNat_Int, Int.reduceLT, Int.reduceLE, Int.reduceAdd, Int.reduceMul, Int.reduceSub, BEq.rfl, decide_true, decide_false, Int.reduceBEq, stT]
  have tl := t.len
  refine ⟨.inr (mulK a (by omega) d (by omega)), by rw [List.length_map, List.length_map, sizeLine_eq]; omega, x.s ++ y.s, by rw [stT, List.map_append], t.row, rtF (.refl _) q⟩
theorem h_rowed {G : Gx} (F : Facts G) : HeldT G 3 (adr G "rowed") s_rowed :=
  F.d_rowed.held (k := 2) sc_rowed ck_rowed (ok_rowed F (h_drawn_in F) ((h_ends_of F).mono (by decide))) nF (fun xs M Q R ⟨x, _, e, _⟩ => by rw [e]; rfl) v_rowed
theorem Two.okb {x y : Bow} (t : Two x y) (hx : Fit x 1000) (hy : Fit y 1000) : Okb x ∧ Okb y := by
  obtain ⟨a, b, c, d⟩ := t.nn
  have := t.k1
  have := t.k2
  exact ⟨⟨hx, by omega, by omega⟩, ⟨hy, by omega, by omega⟩⟩
def s_in_row (G : Gx) : TSp := fun xs M Q R => ∃ x y, xs = [x, y] ∧ ((∃ X Y, x = bwT X ∧ y = bwT Y ∧ Two X Y ∧ Fit X 1000 ∧ Fit Y 1000 ∧ Q (bwT (Bw.rowB X Y)) M) ∨ err2 G M x y R)
theorem v_in_row {G : Gx} : ∀ xs M Q R, s_in_row G xs M Q R → wSs noF (b_in_row G s_rowed (s_check_bow G)) (endsT Q R) (startT n_in_row xs) M := by
  rintro xs M Q R ⟨x, y, rfl, ⟨X, Y, rfl, rfl, t, hx, hy, q⟩ | ⟨h, q⟩ | ⟨X, rfl, ok, h, q⟩⟩
  · unfold b_in_row
    simp only [wSs, wS, wE, wEs, wO, wB, wBo, wI, wTg, gs, startT, List.map_cons, List.map_nil, List.length_cons, List.length_nil, List.cons_append, List.nil_append, List.replicate, Nat.reduceAdd, Nat.reduceSub, Nat.zero_add, exEq, wCop, wIx, wTru, bif_len, bif_abs, bif_int, bif_isi, bif_tuple, bif_list, bif_sum, bif_all, bif_any, bif_min2, bif_max2, bif_minl, bif_maxl, bop_add_i, bop_add_t, bop_add_l, bop_sub, bop_mul_i, bop_fdiv, bop_mod, bop_pow, aug_add, aug_sub, aug_mul, setAll, tailS, wipeT, List.set, tru_bl, tru_non, tru_int, tru_tup, if_true, if_false, Bool.false_eq_true, Bool.not_true, Bool.not_false, seqM_tup, ix_tup, len_tup, atI_0, atI_1, atI_2, atI_3, atI_4, Option.some.injEq, exists_eq_left', eq_int, cmp_lt, cmp_le, cmp_gt, cmp_ge, cmp_eq, cmp_ne, cmp_is, cmp_isn, cmp_in, cmp_nin, Option.map, is_nn, is_in, is_tn, tyn_int, tyn_str, tyn_tup, Int.cast_ofNat_Int, Int.reduceLT, Int.reduceLE, Int.reduceAdd, Int.reduceMul, Int.reduceSub, BEq.rfl, decide_true, decide_false, Int.reduceBEq]
    exact chk (t.okb hx hy).1 (chk (t.okb hx hy).2 ⟨X, Y, rfl, t, rtF (.refl _) q⟩)
  · unfold b_in_row
    simp only [wSs, wS, wE, wEs, wO, wB, wBo, wI, wTg, gs, startT, List.map_cons, List.map_nil, List.length_cons, List.length_nil, List.cons_append, List.nil_append, List.replicate, Nat.reduceAdd, Nat.reduceSub, Nat.zero_add, exEq, wCop, wIx, wTru, bif_len, bif_abs, bif_int, bif_isi, bif_tuple, bif_list, bif_sum, bif_all, bif_any, bif_min2, bif_max2, bif_minl, bif_maxl, bop_add_i, bop_add_t, bop_add_l, bop_sub, bop_mul_i, bop_fdiv, bop_mod, bop_pow, aug_add, aug_sub, aug_mul, setAll, tailS, wipeT, List.set, tru_bl, tru_non, tru_int, tru_tup, if_true, if_false, Bool.false_eq_true, Bool.not_true, Bool.not_false, seqM_tup, ix_tup, len_tup, atI_0, atI_1, atI_2, atI_3, atI_4, Option.some.injEq, exists_eq_left', eq_int, cmp_lt, cmp_le, cmp_gt, cmp_ge, cmp_eq, cmp_ne, cmp_is, cmp_isn, cmp_in, cmp_nin, Option.map, is_nn, is_in, is_tn, tyn_int, tyn_str, tyn_tup, Int.cast_ofNat_Int, Int.reduceLT, Int.reduceLE, Int.reduceAdd, Int.reduceMul, Int.reduceSub, BEq.rfl, decide_true, decide_false, Int.reduceBEq]
    exact chkN h q
  · unfold b_in_row
    simp only [wSs, wS, wE, wEs, wO, wB, wBo, wI, wTg, gs, startT, List.map_cons, List.map_nil, List.length_cons, List.length_nil, List.cons_append, List.nil_append, List.replicate, Nat.reduceAdd, Nat.reduceSub, Nat.zero_add, exEq, wCop, wIx, wTru, bif_len, bif_abs, bif_int, bif_isi, bif_tuple, bif_list, bif_sum, bif_all, bif_any, bif_min2, bif_max2, bif_minl, bif_maxl, bop_add_i, bop_add_t, bop_add_l, bop_sub, bop_mul_i, bop_fdiv, bop_mod, bop_pow, aug_add, aug_sub, aug_mul, setAll, tailS, wipeT, List.set, tru_bl, tru_non, tru_int, tru_tup, if_true, if_false, Bool.false_eq_true, Bool.not_true, Bool.not_false, seqM_tup, ix_tup, len_tup, atI_0, atI_1, atI_2, atI_3, atI_4, Option.some.injEq, exists_eq_left', eq_int, cmp_lt, cmp_le, cmp_gt, cmp_ge, cmp_eq, cmp_ne, cmp_is, cmp_isn, cmp_in, cmp_nin, Option.map, is_nn, is_in, is_tn, tyn_int, tyn_str, tyn_tup, Int.cast_ofNat_Int, Int.reduceLT, Int.reduceLE, Int.reduceAdd, Int.reduceMul, Int.reduceSub, BEq.rfl, decide_true, decide_false, Int.reduceBEq]
    exact chk ok (chkN h q)
theorem h_in_row {G : Gx} (F : Facts G) : HeldT G 7 (adr G "in_row") (s_in_row G) :=
  F.d_in_row.held (k := 6) sc_in_row ck_in_row (ok_in_row F ((h_rowed F).mono (by decide)) (h_check_bow F)) nF (fun xs M Q R ⟨x, _, e, _⟩ => by rw [e]; rfl) v_in_row
/-! meeting -/
theorem allI_app2 : ∀ {xs ys : List TV} {ns ms : List Int}, allI xs = some ns → allI ys = some ms → allI (xs ++ ys) = some (ns ++ ms)
  | [], ys, ns, ms, h1, h2 => by
    simp only [allI, Option.some.injEq] at h1
    subst h1
    exact h2
  | x :: xs, ys, ns, ms, h1, h2 => by
    cases x with
    | int i =>
      simp only [allI] at h1
      cases q : allI xs with
      | none => rw [q] at h1; simp at h1
      | some ks =>
        rw [q] at h1
        simp only [Option.some.injEq] at h1
        subst h1
        simp only [List.cons_append, allI, allI_app2 q h2]
    | _ => simp [allI] at h1
def s_met : TSp := fun xs M Q _ => ∃ x y, xs = [stT x, stT y] ∧ Row x ∧ Row y ∧ x.length ≤ 4000 ∧ y.length ≤ 4000 ∧ Q (.int (met x y)) M
theorem v_met {G : Gx} : ∀ xs M Q R, s_met xs M Q R → wSs noF (b_met G) (endsT Q R) (startT n_met xs) M := by
  rintro xs M Q R ⟨x, y, rfl, hx, hy, lx, ly, q⟩
  unfold b_met
  have kx := okK_of hx.ok hx.k1 hx.k2
  have ky := okK_of hy.ok hy.k1 hy.k2
  simp only [wSs, wS, wE, wEs, wO, wB, wBo, wI, wTg, gs, startT, List.map_cons, List.map_nil, List.length_cons, List.length_nil, List.cons_append, List.nil_append, List.replicate, Nat.reduceAdd, Nat.reduceSub, Nat.zero_add, exEq, wCop, wIx, wTru, bif_len, bif_abs, bif_int, bif_isi, bif_tuple, bif_list, bif_sum, bif_all, bif_any, bif_min2, bif_max2, bif_minl, bif_maxl, bop_add_i, bop_add_t, bop_add_l, bop_sub, bop_mul_i, bop_fdiv, bop_mod, bop_pow, aug_add, aug_sub, aug_mul, setAll, tailS, wipeT, List.set, tru_bl, tru_non, tru_int, tru_tup, if_true, if_false, Bool.false_eq_true, Bool.not_true, Bool.not_false, seqM_tup, ix_tup, len_tup, atI_0, atI_1, atI_2, atI_3, atI_4, Option.some.injEq, exists_eq_left', eq_int, cmp_lt, cmp_le, cmp_gt, cmp_ge, cmp_eq, cmp_ne, cmp_is, cmp_isn, cmp_in, cmp_nin, Option.map, is_nn, is_in, is_tn, tyn_int, tyn_str, tyn_tup, Int.cast_ofNat_Int, Int.reduceLT, Int.reduceLE, Int.reduceAdd, Int.reduceMul, Int.reduceSub, BEq.rfl, decide_true, decide_false, Int.reduceBEq, stT]
  refine lcL_at (fun r acc M' => Subm M M' ∧ ∃ (r' : List Bw.Sp) (ns : List Int), r = r'.map spT ∧ allI acc = some ns ∧ ns.sum + met r' y = met x y ∧ (∀ a ∈ r', okK a) ∧ acc.length + r'.length * y.length = x.length * y.length) ⟨.refl _, x, [], rfl, rfl, by simp, kx, by simp⟩ (fun _ _ _ _ => trivial) ?_ ?_
  · rintro z r acc M1 k ⟨s1, r', ns, e, hns, hsum, kr, hl⟩ hk
    cases r' with
    | nil => cases e
    | cons a r' =>
    cases e
    have ka := kr a (by simp)
    have kr' : ∀ b ∈ r', okK b := fun b hb => kr b (List.mem_cons_of_mem _ hb)
    have prod : x.length * y.length ≤ 4000 * 4000 := Nat.mul_le_mul lx ly
    have e1 : met (a :: r') y = met1 a y + met r' y := by simp [met]
    have e2 : (a :: r').length * y.length = y.length + r'.length * y.length := by simp only [List.length_cons, Nat.add_mul]; omega
    rw [e1] at hsum
    rw [e2] at hl
    refine ⟨_, rfl, rfl, ?_⟩
    simp only [wSs, wS, wE, wEs, wO, wB, wBo, wI, wTg, gs, startT, List.map_cons, List.map_nil, List.length_cons, List.length_nil, List.cons_append, List.nil_append, List.replicate, Nat.reduceAdd, Nat.reduceSub, Nat.zero_add, exEq, wCop, wIx, wTru, bif_len, bif_abs, bif_int, bif_isi, bif_tuple, bif_list, bif_sum, bif_all, bif_any, bif_min2, bif_max2, bif_minl, bif_maxl, bop_add_i, bop_add_t, bop_add_l, bop_sub, bop_mul_i, bop_fdiv, bop_mod, bop_pow, aug_add, aug_sub, aug_mul, setAll, tailS, wipeT, List.set, tru_bl, tru_non, tru_int, tru_tup, if_true, if_false, Bool.false_eq_true, Bool.not_true, Bool.not_false, seqM_tup, ix_tup, len_tup, atI_0, atI_1, atI_2, atI_3, atI_4, Option.some.injEq, exists_eq_left', eq_int, cmp_lt, cmp_le, cmp_gt, cmp_ge, cmp_eq, cmp_ne, cmp_is, cmp_isn, cmp_in, cmp_nin, Option.map, is_nn, is_in, is_tn, tyn_int, tyn_str, tyn_tup, Int.cast_ofNat_Int, Int.reduceLT, Int.reduceLE, Int.reduceAdd, Int.reduceMul, Int.reduceSub, BEq.rfl, decide_true, decide_false, Int.reduceBEq]
    refine lcL_at (fun r acc' M' => Subm M M' ∧ ∃ (r2 : List Bw.Sp) (ns : List Int), r = r2.map spT ∧ allI acc' = some ns ∧ ns.sum + met1 a r2 + met r' y = met x y ∧ (∀ b ∈ r2, okK b) ∧ acc'.length + r2.length + r'.length * y.length = x.length * y.length) ⟨s1, y, ns, rfl, hns, by omega, ky, by omega⟩ (fun _ _ _ _ => trivial) ?_ ?_
    · rintro z r acc M2 k ⟨s2, r2, ns2, e, hns2, hsum2, kr2, hl2⟩ hk2
      cases r2 with
      | nil => cases e
      | cons b r2 =>
      cases e
      have kb := kr2 b (by simp)
      simp only [List.length_cons] at hl2
      refine ⟨_, rfl, rfl, ?_⟩
      simp only [wSs, wS, wE, wEs, wO, wB, wBo, wI, wTg, gs, startT, List.map_cons, List.map_nil, List.length_cons, List.length_nil, List.cons_append, List.nil_append, List.replicate, Nat.reduceAdd, Nat.reduceSub, Nat.zero_add, exEq, wCop, wIx, wTru, bif_len, bif_abs, bif_int, bif_isi, bif_tuple, bif_list, bif_sum, bif_all, bif_any, bif_min2, bif_max2, bif_minl, bif_maxl, bop_add_i, bop_add_t, bop_add_l, bop_sub, bop_mul_i, bop_fdiv, bop_mod, bop_pow, aug_add, aug_sub, aug_mul, setAll, tailS, wipeT, List.set, tru_bl, tru_non, tru_int, tru_tup, if_true, if_false, Bool.false_eq_true, Bool.not_true, Bool.not_false, seqM_tup, ix_tup, len_tup, atI_0, atI_1, atI_2, atI_3, atI_4, Option.some.injEq, exists_eq_left', eq_int, cmp_lt, cmp_le, cmp_gt, cmp_ge, cmp_eq, cmp_ne, cmp_is, cmp_isn, cmp_in, cmp_nin, Option.map, is_nn, is_in, is_tn, tyn_int, tyn_str, tyn_tup, Int.cast_ofNat_Int, Int.reduceLT, Int.reduceLE, Int.reduceAdd, Int.reduceMul, Int.reduceSub, BEq.rfl, decide_true, decide_false, Int.reduceBEq]
      refine ⟨.inr (mulK ka.1.1 ka.2.1 kb.1.2.1 kb.2.2), .inr (mulK kb.1.1 kb.2.1 ka.1.2.1 ka.2.2), by rw [sizeLine_eq]; omega, hk2 _ _ ⟨s2, r2, ns2 ++ [mt a b], rfl, allI_app2 hns2 rfl, ?_, fun c hc => kr2 c (List.mem_cons_of_mem _ hc), by simp only [List.length_append, List.length_cons, List.length_nil]; omega⟩⟩
      simp only [List.sum_append, List.sum_cons, List.sum_nil, met1, List.map_cons] at hsum2 ⊢
      omega
    · rintro acc M2 ⟨s2, r2, ns2, e, hns2, hsum2, kr2, hl2⟩
      cases r2 with
      | cons _ _ => cases e
      | nil =>
      refine hk _ _ ⟨s2, r', ns2, rfl, hns2, ?_, kr', by simpa using hl2⟩
      simpa [met1] using hsum2
  · rintro acc M1 ⟨s1, r', ns, e, hns, hsum, kr, hl⟩ p hp
    cases r' with
    | cons _ _ => cases e
    | nil =>
    refine ⟨_, _, lsM_upd, hns, rtF (s1.new hp) ?_⟩
    have : ns.sum = met x y := by rw [← hsum]; simp [met]
    rw [this]
    exact q
theorem h_met {G : Gx} (F : Facts G) : HeldT G 1 (adr G "met") s_met :=
  F.d_met.held (k := 0) sc_met ck_met (ok_met F) nF (fun xs M Q R ⟨x, _, e, _⟩ => by rw [e]; rfl) v_met
/-! merging -/
def s_merged : TSp := fun xs M Q _ => ∃ x y, xs = [stT x, stT y] ∧ Row (x ++ y) ∧ Q (stT (hull (mrg x y))) M
theorem mrg_nil_right : ∀ x : List Bw.Sp, mrg x [] = x
  | [] => by rw [mrg]
  | _ :: _ => by rw [mrg]
theorem mrg_nil_left (y : List Bw.Sp) : mrg [] y = y := by rw [mrg]
theorem mrg_cons (s o : Bw.Sp) (a b : List Bw.Sp) : mrg (s :: a) (o :: b) = if bt o s = true then o :: mrg (s :: a) b else s :: mrg a (o :: b) := by rw [mrg]
theorem Row.perm {x y : List Bw.Sp} (p : x.Perm y) (h : Row y) : Row x := ⟨Bw.ok_perm p h.ok, by rw [(Bw.perm_sm p).1]; exact h.k1, by rw [(Bw.perm_sm p).2]; exact h.k2, by rw [p.length_eq]; exact h.len⟩
theorem ge_bt {a b : Bw.Sp} : decide (b.2 * a.1 ≤ a.2 * b.1) = !bt b a := by
  unfold bt
  rw [Bool.eq_iff_iff]
  simp
theorem v_merged {G : Gx} : ∀ xs M Q R, s_merged xs M Q R → wSs noF (b_merged G s_drawn_in) (endsT Q R) (startT n_merged xs) M := by
  rintro xs M Q R ⟨x, y, rfl, row, q⟩
  unfold b_merged
  have kk := okK_of row.ok row.k1 row.k2
  have len := row.len
  rw [List.length_append] at len
  simp only [wSs, wS, wE, wEs, wO, wB, wBo, wI, wTg, gs, startT, List.map_cons, List.map_nil, List.length_cons, List.length_nil, List.cons_append, List.nil_append, List.replicate, Nat.reduceAdd, Nat.reduceSub, Nat.zero_add, exEq, wCop, wIx, wTru, bif_len, bif_abs, bif_int, bif_isi, bif_tuple, bif_list, bif_sum, bif_all, bif_any, bif_min2, bif_max2, bif_minl, bif_maxl, bop_add_i, bop_add_t, bop_add_l, bop_sub, bop_mul_i, bop_fdiv, bop_mod, bop_pow, aug_add, aug_sub, aug_mul, setAll, tailS, wipeT, List.set, tru_bl, tru_non, tru_int, tru_tup, if_true, if_false, Bool.false_eq_true, Bool.not_true, Bool.not_false, seqM_tup, ix_tup, len_tup, atI_0, atI_1, atI_2, atI_3, atI_4, Option.some.injEq, exists_eq_left', eq_int, cmp_lt, cmp_le, cmp_gt, cmp_ge, cmp_eq, cmp_ne, cmp_is, cmp_isn, cmp_in, cmp_nin, Option.map, is_nn, is_in, is_tn, tyn_int, tyn_str, tyn_tup, Int.cast_ofNat_Int, Int.reduceLT, Int.reduceLE, Int.reduceAdd, Int.reduceMul, Int.reduceSub, BEq.rfl, decide_true, decide_false, Int.reduceBEq, stT]
  intro p hp
  refine ⟨x.length + y.length + 1, whL_at (fun n σ M' => ∃ (dn : List Bw.Sp) (i j : Nat) (o5 : Option TV), n = (x.length - i) + (y.length - j) ∧ i ≤ x.length ∧ j ≤ y.length ∧ σ = [some (.tup (x.map spT)), some (.tup (y.map spT)), some (.ref p), some (.int i), some (.int j), o5] ∧ M' p = some (.lst (dn.map spT)) ∧ Subm M M' ∧ dn ++ mrg (x.drop i) (y.drop j) = mrg x y ∧ dn.length = i + j) ?_ _ (x.length + y.length) _ _ (Nat.lt_succ_self _) ⟨[], 0, 0, none, by simp, Nat.zero_le _, Nat.zero_le _, rfl, updM_same, Subm.new (.refl _) hp, rfl, rfl⟩⟩
  rintro n _ M1 ⟨dn, i, j, o5, rfl, hi, hj, rfl, hm, sub, e, hl⟩ K hK
  have stepX : ∀ (h : i < x.length) (o : Option TV), mrg (x.drop i) (y.drop j) = x[i] :: mrg (x.drop (i + 1)) (y.drop j) → wMth Mth.append (.ref p) [spT x[i]] M1 fun _ M2 => True ∧ K [some (.tup (x.map spT)), some (.tup (y.map spT)), some (.ref p), some (.int ((i : Int) + 1)), some (.int j), o] M2 := fun h o e2 => by
    refine ⟨_, hm, by rw [List.length_map, hl, sizeLine_eq]; omega, trivial, hK _ _ _ ?_ ⟨dn ++ [x[i]], i + 1, j, o, rfl, h, hj, by rw [Int.natCast_add]; rfl, by rw [updM_same, List.map_append]; rfl, sub.over hp, by rw [← e, e2, List.append_assoc]; rfl, by simp; omega⟩⟩
    omega
  have stepY : ∀ (h : j < y.length) (o : Option TV), mrg (x.drop i) (y.drop j) = y[j] :: mrg (x.drop i) (y.drop (j + 1)) → wMth Mth.append (.ref p) [spT y[j]] M1 fun _ M2 => True ∧ K [some (.tup (x.map spT)), some (.tup (y.map spT)), some (.ref p), some (.int i), some (.int ((j : Int) + 1)), o] M2 := fun h o e2 => by
    refine ⟨_, hm, by rw [List.length_map, hl, sizeLine_eq]; omega, trivial, hK _ _ _ ?_ ⟨dn ++ [y[j]], i, j + 1, o, rfl, hi, h, by rw [Int.natCast_add]; rfl, by rw [updM_same, List.map_append]; rfl, sub.over hp, by rw [← e, e2, List.append_assoc]; rfl, by simp; omega⟩⟩
    omega
  have atx : ∀ h : i < x.length, atI (x.map spT) (i : Int) = some (spT x[i]) := fun h => atI_nat (by rw [List.getElem?_map, List.getElem?_eq_getElem h]; rfl)
  have aty : ∀ h : j < y.length, atI (y.map spT) (j : Int) = some (spT y[j]) := fun h => atI_nat (by rw [List.getElem?_map, List.getElem?_eq_getElem h]; rfl)
  simp only [wSs, wS, wE, wEs, wO, wB, wBo, wI, wTg, gs, startT, List.map_cons, List.map_nil, List.length_cons, List.length_nil, List.cons_append, List.nil_append, List.replicate, Nat.reduceAdd, Nat.reduceSub, Nat.zero_add, exEq, wCop, wIx, wTru, bif_len, bif_abs, bif_int, bif_isi, bif_tuple, bif_list, bif_sum, bif_all, bif_any, bif_min2, bif_max2, bif_minl, bif_maxl, bop_add_i, bop_add_t, bop_add_l, bop_sub, bop_mul_i, bop_fdiv, bop_mod, bop_pow, aug_add, aug_sub, aug_mul, setAll, tailS, wipeT, List.set, tru_bl, tru_non, tru_int, tru_tup, if_true, if_false, Bool.false_eq_true, Bool.not_true, Bool.not_false, seqM_tup, ix_tup, len_tup, atI_0, atI_1, atI_2, atI_3, atI_4, Option.some.injEq, exists_eq_left', eq_int, cmp_lt, cmp_le, cmp_gt, cmp_ge, cmp_eq, cmp_ne, cmp_is, cmp_isn, cmp_in, cmp_nin, Option.map, is_nn, is_in, is_tn, tyn_int, tyn_str, tyn_tup, Int.cast_ofNat_Int, Int.reduceLT, Int.reduceLE, Int.reduceAdd, Int.reduceMul, Int.reduceSub, BEq.rfl, decide_true, decide_false, Int.reduceBEq, List.length_map]
  by_cases ci : i < x.length
  · have c1 : ((i : Int) < (x.length : Nat)) := by omega
    rw [decide_eq_true c1]
    have dx : x.drop i = x[i] :: x.drop (i + 1) := List.drop_eq_getElem_cons ci
    simp only [wSs, wS, wE, wEs, wO, wB, wBo, wI, wTg, gs, startT, List.map_cons, List.map_nil, List.length_cons, List.length_nil, List.cons_append, List.nil_append, List.replicate, Nat.reduceAdd, Nat.reduceSub, Nat.zero_add, exEq, wCop, wIx, wTru, bif_len, bif_abs, bif_int, bif_isi, bif_tuple, bif_list, bif_sum, bif_all, bif_any, bif_min2, bif_max2, bif_minl, bif_maxl, bop_add_i, bop_add_t, bop_add_l, bop_sub, bop_mul_i, bop_fdiv, bop_mod, bop_pow, aug_add, aug_sub, aug_mul, setAll, tailS, wipeT, List.set, tru_bl, tru_non, tru_int, tru_tup, if_true, if_false, Bool.false_eq_true, Bool.not_true, Bool.not_false, seqM_tup, ix_tup, len_tup, atI_0, atI_1, atI_2, atI_3, atI_4, Option.some.injEq, exists_eq_left', eq_int, cmp_lt, cmp_le, cmp_gt, cmp_ge, cmp_eq, cmp_ne, cmp_is, cmp_isn, cmp_in, cmp_nin, Option.map, is_nn, is_in, is_tn, tyn_int, tyn_str, tyn_tup, Int.cast_ofNat_Int, Int.reduceLT, Int.reduceLE, Int.reduceAdd, Int.reduceMul, Int.reduceSub, BEq.rfl, decide_true, decide_false, Int.reduceBEq]
    by_cases cj : j < y.length
    · have c2 : ((j : Int) == (y.length : Nat)) = false := by simp; omega
      have c3 : ((i : Int) == (x.length : Nat)) = false := by simp; omega
      have dy : y.drop j = y[j] :: y.drop (j + 1) := List.drop_eq_getElem_cons cj
      have kx := kk x[i] (List.mem_append_left _ (List.getElem_mem ci))
      have ky := kk y[j] (List.mem_append_right _ (List.getElem_mem cj))
      rw [c2, c3]
      simp only [wSs, wS, wE, wEs, wO, wB, wBo, wI, wTg, gs, startT, List.map_cons, List.map_nil, List.length_cons, List.length_nil, List.cons_append, List.nil_append, List.replicate, Nat.reduceAdd, Nat.reduceSub, Nat.zero_add, exEq, wCop, wIx, wTru, bif_len, bif_abs, bif_int, bif_isi, bif_tuple, bif_list, bif_sum, bif_all, bif_any, bif_min2, bif_max2, bif_minl, bif_maxl, bop_add_i, bop_add_t, bop_add_l, bop_sub, bop_mul_i, bop_fdiv, bop_mod, bop_pow, aug_add, aug_sub, aug_mul, setAll, tailS, wipeT, List.set, tru_bl, tru_non, tru_int, tru_tup, if_true, if_false, Bool.false_eq_true, Bool.not_true, Bool.not_false, seqM_tup, ix_tup, len_tup, atI_0, atI_1, atI_2, atI_3, atI_4, Option.some.injEq, exists_eq_left', eq_int, cmp_lt, cmp_le, cmp_gt, cmp_ge, cmp_eq, cmp_ne, cmp_is, cmp_isn, cmp_in, cmp_nin, Option.map, is_nn, is_in, is_tn, tyn_int, tyn_str, tyn_tup, Int.cast_ofNat_Int, Int.reduceLT, Int.reduceLE, Int.reduceAdd, Int.reduceMul, Int.reduceSub, BEq.rfl, decide_true, decide_false, Int.reduceBEq, atx ci, aty cj, spT]
      refine ⟨.inr (mulK kx.1.2.1 kx.2.2 ky.1.1 ky.2.1), .inr (mulK ky.1.2.1 ky.2.2 kx.1.1 kx.2.1), ⟨_, _, rfl, lsM_lst hm⟩, ?_⟩
      rw [ge_bt]
      have m := mrg_cons x[i] y[j] (x.drop (i + 1)) (y.drop (j + 1))
      rw [← dx, ← dy] at m
      by_cases cb : bt y[j] x[i] = true
      · rw [if_pos cb] at m
        rw [cb]
        simp only [wSs, wS, wE, wEs, wO, wB, wBo, wI, wTg, gs, startT, List.map_cons, List.map_nil, List.length_cons, List.length_nil, List.cons_append, List.nil_append, List.replicate, Nat.reduceAdd, Nat.reduceSub, Nat.zero_add, exEq, wCop, wIx, wTru, bif_len, bif_abs, bif_int, bif_isi, bif_tuple, bif_list, bif_sum, bif_all, bif_any, bif_min2, bif_max2, bif_minl, bif_maxl, bop_add_i, bop_add_t, bop_add_l, bop_sub, bop_mul_i, bop_fdiv, bop_mod, bop_pow, aug_add, aug_sub, aug_mul, setAll, tailS, wipeT, List.set, tru_bl, tru_non, tru_int, tru_tup, if_true, if_false, Bool.false_eq_true, Bool.not_true, Bool.not_false, seqM_tup, ix_tup, len_tup, atI_0, atI_1, atI_2, atI_3, atI_4, Option.some.injEq, exists_eq_left', eq_int, cmp_lt, cmp_le, cmp_gt, cmp_ge, cmp_eq, cmp_ne, cmp_is, cmp_isn, cmp_in, cmp_nin, Option.map, is_nn, is_in, is_tn, tyn_int, tyn_str, tyn_tup, Int.cast_ofNat_Int, Int.reduceLT, Int.reduceLE, Int.reduceAdd, Int.reduceMul, Int.reduceSub, BEq.rfl, decide_true, decide_false, Int.reduceBEq, atx ci, aty cj]
        exact stepY cj _ m
      · have cf : bt y[j] x[i] = false := by simpa using cb
        rw [if_neg cb] at m
        rw [cf]
        simp only [wSs, wS, wE, wEs, wO, wB, wBo, wI, wTg, gs, startT, List.map_cons, List.map_nil, List.length_cons, List.length_nil, List.cons_append, List.nil_append, List.replicate, Nat.reduceAdd, Nat.reduceSub, Nat.zero_add, exEq, wCop, wIx, wTru, bif_len, bif_abs, bif_int, bif_isi, bif_tuple, bif_list, bif_sum, bif_all, bif_any, bif_min2, bif_max2, bif_minl, bif_maxl, bop_add_i, bop_add_t, bop_add_l, bop_sub, bop_mul_i, bop_fdiv, bop_mod, bop_pow, aug_add, aug_sub, aug_mul, setAll, tailS, wipeT, List.set, tru_bl, tru_non, tru_int, tru_tup, if_true, if_false, Bool.false_eq_true, Bool.not_true, Bool.not_false, seqM_tup, ix_tup, len_tup, atI_0, atI_1, atI_2, atI_3, atI_4, Option.some.injEq, exists_eq_left', eq_int, cmp_lt, cmp_le, cmp_gt, cmp_ge, cmp_eq, cmp_ne, cmp_is, cmp_isn, cmp_in, cmp_nin, Option.map, is_nn, is_in, is_tn, tyn_int, tyn_str, tyn_tup, Int.cast_ofNat_Int, Int.reduceLT, Int.reduceLE, Int.reduceAdd, Int.reduceMul, Int.reduceSub, BEq.rfl, decide_true, decide_false, Int.reduceBEq, atx ci, aty cj]
        exact stepX ci _ m
    · have ej : j = y.length := by omega
      have c2 : ((j : Int) == (y.length : Nat)) = true := by simp; omega
      rw [c2]
      simp only [wSs, wS, wE, wEs, wO, wB, wBo, wI, wTg, gs, startT, List.map_cons, List.map_nil, List.length_cons, List.length_nil, List.cons_append, List.nil_append, List.replicate, Nat.reduceAdd, Nat.reduceSub, Nat.zero_add, exEq, wCop, wIx, wTru, bif_len, bif_abs, bif_int, bif_isi, bif_tuple, bif_list, bif_sum, bif_all, bif_any, bif_min2, bif_max2, bif_minl, bif_maxl, bop_add_i, bop_add_t, bop_add_l, bop_sub, bop_mul_i, bop_fdiv, bop_mod, bop_pow, aug_add, aug_sub, aug_mul, setAll, tailS, wipeT, List.set, tru_bl, tru_non, tru_int, tru_tup, if_true, if_false, Bool.false_eq_true, Bool.not_true, Bool.not_false, seqM_tup, ix_tup, len_tup, atI_0, atI_1, atI_2, atI_3, atI_4, Option.some.injEq, exists_eq_left', eq_int, cmp_lt, cmp_le, cmp_gt, cmp_ge, cmp_eq, cmp_ne, cmp_is, cmp_isn, cmp_in, cmp_nin, Option.map, is_nn, is_in, is_tn, tyn_int, tyn_str, tyn_tup, Int.cast_ofNat_Int, Int.reduceLT, Int.reduceLE, Int.reduceAdd, Int.reduceMul, Int.reduceSub, BEq.rfl, decide_true, decide_false, Int.reduceBEq, atx ci]
      refine ⟨⟨_, _, rfl, lsM_lst hm⟩, stepX ci _ ?_⟩
      have dy : y.drop j = [] := by rw [ej]; simp
      rw [dy, mrg_nil_right, mrg_nil_right, dx]
  · have ei : i = x.length := by omega
    have c1 : ¬ ((i : Int) < (x.length : Nat)) := by omega
    have dx : x.drop i = [] := by rw [ei]; simp
    rw [decide_eq_false c1]
    simp only [wSs, wS, wE, wEs, wO, wB, wBo, wI, wTg, gs, startT, List.map_cons, List.map_nil, List.length_cons, List.length_nil, List.cons_append, List.nil_append, List.replicate, Nat.reduceAdd, Nat.reduceSub, Nat.zero_add, exEq, wCop, wIx, wTru, bif_len, bif_abs, bif_int, bif_isi, bif_tuple, bif_list, bif_sum, bif_all, bif_any, bif_min2, bif_max2, bif_minl, bif_maxl, bop_add_i, bop_add_t, bop_add_l, bop_sub, bop_mul_i, bop_fdiv, bop_mod, bop_pow, aug_add, aug_sub, aug_mul, setAll, tailS, wipeT, List.set, tru_bl, tru_non, tru_int, tru_tup, if_true, if_false, Bool.false_eq_true, Bool.not_true, Bool.not_false, seqM_tup, ix_tup, len_tup, atI_0, atI_1, atI_2, atI_3, atI_4, Option.some.injEq, exists_eq_left', eq_int, cmp_lt, cmp_le, cmp_gt, cmp_ge, cmp_eq, cmp_ne, cmp_is, cmp_isn, cmp_in, cmp_nin, Option.map, is_nn, is_in, is_tn, tyn_int, tyn_str, tyn_tup, Int.cast_ofNat_Int, Int.reduceLT, Int.reduceLE, Int.reduceAdd, Int.reduceMul, Int.reduceSub, BEq.rfl, decide_true, decide_false, Int.reduceBEq]
    by_cases cj : j < y.length
    · have c0 : ((j : Int) < (y.length : Nat)) := by omega
      have c2 : ((j : Int) == (y.length : Nat)) = false := by simp; omega
      have c3 : ((i : Int) == (x.length : Nat)) = true := by simp; omega
      have dy : y.drop j = y[j] :: y.drop (j + 1) := List.drop_eq_getElem_cons cj
      rw [decide_eq_true c0, c2, c3]
      simp only [wSs, wS, wE, wEs, wO, wB, wBo, wI, wTg, gs, startT, List.map_cons, List.map_nil, List.length_cons, List.length_nil, List.cons_append, List.nil_append, List.replicate, Nat.reduceAdd, Nat.reduceSub, Nat.zero_add, exEq, wCop, wIx, wTru, bif_len, bif_abs, bif_int, bif_isi, bif_tuple, bif_list, bif_sum, bif_all, bif_any, bif_min2, bif_max2, bif_minl, bif_maxl, bop_add_i, bop_add_t, bop_add_l, bop_sub, bop_mul_i, bop_fdiv, bop_mod, bop_pow, aug_add, aug_sub, aug_mul, setAll, tailS, wipeT, List.set, tru_bl, tru_non, tru_int, tru_tup, if_true, if_false, Bool.false_eq_true, Bool.not_true, Bool.not_false, seqM_tup, ix_tup, len_tup, atI_0, atI_1, atI_2, atI_3, atI_4, Option.some.injEq, exists_eq_left', eq_int, cmp_lt, cmp_le, cmp_gt, cmp_ge, cmp_eq, cmp_ne, cmp_is, cmp_isn, cmp_in, cmp_nin, Option.map, is_nn, is_in, is_tn, tyn_int, tyn_str, tyn_tup, Int.cast_ofNat_Int, Int.reduceLT, Int.reduceLE, Int.reduceAdd, Int.reduceMul, Int.reduceSub, BEq.rfl, decide_true, decide_false, Int.reduceBEq, aty cj]
      refine ⟨⟨_, _, rfl, lsM_lst hm⟩, stepY cj _ ?_⟩
      rw [dx, mrg_nil_left, mrg_nil_left, dy]
    · have c0 : ¬ ((j : Int) < (y.length : Nat)) := by omega
      have dy : y.drop j = [] := by
        have : j = y.length := by omega
        rw [this]; simp
      rw [decide_eq_false c0]
      simp only [wSs, wS, wE, wEs, wO, wB, wBo, wI, wTg, gs, startT, List.map_cons, List.map_nil, List.length_cons, List.length_nil, List.cons_append, List.nil_append, List.replicate, Nat.reduceAdd, Nat.reduceSub, Nat.zero_add, exEq, wCop, wIx, wTru, bif_len, bif_abs, bif_int, bif_isi, bif_tuple, bif_list, bif_sum, bif_all, bif_any, bif_min2, bif_max2, bif_minl, bif_maxl, bop_add_i, bop_add_t, bop_add_l, bop_sub, bop_mul_i, bop_fdiv, bop_mod, bop_pow, aug_add, aug_sub, aug_mul, setAll, tailS, wipeT, List.set, tru_bl, tru_non, tru_int, tru_tup, if_true, if_false, Bool.false_eq_true, Bool.not_true, Bool.not_false, seqM_tup, ix_tup, len_tup, atI_0, atI_1, atI_2, atI_3, atI_4, Option.some.injEq, exists_eq_left', eq_int, cmp_lt, cmp_le, cmp_gt, cmp_ge, cmp_eq, cmp_ne, cmp_is, cmp_isn, cmp_in, cmp_nin, Option.map, is_nn, is_in, is_tn, tyn_int, tyn_str, tyn_tup, Int.cast_ofNat_Int, Int.reduceLT, Int.reduceLE, Int.reduceAdd, Int.reduceMul, Int.reduceSub, BEq.rfl, decide_true, decide_false, Int.reduceBEq]
      rw [dx, dy, mrg_nil_left, List.append_nil] at e
      refine ⟨_, lsM_lst hm, _, rfl, ?_, ?_⟩
      · rw [e]
        exact row.perm (Bw.mrg_perm x y)
      · rw [e]
        exact rtF sub q
theorem h_merged {G : Gx} (F : Facts G) : HeldT G 3 (adr G "merged") s_merged :=
  F.d_merged.held (k := 2) sc_merged ck_merged (ok_merged F (h_drawn_in F)) nF (fun xs M Q R ⟨x, _, e, _⟩ => by rw [e]; rfl) v_merged
end TL

namespace TL
open PySem PySem.Spec PyProof.Rows L2
/-! X11E: bows side by side, so many times. -/
open TL.Bw (Bow bt hull allOk sm1 sm2 push Fall FallR Fit mt met met1 mrg opB jnL jnR)
theorem Two.rows {x y : Bow} (t : Two x y) : (Row x.s ∧ x.s.length ≤ 4000) ∧ Row y.s ∧ y.s.length ≤ 4000 := by
  obtain ⟨a, b, c, d⟩ := t.nn
  obtain ⟨n, fx⟩ := t.ox
  obtain ⟨m, fy⟩ := t.oy
  have := t.k1
  have := t.k2
  have := t.len
  exact ⟨⟨⟨fx.good.ok, by omega, by omega, by omega⟩, by omega⟩, ⟨fy.good.ok, by omega, by omega, by omega⟩, by omega⟩
def s_sided : TSp := fun xs M Q _ => ∃ x y, xs = [bwT x, bwT y] ∧ Two x y ∧ Q (bwT (Bw.sideB x y)) M
theorem v_sided {G : Gx} : ∀ xs M Q R, s_sided xs M Q R → wSs noF (b_sided G s_merged s_met) (endsT Q R) (startT n_sided xs) M := by
  rintro xs M Q R ⟨x, y, rfl, t, q⟩
  unfold b_sided
  simp only [wSs, wS, wE, wEs, wO, wB, wBo, wI, wTg, gs, startT, List.map_cons, List.map_nil, List.length_cons, List.length_nil, List.cons_append, List.nil_append, List.replicate, Nat.reduceAdd, Nat.reduceSub, Nat.zero_add, exEq, wCop, wIx, wTru, bif_len, bif_abs, bif_int, bif_isi, bif_tuple, bif_list, bif_sum, bif_all, bif_any, bif_min2, bif_max2, bif_minl, bif_maxl, bop_add_i, bop_add_t, bop_add_l, bop_sub, bop_mul_i, bop_fdiv, bop_mod, bop_pow, aug_add, aug_sub, aug_mul, setAll, tailS, wipeT, List.set, tru_bl, tru_non, tru_int, tru_tup, if_true, if_false, Bool.false_eq_true, Bool.not_true, Bool.not_false, seqM_tup, ix_tup, len_tup, atI_0, atI_1, atI_2, atI_3, atI_4, Option.some.injEq, exists_eq_left', eq_int, cmp_lt, cmp_le, cmp_gt, cmp_ge, cmp_eq, cmp_ne, cmp_is, cmp_isn, cmp_in, cmp_nin, Option.map, is_nn, is_in, is_tn, tyn_int, tyn_str, tyn_tup, Int.cast_ofNat_Int, Int.reduceLT, Int.reduceLE, Int.reduceAdd, Int.reduceMul, Int.reduceSub, BEq.rfl, decide_true, decide_false, Int.reduceBEq, bwT]
  obtain ⟨⟨rx, lx⟩, ry, ly⟩ := t.rows
  refine ⟨_, _, rfl, rx, ry, lx, ly, ?_⟩
  simp only [wSs, wS, wE, wEs, wO, wB, wBo, wI, wTg, gs, startT, List.map_cons, List.map_nil, List.length_cons, List.length_nil, List.cons_append, List.nil_append, List.replicate, Nat.reduceAdd, Nat.reduceSub, Nat.zero_add, exEq, wCop, wIx, wTru, bif_len, bif_abs, bif_int, bif_isi, bif_tuple, bif_list, bif_sum, bif_all, bif_any, bif_min2, bif_max2, bif_minl, bif_maxl, bop_add_i, bop_add_t, bop_add_l, bop_sub, bop_mul_i, bop_fdiv, bop_mod, bop_pow, aug_add, aug_sub, aug_mul, setAll, tailS, wipeT, List.set, tru_bl, tru_non, tru_int, tru_tup, if_true, if_false, Bool.false_eq_true, Bool.not_true, Bool.not_false, seqM_tup, ix_tup, len_tup, atI_0, atI_1, atI_2, atI_3, atI_4, Option.some.injEq, exists_eq_left', eq_int, cmp_lt, cmp_le, cmp_gt, cmp_ge, cmp_eq, cmp_ne, cmp_is, cmp_isn, cmp_in, cmp_nin, Option.map, is_nn, is_in, is_tn, tyn_int, tyn_str, tyn_tup, Int.cast_ofNat_Int, Int.reduceLT, Int.reduceLE, Int.reduceAdd, Int.reduceMul, Int.reduceSub, BEq.rfl, decide_true, decide_false, Int.reduceBEq]
  exact ⟨_, _, rfl, t.row, rtF (.refl _) q⟩
theorem h_sided {G : Gx} (F : Facts G) : HeldT G 4 (adr G "sided") s_sided :=
  F.d_sided.held (k := 3) sc_sided ck_sided (ok_sided F (h_merged F) ((h_met F).mono (by decide))) nF (fun xs M Q R ⟨x, _, e, _⟩ => by rw [e]; rfl) v_sided
def s_beside (G : Gx) : TSp := fun xs M Q R => ∃ x y, xs = [x, y] ∧ ((∃ X Y, x = bwT X ∧ y = bwT Y ∧ Two X Y ∧ Fit X 1000 ∧ Fit Y 1000 ∧ Q (bwT (Bw.sideB X Y)) M) ∨ err2 G M x y R)
theorem v_beside {G : Gx} : ∀ xs M Q R, s_beside G xs M Q R → wSs noF (b_beside G s_sided (s_check_bow G)) (endsT Q R) (startT n_beside xs) M := by
  rintro xs M Q R ⟨x, y, rfl, ⟨X, Y, rfl, rfl, t, hx, hy, q⟩ | ⟨h, q⟩ | ⟨X, rfl, ok, h, q⟩⟩
  · unfold b_beside
    simp only [wSs, wS, wE, wEs, wO, wB, wBo, wI, wTg, gs, startT, List.map_cons, List.map_nil, List.length_cons, List.length_nil, List.cons_append, List.nil_append, List.replicate, Nat.reduceAdd, Nat.reduceSub, Nat.zero_add, exEq, wCop, wIx, wTru, bif_len, bif_abs, bif_int, bif_isi, bif_tuple, bif_list, bif_sum, bif_all, bif_any, bif_min2, bif_max2, bif_minl, bif_maxl, bop_add_i, bop_add_t, bop_add_l, bop_sub, bop_mul_i, bop_fdiv, bop_mod, bop_pow, aug_add, aug_sub, aug_mul, setAll, tailS, wipeT, List.set, tru_bl, tru_non, tru_int, tru_tup, if_true, if_false, Bool.false_eq_true, Bool.not_true, Bool.not_false, seqM_tup, ix_tup, len_tup, atI_0, atI_1, atI_2, atI_3, atI_4, Option.some.injEq, exists_eq_left', eq_int, cmp_lt, cmp_le, cmp_gt, cmp_ge, cmp_eq, cmp_ne, cmp_is, cmp_isn, cmp_in, cmp_nin, Option.map, is_nn, is_in, is_tn, tyn_int, tyn_str, tyn_tup, Int.cast_ofNat_Int, Int.reduceLT, Int.reduceLE, Int.reduceAdd, Int.reduceMul, Int.reduceSub, BEq.rfl, decide_true, decide_false, Int.reduceBEq]
    exact chk (t.okb hx hy).1 (chk (t.okb hx hy).2 ⟨X, Y, rfl, t, rtF (.refl _) q⟩)
  · unfold b_beside
    simp only [wSs, wS, wE, wEs, wO, wB, wBo, wI, wTg, gs, startT, List.map_cons, List.map_nil, List.length_cons, List.length_nil, List.cons_append, List.nil_append, List.replicate, Nat.reduceAdd, Nat.reduceSub, Nat.zero_add, exEq, wCop, wIx, wTru, bif_len, bif_abs, bif_int, bif_isi, bif_tuple, bif_list, bif_sum, bif_all, bif_any, bif_min2, bif_max2, bif_minl, bif_maxl, bop_add_i, bop_add_t, bop_add_l, bop_sub, bop_mul_i, bop_fdiv, bop_mod, bop_pow, aug_add, aug_sub, aug_mul, setAll, tailS, wipeT, List.set, tru_bl, tru_non, tru_int, tru_tup, if_true, if_false, Bool.false_eq_true, Bool.not_true, Bool.not_false, seqM_tup, ix_tup, len_tup, atI_0, atI_1, atI_2, atI_3, atI_4, Option.some.injEq, exists_eq_left', eq_int, cmp_lt, cmp_le, cmp_gt, cmp_ge, cmp_eq, cmp_ne, cmp_is, cmp_isn, cmp_in, cmp_nin, Option.map, is_nn, is_in, is_tn, tyn_int, tyn_str, tyn_tup, Int.cast_ofNat_Int, Int.reduceLT, Int.reduceLE, Int.reduceAdd, Int.reduceMul, Int.reduceSub, BEq.rfl, decide_true, decide_false, Int.reduceBEq]
    exact chkN h q
  · unfold b_beside
    simp only [wSs, wS, wE, wEs, wO, wB, wBo, wI, wTg, gs, startT, List.map_cons, List.map_nil, List.length_cons, List.length_nil, List.cons_append, List.nil_append, List.replicate, Nat.reduceAdd, Nat.reduceSub, Nat.zero_add, exEq, wCop, wIx, wTru, bif_len, bif_abs, bif_int, bif_isi, bif_tuple, bif_list, bif_sum, bif_all, bif_any, bif_min2, bif_max2, bif_minl, bif_maxl, bop_add_i, bop_add_t, bop_add_l, bop_sub, bop_mul_i, bop_fdiv, bop_mod, bop_pow, aug_add, aug_sub, aug_mul, setAll, tailS, wipeT, List.set, tru_bl, tru_non, tru_int, tru_tup, if_true, if_false, Bool.false_eq_true, Bool.not_true, Bool.not_false, seqM_tup, ix_tup, len_tup, atI_0, atI_1, atI_2, atI_3, atI_4, Option.some.injEq, exists_eq_left', eq_int, cmp_lt, cmp_le, cmp_gt, cmp_ge, cmp_eq, cmp_ne, cmp_is, cmp_isn, cmp_in, cmp_nin, Option.map, is_nn, is_in, is_tn, tyn_int, tyn_str, tyn_tup, Int.cast_ofNat_Int, Int.reduceLT, Int.reduceLE, Int.reduceAdd, Int.reduceMul, Int.reduceSub, BEq.rfl, decide_true, decide_false, Int.reduceBEq]
    exact chk ok (chkN h q)
theorem h_beside {G : Gx} (F : Facts G) : HeldT G 7 (adr G "beside") (s_beside G) :=
  F.d_beside.held (k := 6) sc_beside ck_beside (ok_beside F ((h_sided F).mono (by decide)) (h_check_bow F)) nF (fun xs M Q R ⟨x, _, e, _⟩ => by rw [e]; rfl) v_beside
def s_meeting (G : Gx) : TSp := fun xs M Q R => ∃ x y, xs = [x, y] ∧ ((∃ X Y, x = bwT X ∧ y = bwT Y ∧ Okb X ∧ Okb Y ∧ Q (.int (met X.s Y.s)) M) ∨ err2 G M x y R)
theorem v_meeting {G : Gx} : ∀ xs M Q R, s_meeting G xs M Q R → wSs noF (b_meeting G s_met (s_check_bow G)) (endsT Q R) (startT n_meeting xs) M := by
  rintro xs M Q R ⟨x, y, rfl, ⟨X, Y, rfl, rfl, hx, hy, q⟩ | ⟨h, q⟩ | ⟨X, rfl, ok, h, q⟩⟩
  · unfold b_meeting
    simp only [wSs, wS, wE, wEs, wO, wB, wBo, wI, wTg, gs, startT, List.map_cons, List.map_nil, List.length_cons, List.length_nil, List.cons_append, List.nil_append, List.replicate, Nat.reduceAdd, Nat.reduceSub, Nat.zero_add, exEq, wCop, wIx, wTru, bif_len, bif_abs, bif_int, bif_isi, bif_tuple, bif_list, bif_sum, bif_all, bif_any, bif_min2, bif_max2, bif_minl, bif_maxl, bop_add_i, bop_add_t, bop_add_l, bop_sub, bop_mul_i, bop_fdiv, bop_mod, bop_pow, aug_add, aug_sub, aug_mul, setAll, tailS, wipeT, List.set, tru_bl, tru_non, tru_int, tru_tup, if_true, if_false, Bool.false_eq_true, Bool.not_true, Bool.not_false, seqM_tup, ix_tup, len_tup, atI_0, atI_1, atI_2, atI_3, atI_4, Option.some.injEq, exists_eq_left', eq_int, cmp_lt, cmp_le, cmp_gt, cmp_ge, cmp_eq, cmp_ne, cmp_is, cmp_isn, cmp_in, cmp_nin, Option.map, is_nn, is_in, is_tn, tyn_int, tyn_str, tyn_tup, Int.cast_ofNat_Int, Int.reduceLT, Int.reduceLE, Int.reduceAdd, Int.reduceMul, Int.reduceSub, BEq.rfl, decide_true, decide_false, Int.reduceBEq]
    refine chk hx (chk hy ?_)
    simp only [wSs, wS, wE, wEs, wO, wB, wBo, wI, wTg, gs, startT, List.map_cons, List.map_nil, List.length_cons, List.length_nil, List.cons_append, List.nil_append, List.replicate, Nat.reduceAdd, Nat.reduceSub, Nat.zero_add, exEq, wCop, wIx, wTru, bif_len, bif_abs, bif_int, bif_isi, bif_tuple, bif_list, bif_sum, bif_all, bif_any, bif_min2, bif_max2, bif_minl, bif_maxl, bop_add_i, bop_add_t, bop_add_l, bop_sub, bop_mul_i, bop_fdiv, bop_mod, bop_pow, aug_add, aug_sub, aug_mul, setAll, tailS, wipeT, List.set, tru_bl, tru_non, tru_int, tru_tup, if_true, if_false, Bool.false_eq_true, Bool.not_true, Bool.not_false, seqM_tup, ix_tup, len_tup, atI_0, atI_1, atI_2, atI_3, atI_4, Option.some.injEq, exists_eq_left', eq_int, cmp_lt, cmp_le, cmp_gt, cmp_ge, cmp_eq, cmp_ne, cmp_is, cmp_isn, cmp_in, cmp_nin, Option.map, is_nn, is_in, is_tn, tyn_int, tyn_str, tyn_tup, Int.cast_ofNat_Int, Int.reduceLT, Int.reduceLE, Int.reduceAdd, Int.reduceMul, Int.reduceSub, BEq.rfl, decide_true, decide_false, Int.reduceBEq, bwT]
    have lx := hx.fit.len
    have ly := hy.fit.len
    exact ⟨_, _, rfl, hx.row, hy.row, by omega, by omega, rtF (.refl _) q⟩
  · unfold b_meeting
    simp only [wSs, wS, wE, wEs, wO, wB, wBo, wI, wTg, gs, startT, List.map_cons, List.map_nil, List.length_cons, List.length_nil, List.cons_append, List.nil_append, List.replicate, Nat.reduceAdd, Nat.reduceSub, Nat.zero_add, exEq, wCop, wIx, wTru, bif_len, bif_abs, bif_int, bif_isi, bif_tuple, bif_list, bif_sum, bif_all, bif_any, bif_min2, bif_max2, bif_minl, bif_maxl, bop_add_i, bop_add_t, bop_add_l, bop_sub, bop_mul_i, bop_fdiv, bop_mod, bop_pow, aug_add, aug_sub, aug_mul, setAll, tailS, wipeT, List.set, tru_bl, tru_non, tru_int, tru_tup, if_true, if_false, Bool.false_eq_true, Bool.not_true, Bool.not_false, seqM_tup, ix_tup, len_tup, atI_0, atI_1, atI_2, atI_3, atI_4, Option.some.injEq, exists_eq_left', eq_int, cmp_lt, cmp_le, cmp_gt, cmp_ge, cmp_eq, cmp_ne, cmp_is, cmp_isn, cmp_in, cmp_nin, Option.map, is_nn, is_in, is_tn, tyn_int, tyn_str, tyn_tup, Int.cast_ofNat_Int, Int.reduceLT, Int.reduceLE, Int.reduceAdd, Int.reduceMul, Int.reduceSub, BEq.rfl, decide_true, decide_false, Int.reduceBEq]
    exact chkN h q
  · unfold b_meeting
    simp only [wSs, wS, wE, wEs, wO, wB, wBo, wI, wTg, gs, startT, List.map_cons, List.map_nil, List.length_cons, List.length_nil, List.cons_append, List.nil_append, List.replicate, Nat.reduceAdd, Nat.reduceSub, Nat.zero_add, exEq, wCop, wIx, wTru, bif_len, bif_abs, bif_int, bif_isi, bif_tuple, bif_list, bif_sum, bif_all, bif_any, bif_min2, bif_max2, bif_minl, bif_maxl, bop_add_i, bop_add_t, bop_add_l, bop_sub, bop_mul_i, bop_fdiv, bop_mod, bop_pow, aug_add, aug_sub, aug_mul, setAll, tailS, wipeT, List.set, tru_bl, tru_non, tru_int, tru_tup, if_true, if_false, Bool.false_eq_true, Bool.not_true, Bool.not_false, seqM_tup, ix_tup, len_tup, atI_0, atI_1, atI_2, atI_3, atI_4, Option.some.injEq, exists_eq_left', eq_int, cmp_lt, cmp_le, cmp_gt, cmp_ge, cmp_eq, cmp_ne, cmp_is, cmp_isn, cmp_in, cmp_nin, Option.map, is_nn, is_in, is_tn, tyn_int, tyn_str, tyn_tup, Int.cast_ofNat_Int, Int.reduceLT, Int.reduceLE, Int.reduceAdd, Int.reduceMul, Int.reduceSub, BEq.rfl, decide_true, decide_false, Int.reduceBEq]
    exact chk ok (chkN h q)
theorem h_meeting {G : Gx} (F : Facts G) : HeldT G 7 (adr G "meeting") (s_meeting G) :=
  F.d_meeting.held (k := 6) sc_meeting ck_meeting (ok_meeting F ((h_met F).mono (by decide)) (h_check_bow F)) nF (fun xs M Q R ⟨x, _, e, _⟩ => by rw [e]; rfl) v_meeting
/-! so many times -/
/-- a bow that may be taken n times -/
structure Many (x : Bow) (n : Int) : Prop where
  ox : ∃ m, Fit x m
  n1 : 1 ≤ n
  n2 : n ≤ 1000000000000000000000000000000
  k1 : n * sm1 x.s ≤ KB
  k2 : n * sm2 x.s ≤ KB
  len : x.s.length ≤ 2000
theorem le_mul_of {n a : Int} (h : 1 ≤ n) (g : 0 ≤ a) : a ≤ n * a := by
  have := Int.mul_le_mul_of_nonneg_right h g
  omega
theorem Many.facts {x : Bow} {n : Int} (h : Many x n) : Row x.s ∧ 0 ≤ sm1 x.s ∧ 0 ≤ sm2 x.s ∧ sm1 x.s ≤ KB ∧ sm2 x.s ≤ KB := by
  obtain ⟨m, f⟩ := h.ox
  obtain ⟨a, b⟩ := Bw.sums_nn f.good.ok
  have := le_mul_of h.n1 a
  have := le_mul_of h.n1 b
  have := h.k1
  have := h.k2
  have := h.len
  exact ⟨⟨f.good.ok, by omega, by omega, by omega⟩, a, b, by omega, by omega⟩
theorem log_mul {a b : Int} (ha : 0 ≤ a) (hb : 0 ≤ b) {k l : Nat} (h1 : a ≤ 2 ^ k) (h2 : b ≤ 2 ^ l) : (a * b).natAbs.log2 ≤ k + l :=
  log_le (k := k + l) (Int.mul_nonneg ha hb) (by
    rw [Int.pow_add]
    exact Int.mul_le_mul h1 h2 hb (Int.le_of_lt (Int.pow_pos (by decide))))
theorem Many.logs {x : Bow} {n : Int} (h : Many x n) : n.natAbs.log2 ≤ 128 ∧ x.c.natAbs.log2 ≤ 80202 ∧ (n * (n - 1) / 2).natAbs.log2 ≤ 256 ∧ (n * (n - 1) / 2 * sm1 x.s).natAbs.log2 ≤ 40256 ∧ (sm2 x.s).natAbs.log2 ≤ 40000 ∧ (met x.s x.s).natAbs.log2 ≤ 80000 ∧ 0 ≤ x.c := by
  obtain ⟨m, f⟩ := h.ox
  obtain ⟨r, a, b, c, d⟩ := h.facts
  have n1 := h.n1
  have n2 := h.n2
  have t0 : 0 ≤ n * (n - 1) := Int.mul_nonneg (by omega) (by omega)
  have t1 : n * (n - 1) ≤ 2 ^ 256 := by
    have := Int.mul_le_mul (show n ≤ 2 ^ 128 by omega) (show n - 1 ≤ 2 ^ 128 by omega) (show 0 ≤ n - 1 by omega) (show (0 : Int) ≤ 2 ^ 128 by decide)
    exact Int.le_trans this (by decide)
  have t2 : 0 ≤ n * (n - 1) / 2 := Int.ediv_nonneg t0 (by decide)
  have t3 : n * (n - 1) / 2 ≤ 2 ^ 256 := Int.le_trans (Int.ediv_le_self _ t0) t1
  have lw : x.c.natAbs.log2 ≤ 200 + (40001 + 40001) := log_le (k := 200 + (40001 + 40001)) f.c0 (Int.le_trans f.c1 (by
    have k2 : sm1 x.s + sm2 x.s ≤ 2 ^ 40001 := by
      have e : (2 : Int) ^ 40001 = 2 * KB := by rw [show (40001 : Nat) = 40000 + 1 from rfl, Int.pow_succ, Int.mul_comm]; rfl
      rw [e]
      omega
    have p : (0 : Int) ≤ 2 ^ 40001 := Int.le_of_lt (Int.pow_pos (by decide))
    rw [Int.pow_add, Int.pow_add, ← Bw.CB_eq]
    exact Int.mul_le_mul_of_nonneg_left (Int.mul_le_mul k2 k2 (by omega) p) (by decide +kernel)))
  have ml := Bw.met_le f.good.ok f.good.ok
  have lm : (met x.s x.s).natAbs.log2 ≤ 40000 + 40000 := log_le (k := 40000 + 40000) ml.1 (Int.le_trans ml.2 (by
    rw [Int.pow_add]
    exact Int.mul_le_mul c d b (Int.le_of_lt (Int.pow_pos (by decide)))))
  exact ⟨log_le (k := 128) (by omega) (by omega), lw, log_le (k := 256) t2 t3, log_mul (k := 256) (l := 40000) t2 a t3 c, KB_log b d, lm, f.c0⟩
theorem Many.mid {x : Bow} {n : Int} (m : Many x n) (h : n ≠ 1) : Row (x.s ++ (if n > 2 then [((n - 2) * sm1 x.s, (n - 2) * sm2 x.s)] else []) ++ x.s) := by
  obtain ⟨r, a, b, c, d⟩ := m.facts
  obtain ⟨k, f⟩ := m.ox
  have n1 := m.n1
  have hS := Bw.smP_ok f.good.ok f.ne
  have hm := m.k1
  have hm2 := m.k2
  have ln := m.len
  have om : allOk (if n > 2 then [((n - 2) * sm1 x.s, (n - 2) * sm2 x.s)] else []) := by
    by_cases c2 : n > 2
    · rw [if_pos c2]
      exact Bw.allOk_one (Bw.sc_ok (k := n - 2) (by omega) hS)
    · rw [if_neg c2]
      exact fun _ h => by cases h
  have e1 : sm1 (if n > 2 then [((n - 2) * sm1 x.s, (n - 2) * sm2 x.s)] else []) = (n - 2) * sm1 x.s := by
    by_cases c2 : n > 2
    · rw [if_pos c2]; simp [sm1]
    · rw [if_neg c2, show n - 2 = 0 by omega]; simp [sm1]
  have e2 : sm2 (if n > 2 then [((n - 2) * sm1 x.s, (n - 2) * sm2 x.s)] else []) = (n - 2) * sm2 x.s := by
    by_cases c2 : n > 2
    · rw [if_pos c2]; simp [sm2]
    · rw [if_neg c2, show n - 2 = 0 by omega]; simp [sm2]
  have el : (if n > 2 then [((n - 2) * sm1 x.s, (n - 2) * sm2 x.s)] else ([] : List Bw.Sp)).length ≤ 1 := by split <;> simp
  refine ⟨Bw.allOk_app (Bw.allOk_app r.ok om) r.ok, ?_, ?_, ?_⟩
  · rw [Bw.sm1_app, Bw.sm1_app, e1, Int.sub_mul]; omega
  · rw [Bw.sm2_app, Bw.sm2_app, e2, Int.sub_mul]; omega
  · rw [List.length_append, List.length_append]; omega
theorem Many.okb {x : Bow} {n : Int} (m : Many x n) (f : Fit x 1000) : Okb x := ⟨f, m.facts.2.2.2.1, m.facts.2.2.2.2⟩
end TL

namespace TL
open PySem PySem.Spec PyProof.Rows L2
/-! X11F: the hand; what is the same. -/
open TL.Bw (Bow bt hull allOk sm1 sm2 push Fall FallR Fit mt met met1 mrg opB jnL jnR)
theorem eq_str {M : TM} {a b : Str} (ha : SeqAt.shaped (.str a) = true) (hb : SeqAt.shaped (.str b) = true) : eqF M (.str a) (.str b) = some (a == b) := rfl
theorem cut_ints (ns : List Int) (lo hi : Option Int) : ∃ ms : List Int, cutT (ns.map TV.int) lo hi = ms.map .int := by
  unfold cutT
  rw [← List.map_drop, ← List.map_take]
  exact ⟨_, rfl⟩
def absT : TV → TV
  | .int i => .int i.natAbs
  | x => x
def s__law_hand : TSp := fun xs M Q _ => ∃ (x : TV) (ns : List Int), xs = [x] ∧ ((∃ a, x = .ref a ∧ lsM M a = some (ns.map .int)) ∨ x = .kl (ns.map .int)) ∧ ∀ (h : Hn) M', HandOk M' h → Subm M M' → Q (.ref h.a) M'
theorem v__law_hand {G : Gx} : ∀ xs M Q R, s__law_hand xs M Q R → wSs noF (b__law_hand G) (endsT Q R) (startT n__law_hand xs) M := by
  rintro xs M Q R ⟨x, ns, rfl, hx, q⟩
  unfold b__law_hand
  obtain ⟨ms, hms⟩ := cut_ints ns none (some 63)
  have cells : (ms.map TV.int).map absT = (ms.map fun i => ((i.natAbs : Nat) : Int)).map TV.int := by simp [List.map_map, Function.comp_def, absT]
  rcases hx with ⟨a, rfl, ha⟩ | rfl
  · simp only [wSs, wS, wE, wEs, wO, wB, wBo, wI, wTg, gs, startT, List.map_cons, List.map_nil, List.length_cons, List.length_nil, List.cons_append, List.nil_append, List.replicate, Nat.reduceAdd, Nat.reduceSub, Nat.zero_add, exEq, wCop, wIx, wTru, bif_len, bif_abs, bif_int, bif_isi, bif_tuple, bif_list, bif_sum, bif_all, bif_any, bif_min2, bif_max2, bif_minl, bif_maxl, bop_add_i, bop_add_t, bop_add_l, bop_sub, bop_mul_i, bop_fdiv, bop_mod, bop_pow, aug_add, aug_sub, aug_mul, setAll, tailS, wipeT, List.set, tru_bl, tru_non, tru_int, tru_tup, if_true, if_false, Bool.false_eq_true, Bool.not_true, Bool.not_false, seqM_tup, ix_tup, len_tup, atI_0, atI_1, atI_2, atI_3, atI_4, Option.some.injEq, exists_eq_left', eq_int, cmp_lt, cmp_le, cmp_gt, cmp_ge, cmp_eq, cmp_ne, cmp_is, cmp_isn, cmp_in, cmp_nin, Option.map, is_nn, is_in, is_tn, tyn_int, tyn_str, tyn_tup, Int.cast_ofNat_Int, Int.reduceLT, Int.reduceLE, Int.reduceAdd, Int.reduceMul, Int.reduceSub, BEq.rfl, decide_true, decide_false, Int.reduceBEq, wSl, bif_abs, TV.int.injEq]
    refine ⟨_, ha, fun p hp => ?_⟩
    rw [hms]
    refine ⟨_, lsM_upd, lcL_map absT (.refl _) (fun _ s => s.lsM lsM_upd) ?_ ?_⟩
    · intro x hx acc M2 k s hk
      obtain ⟨z, _, rfl⟩ := List.mem_map.mp hx
      simp only [wSs, wS, wE, wEs, wO, wB, wBo, wI, wTg, gs, startT, List.map_cons, List.map_nil, List.length_cons, List.length_nil, List.cons_append, List.nil_append, List.replicate, Nat.reduceAdd, Nat.reduceSub, Nat.zero_add, exEq, wCop, wIx, wTru, bif_len, bif_abs, bif_int, bif_isi, bif_tuple, bif_list, bif_sum, bif_all, bif_any, bif_min2, bif_max2, bif_minl, bif_maxl, bop_add_i, bop_add_t, bop_add_l, bop_sub, bop_mul_i, bop_fdiv, bop_mod, bop_pow, aug_add, aug_sub, aug_mul, setAll, tailS, wipeT, List.set, tru_bl, tru_non, tru_int, tru_tup, if_true, if_false, Bool.false_eq_true, Bool.not_true, Bool.not_false, seqM_tup, ix_tup, len_tup, atI_0, atI_1, atI_2, atI_3, atI_4, Option.some.injEq, exists_eq_left', eq_int, cmp_lt, cmp_le, cmp_gt, cmp_ge, cmp_eq, cmp_ne, cmp_is, cmp_isn, cmp_in, cmp_nin, Option.map, is_nn, is_in, is_tn, tyn_int, tyn_str, tyn_tup, Int.cast_ofNat_Int, Int.reduceLT, Int.reduceLE, Int.reduceAdd, Int.reduceMul, Int.reduceSub, BEq.rfl, decide_true, decide_false, Int.reduceBEq]
      exact hk _ (.refl _)
    · intro M2 s p2 hp2
      rw [List.nil_append, cells]
      refine ⟨_, len_lst lsM_upd, .inl (.inl ⟨by decide, by decide⟩), fun p3 hp3 => ?_⟩
      have ne : p2 ≠ p3 := fun e => by subst e; rw [updM_same] at hp3; cases hp3
      refine rtF (.refl _) (q ⟨p3, p2, _, ne, fun z hz => ?_⟩ _ ⟨_, _, _, _, updM_same, (updM_ne ne).trans updM_same, Int.le_refl _, Int.le_refl _⟩ ((((Subm.new (.refl _) hp).trans s).new hp2).new hp3))
      obtain ⟨i, _, rfl⟩ := List.mem_map.mp hz
      exact Int.natCast_nonneg _
  · simp only [wSs, wS, wE, wEs, wO, wB, wBo, wI, wTg, gs, startT, List.map_cons, List.map_nil, List.length_cons, List.length_nil, List.cons_append, List.nil_append, List.replicate, Nat.reduceAdd, Nat.reduceSub, Nat.zero_add, exEq, wCop, wIx, wTru, bif_len, bif_abs, bif_int, bif_isi, bif_tuple, bif_list, bif_sum, bif_all, bif_any, bif_min2, bif_max2, bif_minl, bif_maxl, bop_add_i, bop_add_t, bop_add_l, bop_sub, bop_mul_i, bop_fdiv, bop_mod, bop_pow, aug_add, aug_sub, aug_mul, setAll, tailS, wipeT, List.set, tru_bl, tru_non, tru_int, tru_tup, if_true, if_false, Bool.false_eq_true, Bool.not_true, Bool.not_false, seqM_tup, ix_tup, len_tup, atI_0, atI_1, atI_2, atI_3, atI_4, Option.some.injEq, exists_eq_left', eq_int, cmp_lt, cmp_le, cmp_gt, cmp_ge, cmp_eq, cmp_ne, cmp_is, cmp_isn, cmp_in, cmp_nin, Option.map, is_nn, is_in, is_tn, tyn_int, tyn_str, tyn_tup, Int.cast_ofNat_Int, Int.reduceLT, Int.reduceLE, Int.reduceAdd, Int.reduceMul, Int.reduceSub, BEq.rfl, decide_true, decide_false, Int.reduceBEq, wSl, bif_abs, TV.int.injEq]
    intro p hp
    rw [hms]
    refine ⟨_, lsM_upd, lcL_map absT (.refl _) (fun _ s => s.lsM lsM_upd) ?_ ?_⟩
    · intro x hx acc M2 k s hk
      obtain ⟨z, _, rfl⟩ := List.mem_map.mp hx
      simp only [wSs, wS, wE, wEs, wO, wB, wBo, wI, wTg, gs, startT, List.map_cons, List.map_nil, List.length_cons, List.length_nil, List.cons_append, List.nil_append, List.replicate, Nat.reduceAdd, Nat.reduceSub, Nat.zero_add, exEq, wCop, wIx, wTru, bif_len, bif_abs, bif_int, bif_isi, bif_tuple, bif_list, bif_sum, bif_all, bif_any, bif_min2, bif_max2, bif_minl, bif_maxl, bop_add_i, bop_add_t, bop_add_l, bop_sub, bop_mul_i, bop_fdiv, bop_mod, bop_pow, aug_add, aug_sub, aug_mul, setAll, tailS, wipeT, List.set, tru_bl, tru_non, tru_int, tru_tup, if_true, if_false, Bool.false_eq_true, Bool.not_true, Bool.not_false, seqM_tup, ix_tup, len_tup, atI_0, atI_1, atI_2, atI_3, atI_4, Option.some.injEq, exists_eq_left', eq_int, cmp_lt, cmp_le, cmp_gt, cmp_ge, cmp_eq, cmp_ne, cmp_is, cmp_isn, cmp_in, cmp_nin, Option.map, is_nn, is_in, is_tn, tyn_int, tyn_str, tyn_tup, Int.cast_ofNat_Int, Int.reduceLT, Int.reduceLE, Int.reduceAdd, Int.reduceMul, Int.reduceSub, BEq.rfl, decide_true, decide_false, Int.reduceBEq]
      exact hk _ (.refl _)
    · intro M2 s p2 hp2
      rw [List.nil_append, cells]
      refine ⟨_, len_lst lsM_upd, .inl (.inl ⟨by decide, by decide⟩), fun p3 hp3 => ?_⟩
      have ne : p2 ≠ p3 := fun e => by subst e; rw [updM_same] at hp3; cases hp3
      refine rtF (.refl _) (q ⟨p3, p2, _, ne, fun z hz => ?_⟩ _ ⟨_, _, _, _, updM_same, (updM_ne ne).trans updM_same, Int.le_refl _, Int.le_refl _⟩ ((((Subm.new (.refl _) hp).trans s).new hp2).new hp3))
      obtain ⟨i, _, rfl⟩ := List.mem_map.mp hz
      exact Int.natCast_nonneg _
theorem h__law_hand {G : Gx} (F : Facts G) : HeldT G 1 (adr G "_law_hand") s__law_hand :=
  F.d__law_hand.held (k := 0) sc__law_hand ck__law_hand (ok__law_hand F) nF (fun xs M Q R ⟨x, _, e, _⟩ => by rw [e]; rfl) v__law_hand
/-! drawing -/
def hm (M : TM) (h : Hn) (l : List TV) : TM := updM M h.a (.lst l)
theorem hm_hm {M : TM} {h : Hn} {l l' : List TV} : updM (hm M h l) h.a (.lst l') = hm M h l' := updM_updM
theorem hm_ls {M : TM} {h : Hn} {l : List TV} : lsM (hm M h l) h.a = some l := lsM_upd
theorem hm_ix {M : TM} {h : Hn} {l : List TV} {i : Int} : ixF (hm M h l) (.ref h.a) (.int i) = atI l i := ix_lst hm_ls i
theorem hm_c {M : TM} {h : Hn} {l : List TV} (e : M h.c = some (.lst (h.cells.map .int))) : lsM (hm M h l) h.c = some (h.cells.map .int) := by
  unfold lsM hm
  rw [updM_ne h.ne, e]
theorem hm_sti {M : TM} {h : Hn} {a b c d e y : TV} {i : Int} {j : Nat} {Q : TM → Prop} (hj : ixN 5 i = some j) : wSti (.ref h.a) (.int i) y (hm M h [a, b, c, d, e]) Q = Q (hm M h (List.set [a, b, c, d, e] j y)) := by
  refine propext ⟨fun ⟨xs, k, e1, e2, q⟩ => ?_, fun q => ⟨_, j, updM_same, hj, by rw [hm_hm]; exact q⟩⟩
  rw [show hm M h [a, b, c, d, e] h.a = some (.lst [a, b, c, d, e]) from updM_same] at e1
  cases e1
  rw [show ([a, b, c, d, e] : List TV).length = 5 from rfl, hj] at e2
  cases e2
  rw [hm_hm] at q
  exact q
theorem hm_hd {M : TM} {h : Hn} {i h2 h3 h4 : Int} (e : M h.c = some (.lst (h.cells.map .int))) (a : 0 ≤ i) (b : 0 ≤ h2) : Hd h M (hm M h [.ref h.c, .int i, .int h2, .int h3, .int h4]) :=
  ⟨⟨i, h2, h3, h4, updM_same, (updM_ne h.ne).trans e, a, b⟩, fun b n => updM_ne n⟩
theorem ix50 : ixN 5 0 = some 0 := by decide
theorem ix51 : ixN 5 1 = some 1 := by decide
theorem ix52 : ixN 5 2 = some 2 := by decide
theorem ix53 : ixN 5 3 = some 3 := by decide
theorem ix54 : ixN 5 4 = some 4 := by decide
def s__law_draw : TSp := fun xs M Q _ => ∃ (h : Hn) (m : Int), xs = [.ref h.a, .int m] ∧ 0 < m ∧ m ≤ 10 ^ 40 ∧ HandOk M h ∧ ∀ v M', 0 ≤ v → v < m → Hd h M M' → Q (.int v) M'
theorem log_ok {m : Int} (h : 0 < m) (g : m ≤ 10 ^ 40) : m.natAbs.log2 < 9000 := by
  have := log_le (v := m) (k := 134) (by omega) (by omega)
  omega
theorem v__law_draw {G : Gx} : ∀ xs M Q R, s__law_draw xs M Q R → wSs noF (b__law_draw G) (endsT Q R) (startT n__law_draw xs) M := by
  rintro xs M Q R ⟨h, m, rfl, m0, m1, ok, q⟩
  obtain ⟨i, h2, h3, h4, e1, e2, i0, h0⟩ := ok
  have tail : ∀ (i h2 h3 h4 : Int) (o2 o3 o4 : Option TV), 0 ≤ i → 0 ≤ h2 → wSs noF (tailS (b__law_draw G)) (endsT Q R) [some (.ref h.a), some (.int m), o2, o3, o4] (hm M h [.ref h.c, .int i, .int h2, .int h3, .int h4]) := by
    intro i h2 h3 h4 o2 o3 o4 i0 h0
    unfold b__law_draw tailS
    simp only [wSs, wS, wE, wEs, wO, wB, wBo, wI, wTg, gs, startT, List.map_cons, List.map_nil, List.length_cons, List.length_nil, List.cons_append, List.nil_append, List.replicate, Nat.reduceAdd, Nat.reduceSub, Nat.zero_add, exEq, wCop, wIx, wTru, bif_len, bif_abs, bif_int, bif_isi, bif_tuple, bif_list, bif_sum, bif_all, bif_any, bif_min2, bif_max2, bif_minl, bif_maxl, bop_add_i, bop_add_t, bop_add_l, bop_sub, bop_mul_i, bop_fdiv, bop_mod, bop_pow, aug_add, aug_sub, aug_mul, setAll, tailS, wipeT, List.set, tru_bl, tru_non, tru_int, tru_tup, if_true, if_false, Bool.false_eq_true, Bool.not_true, Bool.not_false, seqM_tup, ix_tup, len_tup, atI_0, atI_1, atI_2, atI_3, atI_4, Option.some.injEq, exists_eq_left', eq_int, cmp_lt, cmp_le, cmp_gt, cmp_ge, cmp_eq, cmp_ne, cmp_is, cmp_isn, cmp_in, cmp_nin, Option.map, is_nn, is_in, is_tn, tyn_int, tyn_str, tyn_tup, Int.cast_ofNat_Int, Int.reduceLT, Int.reduceLE, Int.reduceAdd, Int.reduceMul, Int.reduceSub, BEq.rfl, decide_true, decide_false, Int.reduceBEq, hm_ix, hm_sti ix52, hm_sti ix54]
    by_cases c : 0 < h2
    · rw [decide_eq_true c]
      simp only [wSs, wS, wE, wEs, wO, wB, wBo, wI, wTg, gs, startT, List.map_cons, List.map_nil, List.length_cons, List.length_nil, List.cons_append, List.nil_append, List.replicate, Nat.reduceAdd, Nat.reduceSub, Nat.zero_add, exEq, wCop, wIx, wTru, bif_len, bif_abs, bif_int, bif_isi, bif_tuple, bif_list, bif_sum, bif_all, bif_any, bif_min2, bif_max2, bif_minl, bif_maxl, bop_add_i, bop_add_t, bop_add_l, bop_sub, bop_mul_i, bop_fdiv, bop_mod, bop_pow, aug_add, aug_sub, aug_mul, setAll, tailS, wipeT, List.set, tru_bl, tru_non, tru_int, tru_tup, if_true, if_false, Bool.false_eq_true, Bool.not_true, Bool.not_false, seqM_tup, ix_tup, len_tup, atI_0, atI_1, atI_2, atI_3, atI_4, Option.some.injEq, exists_eq_left', eq_int, cmp_lt, cmp_le, cmp_gt, cmp_ge, cmp_eq, cmp_ne, cmp_is, cmp_isn, cmp_in, cmp_nin, Option.map, is_nn, is_in, is_tn, tyn_int, tyn_str, tyn_tup, Int.cast_ofNat_Int, Int.reduceLT, Int.reduceLE, Int.reduceAdd, Int.reduceMul, Int.reduceSub, BEq.rfl, decide_true, decide_false, Int.reduceBEq]
      have := Int.emod_nonneg h2 (show m ≠ 0 by omega)
      exact ⟨m0, ⟨m0, log_ok m0 m1⟩, rtF (.refl _) (q _ _ (Int.emod_nonneg _ (by omega)) (Int.emod_lt_of_pos _ m0) (hm_hd e2 i0 (Int.ediv_nonneg h0 (by omega))))⟩
    · rw [decide_eq_false c]
      simp only [wSs, wS, wE, wEs, wO, wB, wBo, wI, wTg, gs, startT, List.map_cons, List.map_nil, List.length_cons, List.length_nil, List.cons_append, List.nil_append, List.replicate, Nat.reduceAdd, Nat.reduceSub, Nat.zero_add, exEq, wCop, wIx, wTru, bif_len, bif_abs, bif_int, bif_isi, bif_tuple, bif_list, bif_sum, bif_all, bif_any, bif_min2, bif_max2, bif_minl, bif_maxl, bop_add_i, bop_add_t, bop_add_l, bop_sub, bop_mul_i, bop_fdiv, bop_mod, bop_pow, aug_add, aug_sub, aug_mul, setAll, tailS, wipeT, List.set, tru_bl, tru_non, tru_int, tru_tup, if_true, if_false, Bool.false_eq_true, Bool.not_true, Bool.not_false, seqM_tup, ix_tup, len_tup, atI_0, atI_1, atI_2, atI_3, atI_4, Option.some.injEq, exists_eq_left', eq_int, cmp_lt, cmp_le, cmp_gt, cmp_ge, cmp_eq, cmp_ne, cmp_is, cmp_isn, cmp_in, cmp_nin, Option.map, is_nn, is_in, is_tn, tyn_int, tyn_str, tyn_tup, Int.cast_ofNat_Int, Int.reduceLT, Int.reduceLE, Int.reduceAdd, Int.reduceMul, Int.reduceSub, BEq.rfl, decide_true, decide_false, Int.reduceBEq]
      have n1 := Int.emod_nonneg ((h3 + 7919 * (h4 + 1)) * 48271) (show (2147483647 : Int) ≠ 0 by decide)
      have n2 := Int.emod_lt_of_pos ((h3 + 7919 * (h4 + 1)) * 48271) (show (0 : Int) < 2147483647 by decide)
      generalize ((h3 + 7919 * (h4 + 1)) * 48271) % 2147483647 = k1 at n1 n2 ⊢
      have n3 := Int.emod_nonneg (k1 * (k1 / 1009 + 69621)) (show (2147483647 : Int) ≠ 0 by decide)
      have n4 := Int.emod_lt_of_pos (k1 * (k1 / 1009 + 69621)) (show (0 : Int) < 2147483647 by decide)
      generalize (k1 * (k1 / 1009 + 69621)) % 2147483647 = k2 at n3 n4 ⊢
      have l1 : (1009 : Int).natAbs.log2 < 9000 := by decide +kernel
      have l2 : (2003 : Int).natAbs.log2 < 9000 := by decide +kernel
      have l3 : (16 : Int).natAbs.log2 < 9000 := by decide +kernel
      refine ⟨.inl (.inl ⟨by decide, by decide⟩), .inl (.inr ⟨by decide, by decide⟩), by decide, ⟨by decide, l1⟩, .inl (.inl ⟨by omega, by omega⟩), by decide, ⟨by decide, l2⟩, .inl (.inl ⟨by omega, by omega⟩), by decide, ⟨by decide, l3⟩, m0, ?_⟩
      exact rtF (.refl _) (q _ _ (Int.emod_nonneg _ (by omega)) (Int.emod_lt_of_pos _ m0) (hm_hd e2 i0 h0))
  have eM : M = hm M h [.ref h.c, .int i, .int h2, .int h3, .int h4] := (updM_self e1).symm
  rw [eM]
  show wS noF _ { endsT Q R with nx := fun σ' M' => wSs noF (tailS (b__law_draw G)) (endsT Q R) σ' M' } _ _
  generalize wSs noF (tailS (b__law_draw G)) (endsT Q R) = T at tail ⊢
  simp only [wSs, wS, wE, wEs, wO, wB, wBo, wI, wTg, gs, startT, List.map_cons, List.map_nil, List.length_cons, List.length_nil, List.cons_append, List.nil_append, List.replicate, Nat.reduceAdd, Nat.reduceSub, Nat.zero_add, exEq, wCop, wIx, wTru, bif_len, bif_abs, bif_int, bif_isi, bif_tuple, bif_list, bif_sum, bif_all, bif_any, bif_min2, bif_max2, bif_minl, bif_maxl, bop_add_i, bop_add_t, bop_add_l, bop_sub, bop_mul_i, bop_fdiv, bop_mod, bop_pow, aug_add, aug_sub, aug_mul, setAll, tailS, wipeT, List.set, tru_bl, tru_non, tru_int, tru_tup, if_true, if_false, Bool.false_eq_true, Bool.not_true, Bool.not_false, seqM_tup, ix_tup, len_tup, atI_0, atI_1, atI_2, atI_3, atI_4, Option.some.injEq, exists_eq_left', eq_int, cmp_lt, cmp_le, cmp_gt, cmp_ge, cmp_eq, cmp_ne, cmp_is, cmp_isn, cmp_in, cmp_nin, Option.map, is_nn, is_in, is_tn, tyn_int, tyn_str, tyn_tup, Int.cast_ofNat_Int, Int.reduceLT, Int.reduceLE, Int.reduceAdd, Int.reduceMul, Int.reduceSub, BEq.rfl, decide_true, decide_false, Int.reduceBEq, hm_ix, hm_sti ix51, hm_sti ix52, hm_sti ix53]
  by_cases c : h2 = 0
  · subst c
    simp only [wSs, wS, wE, wEs, wO, wB, wBo, wI, wTg, gs, startT, List.map_cons, List.map_nil, List.length_cons, List.length_nil, List.cons_append, List.nil_append, List.replicate, Nat.reduceAdd, Nat.reduceSub, Nat.zero_add, exEq, wCop, wIx, wTru, bif_len, bif_abs, bif_int, bif_isi, bif_tuple, bif_list, bif_sum, bif_all, bif_any, bif_min2, bif_max2, bif_minl, bif_maxl, bop_add_i, bop_add_t, bop_add_l, bop_sub, bop_mul_i, bop_fdiv, bop_mod, bop_pow, aug_add, aug_sub, aug_mul, setAll, tailS, wipeT, List.set, tru_bl, tru_non, tru_int, tru_tup, if_true, if_false, Bool.false_eq_true, Bool.not_true, Bool.not_false, seqM_tup, ix_tup, len_tup, atI_0, atI_1, atI_2, atI_3, atI_4, Option.some.injEq, exists_eq_left', eq_int, cmp_lt, cmp_le, cmp_gt, cmp_ge, cmp_eq, cmp_ne, cmp_is, cmp_isn, cmp_in, cmp_nin, Option.map, is_nn, is_in, is_tn, tyn_int, tyn_str, tyn_tup, Int.cast_ofNat_Int, Int.reduceLT, Int.reduceLE, Int.reduceAdd, Int.reduceMul, Int.reduceSub, BEq.rfl, decide_true, decide_false, Int.reduceBEq]
    refine ⟨_, len_lst (hm_c e2), ?_⟩
    by_cases c2 : i < ((h.cells.map TV.int).length : Nat)
    · rw [decide_eq_true c2]
      simp only [wSs, wS, wE, wEs, wO, wB, wBo, wI, wTg, gs, startT, List.map_cons, List.map_nil, List.length_cons, List.length_nil, List.cons_append, List.nil_append, List.replicate, Nat.reduceAdd, Nat.reduceSub, Nat.zero_add, exEq, wCop, wIx, wTru, bif_len, bif_abs, bif_int, bif_isi, bif_tuple, bif_list, bif_sum, bif_all, bif_any, bif_min2, bif_max2, bif_minl, bif_maxl, bop_add_i, bop_add_t, bop_add_l, bop_sub, bop_mul_i, bop_fdiv, bop_mod, bop_pow, aug_add, aug_sub, aug_mul, setAll, tailS, wipeT, List.set, tru_bl, tru_non, tru_int, tru_tup, if_true, if_false, Bool.false_eq_true, Bool.not_true, Bool.not_false, seqM_tup, ix_tup, len_tup, atI_0, atI_1, atI_2, atI_3, atI_4, Option.some.injEq, exists_eq_left', eq_int, cmp_lt, cmp_le, cmp_gt, cmp_ge, cmp_eq, cmp_ne, cmp_is, cmp_isn, cmp_in, cmp_nin, Option.map, is_nn, is_in, is_tn, tyn_int, tyn_str, tyn_tup, Int.cast_ofNat_Int, Int.reduceLT, Int.reduceLE, Int.reduceAdd, Int.reduceMul, Int.reduceSub, BEq.rfl, decide_true, decide_false, Int.reduceBEq]
      rw [List.length_map] at c2
      have hi : (h.cells.map TV.int)[i.toNat]? = some (.int h.cells[i.toNat]) := by
        rw [List.getElem?_map, List.getElem?_eq_getElem (by omega)]
        rfl
      have hx : atI (h.cells.map TV.int) i = some (.int h.cells[i.toNat]) := by
        have := atI_nat hi
        rwa [Int.toNat_of_nonneg i0] at this
      have hp := h.pos _ (List.getElem_mem (show i.toNat < h.cells.length by omega))
      refine ⟨_, (ix_lst (hm_c e2) i).trans hx, ?_⟩
      simp only [wSs, wS, wE, wEs, wO, wB, wBo, wI, wTg, gs, startT, List.map_cons, List.map_nil, List.length_cons, List.length_nil, List.cons_append, List.nil_append, List.replicate, Nat.reduceAdd, Nat.reduceSub, Nat.zero_add, exEq, wCop, wIx, wTru, bif_len, bif_abs, bif_int, bif_isi, bif_tuple, bif_list, bif_sum, bif_all, bif_any, bif_min2, bif_max2, bif_minl, bif_maxl, bop_add_i, bop_add_t, bop_add_l, bop_sub, bop_mul_i, bop_fdiv, bop_mod, bop_pow, aug_add, aug_sub, aug_mul, setAll, tailS, wipeT, List.set, tru_bl, tru_non, tru_int, tru_tup, if_true, if_false, Bool.false_eq_true, Bool.not_true, Bool.not_false, seqM_tup, ix_tup, len_tup, atI_0, atI_1, atI_2, atI_3, atI_4, Option.some.injEq, exists_eq_left', eq_int, cmp_lt, cmp_le, cmp_gt, cmp_ge, cmp_eq, cmp_ne, cmp_is, cmp_isn, cmp_in, cmp_nin, Option.map, is_nn, is_in, is_tn, tyn_int, tyn_str, tyn_tup, Int.cast_ofNat_Int, Int.reduceLT, Int.reduceLE, Int.reduceAdd, Int.reduceMul, Int.reduceSub, BEq.rfl, decide_true, decide_false, Int.reduceBEq, hm_ix, hm_sti ix52, hm_sti ix53]
      refine ⟨.inl (.inr ⟨by decide, by decide⟩), trivial, ⟨trivial, trivial, by decide⟩, ?_⟩
      by_cases c3 : (10 : Int) ^ (18 : Int).toNat ≤ h.cells[i.toNat]
      · rw [decide_eq_true c3]
        simp only [wSs, wS, wE, wEs, wO, wB, wBo, wI, wTg, gs, startT, List.map_cons, List.map_nil, List.length_cons, List.length_nil, List.cons_append, List.nil_append, List.replicate, Nat.reduceAdd, Nat.reduceSub, Nat.zero_add, exEq, wCop, wIx, wTru, bif_len, bif_abs, bif_int, bif_isi, bif_tuple, bif_list, bif_sum, bif_all, bif_any, bif_min2, bif_max2, bif_minl, bif_maxl, bop_add_i, bop_add_t, bop_add_l, bop_sub, bop_mul_i, bop_fdiv, bop_mod, bop_pow, aug_add, aug_sub, aug_mul, setAll, tailS, wipeT, List.set, tru_bl, tru_non, tru_int, tru_tup, if_true, if_false, Bool.false_eq_true, Bool.not_true, Bool.not_false, seqM_tup, ix_tup, len_tup, atI_0, atI_1, atI_2, atI_3, atI_4, Option.some.injEq, exists_eq_left', eq_int, cmp_lt, cmp_le, cmp_gt, cmp_ge, cmp_eq, cmp_ne, cmp_is, cmp_isn, cmp_in, cmp_nin, Option.map, is_nn, is_in, is_tn, tyn_int, tyn_str, tyn_tup, Int.cast_ofNat_Int, Int.reduceLT, Int.reduceLE, Int.reduceAdd, Int.reduceMul, Int.reduceSub, BEq.rfl, decide_true, decide_false, Int.reduceBEq]
        exact tail _ _ _ _ _ _ _ (by omega) hp
      · rw [decide_eq_false c3]
        simp only [wSs, wS, wE, wEs, wO, wB, wBo, wI, wTg, gs, startT, List.map_cons, List.map_nil, List.length_cons, List.length_nil, List.cons_append, List.nil_append, List.replicate, Nat.reduceAdd, Nat.reduceSub, Nat.zero_add, exEq, wCop, wIx, wTru, bif_len, bif_abs, bif_int, bif_isi, bif_tuple, bif_list, bif_sum, bif_all, bif_any, bif_min2, bif_max2, bif_minl, bif_maxl, bop_add_i, bop_add_t, bop_add_l, bop_sub, bop_mul_i, bop_fdiv, bop_mod, bop_pow, aug_add, aug_sub, aug_mul, setAll, tailS, wipeT, List.set, tru_bl, tru_non, tru_int, tru_tup, if_true, if_false, Bool.false_eq_true, Bool.not_true, Bool.not_false, seqM_tup, ix_tup, len_tup, atI_0, atI_1, atI_2, atI_3, atI_4, Option.some.injEq, exists_eq_left', eq_int, cmp_lt, cmp_le, cmp_gt, cmp_ge, cmp_eq, cmp_ne, cmp_is, cmp_isn, cmp_in, cmp_nin, Option.map, is_nn, is_in, is_tn, tyn_int, tyn_str, tyn_tup, Int.cast_ofNat_Int, Int.reduceLT, Int.reduceLE, Int.reduceAdd, Int.reduceMul, Int.reduceSub, BEq.rfl, decide_true, decide_false, Int.reduceBEq]
        exact tail _ _ _ _ _ _ _ (by omega) (Int.le_refl _)
    · rw [decide_eq_false c2]
      simp only [wSs, wS, wE, wEs, wO, wB, wBo, wI, wTg, gs, startT, List.map_cons, List.map_nil, List.length_cons, List.length_nil, List.cons_append, List.nil_append, List.replicate, Nat.reduceAdd, Nat.reduceSub, Nat.zero_add, exEq, wCop, wIx, wTru, bif_len, bif_abs, bif_int, bif_isi, bif_tuple, bif_list, bif_sum, bif_all, bif_any, bif_min2, bif_max2, bif_minl, bif_maxl, bop_add_i, bop_add_t, bop_add_l, bop_sub, bop_mul_i, bop_fdiv, bop_mod, bop_pow, aug_add, aug_sub, aug_mul, setAll, tailS, wipeT, List.set, tru_bl, tru_non, tru_int, tru_tup, if_true, if_false, Bool.false_eq_true, Bool.not_true, Bool.not_false, seqM_tup, ix_tup, len_tup, atI_0, atI_1, atI_2, atI_3, atI_4, Option.some.injEq, exists_eq_left', eq_int, cmp_lt, cmp_le, cmp_gt, cmp_ge, cmp_eq, cmp_ne, cmp_is, cmp_isn, cmp_in, cmp_nin, Option.map, is_nn, is_in, is_tn, tyn_int, tyn_str, tyn_tup, Int.cast_ofNat_Int, Int.reduceLT, Int.reduceLE, Int.reduceAdd, Int.reduceMul, Int.reduceSub, BEq.rfl, decide_true, decide_false, Int.reduceBEq]
      exact tail _ _ _ _ _ _ _ i0 (Int.le_refl _)
  · have : (h2 == 0) = false := by simpa using c
    rw [this]
    simp only [wSs, wS, wE, wEs, wO, wB, wBo, wI, wTg, gs, startT, List.map_cons, List.map_nil, List.length_cons, List.length_nil, List.cons_append, List.nil_append, List.replicate, Nat.reduceAdd, Nat.reduceSub, Nat.zero_add, exEq, wCop, wIx, wTru, bif_len, bif_abs, bif_int, bif_isi, bif_tuple, bif_list, bif_sum, bif_all, bif_any, bif_min2, bif_max2, bif_minl, bif_maxl, bop_add_i, bop_add_t, bop_add_l, bop_sub, bop_mul_i, bop_fdiv, bop_mod, bop_pow, aug_add, aug_sub, aug_mul, setAll, tailS, wipeT, List.set, tru_bl, tru_non, tru_int, tru_tup, if_true, if_false, Bool.false_eq_true, Bool.not_true, Bool.not_false, seqM_tup, ix_tup, len_tup, atI_0, atI_1, atI_2, atI_3, atI_4, Option.some.injEq, exists_eq_left', eq_int, cmp_lt, cmp_le, cmp_gt, cmp_ge, cmp_eq, cmp_ne, cmp_is, cmp_isn, cmp_in, cmp_nin, Option.map, is_nn, is_in, is_tn, tyn_int, tyn_str, tyn_tup, Int.cast_ofNat_Int, Int.reduceLT, Int.reduceLE, Int.reduceAdd, Int.reduceMul, Int.reduceSub, BEq.rfl, decide_true, decide_false, Int.reduceBEq]
    exact tail _ _ _ _ _ _ _ i0 h0
theorem h__law_draw {G : Gx} (F : Facts G) : HeldT G 1 (adr G "_law_draw") s__law_draw :=
  F.d__law_draw.held (k := 0) sc__law_draw ck__law_draw (ok__law_draw F) nF (fun xs M Q R ⟨x, _, e, _⟩ => by rw [e]; rfl) v__law_draw
/-! VcE: the law's draws of places and plans. -/
theorem Hd.ls {h : Hn} {M M' : TM} {t : Addr} {ys : List TV} (k : Hd h M M') (n : t ≠ h.a) (e : lsM M t = some ys) : lsM M' t = some ys := by
  unfold lsM at e ⊢
  rw [k.2 t n]
  exact e
def s__law_some : TSp := fun xs M Q _ => ∃ (h : Hn) (t : Addr) (ys : List TV), xs = [.ref h.a, .ref t] ∧ lsM M t = some ys ∧ 0 < ys.length ∧ ys.length ≤ 1000 ∧ t ≠ h.a ∧ HandOk M h ∧ ∀ y M', y ∈ ys → Hd h M M' → Q y M'
theorem v__law_some {G : Gx} : ∀ xs M Q R, s__law_some xs M Q R → wSs noF (b__law_some G s__law_draw) (endsT Q R) (startT n__law_some xs) M := by
  rintro xs M Q R ⟨h, t, ys, rfl, e, l0, l1, ne, ok, q⟩
  unfold b__law_some
  simp only [wSs, wS, wE, wEs, wO, wB, wBo, wI, wTg, gs, startT, List.map_cons, List.map_nil, List.length_cons, List.length_nil, List.cons_append, List.nil_append, List.replicate, Nat.reduceAdd, Nat.reduceSub, Nat.zero_add, exEq, wCop, wIx, wTru, bif_len, bif_abs, bif_int, bif_isi, bif_tuple, bif_list, bif_sum, bif_all, bif_any, bif_min2, bif_max2, bif_minl, bif_maxl, bop_add_i, bop_add_t, bop_add_l, bop_sub, bop_mul_i, bop_fdiv, bop_mod, bop_pow, aug_add, aug_sub, aug_mul, setAll, tailS, wipeT, List.set, tru_bl, tru_non, tru_int, tru_tup, if_true, if_false, Bool.false_eq_true, Bool.not_true, Bool.not_false, seqM_tup, ix_tup, len_tup, atI_0, atI_1, atI_2, atI_3, atI_4, Option.some.injEq, exists_eq_left', eq_int, cmp_lt, cmp_le, cmp_gt, cmp_ge, cmp_eq, cmp_ne, cmp_is, cmp_isn, cmp_in, cmp_nin, Option.map, is_nn, is_in, is_tn, tyn_int, tyn_str, tyn_tup, Int.cast_ofNat_Int, Int.reduceLT, Int.reduceLE, Int.reduceAdd, Int.reduceMul, Int.reduceSub, BEq.rfl, decide_true, decide_false, Int.reduceBEq]
  refine ⟨_, len_lst e, h, _, rfl, by omega, by omega, ok, fun v M' v0 v1 hd => ?_⟩
  obtain ⟨n, rfl⟩ := Int.eq_ofNat_of_zero_le v0
  have hn : n < ys.length := by omega
  refine ⟨ys[n], (ix_lst (hd.ls ne e) _).trans (atI_nat (List.getElem?_eq_getElem hn)), rtF (.refl _) (q _ _ (List.getElem_mem hn) hd)⟩
theorem h__law_some {G : Gx} (F : Facts G) : HeldT G 2 (adr G "_law_some") s__law_some :=
  F.d__law_some.held (k := 1) sc__law_some ck__law_some (ok__law_some F (h__law_draw F)) nF (fun xs M Q R ⟨_, _, x, e, _⟩ => by rw [e]; rfl) v__law_some
def s__law_place : TSp := fun xs M Q _ => ∃ (h : Hn) (m : Int), xs = [.ref h.a, .int m] ∧ 0 ≤ m ∧ m < 1000000000000 ∧ HandOk M h ∧ ∀ l w M', (Pl.place l w).ok → Hd h M M' → Q (.tup [.int l, .int w]) M'
theorem v__law_place {G : Gx} : ∀ xs M Q R, s__law_place xs M Q R → wSs noF (b__law_place G s__law_some s__law_draw) (endsT Q R) (startT n__law_place xs) M := by
  rintro xs M Q R ⟨h, m, rfl, m0, m1, ok, q⟩
  unfold b__law_place
  simp only [wSs, wS, wE, wEs, wO, wB, wBo, wI, wTg, gs, startT, List.map_cons, List.map_nil, List.length_cons, List.length_nil, List.cons_append, List.nil_append, List.replicate, Nat.reduceAdd, Nat.reduceSub, Nat.zero_add, exEq, wCop, wIx, wTru, bif_len, bif_abs, bif_int, bif_isi, bif_tuple, bif_list, bif_sum, bif_all, bif_any, bif_min2, bif_max2, bif_minl, bif_maxl, bop_add_i, bop_add_t, bop_add_l, bop_sub, bop_mul_i, bop_fdiv, bop_mod, bop_pow, aug_add, aug_sub, aug_mul, setAll, tailS, wipeT, List.set, tru_bl, tru_non, tru_int, tru_tup, if_true, if_false, Bool.false_eq_true, Bool.not_true, Bool.not_false, seqM_tup, ix_tup, len_tup, atI_0, atI_1, atI_2, atI_3, atI_4, Option.some.injEq, exists_eq_left', eq_int, cmp_lt, cmp_le, cmp_gt, cmp_ge, cmp_eq, cmp_ne, cmp_is, cmp_isn, cmp_in, cmp_nin, Option.map, is_nn, is_in, is_tn, tyn_int, tyn_str, tyn_tup, Int.cast_ofNat_Int, Int.reduceLT, Int.reduceLE, Int.reduceAdd, Int.reduceMul, Int.reduceSub, BEq.rfl, decide_true, decide_false, Int.reduceBEq]
  refine ⟨h, _, rfl, by omega, by omega, ok, fun l M1 l0 l1 d1 => ⟨h, _, rfl, by omega, by omega, d1.1, fun w M2 w0 w1 d2 => ⟨h, _, rfl, by decide, by decide, d2.1, fun s M3 s0 s1 d3 => ?_⟩⟩⟩
  have d13 := (d1.trans d2).trans d3
  have x13 : Xt h M M3 := (Xt.refl ok).hd d13
  have tail : ∀ l : Int, 0 ≤ l → l < m + 1 → wSs noF (tailS (tailS (b__law_place G s__law_some s__law_draw))) (endsT Q R) [some (.ref h.a), some (.int m), some (.int l), some (.int w)] M3 := by
    intro l l0 l1
    unfold b__law_place
    simp only [wSs, wS, wE, wEs, wO, wB, wBo, wI, wTg, gs, startT, List.map_cons, List.map_nil, List.length_cons, List.length_nil, List.cons_append, List.nil_append, List.replicate, Nat.reduceAdd, Nat.reduceSub, Nat.zero_add, exEq, wCop, wIx, wTru, bif_len, bif_abs, bif_int, bif_isi, bif_tuple, bif_list, bif_sum, bif_all, bif_any, bif_min2, bif_max2, bif_minl, bif_maxl, bop_add_i, bop_add_t, bop_add_l, bop_sub, bop_mul_i, bop_fdiv, bop_mod, bop_pow, aug_add, aug_sub, aug_mul, setAll, tailS, wipeT, List.set, tru_bl, tru_non, tru_int, tru_tup, if_true, if_false, Bool.false_eq_true, Bool.not_true, Bool.not_false, seqM_tup, ix_tup, len_tup, atI_0, atI_1, atI_2, atI_3, atI_4, Option.some.injEq, exists_eq_left', eq_int, cmp_lt, cmp_le, cmp_gt, cmp_ge, cmp_eq, cmp_ne, cmp_is, cmp_isn, cmp_in, cmp_nin, Option.map, is_nn, is_in, is_tn, tyn_int, tyn_str, tyn_tup, Int.cast_ofNat_Int, Int.reduceLT, Int.reduceLE, Int.reduceAdd, Int.reduceMul, Int.reduceSub, BEq.rfl, decide_true, decide_false, Int.reduceBEq]
    have last : ¬ (l = 0 ∧ w = 0) → (endsT Q R).rt (.tup [.int l, .int w]) M3 := fun n => rtF (.refl _) (q l w M3 ⟨l0, by omega, w0, by omega, n⟩ d13)
    by_cases c : l = 0
    · subst c
      simp only [wSs, wS, wE, wEs, wO, wB, wBo, wI, wTg, gs, startT, List.map_cons, List.map_nil, List.length_cons, List.length_nil, List.cons_append, List.nil_append, List.replicate, Nat.reduceAdd, Nat.reduceSub, Nat.zero_add, exEq, wCop, wIx, wTru, bif_len, bif_abs, bif_int, bif_isi, bif_tuple, bif_list, bif_sum, bif_all, bif_any, bif_min2, bif_max2, bif_minl, bif_maxl, bop_add_i, bop_add_t, bop_add_l, bop_sub, bop_mul_i, bop_fdiv, bop_mod, bop_pow, aug_add, aug_sub, aug_mul, setAll, tailS, wipeT, List.set, tru_bl, tru_non, tru_int, tru_tup, if_true, if_false, Bool.false_eq_true, Bool.not_true, Bool.not_false, seqM_tup, ix_tup, len_tup, atI_0, atI_1, atI_2, atI_3, atI_4, Option.some.injEq, exists_eq_left', eq_int, cmp_lt, cmp_le, cmp_gt, cmp_ge, cmp_eq, cmp_ne, cmp_is, cmp_isn, cmp_in, cmp_nin, Option.map, is_nn, is_in, is_tn, tyn_int, tyn_str, tyn_tup, Int.cast_ofNat_Int, Int.reduceLT, Int.reduceLE, Int.reduceAdd, Int.reduceMul, Int.reduceSub, BEq.rfl, decide_true, decide_false, Int.reduceBEq]
      by_cases c2 : w = 0
      · subst c2
        simp only [wSs, wS, wE, wEs, wO, wB, wBo, wI, wTg, gs, startT, List.map_cons, List.map_nil, List.length_cons, List.length_nil, List.cons_append, List.nil_append, List.replicate, Nat.reduceAdd, Nat.reduceSub, Nat.zero_add, exEq, wCop, wIx, wTru, bif_len, bif_abs, bif_int, bif_isi, bif_tuple, bif_list, bif_sum, bif_all, bif_any, bif_min2, bif_max2, bif_minl, bif_maxl, bop_add_i, bop_add_t, bop_add_l, bop_sub, bop_mul_i, bop_fdiv, bop_mod, bop_pow, aug_add, aug_sub, aug_mul, setAll, tailS, wipeT, List.set, tru_bl, tru_non, tru_int, tru_tup, if_true, if_false, Bool.false_eq_true, Bool.not_true, Bool.not_false, seqM_tup, ix_tup, len_tup, atI_0, atI_1, atI_2, atI_3, atI_4, Option.some.injEq, exists_eq_left', eq_int, cmp_lt, cmp_le, cmp_gt, cmp_ge, cmp_eq, cmp_ne, cmp_is, cmp_isn, cmp_in, cmp_nin, Option.map, is_nn, is_in, is_tn, tyn_int, tyn_str, tyn_tup, Int.cast_ofNat_Int, Int.reduceLT, Int.reduceLE, Int.reduceAdd, Int.reduceMul, Int.reduceSub, BEq.rfl, decide_true, decide_false, Int.reduceBEq]
        intro t ht
        have ht3 := d3.1.ne ht
        refine ⟨h, t, _, rfl, lsM_upd, by decide, by decide, ht3, (d3.1.sub (Subm.new (.refl _) ht)), fun y M4 hy d4 => rtH ((x13.new ht).hd d4) fun M5 d5 => ?_⟩
        simp only [List.mem_cons, List.not_mem_nil, or_false] at hy
        rcases hy with rfl | rfl | rfl
        · exact q 0 1 M5 ⟨by decide, by decide, by decide, by decide, by decide⟩ d5
        · exact q 1 0 M5 ⟨by decide, by decide, by decide, by decide, by decide⟩ d5
        · exact q 1 1 M5 ⟨by decide, by decide, by decide, by decide, by decide⟩ d5
      · have : (w == 0) = false := by simpa using c2
        simp only [wSs, wS, wE, wEs, wO, wB, wBo, wI, wTg, gs, startT, List.map_cons, List.map_nil, List.length_cons, List.length_nil, List.cons_append, List.nil_append, List.replicate, Nat.reduceAdd, Nat.reduceSub, Nat.zero_add, exEq, wCop, wIx, wTru, bif_len, bif_abs, bif_int, bif_isi, bif_tuple, bif_list, bif_sum, bif_all, bif_any, bif_min2, bif_max2, bif_minl, bif_maxl, bop_add_i, bop_add_t, bop_add_l, bop_sub, bop_mul_i, bop_fdiv, bop_mod, bop_pow, aug_add, aug_sub, aug_mul, setAll, tailS, wipeT, List.set, tru_bl, tru_non, tru_int, tru_tup, if_true, if_false, Bool.false_eq_true, Bool.not_true, Bool.not_false, seqM_tup, ix_tup, len_tup, atI_0, atI_1, atI_2, atI_3, atI_4, Option.some.injEq, exists_eq_left', eq_int, cmp_lt, cmp_le, cmp_gt, cmp_ge, cmp_eq, cmp_ne, cmp_is, cmp_isn, cmp_in, cmp_nin, Option.map, is_nn, is_in, is_tn, tyn_int, tyn_str, tyn_tup, Int.cast_ofNat_Int, Int.reduceLT, Int.reduceLE, Int.reduceAdd, Int.reduceMul, Int.reduceSub, BEq.rfl, decide_true, decide_false, Int.reduceBEq, this]
        exact last fun z => c2 z.2
    · have : (l == 0) = false := by simpa using c
      simp only [wSs, wS, wE, wEs, wO, wB, wBo, wI, wTg, gs, startT, List.map_cons, List.map_nil, List.length_cons, List.length_nil, List.cons_append, List.nil_append, List.replicate, Nat.reduceAdd, Nat.reduceSub, Nat.zero_add, exEq, wCop, wIx, wTru, bif_len, bif_abs, bif_int, bif_isi, bif_tuple, bif_list, bif_sum, bif_all, bif_any, bif_min2, bif_max2, bif_minl, bif_maxl, bop_add_i, bop_add_t, bop_add_l, bop_sub, bop_mul_i, bop_fdiv, bop_mod, bop_pow, aug_add, aug_sub, aug_mul, setAll, tailS, wipeT, List.set, tru_bl, tru_non, tru_int, tru_tup, if_true, if_false, Bool.false_eq_true, Bool.not_true, Bool.not_false, seqM_tup, ix_tup, len_tup, atI_0, atI_1, atI_2, atI_3, atI_4, Option.some.injEq, exists_eq_left', eq_int, cmp_lt, cmp_le, cmp_gt, cmp_ge, cmp_eq, cmp_ne, cmp_is, cmp_isn, cmp_in, cmp_nin, Option.map, is_nn, is_in, is_tn, tyn_int, tyn_str, tyn_tup, Int.cast_ofNat_Int, Int.reduceLT, Int.reduceLE, Int.reduceAdd, Int.reduceMul, Int.reduceSub, BEq.rfl, decide_true, decide_false, Int.reduceBEq, this]
      exact last fun z => c z.1
  by_cases c : s = 0
  · subst c
    have := tail 0 (Int.le_refl _) (by omega)
    unfold b__law_place at this
    simp only [wSs, wS, wE, wEs, wO, wB, wBo, wI, wTg, gs, startT, List.map_cons, List.map_nil, List.length_cons, List.length_nil, List.cons_append, List.nil_append, List.replicate, Nat.reduceAdd, Nat.reduceSub, Nat.zero_add, exEq, wCop, wIx, wTru, bif_len, bif_abs, bif_int, bif_isi, bif_tuple, bif_list, bif_sum, bif_all, bif_any, bif_min2, bif_max2, bif_minl, bif_maxl, bop_add_i, bop_add_t, bop_add_l, bop_sub, bop_mul_i, bop_fdiv, bop_mod, bop_pow, aug_add, aug_sub, aug_mul, setAll, tailS, wipeT, List.set, tru_bl, tru_non, tru_int, tru_tup, if_true, if_false, Bool.false_eq_true, Bool.not_true, Bool.not_false, seqM_tup, ix_tup, len_tup, atI_0, atI_1, atI_2, atI_3, atI_4, Option.some.injEq, exists_eq_left', eq_int, cmp_lt, cmp_le, cmp_gt, cmp_ge, cmp_eq, cmp_ne, cmp_is, cmp_isn, cmp_in, cmp_nin, Option.map, is_nn, is_in, is_tn, tyn_int, tyn_str, tyn_tup, Int.cast_ofNat_Int, Int.reduceLT, Int.reduceLE, Int.reduceAdd, Int.reduceMul, Int.reduceSub, BEq.rfl, decide_true, decide_false, Int.reduceBEq] at this
    simp only [wSs, wS, wE, wEs, wO, wB, wBo, wI, wTg, gs, startT, List.map_cons, List.map_nil, List.length_cons, List.length_nil, List.cons_append, List.nil_append, List.replicate, Nat.reduceAdd, Nat.reduceSub, Nat.zero_add, exEq, wCop, wIx, wTru, bif_len, bif_abs, bif_int, bif_isi, bif_tuple, bif_list, bif_sum, bif_all, bif_any, bif_min2, bif_max2, bif_minl, bif_maxl, bop_add_i, bop_add_t, bop_add_l, bop_sub, bop_mul_i, bop_fdiv, bop_mod, bop_pow, aug_add, aug_sub, aug_mul, setAll, tailS, wipeT, List.set, tru_bl, tru_non, tru_int, tru_tup, if_true, if_false, Bool.false_eq_true, Bool.not_true, Bool.not_false, seqM_tup, ix_tup, len_tup, atI_0, atI_1, atI_2, atI_3, atI_4, Option.some.injEq, exists_eq_left', eq_int, cmp_lt, cmp_le, cmp_gt, cmp_ge, cmp_eq, cmp_ne, cmp_is, cmp_isn, cmp_in, cmp_nin, Option.map, is_nn, is_in, is_tn, tyn_int, tyn_str, tyn_tup, Int.cast_ofNat_Int, Int.reduceLT, Int.reduceLE, Int.reduceAdd, Int.reduceMul, Int.reduceSub, BEq.rfl, decide_true, decide_false, Int.reduceBEq]
    exact this
  · have e : (s == 0) = false := by simpa using c
    have := tail l l0 l1
    unfold b__law_place at this
    simp only [wSs, wS, wE, wEs, wO, wB, wBo, wI, wTg, gs, startT, List.map_cons, List.map_nil, List.length_cons, List.length_nil, List.cons_append, List.nil_append, List.replicate, Nat.reduceAdd, Nat.reduceSub, Nat.zero_add, exEq, wCop, wIx, wTru, bif_len, bif_abs, bif_int, bif_isi, bif_tuple, bif_list, bif_sum, bif_all, bif_any, bif_min2, bif_max2, bif_minl, bif_maxl, bop_add_i, bop_add_t, bop_add_l, bop_sub, bop_mul_i, bop_fdiv, bop_mod, bop_pow, aug_add, aug_sub, aug_mul, setAll, tailS, wipeT, List.set, tru_bl, tru_non, tru_int, tru_tup, if_true, if_false, Bool.false_eq_true, Bool.not_true, Bool.not_false, seqM_tup, ix_tup, len_tup, atI_0, atI_1, atI_2, atI_3, atI_4, Option.some.injEq, exists_eq_left', eq_int, cmp_lt, cmp_le, cmp_gt, cmp_ge, cmp_eq, cmp_ne, cmp_is, cmp_isn, cmp_in, cmp_nin, Option.map, is_nn, is_in, is_tn, tyn_int, tyn_str, tyn_tup, Int.cast_ofNat_Int, Int.reduceLT, Int.reduceLE, Int.reduceAdd, Int.reduceMul, Int.reduceSub, BEq.rfl, decide_true, decide_false, Int.reduceBEq] at this
    simp only [wSs, wS, wE, wEs, wO, wB, wBo, wI, wTg, gs, startT, List.map_cons, List.map_nil, List.length_cons, List.length_nil, List.cons_append, List.nil_append, List.replicate, Nat.reduceAdd, Nat.reduceSub, Nat.zero_add, exEq, wCop, wIx, wTru, bif_len, bif_abs, bif_int, bif_isi, bif_tuple, bif_list, bif_sum, bif_all, bif_any, bif_min2, bif_max2, bif_minl, bif_maxl, bop_add_i, bop_add_t, bop_add_l, bop_sub, bop_mul_i, bop_fdiv, bop_mod, bop_pow, aug_add, aug_sub, aug_mul, setAll, tailS, wipeT, List.set, tru_bl, tru_non, tru_int, tru_tup, if_true, if_false, Bool.false_eq_true, Bool.not_true, Bool.not_false, seqM_tup, ix_tup, len_tup, atI_0, atI_1, atI_2, atI_3, atI_4, Option.some.injEq, exists_eq_left', eq_int, cmp_lt, cmp_le, cmp_gt, cmp_ge, cmp_eq, cmp_ne, cmp_is, cmp_isn, cmp_in, cmp_nin, Option.map, is_nn, is_in, is_tn, tyn_int, tyn_str, tyn_tup, Int.cast_ofNat_Int, Int.reduceLT, Int.reduceLE, Int.reduceAdd, Int.reduceMul, Int.reduceSub, BEq.rfl, decide_true, decide_false, Int.reduceBEq, e]
    exact this
theorem h__law_place {G : Gx} (F : Facts G) : HeldT G 3 (adr G "_law_place") s__law_place :=
  F.d__law_place.held (k := 2) sc__law_place ck__law_place (ok__law_place F (h__law_some F) ((h__law_draw F).mono (by decide))) nF (fun xs M Q R ⟨_, x, e, _⟩ => by rw [e]; rfl) v__law_place
/-! the same -/
def Same (M : TM) : Nat → TV → TV → Prop
  | _, .int a, .int b => a = b
  | n + 1, .tup xs, .tup ys => xs.length = ys.length ∧ ∀ (i : Nat) (x y : TV), xs[i]? = some x → ys[i]? = some y → Same M n x y
  | n + 1, .ref a, .ref b => ∃ xs ys, lsM M a = some xs ∧ lsM M b = some ys ∧ xs.length = ys.length ∧ ∀ (i : Nat) (x y : TV), xs[i]? = some x → ys[i]? = some y → Same M n x y
  | _, _, _ => False
theorem Same.sub {M M' : TM} (s : Subm M M') : ∀ {n : Nat} {x y : TV}, Same M n x y → Same M' n x y
  | 0, .int _, .int _, h => by simpa only [Same] using h
  | n + 1, .int _, .int _, h => by simpa only [Same] using h
  | n + 1, .tup xs, .tup ys, h => ⟨h.1, fun i x y a b => Same.sub s (h.2 i x y a b)⟩
  | n + 1, .ref a, .ref b, ⟨xs, ys, h1, h2, h3, h4⟩ => ⟨xs, ys, s.lsM h1, s.lsM h2, h3, fun i x y a b => Same.sub s (h4 i x y a b)⟩
def s__law_is (d : Nat) : TSp := fun xs M Q _ => ∃ x y, xs = [x, y] ∧ Same M d x y ∧ Q (.bl true) M
theorem v__law_is {G : Gx} : ∀ d xs M Q R, s__law_is d xs M Q R → wSs noF (b__law_is G (prevS s__law_is d)) (endsT Q R) (startT n__law_is xs) M := by
  rintro d xs M Q R ⟨x, y, rfl, h, q⟩
  unfold b__law_is
  have walk : ∀ {n : Nat} {M1 : TM} {zs ws : List TV} {chk : TM → Prop} {σ : TSt}, d = n + 1 → Subm M M1 → (∀ M2, Subm M1 M2 → chk M2) → (∀ (i : Nat) (x y : TV), zs[i]? = some x → ws[i]? = some y → Same M n x y) →
      ∀ {step : List TV → TV → TM → (List TV → TM → Prop) → Prop} {fin : List TV → TM → Prop}, (∀ a b acc M2 k, s__law_is n [a, b] M2 (fun y M5 => k (acc ++ [y]) M5) (fun _ _ => False) → step acc (.tup [a, b]) M2 k) →
      (∀ M2, Subm M1 M2 → fin ((zipT zs ws).map fun _ => .bl true) M2) → lcL chk step fin (zipT zs ws) [] M1 := by
    intro n M1 zs ws chk σ e s hc hs step fin hst hf
    refine lcL_map (fun _ => .bl true) (.refl _) hc ?_ (by simpa using hf)
    intro x hx acc M2 k s2 hk
    obtain ⟨i, hi, hx⟩ := List.getElem_of_mem hx
    obtain ⟨a, b, ha, hb, rfl⟩ := zipT_get (i := i) (xs := zs) (ys := ws) (by rw [List.getElem?_eq_getElem hi, hx])
    exact hst a b acc M2 k ⟨a, b, rfl, (hs i a b ha hb).sub (s.trans s2), hk _ (.refl _)⟩
  cases x <;> cases y <;> first | (cases d <;> exact h.elim) | skip
  case int.int a b =>
    have : a = b := by cases d <;> exact h
    subst this
    simp only [wSs, wS, wE, wEs, wO, wB, wBo, wI, wTg, gs, startT, List.map_cons, List.map_nil, List.length_cons, List.length_nil, List.cons_append, List.nil_append, List.replicate, Nat.reduceAdd, Nat.reduceSub, Nat.zero_add, exEq, wCop, wIx, wTru, bif_len, bif_abs, bif_int, bif_isi, bif_tuple, bif_list, bif_sum, bif_all, bif_any, bif_min2, bif_max2, bif_minl, bif_maxl, bop_add_i, bop_add_t, bop_add_l, bop_sub, bop_mul_i, bop_fdiv, bop_mod, bop_pow, aug_add, aug_sub, aug_mul, setAll, tailS, wipeT, List.set, tru_bl, tru_non, tru_int, tru_tup, if_true, if_false, Bool.false_eq_true, Bool.not_true, Bool.not_false, seqM_tup, ix_tup, len_tup, atI_0, atI_1, atI_2, atI_3, atI_4, Option.some.injEq, exists_eq_left', eq_int, cmp_lt, cmp_le, cmp_gt, cmp_ge, cmp_eq, cmp_ne, cmp_is, cmp_isn, cmp_in, cmp_nin, Option.map, is_nn, is_in, is_tn, tyn_int, tyn_str, tyn_tup, Int.cast_ofNat_Int, Int.reduceLT, Int.reduceLE, Int.reduceAdd, Int.reduceMul, Int.reduceSub, BEq.rfl, decide_true, decide_false, Int.reduceBEq, isiG_two, kit_int_tuple, kit_int_list, isi_int, kit_int_bool, kit_int_str, eq_bl]
    exact rtF (.refl _) q
  case tup.tup zs ws =>
    cases d with
    | zero => exact h.elim
    | succ d =>
    simp only [wSs, wS, wE, wEs, wO, wB, wBo, wI, wTg, gs, startT, List.map_cons, List.map_nil, List.length_cons, List.length_nil, List.cons_append, List.nil_append, List.replicate, Nat.reduceAdd, Nat.reduceSub, Nat.zero_add, exEq, wCop, wIx, wTru, bif_len, bif_abs, bif_int, bif_isi, bif_tuple, bif_list, bif_sum, bif_all, bif_any, bif_min2, bif_max2, bif_minl, bif_maxl, bop_add_i, bop_add_t, bop_add_l, bop_sub, bop_mul_i, bop_fdiv, bop_mod, bop_pow, aug_add, aug_sub, aug_mul, setAll, tailS, wipeT, List.set, tru_bl, tru_non, tru_int, tru_tup, if_true, if_false, Bool.false_eq_true, Bool.not_true, Bool.not_false, seqM_tup, ix_tup, len_tup, atI_0, atI_1, atI_2, atI_3, atI_4, Option.some.injEq, exists_eq_left', eq_int, cmp_lt, cmp_le, cmp_gt, cmp_ge, cmp_eq, cmp_ne, cmp_is, cmp_isn, cmp_in, cmp_nin, Option.map, is_nn, is_in, is_tn, tyn_int, tyn_str, tyn_tup, Int.cast_ofNat_Int, Int.reduceLT, Int.reduceLE, Int.reduceAdd, Int.reduceMul, Int.reduceSub, BEq.rfl, decide_true, decide_false, Int.reduceBEq, isiG_two, kit_tuple_tuple, kit_tuple_list, isi_tup, eq_bl, h.1]
    refine ⟨_, _, rfl, rfl, rfl, walk (σ := []) rfl (.refl _) (fun _ _ => ⟨trivial, trivial⟩) h.2 ?_ ?_⟩
    · intro a b acc M2 k hk
      simp only [wSs, wS, wE, wEs, wO, wB, wBo, wI, wTg, gs, startT, List.map_cons, List.map_nil, List.length_cons, List.length_nil, List.cons_append, List.nil_append, List.replicate, Nat.reduceAdd, Nat.reduceSub, Nat.zero_add, exEq, wCop, wIx, wTru, bif_len, bif_abs, bif_int, bif_isi, bif_tuple, bif_list, bif_sum, bif_all, bif_any, bif_min2, bif_max2, bif_minl, bif_maxl, bop_add_i, bop_add_t, bop_add_l, bop_sub, bop_mul_i, bop_fdiv, bop_mod, bop_pow, aug_add, aug_sub, aug_mul, setAll, tailS, wipeT, List.set, tru_bl, tru_non, tru_int, tru_tup, if_true, if_false, Bool.false_eq_true, Bool.not_true, Bool.not_false, seqM_tup, ix_tup, len_tup, atI_0, atI_1, atI_2, atI_3, atI_4, Option.some.injEq, exists_eq_left', eq_int, cmp_lt, cmp_le, cmp_gt, cmp_ge, cmp_eq, cmp_ne, cmp_is, cmp_isn, cmp_in, cmp_nin, Option.map, is_nn, is_in, is_tn, tyn_int, tyn_str, tyn_tup, Int.cast_ofNat_Int, Int.reduceLT, Int.reduceLE, Int.reduceAdd, Int.reduceMul, Int.reduceSub, BEq.rfl, decide_true, decide_false, Int.reduceBEq]
      exact ⟨trivial, hk⟩
    · intro M2 s p hp
      refine ⟨_, _, lsM_upd, allB_true _, ?_⟩
      have : ((zipT zs ws).map fun _ => true).all id = true := by simp
      rw [this]
      exact rtF (s.new hp) q
  case ref.ref a b =>
    cases d with
    | zero => exact h.elim
    | succ d =>
    obtain ⟨zs, ws, h1, h2, h3, h4⟩ := h
    have ty : ∀ {c : Addr} {vs : List TV}, lsM M c = some vs → tyN M (.ref c) = some "list" := by
      intro c vs hc
      unfold lsM at hc
      unfold tyN
      split at hc <;> rename_i qq <;> first | (cases hc; done) | (simp only [qq]; done)
    simp only [wSs, wS, wE, wEs, wO, wB, wBo, wI, wTg, gs, startT, List.map_cons, List.map_nil, List.length_cons, List.length_nil, List.cons_append, List.nil_append, List.replicate, Nat.reduceAdd, Nat.reduceSub, Nat.zero_add, exEq, wCop, wIx, wTru, bif_len, bif_abs, bif_int, bif_isi, bif_tuple, bif_list, bif_sum, bif_all, bif_any, bif_min2, bif_max2, bif_minl, bif_maxl, bop_add_i, bop_add_t, bop_add_l, bop_sub, bop_mul_i, bop_fdiv, bop_mod, bop_pow, aug_add, aug_sub, aug_mul, setAll, tailS, wipeT, List.set, tru_bl, tru_non, tru_int, tru_tup, if_true, if_false, Bool.false_eq_true, Bool.not_true, Bool.not_false, seqM_tup, ix_tup, len_tup, atI_0, atI_1, atI_2, atI_3, atI_4, Option.some.injEq, exists_eq_left', eq_int, cmp_lt, cmp_le, cmp_gt, cmp_ge, cmp_eq, cmp_ne, cmp_is, cmp_isn, cmp_in, cmp_nin, Option.map, is_nn, is_in, is_tn, tyn_int, tyn_str, tyn_tup, Int.cast_ofNat_Int, Int.reduceLT, Int.reduceLE, Int.reduceAdd, Int.reduceMul, Int.reduceSub, BEq.rfl, decide_true, decide_false, Int.reduceBEq, isiG_two, ty h2, kit_list_tuple, kit_list_list, isi_lst h1, isi_lst h2, eq_bl, len_lst h1, len_lst h2, h3]
    refine ⟨_, _, h1, h2, rfl, walk (σ := []) rfl (.refl _) (fun _ s => ⟨s.lsM h1, s.lsM h2⟩) h4 ?_ ?_⟩
    · intro a b acc M2 k hk
      simp only [wSs, wS, wE, wEs, wO, wB, wBo, wI, wTg, gs, startT, List.map_cons, List.map_nil, List.length_cons, List.length_nil, List.cons_append, List.nil_append, List.replicate, Nat.reduceAdd, Nat.reduceSub, Nat.zero_add, exEq, wCop, wIx, wTru, bif_len, bif_abs, bif_int, bif_isi, bif_tuple, bif_list, bif_sum, bif_all, bif_any, bif_min2, bif_max2, bif_minl, bif_maxl, bop_add_i, bop_add_t, bop_add_l, bop_sub, bop_mul_i, bop_fdiv, bop_mod, bop_pow, aug_add, aug_sub, aug_mul, setAll, tailS, wipeT, List.set, tru_bl, tru_non, tru_int, tru_tup, if_true, if_false, Bool.false_eq_true, Bool.not_true, Bool.not_false, seqM_tup, ix_tup, len_tup, atI_0, atI_1, atI_2, atI_3, atI_4, Option.some.injEq, exists_eq_left', eq_int, cmp_lt, cmp_le, cmp_gt, cmp_ge, cmp_eq, cmp_ne, cmp_is, cmp_isn, cmp_in, cmp_nin, Option.map, is_nn, is_in, is_tn, tyn_int, tyn_str, tyn_tup, Int.cast_ofNat_Int, Int.reduceLT, Int.reduceLE, Int.reduceAdd, Int.reduceMul, Int.reduceSub, BEq.rfl, decide_true, decide_false, Int.reduceBEq]
      exact ⟨trivial, hk⟩
    · intro M2 s p hp
      refine ⟨_, _, lsM_upd, allB_true _, ?_⟩
      have : ((zipT zs ws).map fun _ => true).all id = true := by simp
      rw [this]
      exact rtF (s.new hp) q
theorem h__law_is {G : Gx} (F : Facts G) (d : Nat) : HeldT G (1 + d) (adr G "_law_is") (s__law_is d) := by
  have := F.d__law_is.recH (k0 := 0) sc__law_is (fun s => b__law_is G s) (fun s => ck__law_is) (fun k s hk h => ok__law_is F h) nF s__law_is (fun d xs M Q R ⟨_, _, e, _⟩ => by rw [e]; rfl) v__law_is d
  exact this.mono (by omega)
theorem same_int {M : TM} {a : Int} : ∀ {n : Nat}, Same M n (.int a) (.int a)
  | 0 => by simp only [Same]
  | n + 1 => by simp only [Same]
theorem same_all {M : TM} {n : Nat} {zs : List TV} (h : ∀ x ∈ zs, Same M n x x) : ∀ (i : Nat) (x y : TV), zs[i]? = some x → zs[i]? = some y → Same M n x y := fun i x y e e2 => by
  rw [e] at e2
  cases e2
  exact h x (List.mem_of_getElem? e)
theorem same_pair {M : TM} {n : Nat} {a b : Int} : Same M (n + 1) (.tup [.int a, .int b]) (.tup [.int a, .int b]) := by
  simp only [Same]
  refine ⟨trivial, same_all fun x hx => ?_⟩
  simp only [List.mem_cons, List.not_mem_nil, or_false] at hx
  rcases hx with rfl | rfl <;> exact same_int
theorem same_lst {M : TM} {n : Nat} {a b : Addr} {zs : List TV} (h1 : lsM M a = some zs) (h2 : lsM M b = some zs) (h : ∀ x ∈ zs, Same M n x x) : Same M (n + 1) (.ref a) (.ref b) := by
  simp only [Same]
  exact ⟨zs, zs, h1, h2, rfl, same_all h⟩
theorem same_tup {M : TM} {n : Nat} {zs : List TV} (h : ∀ x ∈ zs, Same M n x x) : Same M (n + 1) (.tup zs) (.tup zs) := by
  simp only [Same]
  exact ⟨trivial, same_all h⟩
theorem same_bw {M : TM} {n : Nat} (x : Bow) : Same M (n + 3) (bwT x) (bwT x) := same_tup fun y hy => by
  simp only [List.mem_cons, List.not_mem_nil, or_false] at hy
  rcases hy with rfl | rfl
  · exact same_int
  · refine same_tup fun y hy => ?_
    obtain ⟨a, _, rfl⟩ := List.mem_map.mp hy
    exact same_pair
end TL

namespace TL
open PySem PySem.Spec PyProof.Rows L2
/-! X11G: the law's joining. -/
open TL.Bw (Bow bt hull allOk sm1 sm2 push Fall FallR Fit mt met met1 mrg opB jnL jnR)
theorem in_rep0 : True := trivial
theorem v__law_put_behind {G : Gx} : ∀ xs M Q R, s_rowed xs M Q R → wSs noF (b__law_put_behind G s_drawn_in s_ends_of) (endsT Q R) (startT n__law_put_behind xs) M := by
  rintro xs M Q R ⟨x, y, rfl, t, q⟩
  unfold b__law_put_behind
  simp only [wSs, wS, wE, wEs, wO, wB, wBo, wI, wTg, gs, startT, List.map_cons, List.map_nil, List.length_cons, List.length_nil, List.cons_append, List.nil_append, List.replicate, Nat.reduceAdd, Nat.reduceSub, Nat.zero_add, exEq, wCop, wIx, wTru, bif_len, bif_abs, bif_int, bif_isi, bif_tuple, bif_list, bif_sum, bif_all, bif_any, bif_min2, bif_max2, bif_minl, bif_maxl, bop_add_i, bop_add_t, bop_add_l, bop_sub, bop_mul_i, bop_fdiv, bop_mod, bop_pow, aug_add, aug_sub, aug_mul, setAll, tailS, wipeT, List.set, tru_bl, tru_non, tru_int, tru_tup, if_true, if_false, Bool.false_eq_true, Bool.not_true, Bool.not_false, seqM_tup, ix_tup, len_tup, atI_0, atI_1, atI_2, atI_3, atI_4, Option.some.injEq, exists_eq_left', eq_int, cmp_lt, cmp_le, cmp_gt, cmp_ge, cmp_eq, cmp_ne, cmp_is, cmp_isn, cmp_in, cmp_nin, Option.map, is_nn, is_in, is_tn, tyn_int, tyn_str, tyn_tup, Int.cast_ofNat_Int, Int.reduceLT, Int.reduceLE, Int.reduceAdd, Int.reduceMul, Int.reduceSub, BEq.rfl, decide_true, decide_false, Int.reduceBEq, bwT]
  obtain ⟨a, b, c, d⟩ := t.nn
  have k1 := t.k1
  have k2 := t.k2
  refine ⟨_, rfl, ?_⟩
  simp only [wSs, wS, wE, wEs, wO, wB, wBo, wI, wTg, gs, startT, List.map_cons, List.map_nil, List.length_cons, List.length_nil, List.cons_append, List.nil_append, List.replicate, Nat.reduceAdd, Nat.reduceSub, Nat.zero_add, exEq, wCop, wIx, wTru, bif_len, bif_abs, bif_int, bif_isi, bif_tuple, bif_list, bif_sum, bif_all, bif_any, bif_min2, bif_max2, bif_minl, bif_maxl, bop_add_i, bop_add_t, bop_add_l, bop_sub, bop_mul_i, bop_fdiv, bop_mod, bop_pow, aug_add, aug_sub, aug_mul, setAll, tailS, wipeT, List.set, tru_bl, tru_non, tru_int, tru_tup, if_true, if_false, Bool.false_eq_true, Bool.not_true, Bool.not_false, seqM_tup, ix_tup, len_tup, atI_0, atI_1, atI_2, atI_3, atI_4, Option.some.injEq, exists_eq_left', eq_int, cmp_lt, cmp_le, cmp_gt, cmp_ge, cmp_eq, cmp_ne, cmp_is, cmp_isn, cmp_in, cmp_nin, Option.map, is_nn, is_in, is_tn, tyn_int, tyn_str, tyn_tup, Int.cast_ofNat_Int, Int.reduceLT, Int.reduceLE, Int.reduceAdd, Int.reduceMul, Int.reduceSub, BEq.rfl, decide_true, decide_false, Int.reduceBEq]
  refine ⟨_, rfl, ?_⟩
  simp only [wSs, wS, wE, wEs, wO, wB, wBo, wI, wTg, gs, startT, List.map_cons, List.map_nil, List.length_cons, List.length_nil, List.cons_append, List.nil_append, List.replicate, Nat.reduceAdd, Nat.reduceSub, Nat.zero_add, exEq, wCop, wIx, wTru, bif_len, bif_abs, bif_int, bif_isi, bif_tuple, bif_list, bif_sum, bif_all, bif_any, bif_min2, bif_max2, bif_minl, bif_maxl, bop_add_i, bop_add_t, bop_add_l, bop_sub, bop_mul_i, bop_fdiv, bop_mod, bop_pow, aug_add, aug_sub, aug_mul, setAll, tailS, wipeT, List.set, tru_bl, tru_non, tru_int, tru_tup, if_true, if_false, Bool.false_eq_true, Bool.not_true, Bool.not_false, seqM_tup, ix_tup, len_tup, atI_0, atI_1, atI_2, atI_3, atI_4, Option.some.injEq, exists_eq_left', eq_int, cmp_lt, cmp_le, cmp_gt, cmp_ge, cmp_eq, cmp_ne, cmp_is, cmp_isn, cmp_in, cmp_nin, Option.map, is_nn, is_in, is_tn, tyn_int, tyn_str, tyn_tup, Int.cast_ofNat_Int, Int.reduceLT, Int.reduceLE, Int.reduceAdd, Int.reduceMul, Int.reduceSub, BEq.rfl, decide_true, decide_false, Int.reduceBEq, stT]
  have tl := t.len
  refine ⟨.inr (mulK a (by omega) d (by omega)), by rw [List.length_map, List.length_map, sizeLine_eq]; omega, x.s ++ y.s, by rw [stT, List.map_append], t.row, rtF (.refl _) q⟩
theorem h__law_put_behind {G : Gx} (F : Facts G) : HeldT G 3 (adr G "_law_put_behind") s_rowed :=
  F.d__law_put_behind.held (k := 2) sc__law_put_behind ck__law_put_behind (ok__law_put_behind F (h__law_tight F) ((h__law_sums F).mono (by decide))) nF (fun xs M Q R ⟨x, _, e, _⟩ => by rw [e]; rfl) v__law_put_behind
/-! merging, by taking from two lists -/
def s__law_merged : TSp := fun xs M Q _ => ∃ x y, xs = [stT x, stT y] ∧ Row (x ++ y) ∧ Q (stT (mrg x y)) M
theorem ix_pop0 {α : Type} {a : α} {l : List α} : ixN (a :: l).length 0 = some 0 := by
  unfold ixN
  rw [if_pos (by decide), if_pos (by simp only [List.length_cons]; omega)]
  rfl
theorem v__law_merged {G : Gx} : ∀ xs M Q R, s__law_merged xs M Q R → wSs noF (b__law_merged G s_is_better) (endsT Q R) (startT n__law_merged xs) M := by
  rintro xs M Q R ⟨x, y, rfl, row, q⟩
  unfold b__law_merged
  have kk := okK_of row.ok row.k1 row.k2
  have len := row.len
  rw [List.length_append] at len
  simp only [wSs, wS, wE, wEs, wO, wB, wBo, wI, wTg, gs, startT, List.map_cons, List.map_nil, List.length_cons, List.length_nil, List.cons_append, List.nil_append, List.replicate, Nat.reduceAdd, Nat.reduceSub, Nat.zero_add, exEq, wCop, wIx, wTru, bif_len, bif_abs, bif_int, bif_isi, bif_tuple, bif_list, bif_sum, bif_all, bif_any, bif_min2, bif_max2, bif_minl, bif_maxl, bop_add_i, bop_add_t, bop_add_l, bop_sub, bop_mul_i, bop_fdiv, bop_mod, bop_pow, aug_add, aug_sub, aug_mul, setAll, tailS, wipeT, List.set, tru_bl, tru_non, tru_int, tru_tup, if_true, if_false, Bool.false_eq_true, Bool.not_true, Bool.not_false, seqM_tup, ix_tup, len_tup, atI_0, atI_1, atI_2, atI_3, atI_4, Option.some.injEq, exists_eq_left', eq_int, cmp_lt, cmp_le, cmp_gt, cmp_ge, cmp_eq, cmp_ne, cmp_is, cmp_isn, cmp_in, cmp_nin, Option.map, is_nn, is_in, is_tn, tyn_int, tyn_str, tyn_tup, Int.cast_ofNat_Int, Int.reduceLT, Int.reduceLE, Int.reduceAdd, Int.reduceMul, Int.reduceSub, BEq.rfl, decide_true, decide_false, Int.reduceBEq, stT]
  intro p1 h1 p2 h2 p3 h3
  have n12 : p1 ≠ p2 := fun e => by subst e; rw [updM_same] at h2; cases h2
  have n23 : p2 ≠ p3 := fun e => by subst e; rw [updM_same] at h3; cases h3
  have n13 : p1 ≠ p3 := fun e => by subst e; rw [updM_ne n12, updM_same] at h3; cases h3
  have m2 := (updM_none.mp h2).2
  have m3 := (updM_none.mp (updM_none.mp h3).2).2
  refine ⟨x.length + y.length + 1, whL_at (fun n σ M' => ∃ (a b dn : List Bw.Sp), n = a.length + b.length ∧ σ = [some (.tup (x.map spT)), some (.tup (y.map spT)), some (.ref p1), some (.ref p2), some (.ref p3)] ∧ M' p1 = some (.lst (a.map spT)) ∧ M' p2 = some (.lst (b.map spT)) ∧ M' p3 = some (.lst (dn.map spT)) ∧ Subm M M' ∧ dn ++ mrg a b = mrg x y ∧ (∀ c ∈ a, okK c) ∧ (∀ c ∈ b, okK c) ∧ dn.length + a.length + b.length = x.length + y.length) ?_ _ (x.length + y.length) _ _ (Nat.lt_succ_self _)
    ⟨x, y, [], rfl, rfl, by rw [updM_ne n13, updM_ne n12, updM_same], by rw [updM_ne n23, updM_same], updM_same, ((Subm.new (.refl _) h1).new h2).new h3, rfl, fun c hc => kk c (List.mem_append_left _ hc), fun c hc => kk c (List.mem_append_right _ hc), by simp⟩⟩
  rintro n _ M1 ⟨a, b, dn, rfl, rfl, e1, e2, e3, sub, e, ka, kb, hl⟩ K hK
  simp only [wSs, wS, wE, wEs, wO, wB, wBo, wI, wTg, gs, startT, List.map_cons, List.map_nil, List.length_cons, List.length_nil, List.cons_append, List.nil_append, List.replicate, Nat.reduceAdd, Nat.reduceSub, Nat.zero_add, exEq, wCop, wIx, wTru, bif_len, bif_abs, bif_int, bif_isi, bif_tuple, bif_list, bif_sum, bif_all, bif_any, bif_min2, bif_max2, bif_minl, bif_maxl, bop_add_i, bop_add_t, bop_add_l, bop_sub, bop_mul_i, bop_fdiv, bop_mod, bop_pow, aug_add, aug_sub, aug_mul, setAll, tailS, wipeT, List.set, tru_bl, tru_non, tru_int, tru_tup, if_true, if_false, Bool.false_eq_true, Bool.not_true, Bool.not_false, seqM_tup, ix_tup, len_tup, atI_0, atI_1, atI_2, atI_3, atI_4, Option.some.injEq, exists_eq_left', eq_int, cmp_lt, cmp_le, cmp_gt, cmp_ge, cmp_eq, cmp_ne, cmp_is, cmp_isn, cmp_in, cmp_nin, Option.map, is_nn, is_in, is_tn, tyn_int, tyn_str, tyn_tup, Int.cast_ofNat_Int, Int.reduceLT, Int.reduceLE, Int.reduceAdd, Int.reduceMul, Int.reduceSub, BEq.rfl, decide_true, decide_false, Int.reduceBEq]
  have ln : ∀ {p : Addr} {l : List TV}, M1 p = some (.lst l) → lenF M1 (.ref p) = some l.length := fun h => len_lst (lsM_lst h)
  have stepA : ∀ (s : Bw.Sp) (a' : List Bw.Sp), a = s :: a' → mrg a b = s :: mrg a' b → (∃ a xs, TV.ref p3 = .ref a ∧ lsM M1 a = some xs) ∧ (∃ a xs, TV.ref p1 = .ref a ∧ lsM M1 a = some xs) ∧ wMth Mth.pop1 (.ref p1) [.int 0] M1 fun x_1 M1 => wMth Mth.append (.ref p3) [x_1] M1 fun x_2 M1 => K [some (.tup (x.map spT)), some (.tup (y.map spT)), some (.ref p1), some (.ref p2), some (.ref p3)] M1 := by
    rintro s a' rfl em
    refine ⟨⟨_, _, rfl, lsM_lst e3⟩, ⟨_, _, rfl, lsM_lst e1⟩, (s :: a').map spT, 0, spT s, e1, ix_pop0, rfl, dn.map spT, (updM_ne n13.symm).trans e3, ?_, hK (a'.length + b.length) _ _ (by simp only [List.length_cons]; omega) ⟨a', b, dn ++ [s], rfl, rfl, ?_, ?_, ?_, (sub.over h1).over m3, ?_, fun c hc => ka c (List.mem_cons_of_mem _ hc), kb, ?_⟩⟩
    · rw [List.length_map, sizeLine_eq]
      simp only [List.length_cons] at hl
      omega
    · rw [updM_ne n13, updM_same]
      rfl
    · rw [updM_ne n23, updM_ne n12.symm]
      exact e2
    · rw [updM_same, List.map_append]
      rfl
    · rw [← e, em, List.append_assoc]
      rfl
    · simp only [List.length_append, List.length_cons, List.length_nil] at hl ⊢
      omega
  have stepB : ∀ (o : Bw.Sp) (b' : List Bw.Sp), b = o :: b' → mrg a b = o :: mrg a b' → (∃ a xs, TV.ref p3 = .ref a ∧ lsM M1 a = some xs) ∧ (∃ a xs, TV.ref p2 = .ref a ∧ lsM M1 a = some xs) ∧ wMth Mth.pop1 (.ref p2) [.int 0] M1 fun x_1 M1 => wMth Mth.append (.ref p3) [x_1] M1 fun x_2 M1 => K [some (.tup (x.map spT)), some (.tup (y.map spT)), some (.ref p1), some (.ref p2), some (.ref p3)] M1 := by
    rintro o b' rfl em
    refine ⟨⟨_, _, rfl, lsM_lst e3⟩, ⟨_, _, rfl, lsM_lst e2⟩, (o :: b').map spT, 0, spT o, e2, ix_pop0, rfl, dn.map spT, (updM_ne n23.symm).trans e3, ?_, hK (a.length + b'.length) _ _ (by simp only [List.length_cons]; omega) ⟨a, b', dn ++ [o], rfl, rfl, ?_, ?_, ?_, (sub.over m2).over m3, ?_, ka, fun c hc => kb c (List.mem_cons_of_mem _ hc), ?_⟩⟩
    · rw [List.length_map, sizeLine_eq]
      simp only [List.length_cons] at hl
      omega
    · rw [updM_ne n13, updM_ne n12]
      exact e1
    · rw [updM_ne n23, updM_same]
      rfl
    · rw [updM_same, List.map_append]
      rfl
    · rw [← e, em, List.append_assoc]
      rfl
    · simp only [List.length_append, List.length_cons, List.length_nil] at hl ⊢
      omega
  refine ⟨_, len_lst (lsM_lst e1), _, len_lst (lsM_lst e2), ?_⟩
  by_cases c0 : (0 : Int) < ((a.map spT).length : Nat) + ((b.map spT).length : Nat)
  · rw [decide_eq_true c0]
    simp only [wSs, wS, wE, wEs, wO, wB, wBo, wI, wTg, gs, startT, List.map_cons, List.map_nil, List.length_cons, List.length_nil, List.cons_append, List.nil_append, List.replicate, Nat.reduceAdd, Nat.reduceSub, Nat.zero_add, exEq, wCop, wIx, wTru, bif_len, bif_abs, bif_int, bif_isi, bif_tuple, bif_list, bif_sum, bif_all, bif_any, bif_min2, bif_max2, bif_minl, bif_maxl, bop_add_i, bop_add_t, bop_add_l, bop_sub, bop_mul_i, bop_fdiv, bop_mod, bop_pow, aug_add, aug_sub, aug_mul, setAll, tailS, wipeT, List.set, tru_bl, tru_non, tru_int, tru_tup, if_true, if_false, Bool.false_eq_true, Bool.not_true, Bool.not_false, seqM_tup, ix_tup, len_tup, atI_0, atI_1, atI_2, atI_3, atI_4, Option.some.injEq, exists_eq_left', eq_int, cmp_lt, cmp_le, cmp_gt, cmp_ge, cmp_eq, cmp_ne, cmp_is, cmp_isn, cmp_in, cmp_nin, Option.map, is_nn, is_in, is_tn, tyn_int, tyn_str, tyn_tup, Int.cast_ofNat_Int, Int.reduceLT, Int.reduceLE, Int.reduceAdd, Int.reduceMul, Int.reduceSub, BEq.rfl, decide_true, decide_false, Int.reduceBEq]
    refine ⟨_, ln e2, ?_⟩
    cases b with
    | nil =>
      cases a with
      | nil => exact absurd c0 (by decide)
      | cons s a' =>
      simp only [wSs, wS, wE, wEs, wO, wB, wBo, wI, wTg, gs, startT, List.map_cons, List.map_nil, List.length_cons, List.length_nil, List.cons_append, List.nil_append, List.replicate, Nat.reduceAdd, Nat.reduceSub, Nat.zero_add, exEq, wCop, wIx, wTru, bif_len, bif_abs, bif_int, bif_isi, bif_tuple, bif_list, bif_sum, bif_all, bif_any, bif_min2, bif_max2, bif_minl, bif_maxl, bop_add_i, bop_add_t, bop_add_l, bop_sub, bop_mul_i, bop_fdiv, bop_mod, bop_pow, aug_add, aug_sub, aug_mul, setAll, tailS, wipeT, List.set, tru_bl, tru_non, tru_int, tru_tup, if_true, if_false, Bool.false_eq_true, Bool.not_true, Bool.not_false, seqM_tup, ix_tup, len_tup, atI_0, atI_1, atI_2, atI_3, atI_4, Option.some.injEq, exists_eq_left', eq_int, cmp_lt, cmp_le, cmp_gt, cmp_ge, cmp_eq, cmp_ne, cmp_is, cmp_isn, cmp_in, cmp_nin, Option.map, is_nn, is_in, is_tn, tyn_int, tyn_str, tyn_tup, Int.cast_ofNat_Int, Int.reduceLT, Int.reduceLE, Int.reduceAdd, Int.reduceMul, Int.reduceSub, BEq.rfl, decide_true, decide_false, Int.reduceBEq]
      exact stepA s a' rfl (by rw [mrg_nil_right, mrg_nil_right])
    | cons o b' =>
      have c1 : (((((o :: b').map spT).length : Nat) : Int) == 0) = false := by simp only [List.length_map, List.length_cons]; simp; omega
      rw [c1]
      simp only [wSs, wS, wE, wEs, wO, wB, wBo, wI, wTg, gs, startT, List.map_cons, List.map_nil, List.length_cons, List.length_nil, List.cons_append, List.nil_append, List.replicate, Nat.reduceAdd, Nat.reduceSub, Nat.zero_add, exEq, wCop, wIx, wTru, bif_len, bif_abs, bif_int, bif_isi, bif_tuple, bif_list, bif_sum, bif_all, bif_any, bif_min2, bif_max2, bif_minl, bif_maxl, bop_add_i, bop_add_t, bop_add_l, bop_sub, bop_mul_i, bop_fdiv, bop_mod, bop_pow, aug_add, aug_sub, aug_mul, setAll, tailS, wipeT, List.set, tru_bl, tru_non, tru_int, tru_tup, if_true, if_false, Bool.false_eq_true, Bool.not_true, Bool.not_false, seqM_tup, ix_tup, len_tup, atI_0, atI_1, atI_2, atI_3, atI_4, Option.some.injEq, exists_eq_left', eq_int, cmp_lt, cmp_le, cmp_gt, cmp_ge, cmp_eq, cmp_ne, cmp_is, cmp_isn, cmp_in, cmp_nin, Option.map, is_nn, is_in, is_tn, tyn_int, tyn_str, tyn_tup, Int.cast_ofNat_Int, Int.reduceLT, Int.reduceLE, Int.reduceAdd, Int.reduceMul, Int.reduceSub, BEq.rfl, decide_true, decide_false, Int.reduceBEq]
      refine ⟨_, ln e1, ?_⟩
      cases a with
      | nil =>
        simp only [wSs, wS, wE, wEs, wO, wB, wBo, wI, wTg, gs, startT, List.map_cons, List.map_nil, List.length_cons, List.length_nil, List.cons_append, List.nil_append, List.replicate, Nat.reduceAdd, Nat.reduceSub, Nat.zero_add, exEq, wCop, wIx, wTru, bif_len, bif_abs, bif_int, bif_isi, bif_tuple, bif_list, bif_sum, bif_all, bif_any, bif_min2, bif_max2, bif_minl, bif_maxl, bop_add_i, bop_add_t, bop_add_l, bop_sub, bop_mul_i, bop_fdiv, bop_mod, bop_pow, aug_add, aug_sub, aug_mul, setAll, tailS, wipeT, List.set, tru_bl, tru_non, tru_int, tru_tup, if_true, if_false, Bool.false_eq_true, Bool.not_true, Bool.not_false, seqM_tup, ix_tup, len_tup, atI_0, atI_1, atI_2, atI_3, atI_4, Option.some.injEq, exists_eq_left', eq_int, cmp_lt, cmp_le, cmp_gt, cmp_ge, cmp_eq, cmp_ne, cmp_is, cmp_isn, cmp_in, cmp_nin, Option.map, is_nn, is_in, is_tn, tyn_int, tyn_str, tyn_tup, Int.cast_ofNat_Int, Int.reduceLT, Int.reduceLE, Int.reduceAdd, Int.reduceMul, Int.reduceSub, BEq.rfl, decide_true, decide_false, Int.reduceBEq]
        exact stepB o b' rfl (by rw [mrg_nil_left, mrg_nil_left])
      | cons s a' =>
        have c2 : (0 : Int) < (((s :: a').map spT).length : Nat) := by simp only [List.length_map, List.length_cons]; omega
        rw [decide_eq_true c2]
        simp only [wSs, wS, wE, wEs, wO, wB, wBo, wI, wTg, gs, startT, List.map_cons, List.map_nil, List.length_cons, List.length_nil, List.cons_append, List.nil_append, List.replicate, Nat.reduceAdd, Nat.reduceSub, Nat.zero_add, exEq, wCop, wIx, wTru, bif_len, bif_abs, bif_int, bif_isi, bif_tuple, bif_list, bif_sum, bif_all, bif_any, bif_min2, bif_max2, bif_minl, bif_maxl, bop_add_i, bop_add_t, bop_add_l, bop_sub, bop_mul_i, bop_fdiv, bop_mod, bop_pow, aug_add, aug_sub, aug_mul, setAll, tailS, wipeT, List.set, tru_bl, tru_non, tru_int, tru_tup, if_true, if_false, Bool.false_eq_true, Bool.not_true, Bool.not_false, seqM_tup, ix_tup, len_tup, atI_0, atI_1, atI_2, atI_3, atI_4, Option.some.injEq, exists_eq_left', eq_int, cmp_lt, cmp_le, cmp_gt, cmp_ge, cmp_eq, cmp_ne, cmp_is, cmp_isn, cmp_in, cmp_nin, Option.map, is_nn, is_in, is_tn, tyn_int, tyn_str, tyn_tup, Int.cast_ofNat_Int, Int.reduceLT, Int.reduceLE, Int.reduceAdd, Int.reduceMul, Int.reduceSub, BEq.rfl, decide_true, decide_false, Int.reduceBEq]
        refine ⟨spT o, (ix_lst (lsM_lst e2) _).trans atI_0, spT s, (ix_lst (lsM_lst e1) _).trans atI_0, o, s, rfl, kb o (by simp), ka s (by simp), ?_⟩
        have m := mrg_cons s o a' b'
        by_cases cb : bt o s = true
        · rw [if_pos cb] at m
          rw [cb]
          simp only [wSs, wS, wE, wEs, wO, wB, wBo, wI, wTg, gs, startT, List.map_cons, List.map_nil, List.length_cons, List.length_nil, List.cons_append, List.nil_append, List.replicate, Nat.reduceAdd, Nat.reduceSub, Nat.zero_add, exEq, wCop, wIx, wTru, bif_len, bif_abs, bif_int, bif_isi, bif_tuple, bif_list, bif_sum, bif_all, bif_any, bif_min2, bif_max2, bif_minl, bif_maxl, bop_add_i, bop_add_t, bop_add_l, bop_sub, bop_mul_i, bop_fdiv, bop_mod, bop_pow, aug_add, aug_sub, aug_mul, setAll, tailS, wipeT, List.set, tru_bl, tru_non, tru_int, tru_tup, if_true, if_false, Bool.false_eq_true, Bool.not_true, Bool.not_false, seqM_tup, ix_tup, len_tup, atI_0, atI_1, atI_2, atI_3, atI_4, Option.some.injEq, exists_eq_left', eq_int, cmp_lt, cmp_le, cmp_gt, cmp_ge, cmp_eq, cmp_ne, cmp_is, cmp_isn, cmp_in, cmp_nin, Option.map, is_nn, is_in, is_tn, tyn_int, tyn_str, tyn_tup, Int.cast_ofNat_Int, Int.reduceLT, Int.reduceLE, Int.reduceAdd, Int.reduceMul, Int.reduceSub, BEq.rfl, decide_true, decide_false, Int.reduceBEq]
          exact stepB o b' rfl m
        · have cf : bt o s = false := by simpa using cb
          rw [if_neg cb] at m
          rw [cf]
          simp only [wSs, wS, wE, wEs, wO, wB, wBo, wI, wTg, gs, startT, List.map_cons, List.map_nil, List.length_cons, List.length_nil, List.cons_append, List.nil_append, List.replicate, Nat.reduceAdd, Nat.reduceSub, Nat.zero_add, exEq, wCop, wIx, wTru, bif_len, bif_abs, bif_int, bif_isi, bif_tuple, bif_list, bif_sum, bif_all, bif_any, bif_min2, bif_max2, bif_minl, bif_maxl, bop_add_i, bop_add_t, bop_add_l, bop_sub, bop_mul_i, bop_fdiv, bop_mod, bop_pow, aug_add, aug_sub, aug_mul, setAll, tailS, wipeT, List.set, tru_bl, tru_non, tru_int, tru_tup, if_true, if_false, Bool.false_eq_true, Bool.not_true, Bool.not_false, seqM_tup, ix_tup, len_tup, atI_0, atI_1, atI_2, atI_3, atI_4, Option.some.injEq, exists_eq_left', eq_int, cmp_lt, cmp_le, cmp_gt, cmp_ge, cmp_eq, cmp_ne, cmp_is, cmp_isn, cmp_in, cmp_nin, Option.map, is_nn, is_in, is_tn, tyn_int, tyn_str, tyn_tup, Int.cast_ofNat_Int, Int.reduceLT, Int.reduceLE, Int.reduceAdd, Int.reduceMul, Int.reduceSub, BEq.rfl, decide_true, decide_false, Int.reduceBEq]
          exact stepA s a' rfl m
  · have ea : a = [] := by cases a with | nil => rfl | cons _ _ => exact absurd (by simp only [List.length_map, List.length_cons]; omega) c0
    have eb : b = [] := by cases b with | nil => rfl | cons _ _ => exact absurd (by simp only [List.length_map, List.length_cons]; omega) c0
    rw [decide_eq_false c0]
    simp only [wSs, wS, wE, wEs, wO, wB, wBo, wI, wTg, gs, startT, List.map_cons, List.map_nil, List.length_cons, List.length_nil, List.cons_append, List.nil_append, List.replicate, Nat.reduceAdd, Nat.reduceSub, Nat.zero_add, exEq, wCop, wIx, wTru, bif_len, bif_abs, bif_int, bif_isi, bif_tuple, bif_list, bif_sum, bif_all, bif_any, bif_min2, bif_max2, bif_minl, bif_maxl, bop_add_i, bop_add_t, bop_add_l, bop_sub, bop_mul_i, bop_fdiv, bop_mod, bop_pow, aug_add, aug_sub, aug_mul, setAll, tailS, wipeT, List.set, tru_bl, tru_non, tru_int, tru_tup, if_true, if_false, Bool.false_eq_true, Bool.not_true, Bool.not_false, seqM_tup, ix_tup, len_tup, atI_0, atI_1, atI_2, atI_3, atI_4, Option.some.injEq, exists_eq_left', eq_int, cmp_lt, cmp_le, cmp_gt, cmp_ge, cmp_eq, cmp_ne, cmp_is, cmp_isn, cmp_in, cmp_nin, Option.map, is_nn, is_in, is_tn, tyn_int, tyn_str, tyn_tup, Int.cast_ofNat_Int, Int.reduceLT, Int.reduceLE, Int.reduceAdd, Int.reduceMul, Int.reduceSub, BEq.rfl, decide_true, decide_false, Int.reduceBEq]
    refine ⟨_, lsM_lst e3, ?_⟩
    subst ea eb
    rw [mrg_nil_left, List.append_nil] at e
    rw [e]
    exact rtF sub q
theorem h__law_merged {G : Gx} (F : Facts G) : HeldT G 2 (adr G "_law_merged") s__law_merged :=
  F.d__law_merged.held (k := 1) sc__law_merged ck__law_merged (ok__law_merged F (h__law_is_better F)) nF (fun xs M Q R ⟨x, _, e, _⟩ => by rw [e]; rfl) v__law_merged
def s__law_meet : TSp := fun xs M Q _ => ∃ x y, xs = [bwT x, bwT y] ∧ Row x.s ∧ Row y.s ∧ Q (.int (met x.s y.s)) M
theorem v__law_meet {G : Gx} : ∀ xs M Q R, s__law_meet xs M Q R → wSs noF (b__law_meet G) (endsT Q R) (startT n__law_meet xs) M := by
  rintro xs M Q R ⟨x, y, rfl, hx, hy, q⟩
  unfold b__law_meet
  have kx := okK_of hx.ok hx.k1 hx.k2
  have ky := okK_of hy.ok hy.k1 hy.k2
  simp only [wSs, wS, wE, wEs, wO, wB, wBo, wI, wTg, gs, startT, List.map_cons, List.map_nil, List.length_cons, List.length_nil, List.cons_append, List.nil_append, List.replicate, Nat.reduceAdd, Nat.reduceSub, Nat.zero_add, exEq, wCop, wIx, wTru, bif_len, bif_abs, bif_int, bif_isi, bif_tuple, bif_list, bif_sum, bif_all, bif_any, bif_min2, bif_max2, bif_minl, bif_maxl, bop_add_i, bop_add_t, bop_add_l, bop_sub, bop_mul_i, bop_fdiv, bop_mod, bop_pow, aug_add, aug_sub, aug_mul, setAll, tailS, wipeT, List.set, tru_bl, tru_non, tru_int, tru_tup, if_true, if_false, Bool.false_eq_true, Bool.not_true, Bool.not_false, seqM_tup, ix_tup, len_tup, atI_0, atI_1, atI_2, atI_3, atI_4, Option.some.injEq, exists_eq_left', eq_int, cmp_lt, cmp_le, cmp_gt, cmp_ge, cmp_eq, cmp_ne, cmp_is, cmp_isn, cmp_in, cmp_nin, Option.map, is_nn, is_in, is_tn, tyn_int, tyn_str, tyn_tup, Int.cast_ofNat_Int, Int.reduceLT, Int.reduceLE, Int.reduceAdd, Int.reduceMul, Int.reduceSub, BEq.rfl, decide_true, decide_false, Int.reduceBEq, bwT, stT]
  refine lcL_map (fun t => match t with | .tup [.int p, .int w] => .int (met1 (p, w) y.s) | t => t) (.refl _) (fun _ _ => trivial) ?_ ?_
  · intro z hz acc M1 k s1 hk
    obtain ⟨a, ha, rfl⟩ := List.mem_map.mp hz
    have ka := kx a ha
    refine ⟨_, rfl, rfl, ?_⟩
    simp only [wSs, wS, wE, wEs, wO, wB, wBo, wI, wTg, gs, startT, List.map_cons, List.map_nil, List.length_cons, List.length_nil, List.cons_append, List.nil_append, List.replicate, Nat.reduceAdd, Nat.reduceSub, Nat.zero_add, exEq, wCop, wIx, wTru, bif_len, bif_abs, bif_int, bif_isi, bif_tuple, bif_list, bif_sum, bif_all, bif_any, bif_min2, bif_max2, bif_minl, bif_maxl, bop_add_i, bop_add_t, bop_add_l, bop_sub, bop_mul_i, bop_fdiv, bop_mod, bop_pow, aug_add, aug_sub, aug_mul, setAll, tailS, wipeT, List.set, tru_bl, tru_non, tru_int, tru_tup, if_true, if_false, Bool.false_eq_true, Bool.not_true, Bool.not_false, seqM_tup, ix_tup, len_tup, atI_0, atI_1, atI_2, atI_3, atI_4, Option.some.injEq, exists_eq_left', eq_int, cmp_lt, cmp_le, cmp_gt, cmp_ge, cmp_eq, cmp_ne, cmp_is, cmp_isn, cmp_in, cmp_nin, Option.map, is_nn, is_in, is_tn, tyn_int, tyn_str, tyn_tup, Int.cast_ofNat_Int, Int.reduceLT, Int.reduceLE, Int.reduceAdd, Int.reduceMul, Int.reduceSub, BEq.rfl, decide_true, decide_false, Int.reduceBEq]
    refine lcL_map (fun t => match t with | .tup [.int q, .int v] => .int (mt a (q, v)) | t => t) (.refl _) (fun _ _ => trivial) ?_ ?_
    · intro z hz acc M2 k s2 hk
      obtain ⟨b, hb, rfl⟩ := List.mem_map.mp hz
      have kb := ky b hb
      refine ⟨_, rfl, rfl, ?_⟩
      simp only [wSs, wS, wE, wEs, wO, wB, wBo, wI, wTg, gs, startT, List.map_cons, List.map_nil, List.length_cons, List.length_nil, List.cons_append, List.nil_append, List.replicate, Nat.reduceAdd, Nat.reduceSub, Nat.zero_add, exEq, wCop, wIx, wTru, bif_len, bif_abs, bif_int, bif_isi, bif_tuple, bif_list, bif_sum, bif_all, bif_any, bif_min2, bif_max2, bif_minl, bif_maxl, bop_add_i, bop_add_t, bop_add_l, bop_sub, bop_mul_i, bop_fdiv, bop_mod, bop_pow, aug_add, aug_sub, aug_mul, setAll, tailS, wipeT, List.set, tru_bl, tru_non, tru_int, tru_tup, if_true, if_false, Bool.false_eq_true, Bool.not_true, Bool.not_false, seqM_tup, ix_tup, len_tup, atI_0, atI_1, atI_2, atI_3, atI_4, Option.some.injEq, exists_eq_left', eq_int, cmp_lt, cmp_le, cmp_gt, cmp_ge, cmp_eq, cmp_ne, cmp_is, cmp_isn, cmp_in, cmp_nin, Option.map, is_nn, is_in, is_tn, tyn_int, tyn_str, tyn_tup, Int.cast_ofNat_Int, Int.reduceLT, Int.reduceLE, Int.reduceAdd, Int.reduceMul, Int.reduceSub, BEq.rfl, decide_true, decide_false, Int.reduceBEq]
      exact ⟨.inr (mulK ka.1.1 ka.2.1 kb.1.2.1 kb.2.2), .inr (mulK kb.1.1 kb.2.1 ka.1.2.1 ka.2.2), hk _ (.refl _)⟩
    · intro M2 s2 p hp
      rw [List.nil_append, List.map_map]
      exact ⟨_, _, lsM_upd, allI_map2 _ (mt a) y.s (fun _ => rfl), hk _ (s2.new hp)⟩
  · intro M1 s1 p hp
    rw [List.nil_append, List.map_map]
    exact ⟨_, _, lsM_upd, allI_map2 _ (fun a => met1 a y.s) x.s (fun _ => rfl), rtF (s1.new hp) q⟩
theorem h__law_meet {G : Gx} (F : Facts G) : HeldT G 1 (adr G "_law_meet") s__law_meet :=
  F.d__law_meet.held (k := 0) sc__law_meet ck__law_meet (ok__law_meet F) nF (fun xs M Q R ⟨x, _, e, _⟩ => by rw [e]; rfl) v__law_meet
theorem v__law_put_beside {G : Gx} : ∀ xs M Q R, s_sided xs M Q R → wSs noF (b__law_put_beside G s__law_merged s_drawn_in s__law_meet) (endsT Q R) (startT n__law_put_beside xs) M := by
  rintro xs M Q R ⟨x, y, rfl, t, q⟩
  unfold b__law_put_beside
  obtain ⟨⟨rx, lx⟩, ry, ly⟩ := t.rows
  simp only [wSs, wS, wE, wEs, wO, wB, wBo, wI, wTg, gs, startT, List.map_cons, List.map_nil, List.length_cons, List.length_nil, List.cons_append, List.nil_append, List.replicate, Nat.reduceAdd, Nat.reduceSub, Nat.zero_add, exEq, wCop, wIx, wTru, bif_len, bif_abs, bif_int, bif_isi, bif_tuple, bif_list, bif_sum, bif_all, bif_any, bif_min2, bif_max2, bif_minl, bif_maxl, bop_add_i, bop_add_t, bop_add_l, bop_sub, bop_mul_i, bop_fdiv, bop_mod, bop_pow, aug_add, aug_sub, aug_mul, setAll, tailS, wipeT, List.set, tru_bl, tru_non, tru_int, tru_tup, if_true, if_false, Bool.false_eq_true, Bool.not_true, Bool.not_false, seqM_tup, ix_tup, len_tup, atI_0, atI_1, atI_2, atI_3, atI_4, Option.some.injEq, exists_eq_left', eq_int, cmp_lt, cmp_le, cmp_gt, cmp_ge, cmp_eq, cmp_ne, cmp_is, cmp_isn, cmp_in, cmp_nin, Option.map, is_nn, is_in, is_tn, tyn_int, tyn_str, tyn_tup, Int.cast_ofNat_Int, Int.reduceLT, Int.reduceLE, Int.reduceAdd, Int.reduceMul, Int.reduceSub, BEq.rfl, decide_true, decide_false, Int.reduceBEq, bwT]
  refine ⟨x, y, rfl, rx, ry, ?_⟩
  simp only [wSs, wS, wE, wEs, wO, wB, wBo, wI, wTg, gs, startT, List.map_cons, List.map_nil, List.length_cons, List.length_nil, List.cons_append, List.nil_append, List.replicate, Nat.reduceAdd, Nat.reduceSub, Nat.zero_add, exEq, wCop, wIx, wTru, bif_len, bif_abs, bif_int, bif_isi, bif_tuple, bif_list, bif_sum, bif_all, bif_any, bif_min2, bif_max2, bif_minl, bif_maxl, bop_add_i, bop_add_t, bop_add_l, bop_sub, bop_mul_i, bop_fdiv, bop_mod, bop_pow, aug_add, aug_sub, aug_mul, setAll, tailS, wipeT, List.set, tru_bl, tru_non, tru_int, tru_tup, if_true, if_false, Bool.false_eq_true, Bool.not_true, Bool.not_false, seqM_tup, ix_tup, len_tup, atI_0, atI_1, atI_2, atI_3, atI_4, Option.some.injEq, exists_eq_left', eq_int, cmp_lt, cmp_le, cmp_gt, cmp_ge, cmp_eq, cmp_ne, cmp_is, cmp_isn, cmp_in, cmp_nin, Option.map, is_nn, is_in, is_tn, tyn_int, tyn_str, tyn_tup, Int.cast_ofNat_Int, Int.reduceLT, Int.reduceLE, Int.reduceAdd, Int.reduceMul, Int.reduceSub, BEq.rfl, decide_true, decide_false, Int.reduceBEq]
  exact ⟨_, _, rfl, t.row, _, rfl, t.row.perm (Bw.mrg_perm _ _), rtF (.refl _) q⟩
theorem h__law_put_beside {G : Gx} (F : Facts G) : HeldT G 3 (adr G "_law_put_beside") s_sided :=
  F.d__law_put_beside.held (k := 2) sc__law_put_beside ck__law_put_beside (ok__law_put_beside F (h__law_merged F) (h__law_tight F) ((h__law_meet F).mono (by decide))) nF (fun xs M Q R ⟨x, _, e, _⟩ => by rw [e]; rfl) v__law_put_beside
/-- the words that put behind: row, times -/
def wPut (r : Bool) (t : Bool) : Str := if t then wRep (!r) else wJoin r
theorem in_put (r t : Bool) {M : TM} : inF M (.str (wPut r t)) (.tup [.str "row", .str "times"]) = some r := by cases r <;> cases t <;> rfl
/-! so many copies, by halves -/
theorem Many.two {r : Bool} {x : Bow} {n : Int} (m : Many x n) (l : x.s.length ≤ 1000) {a b : Nat} (ha : 1 ≤ a) (hb : 1 ≤ b) (hab : a + b ≤ n.toNat) : Two (pc r x a) (pc r x b) := by
  obtain ⟨k, f⟩ := m.ox
  obtain ⟨s1, s2⟩ := pc_sums (r := r) (x := x) ha
  obtain ⟨t1, t2⟩ := pc_sums (r := r) (x := x) hb
  have l1 := pc_len (r := r) f a
  have l2 := pc_len (r := r) f b
  have k1 := m.k1
  have k2 := m.k2
  obtain ⟨n1, n2⟩ := Bw.sums_nn f.good.ok
  have g1 := Int.mul_le_mul_of_nonneg_right (show ((a : Int) + b) ≤ n by omega) n1
  have g2 := Int.mul_le_mul_of_nonneg_right (show ((a : Int) + b) ≤ n by omega) n2
  rw [Int.add_mul] at g1 g2
  exact ⟨⟨_, pc_fit f a⟩, ⟨_, pc_fit f b⟩, by rw [s1, t1]; omega, by rw [s2, t2]; omega, by omega⟩
end TL

namespace TL
open PySem PySem.Spec PyProof.Rows L2
/-! X11H: drawn bows. -/
open TL.Bw (Bow bt hull allOk sm1 sm2 push Fall FallR Fit mt met met1 mrg opB jnL jnR)
/-- a step with numbers below B -/
def stB (B : Int) (a : Bw.Sp) : Prop := Bw.ok a ∧ a.1 ≤ B ∧ a.2 ≤ B
def s__law_steps : TSp := fun xs M Q _ => ∃ (h : Hn) (n m : Int), xs = [.ref h.a, .int n, .int m] ∧ 1 ≤ n ∧ n ≤ 1000 ∧ 0 ≤ m ∧ m < 1000000000000 ∧ HandOk M h ∧ ∀ (s : List Bw.Sp) M', (s.length : Int) = n → (∀ a ∈ s, stB (10 ^ 12) a) → Hd h M M' → Q (stT s) M'
theorem v__law_steps {G : Gx} : ∀ xs M Q R, s__law_steps xs M Q R → wSs noF (b__law_steps G s__law_place) (endsT Q R) (startT n__law_steps xs) M := by
  rintro xs M Q R ⟨h, n, m, rfl, n1, n2, m0, m1, ok, q⟩
  unfold b__law_steps
  simp only [wSs, wS, wE, wEs, wO, wB, wBo, wI, wTg, gs, startT, List.map_cons, List.map_nil, List.length_cons, List.length_nil, List.cons_append, List.nil_append, List.replicate, Nat.reduceAdd, Nat.reduceSub, Nat.zero_add, exEq, wCop, wIx, wTru, bif_len, bif_abs, bif_int, bif_isi, bif_tuple, bif_list, bif_sum, bif_all, bif_any, bif_min2, bif_max2, bif_minl, bif_maxl, bop_add_i, bop_add_t, bop_add_l, bop_sub, bop_mul_i, bop_fdiv, bop_mod, bop_pow, aug_add, aug_sub, aug_mul, setAll, tailS, wipeT, List.set, tru_bl, tru_non, tru_int, tru_tup, if_true, if_false, Bool.false_eq_true, Bool.not_true, Bool.not_false, seqM_tup, ix_tup, len_tup, atI_0, atI_1, atI_2, atI_3, atI_4, Option.some.injEq, exists_eq_left', eq_int, cmp_lt, cmp_le, cmp_gt, cmp_ge, cmp_eq, cmp_ne, cmp_is, cmp_isn, cmp_in, cmp_nin, Option.map, is_nn, is_in, is_tn, tyn_int, tyn_str, tyn_tup, Int.cast_ofNat_Int, Int.reduceLT, Int.reduceLE, Int.reduceAdd, Int.reduceMul, Int.reduceSub, BEq.rfl, decide_true, decide_false, Int.reduceBEq]
  refine ⟨n, rfl, by omega, by omega, ?_⟩
  refine lcL_at (fun r acc M' => Xt h M M' ∧ ∃ s : List Bw.Sp, acc = s.map spT ∧ s.length + r.length = n.toNat ∧ ∀ a ∈ s, stB (10 ^ 12) a) ⟨Xt.refl ok, [], rfl, by rw [rngT_len]; simp, fun _ h => by cases h⟩ (fun _ _ _ _ => trivial) ?_ ?_
  · rintro y r acc M2 k ⟨x2, s, rfl, hl, hs⟩ hk
    refine ⟨h, m, rfl, m0, m1, x2.2.1, fun l w M3 o d3 => hk _ _ ⟨x2.hd d3, s ++ [(l, w)], by rw [List.map_append]; rfl, by simp only [List.length_append, List.length_cons, List.length_nil] at hl ⊢; omega, fun a ha => ?_⟩⟩
    rcases List.mem_append.mp ha with ha | ha
    · exact hs a ha
    · rw [List.mem_singleton.mp ha]
      obtain ⟨a1, a2, a3, a4, a5⟩ := o
      exact ⟨⟨a1, a3, a5⟩, by show l ≤ 10 ^ 12; omega, by show w ≤ 10 ^ 12; omega⟩
  · rintro acc M2 ⟨x2, s, rfl, hl, hs⟩ p hp
    refine ⟨_, lsM_upd, rtH (x2.new hp) fun M4 d4 => q s M4 ?_ hs d4⟩
    simp only [List.length_nil, Nat.add_zero] at hl
    omega
theorem h__law_steps {G : Gx} (F : Facts G) : HeldT G 4 (adr G "_law_steps") s__law_steps :=
  F.d__law_steps.held (k := 3) sc__law_steps ck__law_steps (ok__law_steps F (h__law_place F)) nF (fun xs M Q R ⟨_, _, _, e, _⟩ => by rw [e]; rfl) v__law_steps
/-- a drawn bow -/
structure Arc (x : Bow) : Prop where
  fit : Fit x 10
  k1 : sm1 x.s ≤ 10 ^ 114
  k2 : sm2 x.s ≤ 10 ^ 114
theorem sum_le {B : Int} : ∀ {s : List Bw.Sp}, (∀ a ∈ s, stB B a) → sm1 s ≤ s.length * B ∧ sm2 s ≤ s.length * B
  | [], _ => by simp [sm1, sm2]
  | a :: s, h => by
    obtain ⟨h1, h2⟩ := sum_le fun b hb => h b (List.mem_cons_of_mem _ hb)
    obtain ⟨_, g1, g2⟩ := h a List.mem_cons_self
    simp only [sm1, sm2, List.map_cons, List.sum_cons, List.length_cons, Int.natCast_add, Int.add_mul] at *
    omega
theorem arc_of {s : List Bw.Sp} {c : Int} (hs : ∀ a ∈ s, stB (10 ^ 112) a) (h1 : 1 ≤ s.length) (h2 : s.length ≤ 10) (c0 : 0 ≤ c) (c1 : c ≤ 10 ^ 12) : Arc ⟨c, hull s⟩ := by
  have ok : allOk s := fun a ha => (hs a ha).1
  have ne : s ≠ [] := fun e => by rw [e] at h1; exact absurd h1 (by decide)
  obtain ⟨a1, a2⟩ := sum_le hs
  obtain ⟨e1, e2⟩ := Bw.hull_sum s
  obtain ⟨z1, z2⟩ := Bw.sums_nn ok
  have g : ((s.length : Nat) : Int) * 10 ^ 112 ≤ 10 * 10 ^ 112 := Int.mul_le_mul_of_nonneg_right (by omega) (by decide)
  have e114 : (10 : Int) * 10 ^ 112 ≤ 10 ^ 114 := by decide
  have hp := Bw.smP_ok ok ne
  have t1 : 1 ≤ sm1 s + sm2 s := by
    obtain ⟨p1, p2, p3⟩ := hp
    have p1 : 0 ≤ sm1 s := p1
    have p2 : 0 ≤ sm2 s := p2
    have p3 : ¬ (sm1 s = 0 ∧ sm2 s = 0) := p3
    omega
  have tt := Int.mul_le_mul t1 t1 (by decide) (show (0 : Int) ≤ sm1 s + sm2 s by omega)
  have cb := Int.mul_le_mul_of_nonneg_left tt (show (0 : Int) ≤ Bw.CB by decide +kernel)
  have big : (10 : Int) ^ 12 ≤ Bw.CB * (1 * 1) := by decide +kernel
  refine ⟨⟨⟨Bw.hull_ok ok, Bw.hull_is_fall s⟩, Bw.hull_ne ne, Nat.le_trans (Bw.hull_len s) h2, c0, ?_⟩, ?_, ?_⟩
  · show c ≤ Bw.CB * ((sm1 (hull s) + sm2 (hull s)) * (sm1 (hull s) + sm2 (hull s)))
    rw [e1, e2]
    omega
  · show sm1 (hull s) ≤ _
    rw [e1]; omega
  · show sm2 (hull s) ≤ _
    rw [e2]; omega
theorem p114 : (10 : Int) ^ 114 ≤ 2 ^ 400 := by decide +kernel
theorem Arc.sums {x : Bow} (h : Arc x) : 0 ≤ sm1 x.s ∧ sm1 x.s ≤ 2 ^ 400 ∧ 0 ≤ sm2 x.s ∧ sm2 x.s ≤ 2 ^ 400 := by
  obtain ⟨a, b⟩ := Bw.sums_nn h.fit.good.ok
  exact ⟨a, Int.le_trans h.k1 p114, b, Int.le_trans h.k2 p114⟩
theorem Arc.okb {x : Bow} (h : Arc x) : Okb x := by
  obtain ⟨a, b, c, d⟩ := h.sums
  have k : (2 : Int) ^ 400 ≤ KB := KB_pow (by decide)
  exact ⟨⟨h.fit.good, h.fit.ne, Nat.le_trans h.fit.len (by decide), h.fit.c0, h.fit.c1⟩, Int.le_trans b k, Int.le_trans d k⟩
theorem row_of {s : List Bw.Sp} (hs : ∀ a ∈ s, stB (10 ^ 112) a) (h2 : s.length ≤ 10) : Row s := by
  obtain ⟨a1, a2⟩ := sum_le hs
  have g : ((s.length : Nat) : Int) * 10 ^ 112 ≤ 10 * 10 ^ 112 := Int.mul_le_mul_of_nonneg_right (by omega) (by decide)
  have e114 : (10 : Int) * 10 ^ 112 ≤ 2 ^ 400 := by decide +kernel
  have k : (2 : Int) ^ 400 ≤ KB := KB_pow (by decide)
  exact ⟨fun a ha => (hs a ha).1, by omega, by omega, by omega⟩
theorem stB_mul {B C v : Int} {a : Bw.Sp} (h : stB B a) (v1 : 1 ≤ v) (e : B * v ≤ C) : stB C (a.1 * v, a.2 * v) := by
  obtain ⟨⟨h1, h2, h3⟩, h4, h5⟩ := h
  have g1 := Int.mul_le_mul_of_nonneg_right h4 (show 0 ≤ v by omega)
  have g2 := Int.mul_le_mul_of_nonneg_right h5 (show 0 ≤ v by omega)
  refine ⟨⟨Int.mul_nonneg h1 (by omega), Int.mul_nonneg h2 (by omega), fun ⟨z1, z2⟩ => h3 ⟨?_, ?_⟩⟩, by show a.1 * v ≤ C; omega, by show a.2 * v ≤ C; omega⟩
  · exact (Int.mul_eq_zero.mp z1).resolve_right (by omega)
  · exact (Int.mul_eq_zero.mp z2).resolve_right (by omega)
def s__law_drawn : TSp := fun xs M Q _ => ∃ (h : Hn), xs = [.ref h.a] ∧ HandOk M h ∧ ∀ (x : Bow) M', Arc x → Hd h M M' → Q (bwT x) M'
theorem v__law_drawn {G : Gx} : ∀ xs M Q R, s__law_drawn xs M Q R → wSs noF (b__law_drawn G s_drawn_in s__law_some s__law_draw s__law_steps) (endsT Q R) (startT n__law_drawn xs) M := by
  rintro xs M Q R ⟨h, rfl, ok, q⟩
  unfold b__law_drawn
  simp only [wSs, wS, wE, wEs, wO, wB, wBo, wI, wTg, gs, startT, List.map_cons, List.map_nil, List.length_cons, List.length_nil, List.cons_append, List.nil_append, List.replicate, Nat.reduceAdd, Nat.reduceSub, Nat.zero_add, exEq, wCop, wIx, wTru, bif_len, bif_abs, bif_int, bif_isi, bif_tuple, bif_list, bif_sum, bif_all, bif_any, bif_min2, bif_max2, bif_minl, bif_maxl, bop_add_i, bop_add_t, bop_add_l, bop_sub, bop_mul_i, bop_fdiv, bop_mod, bop_pow, aug_add, aug_sub, aug_mul, setAll, tailS, wipeT, List.set, tru_bl, tru_non, tru_int, tru_tup, if_true, if_false, Bool.false_eq_true, Bool.not_true, Bool.not_false, seqM_tup, ix_tup, len_tup, atI_0, atI_1, atI_2, atI_3, atI_4, Option.some.injEq, exists_eq_left', eq_int, cmp_lt, cmp_le, cmp_gt, cmp_ge, cmp_eq, cmp_ne, cmp_is, cmp_isn, cmp_in, cmp_nin, Option.map, is_nn, is_in, is_tn, tyn_int, tyn_str, tyn_tup, Int.cast_ofNat_Int, Int.reduceLT, Int.reduceLE, Int.reduceAdd, Int.reduceMul, Int.reduceSub, BEq.rfl, decide_true, decide_false, Int.reduceBEq]
  refine ⟨h, 9, rfl, by decide, by decide, ok, fun v M1 v0 v9 d1 => ⟨⟨trivial, trivial, by decide⟩, fun t1 h1 => ?_⟩⟩
  have x1 : Xt h M M1 := (Xt.refl ok).hd d1
  refine ⟨h, t1, _, rfl, lsM_upd, by simp, by simp, d1.1.ne h1, d1.1.sub (Subm.new (.refl _) h1), fun y M2 hy d2 => ?_⟩
  have : ∃ m : Int, y = .int m ∧ 0 ≤ m ∧ m < 1000000000000 := by
    simp only [List.mem_cons, List.not_mem_nil, or_false] at hy
    rcases hy with rfl | rfl | rfl
    · exact ⟨3, rfl, by decide, by decide⟩
    · exact ⟨20, rfl, by decide, by decide⟩
    · exact ⟨_, rfl, by decide, by decide⟩
  obtain ⟨m, rfl, m0, m1⟩ := this
  have x2 := (x1.new h1).hd d2
  refine ⟨h, 1 + v, m, rfl, by omega, by omega, m0, m1, d2.1, fun s M3 hl hs d3 => ?_⟩
  have x3 := x2.hd d3
  simp only [wSs, wS, wE, wEs, wO, wB, wBo, wI, wTg, gs, startT, List.map_cons, List.map_nil, List.length_cons, List.length_nil, List.cons_append, List.nil_append, List.replicate, Nat.reduceAdd, Nat.reduceSub, Nat.zero_add, exEq, wCop, wIx, wTru, bif_len, bif_abs, bif_int, bif_isi, bif_tuple, bif_list, bif_sum, bif_all, bif_any, bif_min2, bif_max2, bif_minl, bif_maxl, bop_add_i, bop_add_t, bop_add_l, bop_sub, bop_mul_i, bop_fdiv, bop_mod, bop_pow, aug_add, aug_sub, aug_mul, setAll, tailS, wipeT, List.set, tru_bl, tru_non, tru_int, tru_tup, if_true, if_false, Bool.false_eq_true, Bool.not_true, Bool.not_false, seqM_tup, ix_tup, len_tup, atI_0, atI_1, atI_2, atI_3, atI_4, Option.some.injEq, exists_eq_left', eq_int, cmp_lt, cmp_le, cmp_gt, cmp_ge, cmp_eq, cmp_ne, cmp_is, cmp_isn, cmp_in, cmp_nin, Option.map, is_nn, is_in, is_tn, tyn_int, tyn_str, tyn_tup, Int.cast_ofNat_Int, Int.reduceLT, Int.reduceLE, Int.reduceAdd, Int.reduceMul, Int.reduceSub, BEq.rfl, decide_true, decide_false, Int.reduceBEq]
  refine ⟨h, 4, rfl, by decide, by decide, d3.1, fun u M4 u0 u4 d4 => ?_⟩
  have x4 := x3.hd d4
  have last : ∀ (s' : List Bw.Sp) (M5 : TM) (o2 : Option TV), s'.length = s.length → (∀ a ∈ s', stB (10 ^ 112) a) → Xt h M M5 → wSs noF (tailS (tailS (b__law_drawn G s_drawn_in s__law_some s__law_draw s__law_steps))) (endsT Q R) [some (.ref h.a), some (stT s'), o2, none, none] M5 := by
    intro s' M5 o2 hl' hs' x5
    unfold b__law_drawn
    simp only [wSs, wS, wE, wEs, wO, wB, wBo, wI, wTg, gs, startT, List.map_cons, List.map_nil, List.length_cons, List.length_nil, List.cons_append, List.nil_append, List.replicate, Nat.reduceAdd, Nat.reduceSub, Nat.zero_add, exEq, wCop, wIx, wTru, bif_len, bif_abs, bif_int, bif_isi, bif_tuple, bif_list, bif_sum, bif_all, bif_any, bif_min2, bif_max2, bif_minl, bif_maxl, bop_add_i, bop_add_t, bop_add_l, bop_sub, bop_mul_i, bop_fdiv, bop_mod, bop_pow, aug_add, aug_sub, aug_mul, setAll, tailS, wipeT, List.set, tru_bl, tru_non, tru_int, tru_tup, if_true, if_false, Bool.false_eq_true, Bool.not_true, Bool.not_false, seqM_tup, ix_tup, len_tup, atI_0, atI_1, atI_2, atI_3, atI_4, Option.some.injEq, exists_eq_left', eq_int, cmp_lt, cmp_le, cmp_gt, cmp_ge, cmp_eq, cmp_ne, cmp_is, cmp_isn, cmp_in, cmp_nin, Option.map, is_nn, is_in, is_tn, tyn_int, tyn_str, tyn_tup, Int.cast_ofNat_Int, Int.reduceLT, Int.reduceLE, Int.reduceAdd, Int.reduceMul, Int.reduceSub, BEq.rfl, decide_true, decide_false, Int.reduceBEq]
    refine ⟨⟨trivial, trivial, by decide⟩, fun t6 h6 => ?_⟩
    refine ⟨h, t6, _, rfl, lsM_upd, by simp, by simp, x5.2.1.ne h6, x5.2.1.sub (Subm.new (.refl _) h6), fun y M7 hy d7 => ?_⟩
    have : ∃ m : Int, y = .int m ∧ 0 < m ∧ m ≤ 1000000000000 := by
      simp only [List.mem_cons, List.not_mem_nil, or_false] at hy
      rcases hy with rfl | rfl
      · exact ⟨5, rfl, by decide, by decide⟩
      · exact ⟨_, rfl, by decide, by decide⟩
    obtain ⟨m, rfl, m0, m1⟩ := this
    refine ⟨h, m, rfl, m0, by omega, d7.1, fun c M8 c0 c1 d8 => ?_⟩
    simp only [wSs, wS, wE, wEs, wO, wB, wBo, wI, wTg, gs, startT, List.map_cons, List.map_nil, List.length_cons, List.length_nil, List.cons_append, List.nil_append, List.replicate, Nat.reduceAdd, Nat.reduceSub, Nat.zero_add, exEq, wCop, wIx, wTru, bif_len, bif_abs, bif_int, bif_isi, bif_tuple, bif_list, bif_sum, bif_all, bif_any, bif_min2, bif_max2, bif_minl, bif_maxl, bop_add_i, bop_add_t, bop_add_l, bop_sub, bop_mul_i, bop_fdiv, bop_mod, bop_pow, aug_add, aug_sub, aug_mul, setAll, tailS, wipeT, List.set, tru_bl, tru_non, tru_int, tru_tup, if_true, if_false, Bool.false_eq_true, Bool.not_true, Bool.not_false, seqM_tup, ix_tup, len_tup, atI_0, atI_1, atI_2, atI_3, atI_4, Option.some.injEq, exists_eq_left', eq_int, cmp_lt, cmp_le, cmp_gt, cmp_ge, cmp_eq, cmp_ne, cmp_is, cmp_isn, cmp_in, cmp_nin, Option.map, is_nn, is_in, is_tn, tyn_int, tyn_str, tyn_tup, Int.cast_ofNat_Int, Int.reduceLT, Int.reduceLE, Int.reduceAdd, Int.reduceMul, Int.reduceSub, BEq.rfl, decide_true, decide_false, Int.reduceBEq]
    exact ⟨s', rfl, row_of hs' (by omega), rtH (((x5.new h6).hd d7).hd d8) fun M9 d9 => q ⟨c, hull s'⟩ M9 (arc_of hs' (by omega) (by omega) c0 (by omega)) d9⟩
  unfold b__law_drawn at last
  simp only [wSs, wS, wE, wEs, wO, wB, wBo, wI, wTg, gs, startT, List.map_cons, List.map_nil, List.length_cons, List.length_nil, List.cons_append, List.nil_append, List.replicate, Nat.reduceAdd, Nat.reduceSub, Nat.zero_add, exEq, wCop, wIx, wTru, bif_len, bif_abs, bif_int, bif_isi, bif_tuple, bif_list, bif_sum, bif_all, bif_any, bif_min2, bif_max2, bif_minl, bif_maxl, bop_add_i, bop_add_t, bop_add_l, bop_sub, bop_mul_i, bop_fdiv, bop_mod, bop_pow, aug_add, aug_sub, aug_mul, setAll, tailS, wipeT, List.set, tru_bl, tru_non, tru_int, tru_tup, if_true, if_false, Bool.false_eq_true, Bool.not_true, Bool.not_false, seqM_tup, ix_tup, len_tup, atI_0, atI_1, atI_2, atI_3, atI_4, Option.some.injEq, exists_eq_left', eq_int, cmp_lt, cmp_le, cmp_gt, cmp_ge, cmp_eq, cmp_ne, cmp_is, cmp_isn, cmp_in, cmp_nin, Option.map, is_nn, is_in, is_tn, tyn_int, tyn_str, tyn_tup, Int.cast_ofNat_Int, Int.reduceLT, Int.reduceLE, Int.reduceAdd, Int.reduceMul, Int.reduceSub, BEq.rfl, decide_true, decide_false, Int.reduceBEq] at last
  by_cases cu : u = 0
  · subst cu
    simp only [wSs, wS, wE, wEs, wO, wB, wBo, wI, wTg, gs, startT, List.map_cons, List.map_nil, List.length_cons, List.length_nil, List.cons_append, List.nil_append, List.replicate, Nat.reduceAdd, Nat.reduceSub, Nat.zero_add, exEq, wCop, wIx, wTru, bif_len, bif_abs, bif_int, bif_isi, bif_tuple, bif_list, bif_sum, bif_all, bif_any, bif_min2, bif_max2, bif_minl, bif_maxl, bop_add_i, bop_add_t, bop_add_l, bop_sub, bop_mul_i, bop_fdiv, bop_mod, bop_pow, aug_add, aug_sub, aug_mul, setAll, tailS, wipeT, List.set, tru_bl, tru_non, tru_int, tru_tup, if_true, if_false, Bool.false_eq_true, Bool.not_true, Bool.not_false, seqM_tup, ix_tup, len_tup, atI_0, atI_1, atI_2, atI_3, atI_4, Option.some.injEq, exists_eq_left', eq_int, cmp_lt, cmp_le, cmp_gt, cmp_ge, cmp_eq, cmp_ne, cmp_is, cmp_isn, cmp_in, cmp_nin, Option.map, is_nn, is_in, is_tn, tyn_int, tyn_str, tyn_tup, Int.cast_ofNat_Int, Int.reduceLT, Int.reduceLE, Int.reduceAdd, Int.reduceMul, Int.reduceSub, BEq.rfl, decide_true, decide_false, Int.reduceBEq]
    refine ⟨⟨trivial, trivial, by decide⟩, ⟨trivial, trivial, by decide⟩, ⟨trivial, trivial, by decide⟩, .inr (by decide +kernel), fun t5 h5 => ?_⟩
    refine ⟨h, t5, _, rfl, lsM_upd, by simp, by simp, d4.1.ne h5, d4.1.sub (Subm.new (.refl _) h5), fun y M6 hy d6 => ?_⟩
    have : ∃ b : Int, y = .int b ∧ 1 ≤ b ∧ b ≤ 10 ^ 100 := by
      simp only [List.mem_cons, List.not_mem_nil, or_false] at hy
      rcases hy with rfl | rfl | rfl
      · exact ⟨_, rfl, by decide, by decide⟩
      · exact ⟨_, rfl, by decide, by decide⟩
      · exact ⟨7, rfl, by decide, by decide⟩
    obtain ⟨b, rfl, b1, b2⟩ := this
    have x6 := (x4.new h5).hd d6
    have lb : b.natAbs.log2 ≤ 400 := log_le (k := 400) (by omega) (Int.le_trans b2 (by decide +kernel))
    simp only [wSs, wS, wE, wEs, wO, wB, wBo, wI, wTg, gs, startT, List.map_cons, List.map_nil, List.length_cons, List.length_nil, List.cons_append, List.nil_append, List.replicate, Nat.reduceAdd, Nat.reduceSub, Nat.zero_add, exEq, wCop, wIx, wTru, bif_len, bif_abs, bif_int, bif_isi, bif_tuple, bif_list, bif_sum, bif_all, bif_any, bif_min2, bif_max2, bif_minl, bif_maxl, bop_add_i, bop_add_t, bop_add_l, bop_sub, bop_mul_i, bop_fdiv, bop_mod, bop_pow, aug_add, aug_sub, aug_mul, setAll, tailS, wipeT, List.set, tru_bl, tru_non, tru_int, tru_tup, if_true, if_false, Bool.false_eq_true, Bool.not_true, Bool.not_false, seqM_tup, ix_tup, len_tup, atI_0, atI_1, atI_2, atI_3, atI_4, Option.some.injEq, exists_eq_left', eq_int, cmp_lt, cmp_le, cmp_gt, cmp_ge, cmp_eq, cmp_ne, cmp_is, cmp_isn, cmp_in, cmp_nin, Option.map, is_nn, is_in, is_tn, tyn_int, tyn_str, tyn_tup, Int.cast_ofNat_Int, Int.reduceLT, Int.reduceLE, Int.reduceAdd, Int.reduceMul, Int.reduceSub, BEq.rfl, decide_true, decide_false, Int.reduceBEq, stT]
    refine lcL_map (fun t => match t with | .tup [.int p, .int w] => .tup [.int (p * b), .int (w * b)] | t => t) (.refl _) (fun _ _ => trivial) ?_ ?_
    · intro z hz acc M7 k s7 hk
      obtain ⟨a, ha, rfl⟩ := List.mem_map.mp hz
      obtain ⟨⟨g1, g2, g3⟩, g4, g5⟩ := hs a ha
      have l1 : a.1.natAbs.log2 ≤ 40 := log_le (k := 40) g1 (Int.le_trans g4 (by decide))
      have l2 : a.2.natAbs.log2 ≤ 40 := log_le (k := 40) g2 (Int.le_trans g5 (by decide))
      refine ⟨_, rfl, rfl, ?_⟩
      simp only [wSs, wS, wE, wEs, wO, wB, wBo, wI, wTg, gs, startT, List.map_cons, List.map_nil, List.length_cons, List.length_nil, List.cons_append, List.nil_append, List.replicate, Nat.reduceAdd, Nat.reduceSub, Nat.zero_add, exEq, wCop, wIx, wTru, bif_len, bif_abs, bif_int, bif_isi, bif_tuple, bif_list, bif_sum, bif_all, bif_any, bif_min2, bif_max2, bif_minl, bif_maxl, bop_add_i, bop_add_t, bop_add_l, bop_sub, bop_mul_i, bop_fdiv, bop_mod, bop_pow, aug_add, aug_sub, aug_mul, setAll, tailS, wipeT, List.set, tru_bl, tru_non, tru_int, tru_tup, if_true, if_false, Bool.false_eq_true, Bool.not_true, Bool.not_false, seqM_tup, ix_tup, len_tup, atI_0, atI_1, atI_2, atI_3, atI_4, Option.some.injEq, exists_eq_left', eq_int, cmp_lt, cmp_le, cmp_gt, cmp_ge, cmp_eq, cmp_ne, cmp_is, cmp_isn, cmp_in, cmp_nin, Option.map, is_nn, is_in, is_tn, tyn_int, tyn_str, tyn_tup, Int.cast_ofNat_Int, Int.reduceLT, Int.reduceLE, Int.reduceAdd, Int.reduceMul, Int.reduceSub, BEq.rfl, decide_true, decide_false, Int.reduceBEq]
      exact ⟨.inr (by omega), .inr (by omega), hk _ (.refl _)⟩
    · intro M7 s7 p hp
      rw [List.nil_append, List.map_map]
      refine ⟨_, lsM_upd, ?_⟩
      have e : (s.map ((fun t => match t with | .tup [.int p, .int w] => .tup [.int (p * b), .int (w * b)] | t => t) ∘ spT)) = (s.map fun a => ((a.1 * b, a.2 * b) : Bw.Sp)).map spT := by
        rw [List.map_map]
        rfl
      rw [e]
      refine last (s.map fun a => (a.1 * b, a.2 * b)) _ _ (by simp) (fun a ha => ?_) ((x6.sub s7).new hp)
      obtain ⟨c, hc, rfl⟩ := List.mem_map.mp ha
      exact stB_mul (hs c hc) b1 (Int.le_trans (Int.mul_le_mul_of_nonneg_left b2 (by decide)) (by decide))
  · have e : (u == 0) = false := by simpa using cu
    simp only [wSs, wS, wE, wEs, wO, wB, wBo, wI, wTg, gs, startT, List.map_cons, List.map_nil, List.length_cons, List.length_nil, List.cons_append, List.nil_append, List.replicate, Nat.reduceAdd, Nat.reduceSub, Nat.zero_add, exEq, wCop, wIx, wTru, bif_len, bif_abs, bif_int, bif_isi, bif_tuple, bif_list, bif_sum, bif_all, bif_any, bif_min2, bif_max2, bif_minl, bif_maxl, bop_add_i, bop_add_t, bop_add_l, bop_sub, bop_mul_i, bop_fdiv, bop_mod, bop_pow, aug_add, aug_sub, aug_mul, setAll, tailS, wipeT, List.set, tru_bl, tru_non, tru_int, tru_tup, if_true, if_false, Bool.false_eq_true, Bool.not_true, Bool.not_false, seqM_tup, ix_tup, len_tup, atI_0, atI_1, atI_2, atI_3, atI_4, Option.some.injEq, exists_eq_left', eq_int, cmp_lt, cmp_le, cmp_gt, cmp_ge, cmp_eq, cmp_ne, cmp_is, cmp_isn, cmp_in, cmp_nin, Option.map, is_nn, is_in, is_tn, tyn_int, tyn_str, tyn_tup, Int.cast_ofNat_Int, Int.reduceLT, Int.reduceLE, Int.reduceAdd, Int.reduceMul, Int.reduceSub, BEq.rfl, decide_true, decide_false, Int.reduceBEq, e]
    refine last s M4 none rfl (fun a ha => ?_) x4
    obtain ⟨g1, g2, g3⟩ := hs a ha
    exact ⟨g1, Int.le_trans g2 (by decide), Int.le_trans g3 (by decide)⟩
theorem h__law_drawn {G : Gx} (F : Facts G) : HeldT G 5 (adr G "_law_drawn") s__law_drawn :=
  F.d__law_drawn.held (k := 4) sc__law_drawn ck__law_drawn (ok__law_drawn F ((h__law_tight F).mono (by decide)) ((h__law_some F).mono (by decide)) ((h__law_draw F).mono (by decide)) (h__law_steps F)) nF (fun xs M Q R ⟨_, e, _⟩ => by rw [e]; rfl) v__law_drawn
end TL

/-! X10I: two and three bows. -/
namespace TL
open PySem PySem.Spec PyProof.Rows L2
open TL.Bw (Bow bt hull allOk sm1 sm2 push Fall FallR Fit mt met met1 mrg opB jnL jnR)
theorem Fit.mono {x : Bow} {n m : Nat} (f : Fit x n) (h : n ≤ m) : Fit x m := ⟨f.good, f.ne, Nat.le_trans f.len h, f.c0, f.c1⟩
theorem K500 : (2 : Int) ^ 500 ≤ KB := KB_pow (by decide)
/-- joined of few drawn bows -/
structure Fw (x : Bow) (n : Nat) : Prop where
  fit : Fit x (10 * n)
  k1 : sm1 x.s ≤ n * 2 ^ 400
  k2 : sm2 x.s ≤ n * 2 ^ 400
theorem Arc.fw {x : Bow} (h : Arc x) : Fw x 1 := by
  obtain ⟨a, b, c, d⟩ := h.sums
  exact ⟨h.fit, by omega, by omega⟩
theorem Fw.op {r : Bool} {x y : Bow} {n m : Nat} (hx : Fw x n) (hy : Fw y m) : Fw (opB r x y) (n + m) := by
  have f := Bw.fit_op (r := r) hx.fit hy.fit
  obtain ⟨s1, s2⟩ := Bw.op_sums r x y
  have a1 := hx.k1
  have a2 := hx.k2
  have b1 := hy.k1
  have b2 := hy.k2
  refine ⟨by rw [Nat.mul_add]; exact f, ?_, ?_⟩
  · rw [s1, Int.natCast_add, Int.add_mul]; omega
  · rw [s2, Int.natCast_add, Int.add_mul]; omega
theorem Fw.two {x y : Bow} {n m : Nat} (hx : Fw x n) (hy : Fw y m) (h : n + m ≤ 10) : Two x y ∧ Okb x ∧ Okb y := by
  have a1 := hx.k1
  have a2 := hx.k2
  have b1 := hy.k1
  have b2 := hy.k2
  have l1 := hx.fit.len
  have l2 := hy.fit.len
  obtain ⟨z1, z2⟩ := Bw.sums_nn hx.fit.good.ok
  obtain ⟨z3, z4⟩ := Bw.sums_nn hy.fit.good.ok
  have e : (10 : Int) * 2 ^ 400 ≤ KB := Int.le_trans (by decide +kernel) K500
  have g : ((n : Int) + m) * 2 ^ 400 ≤ 10 * 2 ^ 400 := Int.mul_le_mul_of_nonneg_right (by omega) (by decide +kernel)
  rw [Int.add_mul] at g
  have t : Two x y := ⟨⟨_, hx.fit⟩, ⟨_, hy.fit⟩, by omega, by omega, by omega⟩
  exact ⟨t, t.okb (Fit.mono hx.fit (by omega)) (Fit.mono hy.fit (by omega))⟩
section
variable {G : Gx} {M : TM} {Q : TK} {R : TR} {x y : Bow} {n m : Nat}
theorem in_row' (hx : Fw x n) (hy : Fw y m) (h : n + m ≤ 10) (q : Q (bwT (opB true x y)) M) : s_in_row G [bwT x, bwT y] M Q R := by
  obtain ⟨t, a, b⟩ := hx.two hy h
  exact ⟨_, _, rfl, .inl ⟨x, y, rfl, rfl, t, a.fit, b.fit, q⟩⟩
theorem beside' (hx : Fw x n) (hy : Fw y m) (h : n + m ≤ 10) (q : Q (bwT (opB false x y)) M) : s_beside G [bwT x, bwT y] M Q R := by
  obtain ⟨t, a, b⟩ := hx.two hy h
  exact ⟨_, _, rfl, .inl ⟨x, y, rfl, rfl, t, a.fit, b.fit, q⟩⟩
theorem meeting' (hx : Fw x n) (hy : Fw y m) (h : n + m ≤ 10) (q : Q (.int (met x.s y.s)) M) : s_meeting G [bwT x, bwT y] M Q R := by
  obtain ⟨t, a, b⟩ := hx.two hy h
  exact ⟨_, _, rfl, .inl ⟨x, y, rfl, rfl, a, b, q⟩⟩
theorem behind' (hx : Fw x n) (hy : Fw y m) (h : n + m ≤ 10) (q : Q (bwT (opB true x y)) M) : s_rowed [bwT x, bwT y] M Q R := by
  obtain ⟨t, a, b⟩ := hx.two hy h
  exact ⟨x, y, rfl, t, q⟩
theorem put_beside' (hx : Fw x n) (hy : Fw y m) (h : n + m ≤ 10) (q : Q (bwT (opB false x y)) M) : s_sided [bwT x, bwT y] M Q R := by
  obtain ⟨t, a, b⟩ := hx.two hy h
  exact ⟨x, y, rfl, t, q⟩
theorem meet' (hx : Fw x n) (hy : Fw y m) (h : n + m ≤ 10) (q : Q (.int (met x.s y.s)) M) : s__law_meet [bwT x, bwT y] M Q R := by
  obtain ⟨t, a, b⟩ := hx.two hy h
  exact ⟨x, y, rfl, a.row, b.row, q⟩
theorem is_bow' (hx : Okb x) (q : Q (.bl true) M) : s_is_bow [bwT x] M Q R := by
  refine ⟨_, rfl, .inl ⟨_, _, rfl, hx.fit.c0, hx.stp, ?_⟩⟩
  rw [adj_fall hx.fit.good.fall]
  exact q
end
theorem side_comm {x y : Bow} {n m : Nat} (hx : Fw x n) (hy : Fw y m) : opB false x y = opB false y x := Bw.sideB_comm hx.fit.good hy.fit.good
theorem op_assoc {r : Bool} {x y z : Bow} {n m k : Nat} (hx : Fw x n) (hy : Fw y m) (hz : Fw z k) : opB r (opB r x y) z = opB r x (opB r y z) := Bw.opB_assoc hx.fit.good hy.fit.good hz.fit.good
theorem met_side {x y z : Bow} {n m k : Nat} (hx : Fw x n) (hy : Fw y m) (hz : Fw z k) : met x.s (opB false y z).s = met x.s y.s + met x.s z.s := by
  show met x.s (Bw.sideB y z).s = _
  rw [Bw.sideB_s hy.fit.good hz.fit.good, Bw.met_comm, Bw.met_can (Bw.allOk_app hy.fit.good.ok hz.fit.good.ok) hx.fit.good.ok, Bw.met_app_left, Bw.met_comm y.s x.s, Bw.met_comm z.s x.s]
/-- beside is never dearer than in a row -/
theorem side_le {x y : Bow} {n m : Nat} (hx : Fw x n) (hy : Fw y m) : (opB false x y).c ≤ (opB true x y).c ∧ (opB false x y).c ≤ (opB true y x).c := by
  have a := (Bw.met_le hy.fit.good.ok hx.fit.good.ok).2
  have b := (Bw.met_le hx.fit.good.ok hy.fit.good.ok).2
  rw [Bw.met_comm] at b
  show x.c + y.c + met x.s y.s ≤ x.c + y.c + sm1 x.s * sm2 y.s ∧ x.c + y.c + met x.s y.s ≤ y.c + x.c + sm1 y.s * sm2 x.s
  omega
theorem shw_st : ∀ {s : List Bw.Sp}, (∀ a ∈ s, 0 ≤ a.1 ∧ a.1 < 10 ^ 500 ∧ 0 ≤ a.2 ∧ a.2 < 10 ^ 500) → shwAll (s.map spT) = true ∧ blkAll (s.map spT) = 3 * s.length ∧ dptAll (s.map spT) ≤ 1
  | [], _ => ⟨rfl, rfl, by decide⟩
  | a :: r, h => by
    obtain ⟨h1, h2, h3⟩ := shw_st fun b hb => h b (List.mem_cons_of_mem _ hb)
    obtain ⟨g1, g2, g3, g4⟩ := h a List.mem_cons_self
    have i1 := int_shw g1 g2
    have i2 := int_shw g3 g4
    refine ⟨?_, ?_, ?_⟩
    · simp only [List.map_cons, shwAll, spT, shw] at i1 i2 h1 ⊢
      simp only [i1, i2, h1, Bool.and_self]
    · simp only [List.map_cons, blkAll, spT, blk, h2, List.length_cons]
      omega
    · simp only [List.map_cons, dptAll, spT, dpt]
      omega
theorem Arc.shw {x : Bow} (h : Arc x) : shw (bwT x) = true ∧ blk (bwT x) ≤ 4000 ∧ dpt (bwT x) ≤ 3 := by
  have f := h.fit
  obtain ⟨a, b⟩ := Bw.sums_nn f.good.ok
  have k1 := h.k1
  have k2 := h.k2
  have hc : x.c < 10 ^ 500 := by
    have g := Int.mul_le_mul (show sm1 x.s + sm2 x.s ≤ 2 * 10 ^ 114 by omega) (show sm1 x.s + sm2 x.s ≤ 2 * 10 ^ 114 by omega) (by omega) (by decide +kernel)
    have g2 := Int.mul_le_mul_of_nonneg_left g (show (0 : Int) ≤ Bw.CB by decide +kernel)
    exact Int.lt_of_le_of_lt (Int.le_trans f.c1 g2) (by decide +kernel)
  have ic := int_shw f.c0 hc
  have big : (10 : Int) ^ 114 < 10 ^ 500 := by decide +kernel
  obtain ⟨h1, h2, h3⟩ := shw_st (s := x.s) fun s hs => by
    have o := f.good.ok s hs
    have l := Bw.step_le f.good.ok s hs
    exact ⟨o.1, by omega, o.2.1, by omega⟩
  have len := f.len
  refine ⟨?_, ?_, ?_⟩
  · simp only [bwT, stT, TL.shw, shwAll] at ic h1 ⊢
    simp only [ic, h1, Bool.and_self]
  · simp only [bwT, stT, blk, blkAll, h2]
    omega
  · simp only [bwT, stT, dpt, dptAll]
    omega
def twoS (x y : Bow) : Str := (PyData.tuple (ddAll [bwT x, bwT y])).shown
theorem rep_two {M : TM} {Q : TK} {x y : Bow} (hx : Arc x) (hy : Arc y) (q : Q (.str (twoS x y)) M) : wRpr (.tup [bwT x, bwT y]) M Q := by
  obtain ⟨a1, a2, a3⟩ := hx.shw
  obtain ⟨b1, b2, b3⟩ := hy.shw
  refine rep_tup ?_ ?_ ?_ q
  · simp only [shwAll, a1, b1, Bool.and_self]
  · simp only [dptAll]; omega
  · simp only [blkAll]; omega
/-- lists of bows and numbers, the same -/
def flatT (z : TV) : Prop := (∃ x, z = bwT x) ∨ ∃ i, z = .int i
theorem same_flat {M : TM} {n : Nat} {a b : Addr} {zs : List TV} (h1 : lsM M a = some zs) (h2 : lsM M b = some zs) (h : ∀ z ∈ zs, flatT z) : Same M (n + 4) (.ref a) (.ref b) := same_lst (n := n + 3) h1 h2 fun z hz => by
  rcases h z hz with ⟨x, rfl⟩ | ⟨i, rfl⟩
  · exact same_bw x
  · exact same_int
def s_two : TSp := fun xs M Q _ => ∃ x y, xs = [bwT x, bwT y] ∧ Arc x ∧ Arc y ∧ Q (.bl true) M
theorem v__law_is_two_right {G : Gx} : ∀ xs M Q R, s_two xs M Q R → wSs noF (b__law_is_two_right G s_is_bow (s_meeting G) (s_beside G) (s__law_is 4) (s_in_row G) s__law_meet s_sided s_rowed) (endsT Q R) (startT n__law_is_two_right xs) M := by
  rintro xs M Q R ⟨x, y, rfl, A, B, q⟩
  have X := A.fw
  have Y := B.fw
  unfold b__law_is_two_right
  try simp only [wSs, wS, wE, wEs, wO, wB, wBo, wI, wTg, gs, startT, List.map_cons, List.map_nil, List.length_cons, List.length_nil, List.cons_append, List.nil_append, List.replicate, Nat.reduceAdd, Nat.reduceSub, Nat.zero_add, exEq, wCop, wIx, wTru, bif_len, bif_abs, bif_int, bif_isi, bif_tuple, bif_list, bif_sum, bif_all, bif_any, bif_min2, bif_max2, bif_minl, bif_maxl, bop_add_i, bop_add_t, bop_add_l, bop_sub, bop_mul_i, bop_fdiv, bop_mod, bop_pow, aug_add, aug_sub, aug_mul, setAll, tailS, wipeT, List.set, tru_bl, tru_non, tru_int, tru_tup, if_true, if_false, Bool.false_eq_true, Bool.not_true, Bool.not_false, seqM_tup, ix_tup, len_tup, atI_0, atI_1, atI_2, atI_3, atI_4, Option.some.injEq, exists_eq_left', eq_int, cmp_lt, cmp_le, cmp_gt, cmp_ge, cmp_eq, cmp_ne, cmp_is, cmp_isn, cmp_in, cmp_nin, Option.map, is_nn, is_in, is_tn, tyn_int, tyn_str, tyn_tup, Int.cast_ofNat_Int, Int.reduceLT, Int.reduceLE, Int.reduceAdd, Int.reduceMul, Int.reduceSub, BEq.rfl, decide_true, decide_false, Int.reduceBEq]
  refine behind' X Y (by decide) (behind' Y X (by decide) ?_)
  refine put_beside' X Y (by decide) (meet' X Y (by decide) ?_)
  refine rep_two A B ?_
  refine foL_at (d := []) (fun _ _ σ M' => Subm M M' ∧ ∃ o3, σ = [some (bwT x), some (bwT y), some (.str (twoS x y)), o3, some (bwT (opB true x y)), some (bwT (opB true y x)), some (bwT (opB false x y)), some (.int (met x.s y.s)), none]) ⟨.refl _, _, rfl⟩ (fun _ _ _ _ _ => trivial) ?_ ?_
  · rintro _ z r k _ M1 ⟨s1, o3, rfl⟩ hk
    try simp only [wSs, wS, wE, wEs, wO, wB, wBo, wI, wTg, gs, startT, List.map_cons, List.map_nil, List.length_cons, List.length_nil, List.cons_append, List.nil_append, List.replicate, Nat.reduceAdd, Nat.reduceSub, Nat.zero_add, exEq, wCop, wIx, wTru, bif_len, bif_abs, bif_int, bif_isi, bif_tuple, bif_list, bif_sum, bif_all, bif_any, bif_min2, bif_max2, bif_minl, bif_maxl, bop_add_i, bop_add_t, bop_add_l, bop_sub, bop_mul_i, bop_fdiv, bop_mod, bop_pow, aug_add, aug_sub, aug_mul, setAll, tailS, wipeT, List.set, tru_bl, tru_non, tru_int, tru_tup, if_true, if_false, Bool.false_eq_true, Bool.not_true, Bool.not_false, seqM_tup, ix_tup, len_tup, atI_0, atI_1, atI_2, atI_3, atI_4, Option.some.injEq, exists_eq_left', eq_int, cmp_lt, cmp_le, cmp_gt, cmp_ge, cmp_eq, cmp_ne, cmp_is, cmp_isn, cmp_in, cmp_nin, Option.map, is_nn, is_in, is_tn, tyn_int, tyn_str, tyn_tup, Int.cast_ofNat_Int, Int.reduceLT, Int.reduceLE, Int.reduceAdd, Int.reduceMul, Int.reduceSub, BEq.rfl, decide_true, decide_false, Int.reduceBEq]
    refine in_row' X Y (by decide) (in_row' Y X (by decide) (beside' X Y (by decide) ?_))
    intro p1 h1 p2 h2
    refine ⟨_, _, rfl, same_flat ((Subm.new (.refl _) h2).lsM lsM_upd) lsM_upd ?_, true, rfl, ?_⟩
    · simp only [List.mem_cons, List.not_mem_nil, or_false]
      rintro z (rfl | rfl | rfl) <;> exact .inl ⟨_, rfl⟩
    have s2 := (s1.new (o := .lst [bwT (opB true x y), bwT (opB true y x), bwT (opB false x y)]) h1).new (o := .lst [bwT (opB true x y), bwT (opB true y x), bwT (opB false x y)]) h2
    clear h1 h2
    generalize updM (updM M1 p1 (.lst [bwT (opB true x y), bwT (opB true y x), bwT (opB false x y)])) p2 (.lst [bwT (opB true x y), bwT (opB true y x), bwT (opB false x y)]) = M2 at s2 ⊢
    try simp only [wSs, wS, wE, wEs, wO, wB, wBo, wI, wTg, gs, startT, List.map_cons, List.map_nil, List.length_cons, List.length_nil, List.cons_append, List.nil_append, List.replicate, Nat.reduceAdd, Nat.reduceSub, Nat.zero_add, exEq, wCop, wIx, wTru, bif_len, bif_abs, bif_int, bif_isi, bif_tuple, bif_list, bif_sum, bif_all, bif_any, bif_min2, bif_max2, bif_minl, bif_maxl, bop_add_i, bop_add_t, bop_add_l, bop_sub, bop_mul_i, bop_fdiv, bop_mod, bop_pow, aug_add, aug_sub, aug_mul, setAll, tailS, wipeT, List.set, tru_bl, tru_non, tru_int, tru_tup, if_true, if_false, Bool.false_eq_true, Bool.not_true, Bool.not_false, seqM_tup, ix_tup, len_tup, atI_0, atI_1, atI_2, atI_3, atI_4, Option.some.injEq, exists_eq_left', eq_int, cmp_lt, cmp_le, cmp_gt, cmp_ge, cmp_eq, cmp_ne, cmp_is, cmp_isn, cmp_in, cmp_nin, Option.map, is_nn, is_in, is_tn, tyn_int, tyn_str, tyn_tup, Int.cast_ofNat_Int, Int.reduceLT, Int.reduceLE, Int.reduceAdd, Int.reduceMul, Int.reduceSub, BEq.rfl, decide_true, decide_false, Int.reduceBEq]
    refine beside' Y X (by decide) (meeting' X Y (by decide) (meeting' Y X (by decide) ?_))
    rw [← side_comm X Y, Bw.met_comm y.s x.s]
    intro p1 h1 p2 h2
    refine ⟨_, _, rfl, same_flat ((Subm.new (.refl _) h2).lsM lsM_upd) lsM_upd ?_, true, rfl, ?_⟩
    · simp only [List.mem_cons, List.not_mem_nil, or_false]
      rintro z (rfl | rfl | rfl)
      · exact .inl ⟨_, rfl⟩
      · exact .inr ⟨_, rfl⟩
      · exact .inr ⟨_, rfl⟩
    try simp only [wSs, wS, wE, wEs, wO, wB, wBo, wI, wTg, gs, startT, List.map_cons, List.map_nil, List.length_cons, List.length_nil, List.cons_append, List.nil_append, List.replicate, Nat.reduceAdd, Nat.reduceSub, Nat.zero_add, exEq, wCop, wIx, wTru, bif_len, bif_abs, bif_int, bif_isi, bif_tuple, bif_list, bif_sum, bif_all, bif_any, bif_min2, bif_max2, bif_minl, bif_maxl, bop_add_i, bop_add_t, bop_add_l, bop_sub, bop_mul_i, bop_fdiv, bop_mod, bop_pow, aug_add, aug_sub, aug_mul, setAll, tailS, wipeT, List.set, tru_bl, tru_non, tru_int, tru_tup, if_true, if_false, Bool.false_eq_true, Bool.not_true, Bool.not_false, seqM_tup, ix_tup, len_tup, atI_0, atI_1, atI_2, atI_3, atI_4, Option.some.injEq, exists_eq_left', eq_int, cmp_lt, cmp_le, cmp_gt, cmp_ge, cmp_eq, cmp_ne, cmp_is, cmp_isn, cmp_in, cmp_nin, Option.map, is_nn, is_in, is_tn, tyn_int, tyn_str, tyn_tup, Int.cast_ofNat_Int, Int.reduceLT, Int.reduceLE, Int.reduceAdd, Int.reduceMul, Int.reduceSub, BEq.rfl, decide_true, decide_false, Int.reduceBEq]
    exact hk _ _ ⟨(s2.new h1).new h2, _, rfl⟩
  · rintro _ _ M1 ⟨s1, o3, rfl⟩
    try simp only [wSs, wS, wE, wEs, wO, wB, wBo, wI, wTg, gs, startT, List.map_cons, List.map_nil, List.length_cons, List.length_nil, List.cons_append, List.nil_append, List.replicate, Nat.reduceAdd, Nat.reduceSub, Nat.zero_add, exEq, wCop, wIx, wTru, bif_len, bif_abs, bif_int, bif_isi, bif_tuple, bif_list, bif_sum, bif_all, bif_any, bif_min2, bif_max2, bif_minl, bif_maxl, bop_add_i, bop_add_t, bop_add_l, bop_sub, bop_mul_i, bop_fdiv, bop_mod, bop_pow, aug_add, aug_sub, aug_mul, setAll, tailS, wipeT, List.set, tru_bl, tru_non, tru_int, tru_tup, if_true, if_false, Bool.false_eq_true, Bool.not_true, Bool.not_false, seqM_tup, ix_tup, len_tup, atI_0, atI_1, atI_2, atI_3, atI_4, Option.some.injEq, exists_eq_left', eq_int, cmp_lt, cmp_le, cmp_gt, cmp_ge, cmp_eq, cmp_ne, cmp_is, cmp_isn, cmp_in, cmp_nin, Option.map, is_nn, is_in, is_tn, tyn_int, tyn_str, tyn_tup, Int.cast_ofNat_Int, Int.reduceLT, Int.reduceLE, Int.reduceAdd, Int.reduceMul, Int.reduceSub, BEq.rfl, decide_true, decide_false, Int.reduceBEq]
    have oR := (X.op (r := true) Y).two (X.op (r := true) Y) (by decide)
    have oS := (X.op (r := false) Y).two (X.op (r := false) Y) (by decide)
    refine lcL_map (fun _ => .bl true) (.refl _) (fun _ _ => trivial) ?_ ?_
    · intro z hz acc M2 k s2 hk
      have : ∃ w, z = bwT w ∧ Okb w := by
        simp only [List.mem_cons, List.not_mem_nil, or_false] at hz
        rcases hz with rfl | rfl
        · exact ⟨_, rfl, oR.2.1⟩
        · exact ⟨_, rfl, oS.2.1⟩
      obtain ⟨w, rfl, ow⟩ := this
      exact is_bow' ow ⟨true, rfl, hk _ (.refl _)⟩
    · intro M2 s2 p hp
      refine ⟨_, [true, true], lsM_upd, rfl, ?_⟩
      simp only [wSs, wS, wE, wEs, wO, wB, wBo, wI, wTg, gs, startT, List.map_cons, List.map_nil, List.length_cons, List.length_nil, List.cons_append, List.nil_append, List.replicate, Nat.reduceAdd, Nat.reduceSub, Nat.zero_add, exEq, wCop, wIx, wTru, bif_len, bif_abs, bif_int, bif_isi, bif_tuple, bif_list, bif_sum, bif_all, bif_any, bif_min2, bif_max2, bif_minl, bif_maxl, bop_add_i, bop_add_t, bop_add_l, bop_sub, bop_mul_i, bop_fdiv, bop_mod, bop_pow, aug_add, aug_sub, aug_mul, setAll, tailS, wipeT, List.set, tru_bl, tru_non, tru_int, tru_tup, if_true, if_false, Bool.false_eq_true, Bool.not_true, Bool.not_false, seqM_tup, ix_tup, len_tup, atI_0, atI_1, atI_2, atI_3, atI_4, Option.some.injEq, exists_eq_left', eq_int, cmp_lt, cmp_le, cmp_gt, cmp_ge, cmp_eq, cmp_ne, cmp_is, cmp_isn, cmp_in, cmp_nin, Option.map, is_nn, is_in, is_tn, tyn_int, tyn_str, tyn_tup, Int.cast_ofNat_Int, Int.reduceLT, Int.reduceLE, Int.reduceAdd, Int.reduceMul, Int.reduceSub, BEq.rfl, decide_true, decide_false, Int.reduceBEq, bwT]
      obtain ⟨l1, l2⟩ := side_le X Y
      rw [if_neg (by decide), if_neg (by rw [decide_eq_true_eq]; omega)]
      refine rep_two A B ⟨true, by rw [eq_strs, BEq.rfl], rtF ((s1.trans s2).new hp) q⟩
theorem h__law_is_two_right {G : Gx} (F : Facts G) : HeldG G 10 (adr G "_law_is_two_right") s_two :=
  F.d__law_is_two_right.heldG (k := 9) sc__law_is_two_right ck__law_is_two_right (ok__law_is_two_right F ((h_is_bow F).g.mono (by decide)) ((h_meeting F).g.mono (by decide)) ((h_beside F).g.mono (by decide)) ((h__law_is F 4).g.mono (by decide)) ((h_in_row F).g.mono (by decide)) ((h__law_meet F).g.mono (by decide)) ((h__law_put_beside F).g.mono (by decide)) ((h__law_put_behind F).g.mono (by decide))) nF (fun xs M Q R ⟨_, _, e, _⟩ => by rw [e]; rfl) v__law_is_two_right
def s_three : TSp := fun xs M Q _ => ∃ x y z, xs = [bwT x, bwT y, bwT z] ∧ Arc x ∧ Arc y ∧ Arc z ∧ Q (.bl true) M
theorem v__law_is_three_right {G : Gx} : ∀ xs M Q R, s_three xs M Q R → wSs noF (b__law_is_three_right G (s_meeting G) (s_beside G) (s__law_is 4) s_rowed s_sided (s_in_row G)) (endsT Q R) (startT n__law_is_three_right xs) M := by
  rintro xs M Q R ⟨x, y, z, rfl, A, B, C, q⟩
  have X := A.fw
  have Y := B.fw
  have Z := C.fw
  unfold b__law_is_three_right
  try simp only [wSs, wS, wE, wEs, wO, wB, wBo, wI, wTg, gs, startT, List.map_cons, List.map_nil, List.length_cons, List.length_nil, List.cons_append, List.nil_append, List.replicate, Nat.reduceAdd, Nat.reduceSub, Nat.zero_add, exEq, wCop, wIx, wTru, bif_len, bif_abs, bif_int, bif_isi, bif_tuple, bif_list, bif_sum, bif_all, bif_any, bif_min2, bif_max2, bif_minl, bif_maxl, bop_add_i, bop_add_t, bop_add_l, bop_sub, bop_mul_i, bop_fdiv, bop_mod, bop_pow, aug_add, aug_sub, aug_mul, setAll, tailS, wipeT, List.set, tru_bl, tru_non, tru_int, tru_tup, if_true, if_false, Bool.false_eq_true, Bool.not_true, Bool.not_false, seqM_tup, ix_tup, len_tup, atI_0, atI_1, atI_2, atI_3, atI_4, Option.some.injEq, exists_eq_left', eq_int, cmp_lt, cmp_le, cmp_gt, cmp_ge, cmp_eq, cmp_ne, cmp_is, cmp_isn, cmp_in, cmp_nin, Option.map, is_nn, is_in, is_tn, tyn_int, tyn_str, tyn_tup, Int.cast_ofNat_Int, Int.reduceLT, Int.reduceLE, Int.reduceAdd, Int.reduceMul, Int.reduceSub, BEq.rfl, decide_true, decide_false, Int.reduceBEq]
  refine in_row' X Y (by decide) (in_row' (X.op Y) Z (by decide) (in_row' Y Z (by decide) (in_row' X (Y.op Z) (by decide) ?_)))
  intro t1 h1
  try simp only [wSs, wS, wE, wEs, wO, wB, wBo, wI, wTg, gs, startT, List.map_cons, List.map_nil, List.length_cons, List.length_nil, List.cons_append, List.nil_append, List.replicate, Nat.reduceAdd, Nat.reduceSub, Nat.zero_add, exEq, wCop, wIx, wTru, bif_len, bif_abs, bif_int, bif_isi, bif_tuple, bif_list, bif_sum, bif_all, bif_any, bif_min2, bif_max2, bif_minl, bif_maxl, bop_add_i, bop_add_t, bop_add_l, bop_sub, bop_mul_i, bop_fdiv, bop_mod, bop_pow, aug_add, aug_sub, aug_mul, setAll, tailS, wipeT, List.set, tru_bl, tru_non, tru_int, tru_tup, if_true, if_false, Bool.false_eq_true, Bool.not_true, Bool.not_false, seqM_tup, ix_tup, len_tup, atI_0, atI_1, atI_2, atI_3, atI_4, Option.some.injEq, exists_eq_left', eq_int, cmp_lt, cmp_le, cmp_gt, cmp_ge, cmp_eq, cmp_ne, cmp_is, cmp_isn, cmp_in, cmp_nin, Option.map, is_nn, is_in, is_tn, tyn_int, tyn_str, tyn_tup, Int.cast_ofNat_Int, Int.reduceLT, Int.reduceLE, Int.reduceAdd, Int.reduceMul, Int.reduceSub, BEq.rfl, decide_true, decide_false, Int.reduceBEq]
  refine beside' X Y (by decide) (beside' (X.op Y) Z (by decide) (beside' Y Z (by decide) (beside' X (Y.op Z) (by decide) ?_)))
  intro t2 h2
  refine beside' Y X (by decide) (beside' Z (Y.op X) (by decide) (beside' Y Z (by decide) (beside' (Y.op Z) X (by decide) ?_)))
  have e2 : opB false x (opB false y z) = opB false (opB false x y) z := (op_assoc X Y Z).symm
  have e3 : opB false z (opB false y x) = opB false (opB false x y) z := by rw [side_comm Z (Y.op X (r := false)), side_comm Y X]
  have e4 : opB false (opB false y z) x = opB false (opB false x y) z := by rw [side_comm (Y.op Z (r := false)) X, e2]
  have e5 : opB false (opB false z x) y = opB false (opB false x y) z := by rw [side_comm Z X, op_assoc X Z Y, side_comm Z Y, e2]
  have e1 : opB true x (opB true y z) = opB true (opB true x y) z := (op_assoc X Y Z).symm
  rw [e2, e3, e4, e1]
  rw [e1] at h2
  intro t3 h3
  refine ⟨_, _, (Subm.new (.refl _) h3) _ _ updM_same, updM_same, by simp [sizeLine_eq], fun t4 h4 => ?_⟩
  have k1 := (((Subm.new (.refl _) h2).new (o := .lst [bwT (opB false (opB false x y) z), bwT (opB false (opB false x y) z)]) h3).new (o := .lst ([bwT (opB false (opB false x y) z), bwT (opB false (opB false x y) z)] ++ [bwT (opB false (opB false x y) z), bwT (opB false (opB false x y) z)])) h4) t1 _ updM_same
  have s4 := ((((Subm.refl M).new h1).new h2).new (o := .lst [bwT (opB false (opB false x y) z), bwT (opB false (opB false x y) z)]) h3).new (o := .lst ([bwT (opB false (opB false x y) z), bwT (opB false (opB false x y) z)] ++ [bwT (opB false (opB false x y) z), bwT (opB false (opB false x y) z)])) h4
  have k4 := updM_same (M := updM (updM (updM M t1 (.lst [bwT (opB true (opB true x y) z), bwT (opB true (opB true x y) z)])) t2 (.lst [bwT (opB false (opB false x y) z), bwT (opB false (opB false x y) z)])) t3 (.lst [bwT (opB false (opB false x y) z), bwT (opB false (opB false x y) z)])) (a := t4) (o := .lst ([bwT (opB false (opB false x y) z), bwT (opB false (opB false x y) z)] ++ [bwT (opB false (opB false x y) z), bwT (opB false (opB false x y) z)]))
  clear h1 h2 h3 h4
  generalize updM (updM (updM (updM M t1 (.lst [bwT (opB true (opB true x y) z), bwT (opB true (opB true x y) z)])) t2 (.lst [bwT (opB false (opB false x y) z), bwT (opB false (opB false x y) z)])) t3 (.lst [bwT (opB false (opB false x y) z), bwT (opB false (opB false x y) z)])) t4 (.lst ([bwT (opB false (opB false x y) z), bwT (opB false (opB false x y) z)] ++ [bwT (opB false (opB false x y) z), bwT (opB false (opB false x y) z)])) = M4 at k1 s4 k4 ⊢
  refine put_beside' Z X (by decide) (put_beside' (Z.op X) Y (by decide) (behind' X Y (by decide) (behind' (X.op Y) Z (by decide) ?_)))
  rw [e5]
  intro t5 h5
  refine ⟨_, updM_same, by decide, by decide, by simp [sizeLine_eq], fun t6 h6 => ?_⟩
  have s5 := ((Subm.refl M4).new (o := .lst [bwT (opB true (opB true x y) z)]) h5).new (o := .lst (List.replicate 2 [bwT (opB true (opB true x y) z)]).flatten) h6
  refine ⟨_, _, rfl, same_flat (lsM_lst (s5 _ _ k1)) lsM_upd ?_, true, rfl, ?_⟩
  · simp only [List.mem_cons, List.not_mem_nil, or_false]
    rintro z (rfl | rfl) <;> exact .inl ⟨_, rfl⟩
  try simp only [wSs, wS, wE, wEs, wO, wB, wBo, wI, wTg, gs, startT, List.map_cons, List.map_nil, List.length_cons, List.length_nil, List.cons_append, List.nil_append, List.replicate, Nat.reduceAdd, Nat.reduceSub, Nat.zero_add, exEq, wCop, wIx, wTru, bif_len, bif_abs, bif_int, bif_isi, bif_tuple, bif_list, bif_sum, bif_all, bif_any, bif_min2, bif_max2, bif_minl, bif_maxl, bop_add_i, bop_add_t, bop_add_l, bop_sub, bop_mul_i, bop_fdiv, bop_mod, bop_pow, aug_add, aug_sub, aug_mul, setAll, tailS, wipeT, List.set, tru_bl, tru_non, tru_int, tru_tup, if_true, if_false, Bool.false_eq_true, Bool.not_true, Bool.not_false, seqM_tup, ix_tup, len_tup, atI_0, atI_1, atI_2, atI_3, atI_4, Option.some.injEq, exists_eq_left', eq_int, cmp_lt, cmp_le, cmp_gt, cmp_ge, cmp_eq, cmp_ne, cmp_is, cmp_isn, cmp_in, cmp_nin, Option.map, is_nn, is_in, is_tn, tyn_int, tyn_str, tyn_tup, Int.cast_ofNat_Int, Int.reduceLT, Int.reduceLE, Int.reduceAdd, Int.reduceMul, Int.reduceSub, BEq.rfl, decide_true, decide_false, Int.reduceBEq]
  intro t7 h7
  refine ⟨_, updM_same, by decide, by decide, by simp [sizeLine_eq], fun t8 h8 => ?_⟩
  have s6 := (s5.new (o := .lst [bwT (opB false (opB false x y) z)]) h7).new (o := .lst (List.replicate 4 [bwT (opB false (opB false x y) z)]).flatten) h8
  refine ⟨_, _, rfl, same_flat (lsM_lst (s6 _ _ k4)) lsM_upd ?_, true, rfl, ?_⟩
  · simp only [List.mem_cons, List.mem_append, List.not_mem_nil, or_false, or_self]
    rintro z rfl
    exact .inl ⟨_, rfl⟩
  try simp only [wSs, wS, wE, wEs, wO, wB, wBo, wI, wTg, gs, startT, List.map_cons, List.map_nil, List.length_cons, List.length_nil, List.cons_append, List.nil_append, List.replicate, Nat.reduceAdd, Nat.reduceSub, Nat.zero_add, exEq, wCop, wIx, wTru, bif_len, bif_abs, bif_int, bif_isi, bif_tuple, bif_list, bif_sum, bif_all, bif_any, bif_min2, bif_max2, bif_minl, bif_maxl, bop_add_i, bop_add_t, bop_add_l, bop_sub, bop_mul_i, bop_fdiv, bop_mod, bop_pow, aug_add, aug_sub, aug_mul, setAll, tailS, wipeT, List.set, tru_bl, tru_non, tru_int, tru_tup, if_true, if_false, Bool.false_eq_true, Bool.not_true, Bool.not_false, seqM_tup, ix_tup, len_tup, atI_0, atI_1, atI_2, atI_3, atI_4, Option.some.injEq, exists_eq_left', eq_int, cmp_lt, cmp_le, cmp_gt, cmp_ge, cmp_eq, cmp_ne, cmp_is, cmp_isn, cmp_in, cmp_nin, Option.map, is_nn, is_in, is_tn, tyn_int, tyn_str, tyn_tup, Int.cast_ofNat_Int, Int.reduceLT, Int.reduceLE, Int.reduceAdd, Int.reduceMul, Int.reduceSub, BEq.rfl, decide_true, decide_false, Int.reduceBEq]
  refine beside' Y Z (by decide) (meeting' X (Y.op Z) (by decide) (meeting' X Y (by decide) (meeting' X Z (by decide) ?_)))
  rw [met_side X Y Z]
  try simp only [wSs, wS, wE, wEs, wO, wB, wBo, wI, wTg, gs, startT, List.map_cons, List.map_nil, List.length_cons, List.length_nil, List.cons_append, List.nil_append, List.replicate, Nat.reduceAdd, Nat.reduceSub, Nat.zero_add, exEq, wCop, wIx, wTru, bif_len, bif_abs, bif_int, bif_isi, bif_tuple, bif_list, bif_sum, bif_all, bif_any, bif_min2, bif_max2, bif_minl, bif_maxl, bop_add_i, bop_add_t, bop_add_l, bop_sub, bop_mul_i, bop_fdiv, bop_mod, bop_pow, aug_add, aug_sub, aug_mul, setAll, tailS, wipeT, List.set, tru_bl, tru_non, tru_int, tru_tup, if_true, if_false, Bool.false_eq_true, Bool.not_true, Bool.not_false, seqM_tup, ix_tup, len_tup, atI_0, atI_1, atI_2, atI_3, atI_4, Option.some.injEq, exists_eq_left', eq_int, cmp_lt, cmp_le, cmp_gt, cmp_ge, cmp_eq, cmp_ne, cmp_is, cmp_isn, cmp_in, cmp_nin, Option.map, is_nn, is_in, is_tn, tyn_int, tyn_str, tyn_tup, Int.cast_ofNat_Int, Int.reduceLT, Int.reduceLE, Int.reduceAdd, Int.reduceMul, Int.reduceSub, BEq.rfl, decide_true, decide_false, Int.reduceBEq]
  exact ⟨_, _, rfl, same_int, rtF (s4.trans s6) q⟩
theorem h__law_is_three_right {G : Gx} (F : Facts G) : HeldT G 10 (adr G "_law_is_three_right") s_three :=
  F.d__law_is_three_right.held (k := 9) sc__law_is_three_right ck__law_is_three_right (ok__law_is_three_right F ((h_meeting F).mono (by decide)) ((h_beside F).mono (by decide)) ((h__law_is F 4).mono (by decide)) ((h__law_put_behind F).mono (by decide)) ((h__law_put_beside F).mono (by decide)) ((h_in_row F).mono (by decide))) nF (fun xs M Q R ⟨_, _, _, e, _⟩ => by rw [e]; rfl) v__law_is_three_right
end TL

/-! X10J: errors. -/
namespace TL
open PySem PySem.Spec PyProof.Rows L2
open TL.Bw (Bow bt hull allOk sm1 sm2 push Fall FallR Fit mt met met1 mrg opB jnL jnR)
/-- what a call may end with -/
def Word (G : Gx) : TLam := fun θ M Q => ∀ (Q' : TK) (R' : TR), (∀ M1, Q (.str "bow") M1 → R' ⟨.ref (adr G "BadBow"), []⟩ M1) → θ M Q' R'
theorem ktL_one {a : Addr} {x : Bool} : ktL [(a, x)] (.ref a) = some x := by
  show List.lookup a [(a, x)] = some x
  simp
theorem v__law_said {G : Gx} {f : Addr} {φ : Hp → Prop} {θ : Thk} {M : TM} {Q : TK} (h : Word G θ M Q) : wSs noF (b__law_said G f φ θ) (endsT Q (fun _ _ => False)) (startT n__law_said [.thk f φ]) M := by
  unfold b__law_said
  simp only [wSs, wS, wE, wEs, wO, wB, wBo, wI, wTg, gs, startT, List.map_cons, List.map_nil, List.length_cons, List.length_nil, List.cons_append, List.nil_append, List.replicate, Nat.reduceAdd, Nat.reduceSub, Nat.zero_add, exEq, wCop, wIx, wTru, bif_len, bif_abs, bif_int, bif_isi, bif_tuple, bif_list, bif_sum, bif_all, bif_any, bif_min2, bif_max2, bif_minl, bif_maxl, bop_add_i, bop_add_t, bop_add_l, bop_sub, bop_mul_i, bop_fdiv, bop_mod, bop_pow, aug_add, aug_sub, aug_mul, setAll, tailS, wipeT, List.set, tru_bl, tru_non, tru_int, tru_tup, if_true, if_false, Bool.false_eq_true, Bool.not_true, Bool.not_false, seqM_tup, ix_tup, len_tup, atI_0, atI_1, atI_2, atI_3, atI_4, Option.some.injEq, exists_eq_left', eq_int, cmp_lt, cmp_le, cmp_gt, cmp_ge, cmp_eq, cmp_ne, cmp_is, cmp_isn, cmp_in, cmp_nin, Option.map, is_nn, is_in, is_tn, tyn_int, tyn_str, tyn_tup, Int.cast_ofNat_Int, Int.reduceLT, Int.reduceLE, Int.reduceAdd, Int.reduceMul, Int.reduceSub, BEq.rfl, decide_true, decide_false, Int.reduceBEq]
  refine ⟨trivial, h _ _ (fun M1 q => ⟨rfl, ktL_one, fun a => ?_⟩)⟩
  simp only [wSs, wS, wE, wEs, wO, wB, wBo, wI, wTg, gs, startT, List.map_cons, List.map_nil, List.length_cons, List.length_nil, List.cons_append, List.nil_append, List.replicate, Nat.reduceAdd, Nat.reduceSub, Nat.zero_add, exEq, wCop, wIx, wTru, bif_len, bif_abs, bif_int, bif_isi, bif_tuple, bif_list, bif_sum, bif_all, bif_any, bif_min2, bif_max2, bif_minl, bif_maxl, bop_add_i, bop_add_t, bop_add_l, bop_sub, bop_mul_i, bop_fdiv, bop_mod, bop_pow, aug_add, aug_sub, aug_mul, setAll, tailS, wipeT, List.set, tru_bl, tru_non, tru_int, tru_tup, if_true, if_false, Bool.false_eq_true, Bool.not_true, Bool.not_false, seqM_tup, ix_tup, len_tup, atI_0, atI_1, atI_2, atI_3, atI_4, Option.some.injEq, exists_eq_left', eq_int, cmp_lt, cmp_le, cmp_gt, cmp_ge, cmp_eq, cmp_ne, cmp_is, cmp_isn, cmp_in, cmp_nin, Option.map, is_nn, is_in, is_tn, tyn_int, tyn_str, tyn_tup, Int.cast_ofNat_Int, Int.reduceLT, Int.reduceLE, Int.reduceAdd, Int.reduceMul, Int.reduceSub, BEq.rfl, decide_true, decide_false, Int.reduceBEq, ktL_one]
  exact ⟨trivial, trivial, rtF (.refl _) q⟩
theorem h__law_said {G : Gx} (F : Facts G) : HeldL G 1 "_law_said" (adr G "_law_said") (Word G) :=
  F.d__law_said.heldL (F := noF) (k := 0) sc__law_said rfl rfl (by decide) (fun _ _ _ => ck__law_said) (fun f φ θ kI h1 h2 => by
    obtain ⟨kk, kq, kc, hot, thk, kg⟩ := kI
    dsimp only at h1 h2
    subst h1 h2
    exact ok__law_said F) nF fun _ _ _ _ _ h => v__law_said h
/-- what isinstance knew, it knows -/
def Kn (M M' : TM) : Prop := ∀ x, knM M x → knM M' x
theorem Subm.kn {M M' : TM} (s : Subm M M') : Kn M M' := fun _ k => k.sub s
theorem Kn.trans {A B C : TM} (a : Kn A B) (b : Kn B C) : Kn A C := fun x k => b x (a x k)
theorem knl {M : TM} {a : Addr} {xs : List TV} (h : M a = some (.lst xs)) : knM M (.ref a) := by
  unfold knM
  simp only [tyN, h, Option.isSome_some]
theorem knd {M : TM} {a : Addr} (h : M a = some (.dic [])) : knM M (.ref a) := by
  unfold knM
  simp only [tyN, h, Option.isSome_some]
theorem Hd.kn {h : Hn} {M M' : TM} (d : Hd h M M') : Kn M M' := fun x k => by
  cases x with
  | ref a =>
    by_cases e : a = h.a
    · subst e
      obtain ⟨i, h2, h3, h4, e', _⟩ := d.1
      exact knl e'
    · unfold knM at k ⊢
      simp only [tyN, d.2 a e] at k ⊢
      exact k
  | _ => exact k
theorem wfP.kn {M M' : TM} {x : TV} (k : wfP M x) (s : Kn M M') : wfP M' x := ⟨s _ k.1, fun u v e => ⟨s _ (k.2 u v e).1, s _ (k.2 u v e).2⟩⟩
theorem wfS.kn {M M' : TM} {x : TV} (k : wfS M x) (s : Kn M M') : wfS M' x := ⟨s _ k.1, fun L e z hz => (k.2 L e z hz).kn s⟩
theorem noBw.kn {M M' : TM} {x : TV} (k : noBw M x) (s : Kn M M') : noBw M' x := ⟨s _ k.1, fun a b e => ⟨s _ (k.2 a b e).1, (k.2 a b e).2.1.kn s, (k.2 a b e).2.2⟩⟩
theorem badB.kn {M M' : TM} {x : TV} (k : badB M x) (s : Kn M M') : badB M' x := k.imp (fun k => k.kn s) id
theorem adj_gap {z a : Bw.Sp} {r : List Bw.Sp} (h : bt z a = false) : ∀ p : List Bw.Sp, (adjL (p ++ z :: a :: r)).all id = false
  | [] => by simp only [List.nil_append, adjL, List.all_cons, id, h, Bool.false_and]
  | [b] => by
    simp only [List.cons_append, List.nil_append, adjL, List.all_cons, id, h, Bool.false_and, Bool.and_false]
  | b :: c :: p => by
    have := adj_gap h (r := r) (c :: p)
    simp only [List.cons_append] at this
    simp only [List.cons_append, adjL, List.all_cons, this, Bool.and_false]
theorem bt_self (a : Bw.Sp) : bt a a = false := by
  unfold bt
  simp
theorem twice_bad {s : List Bw.Sp} (g : Bw.Desc s) (ne : s ≠ []) : (adjL (s ++ s)).all id = false := by
  cases s with
  | nil => exact absurd rfl ne
  | cons a r =>
    rcases List.eq_nil_or_concat r with rfl | ⟨p, z, rfl⟩
    · exact adj_gap (r := []) (bt_self a) []
    · rw [List.concat_eq_append] at g ⊢
      have h : bt z a = false := by
        have := g.1 z (by simp)
        exact Bw.bt_false.mpr this
      have := adj_gap (r := p ++ [z]) h (a :: p)
      simpa using this
theorem Hd.at {h : Hn} {M M' : TM} {b : Addr} {o : MO} (d : Hd h M M') (n : b ≠ h.a) (e : M b = some o) : M' b = some o := (d.2 b n).trans e
theorem HandOk.ne_tbl {h : Hn} {M : TM} {b : Addr} {q : Str} (k : HandOk M h) (e : M b = Option.some (MO.tbl q)) : b ≠ h.a := fun z => by
  subst z
  obtain ⟨i, h2, h3, h4, e', _⟩ := k
  rw [e'] at e
  cases e
abbrev qE : Str := "_law_are_errors_right" ++ ".<locals>." ++ "<lambda>"
theorem noBw_nt {M : TM} {x : TV} (k : knM M x) (h : ∀ a b, x ≠ .tup [a, b]) : badB M x := .inl ⟨k, fun a b e => absurd e (h a b)⟩
/-- the three calls -/
def fC (G : Gx) : Nat → Addr | 0 => adr G "in_row" | 1 => adr G "beside" | _ => adr G "meeting"
def sC (G : Gx) : Nat → TSp | 0 => s_in_row G | 1 => s_beside G | _ => s_meeting G
def FC (G : Gx) : Addr → TSp → Prop := fun f sp => ∃ c, f = fC G c ∧ sp = sC G c
theorem hFC {G : Gx} (F : Facts G) : ∀ f sp, FC G f sp → HeldT G cavK f sp := fun f sp ⟨c, e1, e2⟩ => by
  rw [e1, e2]
  match c with
  | 0 => exact (h_in_row F).mono (by decide)
  | 1 => exact (h_beside F).mono (by decide)
  | _ + 2 => exact (h_meeting F).mono (by decide)
theorem sC_one {G : Gx} {c : Nat} {M : TM} {Q : TK} {R : TR} {x y : TV} (h : badB M x) (q : R ⟨.ref (adr G "BadBow"), []⟩ M) : sC G c [x, y] M Q R := by
  match c with
  | 0 => exact ⟨x, y, rfl, .inr (.inl ⟨h, q⟩)⟩
  | 1 => exact ⟨x, y, rfl, .inr (.inl ⟨h, q⟩)⟩
  | _ + 2 => exact ⟨x, y, rfl, .inr (.inl ⟨h, q⟩)⟩
theorem sC_two {G : Gx} {c : Nat} {M : TM} {Q : TK} {R : TR} {X : Bow} {y : TV} (ok : Okb X) (h : badB M y) (q : R ⟨.ref (adr G "BadBow"), []⟩ M) : sC G c [bwT X, y] M Q R := by
  match c with
  | 0 => exact ⟨_, y, rfl, .inr (.inr ⟨X, rfl, ok, h, q⟩)⟩
  | 1 => exact ⟨_, y, rfl, .inr (.inr ⟨X, rfl, ok, h, q⟩)⟩
  | _ + 2 => exact ⟨_, y, rfl, .inr (.inr ⟨X, rfl, ok, h, q⟩)⟩
def s__law_are_errors_right (G : Gx) : TSp := fun xs M Q _ => ∃ (h : Hn) (x : Bow), xs = [.ref h.a, bwT x] ∧ Arc x ∧ HandOk M h ∧ M (tabA G "_law_are_errors_right") = some (.tbl qE) ∧ ∀ M', Hd h M M' → Q (.bl true) M'
theorem v__law_are_errors_right {G : Gx} : ∀ xs M Q R, s__law_are_errors_right G xs M Q R → wSs (FC G) (b__law_are_errors_right G s__law_some (Word G)) (endsT Q R) (startT n__law_are_errors_right xs) M := by
  rintro xs M Q R ⟨h, x, rfl, A, ok, tb, q⟩
  unfold b__law_are_errors_right
  simp only [wSs, wS, wE, wEs, wO, wB, wBo, wI, wTg, gs, startT, List.map_cons, List.map_nil, List.length_cons, List.length_nil, List.cons_append, List.nil_append, List.replicate, Nat.reduceAdd, Nat.reduceSub, Nat.zero_add, exEq, wCop, wIx, wTru, bif_len, bif_abs, bif_int, bif_isi, bif_tuple, bif_list, bif_sum, bif_all, bif_any, bif_min2, bif_max2, bif_minl, bif_maxl, bop_add_i, bop_add_t, bop_add_l, bop_sub, bop_mul_i, bop_fdiv, bop_mod, bop_pow, aug_add, aug_sub, aug_mul, setAll, tailS, wipeT, List.set, tru_bl, tru_non, tru_int, tru_tup, if_true, if_false, Bool.false_eq_true, Bool.not_true, Bool.not_false, seqM_tup, ix_tup, len_tup, atI_0, atI_1, atI_2, atI_3, atI_4, Option.some.injEq, exists_eq_left', eq_int, cmp_lt, cmp_le, cmp_gt, cmp_ge, cmp_eq, cmp_ne, cmp_is, cmp_isn, cmp_in, cmp_nin, Option.map, is_nn, is_in, is_tn, tyn_int, tyn_str, tyn_tup, Int.cast_ofNat_Int, Int.reduceLT, Int.reduceLE, Int.reduceAdd, Int.reduceMul, Int.reduceSub, BEq.rfl, decide_true, decide_false, Int.reduceBEq]
  refine ⟨[.int x.c, stT x.s], rfl, rfl, ?_⟩
  have lx := A.fit.len
  simp only [wSs, wS, wE, wEs, wO, wB, wBo, wI, wTg, gs, startT, List.map_cons, List.map_nil, List.length_cons, List.length_nil, List.cons_append, List.nil_append, List.replicate, Nat.reduceAdd, Nat.reduceSub, Nat.zero_add, exEq, wCop, wIx, wTru, bif_len, bif_abs, bif_int, bif_isi, bif_tuple, bif_list, bif_sum, bif_all, bif_any, bif_min2, bif_max2, bif_minl, bif_maxl, bop_add_i, bop_add_t, bop_add_l, bop_sub, bop_mul_i, bop_fdiv, bop_mod, bop_pow, aug_add, aug_sub, aug_mul, setAll, tailS, wipeT, List.set, tru_bl, tru_non, tru_int, tru_tup, if_true, if_false, Bool.false_eq_true, Bool.not_true, Bool.not_false, seqM_tup, ix_tup, len_tup, atI_0, atI_1, atI_2, atI_3, atI_4, Option.some.injEq, exists_eq_left', eq_int, cmp_lt, cmp_le, cmp_gt, cmp_ge, cmp_eq, cmp_ne, cmp_is, cmp_isn, cmp_in, cmp_nin, Option.map, is_nn, is_in, is_tn, tyn_int, tyn_str, tyn_tup, Int.cast_ofNat_Int, Int.reduceLT, Int.reduceLE, Int.reduceAdd, Int.reduceMul, Int.reduceSub, BEq.rfl, decide_true, decide_false, Int.reduceBEq, stT]
  refine fun t1 h1 => ⟨1, rfl, by rw [List.length_map, sizeLine_eq]; omega, fun t2 h2 t3 h3 t4 h4 t5 h5 => ?_⟩
  have s1 := Subm.new (o := .lst (x.s.map spT)) (.refl M) h1
  have n1 := ok.ne h1
  have ok1 := ok.sub s1
  have e1 := updM_same (M := M) (a := t1) (o := .lst (x.s.map spT))
  generalize updM M t1 (.lst (x.s.map spT)) = M1 at s1 ok1 e1 h2 h3 h4 h5 ⊢
  have s2 := Subm.new (o := .lst [.non, .tup (x.s.map spT), .tup [.int x.c, .ref t1], .tup [.int (-1), .tup (x.s.map spT)], .tup [.int x.c, .tup []], .tup [.int x.c, .tup [.tup [.int 0, .int 0]]], .tup [.int x.c, .tup (x.s.map spT ++ x.s.map spT)]]) (.refl M1) h2
  have n2 := ok1.ne h2
  have ok2 := ok1.sub s2
  have e2 := updM_same (M := M1) (a := t2) (o := .lst [.non, .tup (x.s.map spT), .tup [.int x.c, .ref t1], .tup [.int (-1), .tup (x.s.map spT)], .tup [.int x.c, .tup []], .tup [.int x.c, .tup [.tup [.int 0, .int 0]]], .tup [.int x.c, .tup (x.s.map spT ++ x.s.map spT)]])
  generalize updM M1 t2 (.lst [.non, .tup (x.s.map spT), .tup [.int x.c, .ref t1], .tup [.int (-1), .tup (x.s.map spT)], .tup [.int x.c, .tup []], .tup [.int x.c, .tup [.tup [.int 0, .int 0]]], .tup [.int x.c, .tup (x.s.map spT ++ x.s.map spT)]]) = M2 at s2 ok2 e2 h3 h4 h5 ⊢
  have s3 := Subm.new (o := .dic []) (.refl M2) h3
  have n3 := ok2.ne h3
  have ok3 := ok2.sub s3
  have e3 := updM_same (M := M2) (a := t3) (o := .dic [])
  generalize updM M2 t3 (.dic []) = M3 at s3 ok3 e3 h4 h5 ⊢
  have s4 := Subm.new (o := .lst [.int x.c, .tup (x.s.map spT)]) (.refl M3) h4
  have n4 := ok3.ne h4
  have ok4 := ok3.sub s4
  have e4 := updM_same (M := M3) (a := t4) (o := .lst [.int x.c, .tup (x.s.map spT)])
  generalize updM M3 t4 (.lst [.int x.c, .tup (x.s.map spT)]) = M4 at s4 ok4 e4 h5 ⊢
  have s5 := Subm.new (o := .lst [.int 0, .ref t3, .ref t4, .tup [.int x.c], .tup [.bl true, .tup (x.s.map spT)], .tup [.int x.c, .tup [.tup [.int 1, .int 1], .tup [.int 1, .int 2]]], .str "bow"]) (.refl M4) h5
  have n5 := ok4.ne h5
  have ok5 := ok4.sub s5
  have e5 := updM_same (M := M4) (a := t5) (o := .lst [.int 0, .ref t3, .ref t4, .tup [.int x.c], .tup [.bl true, .tup (x.s.map spT)], .tup [.int x.c, .tup [.tup [.int 1, .int 1], .tup [.int 1, .int 2]]], .str "bow"])
  generalize updM M4 t5 (.lst [.int 0, .ref t3, .ref t4, .tup [.int x.c], .tup [.bl true, .tup (x.s.map spT)], .tup [.int x.c, .tup [.tup [.int 1, .int 1], .tup [.int 1, .int 2]]], .str "bow"]) = M5 at s5 ok5 e5  ⊢
  have x5 := (((((Xt.refl ok).sub s1).sub s2).sub s3).sub s4).sub s5
  refine ⟨_, _, s5 _ _ (s4 _ _ (s3 _ _ e2)), e5, by simp [sizeLine_eq], fun t6 h6 => ?_⟩
  refine ⟨h, t6, _, rfl, lsM_upd, by simp, by simp, ok5.ne h6, ok5.sub (Subm.new (.refl _) h6), fun y M7 hy d7 => ?_⟩
  have x7 := (x5.new h6).hd d7
  have e1 := d7.at n1 (Subm.new (.refl _) h6 _ _ (s5 _ _ (s4 _ _ (s3 _ _ (s2 _ _ e1)))))
  have e3 := d7.at n3 (Subm.new (.refl _) h6 _ _ (s5 _ _ (s4 _ _ e3)))
  have e4 := d7.at n4 (Subm.new (.refl _) h6 _ _ (s5 _ _ e4))
  have st := A.okb.stp
  have bad : badB M7 y := by
    simp only [List.mem_append, List.mem_cons, List.not_mem_nil, or_false] at hy
    rcases hy with (rfl | rfl | rfl | rfl | rfl | rfl | rfl) | rfl | rfl | rfl | rfl | rfl | rfl | rfl
    · exact noBw_nt rfl fun _ _ z => by cases z
    · refine .inl ⟨rfl, fun a b e => ?_⟩
      match hs : x.s, e with
      | [u, v], e =>
        cases e
        exact ⟨rfl, ⟨rfl, fun L eL z hz => by
          cases eL
          simp only [List.mem_cons, List.not_mem_nil, or_false] at hz
          rcases hz with rfl | rfl <;> exact ⟨rfl, fun _ _ z => by cases z⟩⟩, .inl rfl⟩
    · refine .inl ⟨rfl, fun a b e => ?_⟩
      cases e
      exact ⟨rfl, ⟨knl e1, fun _ z => by cases z⟩, .inr rfl⟩
    · refine .inl ⟨rfl, fun a b e => ?_⟩
      cases e
      exact ⟨rfl, wfS_st x.s, .inl rfl⟩
    · refine .inl ⟨rfl, fun a b e => ?_⟩
      cases e
      exact ⟨rfl, ⟨rfl, fun L eL z hz => by cases eL; cases hz⟩, .inr rfl⟩
    · refine .inl ⟨rfl, fun a b e => ?_⟩
      cases e
      exact ⟨rfl, wfS_st [(0, 0)], .inr rfl⟩
    · refine .inr ⟨x.c, x.s ++ x.s, by rw [stT, List.map_append], A.fit.c0, ⟨fun a ha => ?_, ?_, ?_⟩, twice_bad A.fit.good.desc A.fit.ne⟩
      · rcases List.mem_append.mp ha with ha | ha <;> exact st.ok a ha
      · exact fun z => A.fit.ne (List.append_eq_nil_iff.mp z).1
      · rw [List.length_append]; omega
    · exact noBw_nt rfl fun _ _ z => by cases z
    · exact noBw_nt (knd e3) fun _ _ z => by cases z
    · exact noBw_nt (knl e4) fun _ _ z => by cases z
    · exact noBw_nt rfl fun _ _ z => by cases z
    · refine .inl ⟨rfl, fun a b e => ?_⟩
      cases e
      exact ⟨rfl, wfS_st x.s, .inl rfl⟩
    · refine .inr ⟨x.c, [(1, 1), (1, 2)], rfl, A.fit.c0, ⟨fun a ha => ?_, by simp, by decide⟩, by decide +kernel⟩
      have k2 : (2 : Int) ≤ KB := by decide +kernel
      simp only [List.mem_cons, List.not_mem_nil, or_false] at ha
      rcases ha with rfl | rfl
      · exact ⟨(by decide : 0 ≤ (1 : Int) ∧ 0 ≤ (1 : Int) ∧ ¬ ((1 : Int) = 0 ∧ (1 : Int) = 0)), by show (1 : Int) ≤ KB; omega, by show (1 : Int) ≤ KB; omega⟩
      · exact ⟨(by decide : 0 ≤ (1 : Int) ∧ 0 ≤ (2 : Int) ∧ ¬ ((1 : Int) = 0 ∧ (2 : Int) = 0)), by show (1 : Int) ≤ KB; omega, by show (2 : Int) ≤ KB; omega⟩
    · exact noBw_nt rfl fun _ _ z => by cases z
  have ok7 := d7.1
  have tb7 : M7 (tabA G "_law_are_errors_right") = some (.tbl qE) := x7.2.2 _ _ (ok.ne_tbl tb) tb
  clear e1 e2 e3 e4 e5 hy d7 h6 s1 s2 s3 s4 s5 ok1 ok2 ok3 ok4 ok5
  try simp only [wSs, wS, wE, wEs, wO, wB, wBo, wI, wTg, gs, startT, List.map_cons, List.map_nil, List.length_cons, List.length_nil, List.cons_append, List.nil_append, List.replicate, Nat.reduceAdd, Nat.reduceSub, Nat.zero_add, exEq, wCop, wIx, wTru, bif_len, bif_abs, bif_int, bif_isi, bif_tuple, bif_list, bif_sum, bif_all, bif_any, bif_min2, bif_max2, bif_minl, bif_maxl, bop_add_i, bop_add_t, bop_add_l, bop_sub, bop_mul_i, bop_fdiv, bop_mod, bop_pow, aug_add, aug_sub, aug_mul, setAll, tailS, wipeT, List.set, tru_bl, tru_non, tru_int, tru_tup, if_true, if_false, Bool.false_eq_true, Bool.not_true, Bool.not_false, seqM_tup, ix_tup, len_tup, atI_0, atI_1, atI_2, atI_3, atI_4, Option.some.injEq, exists_eq_left', eq_int, cmp_lt, cmp_le, cmp_gt, cmp_ge, cmp_eq, cmp_ne, cmp_is, cmp_isn, cmp_in, cmp_nin, Option.map, is_nn, is_in, is_tn, tyn_int, tyn_str, tyn_tup, Int.cast_ofNat_Int, Int.reduceLT, Int.reduceLE, Int.reduceAdd, Int.reduceMul, Int.reduceSub, BEq.rfl, decide_true, decide_false, Int.reduceBEq]
  intro t8 h8
  have x8 := x7.new (o := .lst []) h8
  refine foL_at (d := []) (fun _ rest σ M' => Xt h M M' ∧ Kn M7 M' ∧ M' (tabA G "_law_are_errors_right") = some (.tbl qE) ∧ ∃ (n : Nat) (wa : Addr) (cs : List Nat) (o5 : Option TV), rest = cs.map (fun c => .ref (fC G c)) ∧ M' wa = some (.lst (List.replicate n (.str "bow"))) ∧ n + 3 * cs.length = 9 ∧ σ = [some (.ref h.a), some (bwT x), some (.ref t2), some y, some (.ref wa), o5, some (.int x.c), some (stT x.s)]) ⟨x8, (Subm.new (.refl _) h8).kn, (Subm.new (.refl _) h8) _ _ tb7, 0, t8, [0, 1, 2], none, rfl, updM_same, rfl, rfl⟩ (fun _ _ _ _ _ => trivial) ?_ ?_
  · rintro _ z rest k _ M8 ⟨x8, k8, tb8, n, wa, cs, o5, e, ew, ln, rfl⟩ hk
    cases cs with
    | nil => cases e
    | cons c cs =>
    cases e
    have bad8 := bad.kn k8
    try simp only [wSs, wS, wE, wEs, wO, wB, wBo, wI, wTg, gs, startT, List.map_cons, List.map_nil, List.length_cons, List.length_nil, List.cons_append, List.nil_append, List.replicate, Nat.reduceAdd, Nat.reduceSub, Nat.zero_add, exEq, wCop, wIx, wTru, bif_len, bif_abs, bif_int, bif_isi, bif_tuple, bif_list, bif_sum, bif_all, bif_any, bif_min2, bif_max2, bif_minl, bif_maxl, bop_add_i, bop_add_t, bop_add_l, bop_sub, bop_mul_i, bop_fdiv, bop_mod, bop_pow, aug_add, aug_sub, aug_mul, setAll, tailS, wipeT, List.set, tru_bl, tru_non, tru_int, tru_tup, if_true, if_false, Bool.false_eq_true, Bool.not_true, Bool.not_false, seqM_tup, ix_tup, len_tup, atI_0, atI_1, atI_2, atI_3, atI_4, Option.some.injEq, exists_eq_left', eq_int, cmp_lt, cmp_le, cmp_gt, cmp_ge, cmp_eq, cmp_ne, cmp_is, cmp_isn, cmp_in, cmp_nin, Option.map, is_nn, is_in, is_tn, tyn_int, tyn_str, tyn_tup, Int.cast_ofNat_Int, Int.reduceLT, Int.reduceLE, Int.reduceAdd, Int.reduceMul, Int.reduceSub, BEq.rfl, decide_true, decide_false, Int.reduceBEq]
    refine ⟨tb8, fun Q' R' hb => ⟨_, _, rfl, ⟨c, rfl, rfl⟩, sC_one bad8 (hb M8 ?_)⟩⟩
    refine ⟨tb8, fun Q' R' hb => ⟨_, _, rfl, ⟨c, rfl, rfl⟩, sC_two A.okb bad8 (hb M8 ?_)⟩⟩
    intro p1 h1
    refine ⟨_, _, (Subm.new (.refl _) h1) _ _ ew, updM_same, by simp only [List.length_replicate, List.length_cons, List.length_nil, sizeLine_eq] at ln ⊢; omega, fun p2 h2 => ?_⟩
    have s9 := (Subm.new (.refl M8) (o := .lst [.str "bow", .str "bow"]) h1)
    have x9 := x8.new (o := .lst [.str "bow", .str "bow"]) h1
    generalize updM M8 p1 (.lst [.str "bow", .str "bow"]) = M9 at s9 x9 h2 ⊢
    have s10 := s9.new (o := .lst (List.replicate n (.str "bow") ++ [.str "bow", .str "bow"])) h2
    refine ⟨⟨_, _, rfl, lsM_upd⟩, s10 _ _ tb8, fun Q' R' hb => ⟨_, _, rfl, ⟨c, rfl, rfl⟩, sC_one (bad8.kn s10.kn) (hb _ ?_)⟩⟩
    refine ⟨_, updM_same, by simp only [List.length_append, List.length_replicate, List.length_cons, List.length_nil, sizeLine_eq] at ln ⊢; omega, ?_⟩
    rw [updM_updM]
    have s11 := Subm.new (.refl M9) (o := .lst (List.replicate n (.str "bow") ++ [.str "bow", .str "bow"] ++ [.str "bow"])) h2
    refine hk _ _ ⟨x9.new h2, k8.trans (s9.trans s11).kn, s11 _ _ (s9 _ _ tb8), n + 3, p2, cs, _, rfl, ?_, ?_, rfl⟩
    · rw [updM_same, List.append_assoc, ← List.replicate_append_replicate]
      rfl
    · simp only [List.length_cons] at ln
      omega
  · rintro _ _ M8 ⟨x8, k8, tb8, n, wa, cs, o5, e, ew, ln, rfl⟩
    cases cs with
    | cons _ _ => cases e
    | nil =>
    obtain rfl : n = 9 := ln
    try simp only [wSs, wS, wE, wEs, wO, wB, wBo, wI, wTg, gs, startT, List.map_cons, List.map_nil, List.length_cons, List.length_nil, List.cons_append, List.nil_append, List.replicate, Nat.reduceAdd, Nat.reduceSub, Nat.zero_add, exEq, wCop, wIx, wTru, bif_len, bif_abs, bif_int, bif_isi, bif_tuple, bif_list, bif_sum, bif_all, bif_any, bif_min2, bif_max2, bif_minl, bif_maxl, bop_add_i, bop_add_t, bop_add_l, bop_sub, bop_mul_i, bop_fdiv, bop_mod, bop_pow, aug_add, aug_sub, aug_mul, setAll, tailS, wipeT, List.set, tru_bl, tru_non, tru_int, tru_tup, if_true, if_false, Bool.false_eq_true, Bool.not_true, Bool.not_false, seqM_tup, ix_tup, len_tup, atI_0, atI_1, atI_2, atI_3, atI_4, Option.some.injEq, exists_eq_left', eq_int, cmp_lt, cmp_le, cmp_gt, cmp_ge, cmp_eq, cmp_ne, cmp_is, cmp_isn, cmp_in, cmp_nin, Option.map, is_nn, is_in, is_tn, tyn_int, tyn_str, tyn_tup, Int.cast_ofNat_Int, Int.reduceLT, Int.reduceLE, Int.reduceAdd, Int.reduceMul, Int.reduceSub, BEq.rfl, decide_true, decide_false, Int.reduceBEq]
    intro p hp
    refine ⟨_, updM_same, by decide, by decide, by simp [sizeLine_eq], fun p2 h2 => ?_⟩
    refine ⟨true, eq_lst (xs := List.replicate 9 (.str "bow")) ((((Subm.new (.refl _) hp).new h2).lsM (lsM_lst ew))) lsM_upd (by decide +kernel) (by decide), rtH ((x8.new hp).new h2) fun M' d' => q M' d'⟩
theorem h__law_are_errors_right {G : Gx} (F : Facts G) : HeldG G 50 (adr G "_law_are_errors_right") (s__law_are_errors_right G) :=
  F.d__law_are_errors_right.heldG (k := 49) sc__law_are_errors_right ck__law_are_errors_right (ok__law_are_errors_right F (j := 49) (by decide) (by decide) ((h__law_some F).g.mono (by decide)) (HeldL.mono (h__law_said F) (by decide))) (hFC F) (fun xs M Q R ⟨_, _, e, _⟩ => by rw [e]; rfl) v__law_are_errors_right
end TL

/-! X10K: the law. -/
namespace TL
open PySem PySem.Spec PyProof.Rows L2
open TL.Bw (Bow bt hull allOk sm1 sm2 push Fall FallR Fit mt met met1 mrg opB jnL jnR)
def k1 : Bow := ⟨9, [(3, 3)]⟩
def k2 : Bow := ⟨11, [(3, 4)]⟩
theorem k1_arc : Arc k1 := ⟨⟨⟨fun a ha => by rw [List.mem_singleton.mp ha]; exact (by decide : 0 ≤ (3 : Int) ∧ 0 ≤ (3 : Int) ∧ ¬ ((3 : Int) = 0 ∧ (3 : Int) = 0)), trivial⟩, by decide, by decide, by decide, by decide +kernel⟩, by decide +kernel, by decide +kernel⟩
theorem k2_arc : Arc k2 := ⟨⟨⟨fun a ha => by rw [List.mem_singleton.mp ha]; exact (by decide : 0 ≤ (3 : Int) ∧ 0 ≤ (4 : Int) ∧ ¬ ((3 : Int) = 0 ∧ (4 : Int) = 0)), trivial⟩, by decide, by decide, by decide, by decide +kernel⟩, by decide +kernel, by decide +kernel⟩
theorem k_row : opB true k1 k2 = ⟨32, [(6, 7)]⟩ := Bw.Bow.ext' (by decide +kernel) (by decide +kernel)
theorem k_side : opB false k1 k2 = ⟨29, [(3, 4), (3, 3)]⟩ := Bw.Bow.ext' (by decide +kernel) (by decide +kernel)
theorem k_met : met k1.s k2.s = 9 := by decide +kernel
theorem v_law {G : Gx} : ∀ xs M Q R, lawSt (lamTs G.K ["_law_are_errors_right"]) xs M Q R → wSs noF (b_law G (s__law_are_errors_right G) s_three s_two s__law_drawn (s__law_is 4) (s_meeting G) (s_beside G) (s_in_row G) s__law_hand) (endsT Q R) (startT n_law xs) M := by
  rintro xs M Q R ⟨x, ns, rfl, hl, hx, ht, q⟩
  have yes : ∀ M', (endsT Q R).rt (.bl true) M' := fun M' => rtF (.refl _) (q M')
  have tb : M (tabA G "_law_are_errors_right") = some (.tbl qE) := ht _ List.mem_cons_self
  unfold b_law
  simp only [wSs, wS, wE, wEs, wO, wB, wBo, wI, wTg, gs, startT, List.map_cons, List.map_nil, List.length_cons, List.length_nil, List.cons_append, List.nil_append, List.replicate, Nat.reduceAdd, Nat.reduceSub, Nat.zero_add, exEq, wCop, wIx, wTru, bif_len, bif_abs, bif_int, bif_isi, bif_tuple, bif_list, bif_sum, bif_all, bif_any, bif_min2, bif_max2, bif_minl, bif_maxl, bop_add_i, bop_add_t, bop_add_l, bop_sub, bop_mul_i, bop_fdiv, bop_mod, bop_pow, aug_add, aug_sub, aug_mul, setAll, tailS, wipeT, List.set, tru_bl, tru_non, tru_int, tru_tup, if_true, if_false, Bool.false_eq_true, Bool.not_true, Bool.not_false, seqM_tup, ix_tup, len_tup, atI_0, atI_1, atI_2, atI_3, atI_4, Option.some.injEq, exists_eq_left', eq_int, cmp_lt, cmp_le, cmp_gt, cmp_ge, cmp_eq, cmp_ne, cmp_is, cmp_isn, cmp_in, cmp_nin, Option.map, is_nn, is_in, is_tn, tyn_int, tyn_str, tyn_tup, Int.cast_ofNat_Int, Int.reduceLT, Int.reduceLE, Int.reduceAdd, Int.reduceMul, Int.reduceSub, BEq.rfl, decide_true, decide_false, Int.reduceBEq]
  refine ⟨x, ns, rfl, hx, fun h M1 ok s1 => ?_⟩
  have tb1 := s1 _ _ tb
  try simp only [wSs, wS, wE, wEs, wO, wB, wBo, wI, wTg, gs, startT, List.map_cons, List.map_nil, List.length_cons, List.length_nil, List.cons_append, List.nil_append, List.replicate, Nat.reduceAdd, Nat.reduceSub, Nat.zero_add, exEq, wCop, wIx, wTru, bif_len, bif_abs, bif_int, bif_isi, bif_tuple, bif_list, bif_sum, bif_all, bif_any, bif_min2, bif_max2, bif_minl, bif_maxl, bop_add_i, bop_add_t, bop_add_l, bop_sub, bop_mul_i, bop_fdiv, bop_mod, bop_pow, aug_add, aug_sub, aug_mul, setAll, tailS, wipeT, List.set, tru_bl, tru_non, tru_int, tru_tup, if_true, if_false, Bool.false_eq_true, Bool.not_true, Bool.not_false, seqM_tup, ix_tup, len_tup, atI_0, atI_1, atI_2, atI_3, atI_4, Option.some.injEq, exists_eq_left', eq_int, cmp_lt, cmp_le, cmp_gt, cmp_ge, cmp_eq, cmp_ne, cmp_is, cmp_isn, cmp_in, cmp_nin, Option.map, is_nn, is_in, is_tn, tyn_int, tyn_str, tyn_tup, Int.cast_ofNat_Int, Int.reduceLT, Int.reduceLE, Int.reduceAdd, Int.reduceMul, Int.reduceSub, BEq.rfl, decide_true, decide_false, Int.reduceBEq]
  refine ⟨trivial, in_row' (x := k1) (y := k2) k1_arc.fw k2_arc.fw (by decide) ?_⟩
  refine beside' (x := k1) (y := k2) k1_arc.fw k2_arc.fw (by decide) ?_
  refine meeting' (x := k1) (y := k2) k1_arc.fw k2_arc.fw (by decide) ?_
  rw [k_row, k_side, k_met]
  intro t1 h1 t2 h2
  refine ⟨_, _, rfl, same_flat ((Subm.new (.refl _) h2).lsM lsM_upd) lsM_upd ?_, true, rfl, ?_⟩
  · simp only [List.mem_cons, List.not_mem_nil, or_false]
    rintro z (rfl | rfl | rfl)
    · exact .inl ⟨_, rfl⟩
    · exact .inl ⟨_, rfl⟩
    · exact .inr ⟨_, rfl⟩
  try simp only [wSs, wS, wE, wEs, wO, wB, wBo, wI, wTg, gs, startT, List.map_cons, List.map_nil, List.length_cons, List.length_nil, List.cons_append, List.nil_append, List.replicate, Nat.reduceAdd, Nat.reduceSub, Nat.zero_add, exEq, wCop, wIx, wTru, bif_len, bif_abs, bif_int, bif_isi, bif_tuple, bif_list, bif_sum, bif_all, bif_any, bif_min2, bif_max2, bif_minl, bif_maxl, bop_add_i, bop_add_t, bop_add_l, bop_sub, bop_mul_i, bop_fdiv, bop_mod, bop_pow, aug_add, aug_sub, aug_mul, setAll, tailS, wipeT, List.set, tru_bl, tru_non, tru_int, tru_tup, if_true, if_false, Bool.false_eq_true, Bool.not_true, Bool.not_false, seqM_tup, ix_tup, len_tup, atI_0, atI_1, atI_2, atI_3, atI_4, Option.some.injEq, exists_eq_left', eq_int, cmp_lt, cmp_le, cmp_gt, cmp_ge, cmp_eq, cmp_ne, cmp_is, cmp_isn, cmp_in, cmp_nin, Option.map, is_nn, is_in, is_tn, tyn_int, tyn_str, tyn_tup, Int.cast_ofNat_Int, Int.reduceLT, Int.reduceLE, Int.reduceAdd, Int.reduceMul, Int.reduceSub, BEq.rfl, decide_true, decide_false, Int.reduceBEq]
  have s2 := ((Subm.refl M1).new (o := .lst [bwT ⟨32, [(6, 7)]⟩, bwT ⟨29, [(3, 4), (3, 3)]⟩, .int 9]) h1).new (o := .lst [bwT ⟨32, [(6, 7)]⟩, bwT ⟨29, [(3, 4), (3, 3)]⟩, .int 9]) h2
  have ok2 := ok.sub s2
  have tb2 := s2 _ _ tb1
  refine ⟨5, rfl, by decide, by decide, ?_⟩
  refine foL_at (d := []) (fun _ _ σ M' => HandOk M' h ∧ M' (tabA G "_law_are_errors_right") = some (.tbl qE) ∧ ∃ o0 o2 o3 o4 o5 o6 o7, σ = [o0, some (.ref h.a), o2, o3, o4, o5, o6, o7]) ⟨ok2, tb2, _, _, _, _, _, _, _, rfl⟩ (fun _ _ _ _ _ => trivial) ?_ ?_
  · rintro _ z r k _ M5 ⟨ok5, tb5, o0, o2, o3, o4, o5, o6, o7, rfl⟩ hk
    try simp only [wSs, wS, wE, wEs, wO, wB, wBo, wI, wTg, gs, startT, List.map_cons, List.map_nil, List.length_cons, List.length_nil, List.cons_append, List.nil_append, List.replicate, Nat.reduceAdd, Nat.reduceSub, Nat.zero_add, exEq, wCop, wIx, wTru, bif_len, bif_abs, bif_int, bif_isi, bif_tuple, bif_list, bif_sum, bif_all, bif_any, bif_min2, bif_max2, bif_minl, bif_maxl, bop_add_i, bop_add_t, bop_add_l, bop_sub, bop_mul_i, bop_fdiv, bop_mod, bop_pow, aug_add, aug_sub, aug_mul, setAll, tailS, wipeT, List.set, tru_bl, tru_non, tru_int, tru_tup, if_true, if_false, Bool.false_eq_true, Bool.not_true, Bool.not_false, seqM_tup, ix_tup, len_tup, atI_0, atI_1, atI_2, atI_3, atI_4, Option.some.injEq, exists_eq_left', eq_int, cmp_lt, cmp_le, cmp_gt, cmp_ge, cmp_eq, cmp_ne, cmp_is, cmp_isn, cmp_in, cmp_nin, Option.map, is_nn, is_in, is_tn, tyn_int, tyn_str, tyn_tup, Int.cast_ofNat_Int, Int.reduceLT, Int.reduceLE, Int.reduceAdd, Int.reduceMul, Int.reduceSub, BEq.rfl, decide_true, decide_false, Int.reduceBEq]
    refine ⟨3, rfl, by decide, by decide, ?_⟩
    refine lcL_at (fun r acc M' => Xt h M5 M' ∧ ∃ bs : List Bow, acc = bs.map bwT ∧ bs.length + r.length = 3 ∧ ∀ b ∈ bs, Arc b) ⟨Xt.refl ok5, [], rfl, rfl, fun _ h => by cases h⟩ (fun _ _ _ _ => trivial) ?_ ?_
    · rintro y r acc M6 k2 ⟨x6, bs, rfl, hl, hs⟩ hk2
      refine ⟨h, rfl, x6.2.1, fun A M7 hA d7 => hk2 _ _ ⟨x6.hd d7, bs ++ [A], by rw [List.map_append]; rfl, by simp only [List.length_append, List.length_cons, List.length_nil] at hl ⊢; omega, fun b hb => ?_⟩⟩
      rcases List.mem_append.mp hb with hb | hb
      · exact hs b hb
      · rw [List.mem_singleton.mp hb]; exact hA
    · rintro acc M6 ⟨x6, bs, rfl, hl, hs⟩ p hp
      match bs, hl, hs with
      | [a, b, c], _, hs =>
      have A := hs a (by simp)
      have B := hs b (by simp)
      have C := hs c (by simp)
      have x7 := x6.new (o := .lst [bwT a, bwT b, bwT c]) hp
      have tb7 : updM M6 p (.lst [bwT a, bwT b, bwT c]) (tabA G "_law_are_errors_right") = some (.tbl qE) := x7.2.2 _ _ (ok5.ne_tbl tb5) tb5
      have i0 : ixF (updM M6 p (.lst [bwT a, bwT b, bwT c])) (.ref p) (.int 0) = some (bwT a) := (ix_lst lsM_upd _).trans atI_0
      have i1 : ixF (updM M6 p (.lst [bwT a, bwT b, bwT c])) (.ref p) (.int 1) = some (bwT b) := (ix_lst lsM_upd _).trans atI_1
      have i2 : ixF (updM M6 p (.lst [bwT a, bwT b, bwT c])) (.ref p) (.int 2) = some (bwT c) := (ix_lst lsM_upd _).trans rfl
      try simp only [wSs, wS, wE, wEs, wO, wB, wBo, wI, wTg, gs, startT, List.map_cons, List.map_nil, List.length_cons, List.length_nil, List.cons_append, List.nil_append, List.replicate, Nat.reduceAdd, Nat.reduceSub, Nat.zero_add, exEq, wCop, wIx, wTru, bif_len, bif_abs, bif_int, bif_isi, bif_tuple, bif_list, bif_sum, bif_all, bif_any, bif_min2, bif_max2, bif_minl, bif_maxl, bop_add_i, bop_add_t, bop_add_l, bop_sub, bop_mul_i, bop_fdiv, bop_mod, bop_pow, aug_add, aug_sub, aug_mul, setAll, tailS, wipeT, List.set, tru_bl, tru_non, tru_int, tru_tup, if_true, if_false, Bool.false_eq_true, Bool.not_true, Bool.not_false, seqM_tup, ix_tup, len_tup, atI_0, atI_1, atI_2, atI_3, atI_4, Option.some.injEq, exists_eq_left', eq_int, cmp_lt, cmp_le, cmp_gt, cmp_ge, cmp_eq, cmp_ne, cmp_is, cmp_isn, cmp_in, cmp_nin, Option.map, is_nn, is_in, is_tn, tyn_int, tyn_str, tyn_tup, Int.cast_ofNat_Int, Int.reduceLT, Int.reduceLE, Int.reduceAdd, Int.reduceMul, Int.reduceSub, BEq.rfl, decide_true, decide_false, Int.reduceBEq]
      refine ⟨_, i0, _, i1, a, b, rfl, A, B, true, rfl, ?_⟩
      try simp only [wSs, wS, wE, wEs, wO, wB, wBo, wI, wTg, gs, startT, List.map_cons, List.map_nil, List.length_cons, List.length_nil, List.cons_append, List.nil_append, List.replicate, Nat.reduceAdd, Nat.reduceSub, Nat.zero_add, exEq, wCop, wIx, wTru, bif_len, bif_abs, bif_int, bif_isi, bif_tuple, bif_list, bif_sum, bif_all, bif_any, bif_min2, bif_max2, bif_minl, bif_maxl, bop_add_i, bop_add_t, bop_add_l, bop_sub, bop_mul_i, bop_fdiv, bop_mod, bop_pow, aug_add, aug_sub, aug_mul, setAll, tailS, wipeT, List.set, tru_bl, tru_non, tru_int, tru_tup, if_true, if_false, Bool.false_eq_true, Bool.not_true, Bool.not_false, seqM_tup, ix_tup, len_tup, atI_0, atI_1, atI_2, atI_3, atI_4, Option.some.injEq, exists_eq_left', eq_int, cmp_lt, cmp_le, cmp_gt, cmp_ge, cmp_eq, cmp_ne, cmp_is, cmp_isn, cmp_in, cmp_nin, Option.map, is_nn, is_in, is_tn, tyn_int, tyn_str, tyn_tup, Int.cast_ofNat_Int, Int.reduceLT, Int.reduceLE, Int.reduceAdd, Int.reduceMul, Int.reduceSub, BEq.rfl, decide_true, decide_false, Int.reduceBEq]
      refine ⟨_, i0, _, i1, _, i2, a, b, c, rfl, A, B, C, true, rfl, ?_⟩
      try simp only [wSs, wS, wE, wEs, wO, wB, wBo, wI, wTg, gs, startT, List.map_cons, List.map_nil, List.length_cons, List.length_nil, List.cons_append, List.nil_append, List.replicate, Nat.reduceAdd, Nat.reduceSub, Nat.zero_add, exEq, wCop, wIx, wTru, bif_len, bif_abs, bif_int, bif_isi, bif_tuple, bif_list, bif_sum, bif_all, bif_any, bif_min2, bif_max2, bif_minl, bif_maxl, bop_add_i, bop_add_t, bop_add_l, bop_sub, bop_mul_i, bop_fdiv, bop_mod, bop_pow, aug_add, aug_sub, aug_mul, setAll, tailS, wipeT, List.set, tru_bl, tru_non, tru_int, tru_tup, if_true, if_false, Bool.false_eq_true, Bool.not_true, Bool.not_false, seqM_tup, ix_tup, len_tup, atI_0, atI_1, atI_2, atI_3, atI_4, Option.some.injEq, exists_eq_left', eq_int, cmp_lt, cmp_le, cmp_gt, cmp_ge, cmp_eq, cmp_ne, cmp_is, cmp_isn, cmp_in, cmp_nin, Option.map, is_nn, is_in, is_tn, tyn_int, tyn_str, tyn_tup, Int.cast_ofNat_Int, Int.reduceLT, Int.reduceLE, Int.reduceAdd, Int.reduceMul, Int.reduceSub, BEq.rfl, decide_true, decide_false, Int.reduceBEq]
      refine ⟨_, i2, h, c, rfl, C, x7.2.1, tb7, fun M8 d8 => ⟨true, rfl, ?_⟩⟩
      try simp only [wSs, wS, wE, wEs, wO, wB, wBo, wI, wTg, gs, startT, List.map_cons, List.map_nil, List.length_cons, List.length_nil, List.cons_append, List.nil_append, List.replicate, Nat.reduceAdd, Nat.reduceSub, Nat.zero_add, exEq, wCop, wIx, wTru, bif_len, bif_abs, bif_int, bif_isi, bif_tuple, bif_list, bif_sum, bif_all, bif_any, bif_min2, bif_max2, bif_minl, bif_maxl, bop_add_i, bop_add_t, bop_add_l, bop_sub, bop_mul_i, bop_fdiv, bop_mod, bop_pow, aug_add, aug_sub, aug_mul, setAll, tailS, wipeT, List.set, tru_bl, tru_non, tru_int, tru_tup, if_true, if_false, Bool.false_eq_true, Bool.not_true, Bool.not_false, seqM_tup, ix_tup, len_tup, atI_0, atI_1, atI_2, atI_3, atI_4, Option.some.injEq, exists_eq_left', eq_int, cmp_lt, cmp_le, cmp_gt, cmp_ge, cmp_eq, cmp_ne, cmp_is, cmp_isn, cmp_in, cmp_nin, Option.map, is_nn, is_in, is_tn, tyn_int, tyn_str, tyn_tup, Int.cast_ofNat_Int, Int.reduceLT, Int.reduceLE, Int.reduceAdd, Int.reduceMul, Int.reduceSub, BEq.rfl, decide_true, decide_false, Int.reduceBEq]
      exact hk _ _ ⟨d8.1, d8.at (x7.2.1.ne_tbl tb7) tb7, _, _, _, _, _, _, _, rfl⟩
  · rintro _ _ M5 ⟨ok5, tb5, o0, o2, o3, o4, o5, o6, o7, rfl⟩
    exact yes M5
theorem law_main {G : Gx} {fd : FuncData} (F : Facts G) (Fu : Fun G.K "law" "law" t_law (adr G "law") fd) : FnG G.prog G.w G.K G.mg G.base 100 (adr G "law") fd ["script"] (LSp G.K (lawSt (lamTs G.K ["_law_are_errors_right"]))) :=
  held_fnG (F := noF) (k := 99) Fu sc_law ck_law (ok_law F ((h__law_are_errors_right F).mono (by decide)) ((h__law_is_three_right F).g.mono (by decide)) ((h__law_is_two_right F).mono (by decide)) ((h__law_drawn F).g.mono (by decide)) ((h__law_is F 4).g.mono (by decide)) ((h_meeting F).g.mono (by decide)) ((h_beside F).g.mono (by decide)) ((h_in_row F).g.mono (by decide)) ((h__law_hand F).g.mono (by decide))) nF (fun xs M Q R ⟨_, _, e, _⟩ => by rw [e]; rfl) v_law
end TL

namespace TL
open PySem PySem.Spec PyProof.Rows L2
theorem law_binds {K : PySem.W.Frag} {f : Addr} {fd : FuncData} (Fu : Fun K "law" "law" t_law f fd) (s : Shared) (u : Value) : BindsTo s fd ⟨[u], []⟩ [("script", u)] := by
  obtain ⟨oc, od, kV, doc, pm, an, cdv, ct, osl, rfl, lk, hcd⟩ := Fu.ex
  exact .of_eq rfl
end TL
open PySem PySem.W PyProof.Rows
set_option maxHeartbeats 0 in
theorem PySem.Challenge.cw_soonfound_k10_whole_bows_joined_holds : PySem.Challenge.rw_soonfound_k10_whole_bows_joined.Holds := by
  w_on; o_law; k_head; (case hw => w_witness2)
  k_fill
  refine TL.walk_g (l := PySem.Challenge.rw_soonfound_k10_whole_bows_joined) (k := 100) rfl rfl ⟨rfl, by decide, by decide⟩ (fun w h Y => by first | exact PySem.W.kIn_of Y | exact PySem.W.km_in_of Y) ?F
  case F =>
    intro w mg mb fa h ls me T KX hmg
    have G := T.g
    have dl : ∀ base : Heap, TL.Df ⟨PySem.Challenge.pw_soonfound_k10_whole_bows_joined, w, _, mg, base⟩ "law" TL.t_law TL.p_law := fun base => by
      refine' TL.df_mk KX G (fun F => TL.bi_law F) ?d1 ?d2 ?d3 ?d4
      case d1 => k_is
      case d2 => k_is
      case d3 => k_is
      case d4 => k_is
    refine TL.law_atG ["_law_are_errors_right"] T KX hmg ?tb ?nd dl (fun F => TL.law_binds F) fun base TB => ?_
    case tb =>
      refine' (TL.alls (TL.tabAt_mk ?t1 ?t2) (fun x hx => absurd hx List.not_mem_nil))
      case t1 => kernel_rfl
      case t2 => rfl
    case nd => exact TL.nod_mk (by kernel_rfl)
    have fin : ∀ _ : Unit, TL.Facts ⟨PySem.Challenge.pw_soonfound_k10_whole_bows_joined, w, _, mg, base⟩ := fun _ => by
      refine' ⟨(TL.df_mk KX G (fun F => TL.bi_is_int F) ?h1 ?h2 ?h3 ?h4), (TL.df_mk KX G (fun F => TL.bi_is_amount F) ?h5 ?h6 ?h7 ?h8), (TL.df_mk KX G (fun F => TL.bi_is_pair F) ?h9 ?h10 ?h11 ?h12), (TL.df_mk KX G (fun F => TL.bi_is_step F) ?h13 ?h14 ?h15 ?h16), (TL.df_mk KX G (fun F => TL.bi_is_better F) ?h17 ?h18 ?h19 ?h20), (TL.df_mk KX G (fun F => TL.bi_drawn_in F) ?h21 ?h22 ?h23 ?h24), (TL.df_mk KX G (fun F => TL.bi_is_steps F) ?h25 ?h26 ?h27 ?h28), (TL.df_mk KX G (fun F => TL.bi_is_bow F) ?h29 ?h30 ?h31 ?h32), (TL.df_mk KX G (fun F => TL.bi_check_bow F) ?h33 ?h34 ?h35 ?h36), (TL.df_mk KX G (fun F => TL.bi_ends_of F) ?h37 ?h38 ?h39 ?h40), (TL.df_mk KX G (fun F => TL.bi_rowed F) ?h41 ?h42 ?h43 ?h44), (TL.df_mk KX G (fun F => TL.bi_in_row F) ?h45 ?h46 ?h47 ?h48), (TL.df_mk KX G (fun F => TL.bi_met F) ?h49 ?h50 ?h51 ?h52), (TL.df_mk KX G (fun F => TL.bi_meeting F) ?h53 ?h54 ?h55 ?h56), (TL.df_mk KX G (fun F => TL.bi_merged F) ?h57 ?h58 ?h59 ?h60), (TL.df_mk KX G (fun F => TL.bi_sided F) ?h61 ?h62 ?h63 ?h64), (TL.df_mk KX G (fun F => TL.bi_beside F) ?h65 ?h66 ?h67 ?h68), (TL.df_mk KX G (fun F => TL.bi__law_hand F) ?h69 ?h70 ?h71 ?h72), (TL.df_mk KX G (fun F => TL.bi__law_draw F) ?h73 ?h74 ?h75 ?h76), (TL.df_mk KX G (fun F => TL.bi__law_some F) ?h77 ?h78 ?h79 ?h80), (TL.df_mk KX G (fun F => TL.bi__law_is F) ?h81 ?h82 ?h83 ?h84), (TL.df_mk KX G (fun F => TL.bi__law_place F) ?h85 ?h86 ?h87 ?h88), (TL.df_mk KX G (fun F => TL.bi__law_steps F) ?h89 ?h90 ?h91 ?h92), (TL.df_mk KX G (fun F => TL.bi__law_is_better F) ?h93 ?h94 ?h95 ?h96), (TL.df_mk KX G (fun F => TL.bi__law_tight F) ?h97 ?h98 ?h99 ?h100), (TL.df_mk KX G (fun F => TL.bi__law_sums F) ?h101 ?h102 ?h103 ?h104), (TL.df_mk KX G (fun F => TL.bi__law_put_behind F) ?h105 ?h106 ?h107 ?h108), (TL.df_mk KX G (fun F => TL.bi__law_merged F) ?h109 ?h110 ?h111 ?h112), (TL.df_mk KX G (fun F => TL.bi__law_meet F) ?h113 ?h114 ?h115 ?h116), (TL.df_mk KX G (fun F => TL.bi__law_put_beside F) ?h117 ?h118 ?h119 ?h120), (TL.df_mk KX G (fun F => TL.bi__law_drawn F) ?h121 ?h122 ?h123 ?h124), (TL.df_mk KX G (fun F => TL.bi__law_is_two_right F) ?h125 ?h126 ?h127 ?h128), (TL.df_mk KX G (fun F => TL.bi__law_is_three_right F) ?h129 ?h130 ?h131 ?h132), (TL.df_mk KX G (fun F => TL.bi__law_said F) ?h133 ?h134 ?h135 ?h136), (TL.df_mk KX G (fun F => TL.bi__law_are_errors_right F) ?h137 ?h138 ?h139 ?h140), (dl base), (TL.tabF_mk KX G ?h141 (TB _ List.mem_cons_self)), (TL.glv_int (PySem.W.mg_of KX G ?h142)), (PySem.W.mg_none_of KX G ?h143), (PySem.W.mg_none_of KX G ?h144), (PySem.W.mg_none_of KX G ?h145), (PySem.W.mg_none_of KX G ?h146), (PySem.W.mg_none_of KX G ?h147), (PySem.W.mg_none_of KX G ?h148), (PySem.W.mg_none_of KX G ?h149), (PySem.W.mg_none_of KX G ?h150), (PySem.W.mg_none_of KX G ?h151), (PySem.W.mg_none_of KX G ?h152), (PySem.W.mg_none_of KX G ?h153), (PySem.W.mg_none_of KX G ?h154), (PySem.W.mg_none_of KX G ?h155), (PySem.W.mg_none_of KX G ?h156), (PySem.W.mg_none_of KX G ?h157), (TL.err_mk KX G ?h158 ?h159 ?h160 ?h161 ?h162 ⟨?h163, ?h164, ?h165, ?h166, ?h167, ?h168, ?h169, ?h170⟩), (TL.cls_mk KX G ?h171), (TL.cls_mk KX G ?h172), (TL.kit_mk KX G ?h173 ?h174 ?h175), (TL.kit_mkT KX G ?h176 ?h177), (TL.exm_mk KX G ?h178 ?h179 ?h180)⟩
      case h1 => k_is
      case h2 => k_is
      case h3 => k_is
      case h4 => k_is
      case h5 => k_is
      case h6 => k_is
      case h7 => k_is
      case h8 => k_is
      case h9 => k_is
      case h10 => k_is
      case h11 => k_is
      case h12 => k_is
      case h13 => k_is
      case h14 => k_is
      case h15 => k_is
      case h16 => k_is
      case h17 => k_is
      case h18 => k_is
      case h19 => k_is
      case h20 => k_is
      case h21 => k_is
      case h22 => k_is
      case h23 => k_is
      case h24 => k_is
      case h25 => k_is
      case h26 => k_is
      case h27 => k_is
      case h28 => k_is
      case h29 => k_is
      case h30 => k_is
      case h31 => k_is
      case h32 => k_is
      case h33 => k_is
      case h34 => k_is
      case h35 => k_is
      case h36 => k_is
      case h37 => k_is
      case h38 => k_is
      case h39 => k_is
      case h40 => k_is
      case h41 => k_is
      case h42 => k_is
      case h43 => k_is
      case h44 => k_is
      case h45 => k_is
      case h46 => k_is
      case h47 => k_is
      case h48 => k_is
      case h49 => k_is
      case h50 => k_is
      case h51 => k_is
      case h52 => k_is
      case h53 => k_is
      case h54 => k_is
      case h55 => k_is
      case h56 => k_is
      case h57 => k_is
      case h58 => k_is
      case h59 => k_is
      case h60 => k_is
      case h61 => k_is
      case h62 => k_is
      case h63 => k_is
      case h64 => k_is
      case h65 => k_is
      case h66 => k_is
      case h67 => k_is
      case h68 => k_is
      case h69 => k_is
      case h70 => k_is
      case h71 => k_is
      case h72 => k_is
      case h73 => k_is
      case h74 => k_is
      case h75 => k_is
      case h76 => k_is
      case h77 => k_is
      case h78 => k_is
      case h79 => k_is
      case h80 => k_is
      case h81 => k_is
      case h82 => k_is
      case h83 => k_is
      case h84 => k_is
      case h85 => k_is
      case h86 => k_is
      case h87 => k_is
      case h88 => k_is
      case h89 => k_is
      case h90 => k_is
      case h91 => k_is
      case h92 => k_is
      case h93 => k_is
      case h94 => k_is
      case h95 => k_is
      case h96 => k_is
      case h97 => k_is
      case h98 => k_is
      case h99 => k_is
      case h100 => k_is
      case h101 => k_is
      case h102 => k_is
      case h103 => k_is
      case h104 => k_is
      case h105 => k_is
      case h106 => k_is
      case h107 => k_is
      case h108 => k_is
      case h109 => k_is
      case h110 => k_is
      case h111 => k_is
      case h112 => k_is
      case h113 => k_is
      case h114 => k_is
      case h115 => k_is
      case h116 => k_is
      case h117 => k_is
      case h118 => k_is
      case h119 => k_is
      case h120 => k_is
      case h121 => k_is
      case h122 => k_is
      case h123 => k_is
      case h124 => k_is
      case h125 => k_is
      case h126 => k_is
      case h127 => k_is
      case h128 => k_is
      case h129 => k_is
      case h130 => k_is
      case h131 => k_is
      case h132 => k_is
      case h133 => k_is
      case h134 => k_is
      case h135 => k_is
      case h136 => k_is
      case h137 => k_is
      case h138 => k_is
      case h139 => k_is
      case h140 => k_is
      case h141 => first | k_is | kernel_rfl
      case h142 => k_is
      case h143 => k_is
      case h144 => k_is
      case h145 => k_is
      case h146 => k_is
      case h147 => k_is
      case h148 => k_is
      case h149 => k_is
      case h150 => k_is
      case h151 => k_is
      case h152 => k_is
      case h153 => k_is
      case h154 => k_is
      case h155 => k_is
      case h156 => k_is
      case h157 => k_is
      case h158 => k_is
      case h159 => first | k_is | kernel_rfl
      case h160 => k_is
      case h161 => k_is
      case h162 => k_is
      case h163 => k_is
      case h164 => k_is
      case h165 => k_is
      case h166 => k_is
      case h167 => k_is
      case h168 => k_is
      case h169 => k_is
      case h170 => k_is
      case h171 => k_is
      case h172 => k_is
      case h173 => k_is
      case h174 => k_is
      case h175 => first | k_is | kernel_rfl
      case h176 => k_is
      case h177 => first | k_is | kernel_rfl
      case h178 => k_is
      case h179 => k_is
      case h180 => first | k_is | kernel_rfl
    exact fun {_} Fu => TL.law_main (fin ()) Fu
