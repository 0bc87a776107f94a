import PyProof.Rows.All
import Wide.All
import OpenK.AllK
import Wide.FinOn
import HandS.ForMost
import HandS.Exc
import HandS.WordsExc
import HandS.Zip
import HandS.Deep
import HandS.TupAny
import HandS.IsInst
import HandS.Lambda
import KE.KeyNested
import KE.SortData
import KE.DataCmp
import HandS.SetFor
import HandS.Strs
import HandS.TupMul
import HandS.TryMany
import HandS.HeadHook4
import HandS.HeadWalk
import HandS.Style
import KE.KStateDown
import HandS.Ends
import HandS.More
import HandS.Defaults
import HandS.Head0
import HandS.Head1
import HandS.Head2
import HandS.HeadEnd
import HandS.HeadHook1
import HandS.HeadHook2
import HandS.HeadHook3
import PySem.Challenge.RW_needpapers_k01_towns_and_stands_known
set_option Elab.async false
set_option linter.all false
set_option maxRecDepth 100000
set_option maxHeartbeats 4000000
namespace Pf
open PySem PySem.Spec PyProof.Rows L2

abbrev D := PyData
/-- a thing that is changed in place, by its number -/
def objD (n : Nat) : D := .dict [(.none, .int n)]
def objN : D → Option Nat
  | .dict [(.none, .int i)] => if 0 ≤ i then some i.toNat else none
  | _ => none
theorem objN_objD (n : Nat) : objN (objD n) = some n := by unfold objN objD; simp

mutual
def nk : D → Option NestedKey
  | .none => some .none
  | .bool b => some (.num (if b = true then 1 else 0))
  | .int i => some (.num i)
  | .str x => some (.text x)
  | .tuple ds => match nks ds with
    | some ks => some (.tup ks)
    | none => none
  | .list _ => none
  | .dict _ => none
def nks : List D → Option (List NestedKey)
  | [] => some []
  | d :: ds => match nk d, nks ds with
    | some k, some ks => some (k :: ks)
    | _, _ => none
end

/-- a dict by its entries -/
def DicH (a : Addr) (es : Array DictEntry) : HO := .ext fun h => ∃ o ep, h.get? a = some o ∧ o.ExactDict ∧ o.data = .dict es ep

mutual
inductive Rp (K : PySem.W.Frag) (w : World) (μ : List Addr) (S : Hp) : D → V → Prop
  | non : Rp K w μ S .none .non
  | bl (b : Bool) : Rp K w μ S (.bool b) (.bl b)
  | int (i : Int) : Rp K w μ S (.int i) (.int i)
  | str (x : Str) : Rp K w μ S (.str x) (.str x)
  | lst {a : Addr} {vs : List V} {ds : List D} : Rd S a (.lst vs) → RpL K w μ S ds vs → Rp K w μ S (.list ds) (.ref a)
  | tup {a : Addr} {vs : List V} {ds : List D} : SqT K S a vs → RpL K w μ S ds vs → Rp K w μ S (.tuple ds) (.ref a)
  | dic {a : Addr} {es : Array DictEntry} {kvs : List (D × D)} : objN (.dict kvs) = none → S a = some (DicH a es) → (a == sysModules) = false → RpE K w μ S kvs es.toList → Rp K w μ S (.dict kvs) (.ref a)
  | obj {n : Nat} {a : Addr} : μ[n]? = some a → Rp K w μ S (objD n) (.ref a)
inductive RpL (K : PySem.W.Frag) (w : World) (μ : List Addr) (S : Hp) : List D → List V → Prop
  | nil : RpL K w μ S [] []
  | cons {d : D} {ds : List D} {v : V} {vs : List V} : Rp K w μ S d v → RpL K w μ S ds vs → RpL K w μ S (d :: ds) (v :: vs)
inductive RpE (K : PySem.W.Frag) (w : World) (μ : List Addr) (S : Hp) : List (D × D) → List DictEntry → Prop
  | nil : RpE K w μ S [] []
  | cons {k d : D} {kds : List (D × D)} {e : DictEntry} {es : List DictEntry} {kv dv : V} {key : NestedKey} : Rp K w μ S k kv → RelV kv e.key → nk k = some key → e.hash = key.hash w →
      Rp K w μ S d dv → RelV dv e.val → RpE K w μ S kds es → RpE K w μ S ((k, d) :: kds) (e :: es)
end

section
variable {K : PySem.W.Frag} {w : World} {μ μ' : List Addr} {S S' : Hp}
def SubH (S S' : Hp) : Prop := ∀ a u, S a = some u → S' a = some u
theorem SubH.refl (S : Hp) : SubH S S := fun _ _ h => h
theorem SubH.trans {S S1 S2 : Hp} (a : SubH S S1) (b : SubH S1 S2) : SubH S S2 := fun c u h => b c u (a c u h)
theorem SubH.sqL (e : SubH S S') {a : Addr} {xs : List V} (h : SqL K S a xs) : SqL K S' a xs := Same.seq e h
theorem SubH.rd (e : SubH S S') {a : Addr} {u : HO} (h : Rd S a u) : Rd S' a u := by
  rcases h with h | ⟨o, h⟩
  · exact .inl (e _ _ h)
  · exact .inr ⟨o, e _ _ h⟩
theorem SubH.sqT (e : SubH S S') {a : Addr} {xs : List V} (h : SqT K S a xs) : SqT K S' a xs := by
  rcases h with (h | ⟨o, h⟩) | h
  · exact .inl (.inl (e _ _ h))
  · exact .inl (.inr ⟨o, e _ _ h⟩)
  · exact .inr h
def SubM (μ μ' : List Addr) : Prop := ∀ (n : Nat) (a : Addr), μ[n]? = some a → μ'[n]? = some a
theorem SubM.refl (μ : List Addr) : SubM μ μ := fun _ _ h => h
theorem SubM.trans {a b c : List Addr} (h : SubM a b) (g : SubM b c) : SubM a c := fun n x e => g n x (h n x e)
theorem SubM.app (μ ex : List Addr) : SubM μ (μ ++ ex) := fun n a h => by
  have hl := (List.getElem?_eq_some_iff.mp h).1
  rw [List.getElem?_append_left hl]; exact h

mutual
theorem Rp.mono (e : SubH S S') (f : SubM μ μ') : ∀ (d : D) (v : V), Rp K w μ S d v → Rp K w μ' S' d v
  | .none, _, h => by cases h; exact .non
  | .bool b, _, h => by cases h; exact .bl b
  | .int i, _, h => by cases h; exact .int i
  | .str x, _, h => by cases h; exact .str x
  | .list ds, _, h => by
    cases h with
    | lst h1 h2 => exact .lst (e.rd h1) (RpL.mono e f ds _ h2)
  | .tuple ds, _, h => by
    cases h with
    | tup h1 h2 => exact .tup (e.sqT h1) (RpL.mono e f ds _ h2)
  | .dict kvs, v, h => by
    generalize hq : PyData.dict kvs = q at h
    cases h with
    | dic h0 h1 h2 h3 =>
      cases hq
      exact .dic h0 (e _ _ h1) h2 (RpE.mono e f kvs _ h3)
    | obj h1 => exact .obj (f _ _ h1)
    | _ => cases hq
theorem RpL.mono (e : SubH S S') (f : SubM μ μ') : ∀ (ds : List D) (vs : List V), RpL K w μ S ds vs → RpL K w μ' S' ds vs
  | [], _, h => by cases h; exact .nil
  | d :: ds, _, h => by
    cases h with
    | cons h1 h2 => exact .cons (Rp.mono e f d _ h1) (RpL.mono e f ds _ h2)
theorem RpE.mono (e : SubH S S') (f : SubM μ μ') : ∀ (kvs : List (D × D)) (es : List DictEntry), RpE K w μ S kvs es → RpE K w μ' S' kvs es
  | [], _, h => by cases h; exact .nil
  | (k, d) :: r, _, h => by
    cases h with
    | cons h1 h2 h3 h4 h5 h6 h7 => exact .cons (Rp.mono e f k _ h1) h2 h3 h4 (Rp.mono e f d _ h5) h6 (RpE.mono e f r _ h7)
end
theorem RpL.len : ∀ {ds : List D} {vs : List V}, RpL K w μ S ds vs → ds.length = vs.length
  | [], _, h => by cases h; rfl
  | _ :: ds, _, h => by
    cases h with
    | cons _ h2 => rw [List.length_cons, List.length_cons, RpL.len h2]
theorem RpL.get : ∀ {ds : List D} {vs : List V} {i : Nat} {d : D}, RpL K w μ S ds vs → ds[i]? = some d → ∃ v, vs[i]? = some v ∧ Rp K w μ S d v
  | [], _, _, _, h, e => by simp at e
  | d :: ds, _, 0, _, h, e => by
    cases h with
    | cons h1 h2 => simp at e; subst e; exact ⟨_, rfl, h1⟩
  | d :: ds, _, i + 1, _, h, e => by
    cases h with
    | cons h1 h2 =>
      obtain ⟨v, e1, e2⟩ := RpL.get (i := i) h2 (by simpa using e)
      exact ⟨v, by simpa using e1, e2⟩
theorem RpL.app : ∀ {ds es : List D} {vs us : List V}, RpL K w μ S ds vs → RpL K w μ S es us → RpL K w μ S (ds ++ es) (vs ++ us)
  | [], _, _, _, h, g => by cases h; exact g
  | _ :: _, _, _, _, h, g => by
    cases h with
    | cons h1 h2 => exact .cons h1 (RpL.app h2 g)
theorem RpL.take : ∀ {ds : List D} {vs : List V} (n : Nat), RpL K w μ S ds vs → RpL K w μ S (ds.take n) (vs.take n)
  | _, _, 0, _ => .nil
  | [], _, n + 1, h => by cases h; exact .nil
  | _ :: _, _, n + 1, h => by
    cases h with
    | cons h1 h2 => exact .cons h1 (RpL.take n h2)
theorem RpL.drop : ∀ {ds : List D} {vs : List V} (n : Nat), RpL K w μ S ds vs → RpL K w μ S (ds.drop n) (vs.drop n)
  | _, _, 0, h => h
  | [], _, n + 1, h => by cases h; exact .nil
  | _ :: _, _, n + 1, h => by
    cases h with
    | cons h1 h2 => exact RpL.drop n h2
end

/-! ### the monad -/
/-- a thing that is changed in place -/
inductive MO where
  | lst (ds : List D)
  | ins (C : Str) (fs : List (Str × D))
abbrev Ms := List MO
/-- an exception: its class's name, its own fields (of a class that has an __init__) -/
structure Xn where
  cls : Str
  fs : Option (List (Str × D))
inductive Rs (α : Type) where
  | ok (a : α) (ms : Ms)
  | err (x : Xn) (ms : Ms)
  | bad
def M (α : Type) : Type := Ms → Rs α
def M.pure {α : Type} (a : α) : M α := fun ms => .ok a ms
def Rs.bind {α β : Type} (r : Rs α) (f : α → M β) : Rs β := match r with
  | .ok a ms => f a ms
  | .err x ms => .err x ms
  | .bad => .bad
def M.bind {α β : Type} (m : M α) (f : α → M β) : M β := fun ms => (m ms).bind f
instance : Monad M where
  pure := M.pure
  bind := M.bind
def M.bad {α : Type} : M α := fun _ => .bad
def M.err {α : Type} (x : Xn) : M α := fun ms => .err x ms
theorem M.pure_bind {α β : Type} (a : α) (f : α → M β) : (Pure.pure a >>= f) = f a := rfl
theorem M.bind_assoc {α β γ : Type} (m : M α) (f : α → M β) (g : β → M γ) : ((m >>= f) >>= g) = (m >>= fun a => f a >>= g) := by
  funext ms
  show ((m ms).bind f).bind g = (m ms).bind fun a => M.bind (f a) g
  cases m ms <;> rfl
theorem M.bind_pure {α : Type} (m : M α) : (m >>= Pure.pure) = m := by
  funext ms
  show (m ms).bind M.pure = m ms
  cases m ms <;> rfl
/-- what a block comes to -/
inductive Out (τ : Type) where
  | ret (d : D)
  | nxt (t : τ)
  | brk (t : τ)
  | cnt (t : τ)

/-! ### states -/
structure Ct where
  K : PySem.W.Frag
  w : World
  mg : Str → Option Value
  T : List (Addr × Str)
  E : XK
inductive Ent where
  | none
  | sh (d : D)
  | lst (ds : List D)
  | dic (kvs : List (D × D))

def isDicH (u : HO) : Prop := ∃ a es, u = DicH a es
structure SOk (C : Ct) (S H : Hp) : Prop where
  sub : ∀ a u, S a = some u → H a = some u ∨ (isDicH u ∧ ∃ o, H a = some (.frz o u))
  tabs : LamX.Tabs C.T H
  ntb : ∀ a ps, S a ≠ some (.tbl ps)
def MoOk (K : PySem.W.Frag) (w : World) (μ : List Addr) (S : Hp) : MO → HO → Prop
  | .lst ds, .lst vs => RpL K w μ S ds vs
  | _, _ => False
structure MsOk (C : Ct) (S : Hp) (μ : List Addr) (ms : Ms) (H : Hp) : Prop where
  len : ms.length = μ.length
  nd : μ.Nodup
  out : ∀ a ∈ μ, S a = none
  at_ : ∀ (n : Nat) (mo : MO) (a : Addr), ms[n]? = some mo → μ[n]? = some a → ∃ ho, H a = some ho ∧ MoOk C.K C.w μ S mo ho
/-- nothing is told of the address, or a table of code objects -/
def Fr (H : Hp) (a : Addr) : Prop := ∀ o, H a = some o → ∃ ps, o = .tbl ps
theorem Fr.of {H : Hp} {a : Addr} (h : H a = none) : Fr H a := fun o e => by rw [h] at e; cases e
theorem fr_lst {H : Hp} {a : Addr} {vs : List V} (h : H a = some (.lst vs)) : ¬ Fr H a := fun z => by obtain ⟨ps, e⟩ := z _ h; cases e
structure Grow (S : Hp) (μ : List Addr) (H : Hp) (S' : Hp) (μ' : List Addr) (H' : Hp) : Prop where
  s : SubH S S'
  n : ∀ a, S' a ≠ none → S a ≠ none ∨ Fr H a
  h : ∀ a o, H a = some o → a ∉ μ → (∀ ps, o ≠ .tbl ps) → H' a = some o
  t : ∀ a, ¬ Fr H a → ¬ Fr H' a
  m : ∃ ex, μ' = μ ++ ex ∧ ∀ a ∈ ex, Fr H a
theorem Grow.refl (S : Hp) (μ : List Addr) (H : Hp) : Grow S μ H S μ H := ⟨.refl S, fun _ h => .inl h, fun _ _ h _ _ => h, fun _ h => h, [], by simp, by simp⟩
theorem Grow.sm {S S' H H' : Hp} {μ μ' : List Addr} (g : Grow S μ H S' μ' H') : SubM μ μ' := by
  obtain ⟨ex, e, _⟩ := g.m
  rw [e]; exact SubM.app μ ex
theorem Grow.trans {C : Ct} {S S1 S2 H H1 H2 : Hp} {μ μ1 μ2 : List Addr} {ms : Ms} (g : Grow S μ H S1 μ1 H1) (k : Grow S1 μ1 H1 S2 μ2 H2) : Grow S μ H S2 μ2 H2 := by
  obtain ⟨ex, e, hex⟩ := g.m
  obtain ⟨ey, e', hey⟩ := k.m
  refine ⟨g.s.trans k.s, fun a h => ?_, fun a o h hm ht => ?_, fun a h => k.t a (g.t a h), ex ++ ey, by rw [e', e, List.append_assoc], fun a h => ?_⟩
  · rcases k.n a h with q | q
    · exact g.n a q
    · right
      exact Classical.byContradiction fun z => g.t a z q
  · have h1 := g.h a o h hm ht
    refine k.h a o h1 (fun z => ?_) ht
    rw [e] at z
    rcases List.mem_append.mp z with z | z
    · exact hm z
    · obtain ⟨ps, e⟩ := hex a z o h; exact ht ps e
  · rcases List.mem_append.mp h with z | z
    · exact hex a z
    · exact Classical.byContradiction fun z2 => g.t a z2 (hey a z)

def HOof (K : PySem.W.Frag) (w : World) (μ : List Addr) (S : Hp) (a : Addr) : Ent → HO → Prop
  | .lst ds, ho => ∃ vs, ho = .lst vs ∧ RpL K w μ S ds vs
  | .dic kvs, ho => ∃ es, ho = DicH a es ∧ (a == sysModules) = false ∧ RpE K w μ S kvs es.toList
  | _, _ => False
def Ent.own : Ent → Bool
  | .lst _ => true
  | .dic _ => true
  | _ => false
structure EnvOk (C : Ct) (F : Addr → Prop) (S : Hp) (μ : List Addr) (H : Hp) (ρ : List Ent) (σ : L2.St) : Prop where
  sh : ∀ (i : Nat) (d : D), ρ[i]? = some (.sh d) → ∃ v, σ[i]? = some (some v) ∧ Rp C.K C.w μ S d v
  ow : ∀ (i : Nat) (e : Ent), ρ[i]? = some e → e.own = true → ∃ (a : Addr) (ho : HO), σ[i]? = some (some (.ref a)) ∧ H a = some ho ∧ HOof C.K C.w μ S a e ho ∧ S a = none ∧ a ∉ μ ∧ F a
  len : ρ.length = σ.length
  ne : ∀ (i j : Nat) (e e' : Ent) (a : Addr), i ≠ j → ρ[i]? = some e → e.own = true → ρ[j]? = some e' → e'.own = true → σ[i]? = some (some (.ref a)) → σ[j]? ≠ some (some (.ref a))
section
variable {C : Ct} {F F' : Addr → Prop} {S S' H H' : Hp} {μ μ' : List Addr} {ρ : List Ent} {σ : L2.St}
theorem HOof.mono {a : Addr} {e : Ent} {ho : HO} (s : SubH S S') (m : SubM μ μ') (h : HOof C.K C.w μ S a e ho) : HOof C.K C.w μ' S' a e ho := by
  cases e with
  | lst ds => obtain ⟨vs, e1, e2⟩ := h; exact ⟨vs, e1, e2.mono s m _ _⟩
  | dic kvs => obtain ⟨es, e1, e2, e3⟩ := h; exact ⟨es, e1, e2, e3.mono s m _ _⟩
  | _ => exact h
theorem HOof.ntbl {a : Addr} {e : Ent} {ho : HO} (h : HOof C.K C.w μ S a e ho) : ∀ ps, ho ≠ .tbl ps := fun ps z => by
  subst z
  cases e with
  | lst ds => obtain ⟨vs, e1, e2⟩ := h; cases e1
  | dic kvs => obtain ⟨es, e1, e2, e3⟩ := h; unfold DicH at e1; cases e1
  | _ => exact h
theorem EnvOk.imp (e : EnvOk C F S μ H ρ σ) (f : ∀ a, F a → F' a) : EnvOk C F' S μ H ρ σ :=
  ⟨e.sh, fun i en h1 h2 => let ⟨a, ho, q1, q2, q3, q4, q5, q6⟩ := e.ow i en h1 h2; ⟨a, ho, q1, q2, q3, q4, q5, f a q6⟩, e.len, e.ne⟩
theorem EnvOk.grow (e : EnvOk C F S μ H ρ σ) (g : Grow S μ H S' μ' H') : EnvOk C F S' μ' H' ρ σ := by
  refine ⟨fun i d h => ?_, fun i en h1 h2 => ?_, e.len, e.ne⟩
  · obtain ⟨v, q1, q2⟩ := e.sh i d h
    exact ⟨v, q1, q2.mono g.s g.sm _ _⟩
  · obtain ⟨a, ho, q1, q2, q3, q4, q5, q6⟩ := e.ow i en h1 h2
    refine ⟨a, ho, q1, g.h a ho q2 q5 q3.ntbl, q3.mono g.s g.sm, ?_, ?_, q6⟩
    · cases z : S' a with
      | none => rfl
      | some u =>
        rcases g.n a (by rw [z]; simp) with q | q
        · exact absurd q4 q
        · obtain ⟨ps, e⟩ := q _ q2; exact absurd e (q3.ntbl ps)
    · obtain ⟨ex, e1, e2⟩ := g.m
      rw [e1]
      intro z
      rcases List.mem_append.mp z with z | z
      · exact q5 z
      · obtain ⟨ps, e⟩ := e2 a z _ q2; exact absurd e (q3.ntbl ps)
end

/-! ### readings -/
def XnOk (C : Ct) (S : Hp) (μ : List Addr) (x : Xn) (cls : Value) (dx : Option Addr) (H : Hp) : Prop :=
  C.mg x.cls = some cls ∧ match x.fs with
    | none => dx = none
    | some fs => ∃ d vfs, dx = some d ∧ H d = some (.xd vfs) ∧ vfs.map (·.1) = fs.map (·.1) ∧ RpL C.K C.w μ S (fs.map (·.2)) (vfs.map (·.2))
def wpR {α β : Type} (C : Ct) (rel : List Addr → Hp → α → β → Prop) (S : Hp) (μ : List Addr) (H : Hp) (r : Rs α) (Q : β → Hp → Prop) : Prop :=
  match r with
  | .ok a ms' => ∀ b H' S' μ', Grow S μ H S' μ' H' → SOk C S' H' → MsOk C S' μ' ms' H' → rel μ' S' a b → Q b H'
  | .err x ms' => ∀ cls dx H' S' μ', Grow S μ H S' μ' H' → SOk C S' H' → MsOk C S' μ' ms' H' → XnOk C S' μ' x cls dx H' → C.E cls dx H'
  | .bad => False
def denG {α β : Type} (C : Ct) (rel : List Addr → Hp → α → β → Prop) (ρ : List Ent) (m : M α) (σ : L2.St) (H : Hp) (Q : β → Hp → Prop) : Prop :=
  ∃ S μ ms, SOk C S H ∧ MsOk C S μ ms H ∧ EnvOk C (fun _ => True) S μ H ρ σ ∧ wpR C rel S μ H (m ms) Q
abbrev relD (C : Ct) : List Addr → Hp → D → V → Prop := fun μ S d v => Rp C.K C.w μ S d v
abbrev relL (C : Ct) : List Addr → Hp → List D → List V → Prop := fun μ S ds vs => RpL C.K C.w μ S ds vs
abbrev relB : List Addr → Hp → Bool → Bool → Prop := fun _ _ a b => a = b
abbrev denE (C : Ct) (ρ : List Ent) (m : M D) : TE := denG C (relD C) ρ m
abbrev denT (C : Ct) (ρ : List Ent) (m : M Bool) : TT := denG C relB ρ m
abbrev denA (C : Ct) (ρ : List Ent) (m : M (List D)) : TA := denG C (relL C) ρ m

section
variable {C : Ct} {S H : Hp} {μ : List Addr} {ρ : List Ent} {σ : L2.St}
/-- what is done behind a part -/
theorem wpR.bind {α β γ δ : Type} {rel : List Addr → Hp → α → β → Prop} {rel' : List Addr → Hp → γ → δ → Prop} {m : Rs α} {k : α → M γ} {Q : δ → Hp → Prop} {Q' : β → Hp → Prop}
    (h : wpR C rel' S μ H (m.bind k) Q)
    (f : ∀ a b S' μ' ms' H', Grow S μ H S' μ' H' → SOk C S' H' → MsOk C S' μ' ms' H' → rel μ' S' a b → wpR C rel' S' μ' H' (k a ms') Q → Q' b H') : wpR C rel S μ H m Q' := by
  cases m with
  | bad => exact h
  | err x ms' => exact h
  | ok a ms' =>
    intro b H' S' μ' g so mo r
    refine f a b S' μ' ms' H' g so mo r ?_
    have h : wpR C rel' S μ H (k a ms') Q := h
    cases e : k a ms' with
    | bad => rw [e] at h; exact h
    | err x ms2 =>
      rw [e] at h
      exact fun cls dx H2 S2 μ2 g2 => h cls dx H2 S2 μ2 (g.trans (C := C) (ms := ms') g2)
    | ok a2 ms2 =>
      rw [e] at h
      exact fun b2 H2 S2 μ2 g2 => h b2 H2 S2 μ2 (g.trans (C := C) (ms := ms') g2)
theorem denG.bind {α β γ δ : Type} {rel : List Addr → Hp → α → β → Prop} {rel' : List Addr → Hp → γ → δ → Prop} {m : M α} {k : α → M γ} {Q : δ → Hp → Prop} {Q' : β → Hp → Prop}
    (h : denG C rel' ρ (m >>= k) σ H Q)
    (f : ∀ a b S' μ' ms' H', SOk C S' H' → MsOk C S' μ' ms' H' → EnvOk C (fun _ => True) S' μ' H' ρ σ → rel μ' S' a b → wpR C rel' S' μ' H' (k a ms') Q → Q' b H') : denG C rel ρ m σ H Q' := by
  obtain ⟨S, μ, ms, so, mo, en, q⟩ := h
  exact ⟨S, μ, ms, so, mo, en, wpR.bind q fun a b S' μ' ms' H' g so' mo' r q' => f a b S' μ' ms' H' so' mo' (en.grow g) r q'⟩
theorem wpR.pure {α β : Type} {rel : List Addr → Hp → α → β → Prop} {a : α} {b : β} {ms : Ms} {Q : β → Hp → Prop} (h : wpR C rel S μ H (.ok a ms) Q) (so : SOk C S H) (mo : MsOk C S μ ms H) (r : rel μ S a b) : Q b H :=
  h b H S μ (.refl _ _ _) so mo r
end
theorem _root_.L2.PE.wk {X : Cx} {e : Expr} {t t' : TE} (h : PE X e t) (f : ∀ σ H Q, t' σ H Q → t σ H Q) : PE X e t' := ⟨fun pins s σ H Q I q => h.run pins s σ H Q I (f σ H Q q)⟩
theorem _root_.L2.PT.wk {X : Cx} {e : Expr} {t t' : TT} (h : PT X e t) (f : ∀ σ H Q, t' σ H Q → t σ H Q) : PT X e t' := ⟨fun pins s σ H Q I q => h.run pins s σ H Q I (f σ H Q q)⟩
theorem _root_.L2.PA.wk {X : Cx} {e : List Expr} {t t' : TA} (h : PA X e t) (f : ∀ σ H Q, t' σ H Q → t σ H Q) : PA X e t' := ⟨fun pos pins s σ H Q I q => h.run pos pins s σ H Q I (f σ H Q q)⟩
end Pf
set_option Elab.async false
set_option linter.all false
set_option maxRecDepth 100000
set_option maxHeartbeats 4000000
namespace Pf
open PySem PySem.Spec PyProof.Rows L2

/-! ### the state and a new object -/
section
variable {C : Ct} {S H : Hp} {μ : List Addr} {ms : Ms}
theorem SOk.rd (so : SOk C S H) {a : Addr} {u : HO} (h : Rd S a u) (nd : ¬ isDicH u) (nf : ∀ o u', u ≠ .frz o u') : Rd H a u := by
  rcases h with h | ⟨o, h⟩
  · rcases so.sub a _ h with q | ⟨q, _⟩
    · exact .inl q
    · exact absurd q nd
  · rcases so.sub a _ h with q | ⟨⟨b, es, q⟩, _⟩
    · exact .inr ⟨o, q⟩
    · unfold DicH at q; cases q
theorem SOk.lst (so : SOk C S H) {a : Addr} {vs : List V} (h : Rd S a (.lst vs)) : Rd H a (.lst vs) :=
  so.rd h (fun ⟨_, _, q⟩ => by unfold DicH at q; cases q) (fun _ _ q => by cases q)
theorem SOk.sqT (so : SOk C S H) {a : Addr} {vs : List V} (h : SqT C.K S a vs) : SqT C.K H a vs := by
  rcases h with h | h
  · exact .inl (so.rd h (fun ⟨_, _, q⟩ => by unfold DicH at q; cases q) (fun _ _ q => by cases q))
  · exact .inr h
theorem SOk.sqL (so : SOk C S H) {a : Addr} {vs : List V} (h : Rd S a (.lst vs)) : SqL C.K H a vs := .inl (so.lst h)
theorem SOk.ne (so : SOk C S H) {a p : Addr} {u : HO} (h : S a = some u) (hp : H p = none) : a ≠ p := by
  rintro rfl
  rcases so.sub a _ h with q | ⟨_, o, q⟩
  · rw [hp] at q; cases q
  · rw [hp] at q; cases q
theorem SOk.free (so : SOk C S H) {p : Addr} (hp : H p = none) : S p = none := by
  cases z : S p with
  | none => rfl
  | some u => exact absurd rfl (so.ne z hp)
theorem SOk.upd (so : SOk C S H) {p : Addr} (o : HO) (hp : H p = none) : SOk C S (upd H p o) := by
  refine ⟨fun a u h => ?_, fun q hq => ?_, so.ntb⟩
  · rw [upd_ne (so.ne h hp)]; exact so.sub a u h
  · exact so.tabs.ext (fun b o e => by rw [upd_ne (ne_of_none e hp)]; exact e) q hq
theorem SOk.new (so : SOk C S H) {p : Addr} {o : HO} (hp : H p = none) (ht : ∀ ps, o ≠ .tbl ps) : SOk C (L2.upd S p o) (L2.upd H p o) := by
  refine ⟨fun a u h => ?_, fun q hq => ?_, fun a ps h => ?_⟩
  · by_cases e : a = p
    · subst e; rw [upd_same] at h; cases h; exact .inl upd_same
    · rw [upd_ne e] at h; rw [upd_ne e]; exact so.sub a u h
  · exact so.tabs.ext (fun b o e => by rw [upd_ne (ne_of_none e hp)]; exact e) q hq
  · by_cases e : a = p
    · subst e; rw [upd_same] at h; exact ht ps (Option.some.inj h)
    · rw [upd_ne e] at h; exact so.ntb a ps h
theorem subH_new {p : Addr} {o : HO} (hp : S p = none) : SubH S (upd S p o) := fun a u h => by
  rw [upd_ne (ne_of_none h hp)]; exact h
theorem MoOk.mono {K : PySem.W.Frag} {w : World} {μ μ' : List Addr} {S S' : Hp} {mo : MO} {ho : HO} (s : SubH S S') (m : SubM μ μ') (h : MoOk K w μ S mo ho) : MoOk K w μ' S' mo ho := by
  cases mo with
  | lst ds =>
    cases ho with
    | lst vs => exact RpL.mono s m ds vs h
    | _ => exact h
  | ins c fs => cases ho <;> exact h
theorem MsOk.had (mo : MsOk C S μ ms H) {a : Addr} (h : a ∈ μ) : H a ≠ none := by
  obtain ⟨n, hn, e⟩ := List.getElem_of_mem h
  have hl : n < ms.length := by rw [mo.len]; exact hn
  obtain ⟨ho, q, _⟩ := mo.at_ n ms[n] a (by simp [hl]) (by rw [List.getElem?_eq_getElem hn, e])
  rw [q]; simp
theorem MsOk.upd (mo : MsOk C S μ ms H) {p : Addr} (o : HO) (hp : H p = none) : MsOk C S μ ms (upd H p o) := by
  refine ⟨mo.len, mo.nd, mo.out, fun n x a h1 h2 => ?_⟩
  obtain ⟨ho, q, r⟩ := mo.at_ n x a h1 h2
  exact ⟨ho, by rw [upd_ne (ne_of_none q hp)]; exact q, r⟩
theorem MsOk.new (mo : MsOk C S μ ms H) (so : SOk C S H) {p : Addr} (o : HO) (hp : H p = none) : MsOk C (L2.upd S p o) μ ms (L2.upd H p o) := by
  refine ⟨mo.len, mo.nd, fun a h => ?_, fun n x a h1 h2 => ?_⟩
  · rw [upd_ne (fun e => mo.had h (by rw [e]; exact hp))]; exact mo.out a h
  · obtain ⟨ho, q, r⟩ := mo.at_ n x a h1 h2
    exact ⟨ho, by rw [upd_ne (ne_of_none q hp)]; exact q, r.mono (subH_new (so.free hp)) (.refl _)⟩
theorem Grow.upd (so : SOk C S H) {p : Addr} (o : HO) (hp : H p = none) : Grow S μ H S μ (upd H p o) :=
  ⟨.refl S, fun _ h => .inl h, fun a u h _ _ => by rw [upd_ne (ne_of_none h hp)]; exact h, fun a h => by
    by_cases e : a = p
    · subst e; exact absurd (Fr.of hp) h
    · exact fun z => h fun u q => z u (by rw [upd_ne e]; exact q), [], by simp, by simp⟩
theorem Grow.new (so : SOk C S H) {p : Addr} (o : HO) (hp : H p = none) : Grow S μ H (L2.upd S p o) μ (L2.upd H p o) :=
  ⟨subH_new (so.free hp), fun a h => by
    by_cases e : a = p
    · subst e; exact .inr (Fr.of hp)
    · rw [upd_ne e] at h; exact .inl h, fun a u h _ _ => by rw [upd_ne (ne_of_none h hp)]; exact h, fun a h => by
    by_cases e : a = p
    · subst e; exact absurd (Fr.of hp) h
    · exact fun z => h fun u q => z u (by rw [upd_ne e]; exact q), [], by simp, by simp⟩

/-- a new tuple -/
theorem wpR.tup {ds : List D} {vs : List V} {Q : VK} (h : wpR C (relD C) S μ H (.ok (.tuple ds) ms) Q) (so : SOk C S H) (mo : MsOk C S μ ms H) (r : RpL C.K C.w μ S ds vs) :
    ∀ p, H p = none → Q (.ref p) (upd H p (.tup vs)) := fun p hp =>
  h _ _ _ _ (Grow.new so _ hp) (so.new hp (fun ps q => by cases q)) (mo.new so _ hp) (.tup (.inl (.inl upd_same)) (r.mono (subH_new (so.free hp)) (.refl _) _ _))
theorem wpR.lst {ds : List D} {vs : List V} {Q : VK} (h : wpR C (relD C) S μ H (.ok (.list ds) ms) Q) (so : SOk C S H) (mo : MsOk C S μ ms H) (r : RpL C.K C.w μ S ds vs) :
    ∀ p, H p = none → Q (.ref p) (upd H p (.lst vs)) := fun p hp =>
  h _ _ _ _ (Grow.new so _ hp) (so.new hp (fun ps q => by cases q)) (mo.new so _ hp) (.lst (.inl upd_same) (r.mono (subH_new (so.free hp)) (.refl _) _ _))
end

/-! ### names and constants -/
section
variable {X : Cx} {C : Ct} {ρ : List Ent} {pos : Pos}
theorem de_var (i : Nat) {x : Str} {d : D} (hd : ρ[i]? = some (.sh d) := by rfl) (hN : X.N[i]? = some x := by rfl) (hv : Vis X.env.scope x := by first | exact Or.inl rfl | exact Or.inr (Or.inl rfl) | exact Or.inr (Or.inr rfl))
    (h1 : (x == ("__debug__" : Str)) = false := by decide) (h2 : (x == ("__classdict__" : Str)) = false := by decide) : PE X (.Name x pos) (denE C ρ (pure d)) :=
  (pe_var hN hv h1 h2).wk fun σ H Q ⟨S, μ, ms, so, mo, en, q⟩ => by
    obtain ⟨v, e, r⟩ := en.sh i d hd
    exact ⟨v, e, wpR.pure q so mo r⟩
theorem de_int {i j} : PE X (.Constant (.int i) j pos) (denE C ρ (pure (.int i))) := pe_int.wk fun σ H Q ⟨S, μ, ms, so, mo, en, q⟩ => wpR.pure q so mo (.int i)
theorem de_bl {b j} : PE X (.Constant (.bool b) j pos) (denE C ρ (pure (.bool b))) := pe_bl.wk fun σ H Q ⟨S, μ, ms, so, mo, en, q⟩ => wpR.pure q so mo (.bl b)
theorem de_non {j} : PE X (.Constant .none j pos) (denE C ρ (pure .none)) := pe_non.wk fun σ H Q ⟨S, μ, ms, so, mo, en, q⟩ => wpR.pure q so mo .non
theorem de_str {x j} : PE X (.Constant (.str x) j pos) (denE C ρ (pure (.str x))) := pe_str.wk fun σ H Q ⟨S, μ, ms, so, mo, en, q⟩ => wpR.pure q so mo (.str x)
/-- a module's constant -/
theorem de_glob {x : Str} {v : V} {u : Value} {d : D} (hg : Gl X x) (hm : X.mg x = some u) (r : RelV v u) (rd : ∀ μ S, Rp C.K C.w μ S d v) (hd : (x == ("__debug__" : Str)) = false := by decide) : PE X (.Name x pos) (denE C ρ (pure d)) :=
  (pe_glob hg hm r hd).wk fun σ H Q ⟨S, μ, ms, so, mo, en, q⟩ => wpR.pure q so mo (rd μ S)

/-! ### operators -/
/-- r does k -/
def OpD (C : Ct) (r : R2) (k : D → D → M D) : Prop := ∀ S μ ms H x y v u Q, SOk C S H → MsOk C S μ ms H → Rp C.K C.w μ S x v → Rp C.K C.w μ S y u → wpR C (relD C) S μ H (k x y ms) Q → r v u H Q
variable {a b : Expr} {ma mb : M D}
theorem den_op {r : R2} {k : D → D → M D} (hr : OpD C r k) {σ : L2.St} {H : Hp} {Q : VK} (h : denE C ρ (do let x ← ma; let y ← mb; k x y) σ H Q) : tOp r (denE C ρ ma) (denE C ρ mb) σ H Q := by
  refine denG.bind h fun x v S1 μ1 ms1 H1 so1 mo1 en1 r1 q1 => ⟨S1, μ1, ms1, so1, mo1, en1, wpR.bind q1 fun y u S2 μ2 ms2 H2 g so2 mo2 r2 q2 => ?_⟩
  exact hr S2 μ2 ms2 H2 x y v u Q so2 mo2 (r1.mono g.s g.sm _ _) r2 q2
theorem de_op {op : Operator} {r : R2} {k : D → D → M D} (ho : OpR X (binaryOp op) r) (hr : OpD C r k) (ha : PE X a (denE C ρ ma)) (hb : PE X b (denE C ρ mb)) :
    PE X (.BinOp a op b pos) (denE C ρ (do let x ← ma; let y ← mb; k x y)) := (pe_op ho ha hb).wk fun σ H Q h => den_op hr h
theorem de_cmp {op : CmpOp} {r : R2} {k : D → D → M D} (ho : OpR X (compareOp op) r) (hr : OpD C r k) (ha : PE X a (denE C ρ ma)) (hb : PE X b (denE C ρ mb)) (hm : behindInMarks op b = false) :
    PE X (.Compare a [op] [b] pos) (denE C ρ (do let x ← ma; let y ← mb; k x y)) := (pe_cmpR ho ha hb hm).wk fun σ H Q h => den_op hr h
/-- an expression as a test -/
def asB : D → M Bool
  | .bool b => pure b
  | _ => M.bad
theorem dt_of {e : Expr} {m : M D} (h : PE X e (denE C ρ m)) (he : ∀ whole, isTrue e X.env whole = (do let v ← whole; standAt e.pos; holding [v] (truthy v)) := by intro _; rfl) : PT X e (denT C ρ (do let x ← m; asB x)) :=
  (pt_val h he).wk fun σ H Q h => by
    refine denG.bind h fun x v S1 μ1 ms1 H1 so1 mo1 en1 r1 q1 => ?_
    cases x with
    | bool c => cases r1; exact ⟨c, rfl, wpR.pure q1 so1 mo1 rfl⟩
    | _ => exact False.elim q1
theorem dt_cmp {op : CmpOp} {r : R2} {k : D → D → M D} (ho : OpR X (compareOp op) r) (hr : OpD C r k) (ha : PE X a (denE C ρ ma)) (hb : PE X b (denE C ρ mb)) (hm : behindInMarks op b = false) :
    PT X (.Compare a [op] [b] pos) (denT C ρ (do let x ← ma; let y ← mb; let z ← k x y; asB z)) := (pt_cmpR ho ha hb hm).wk fun σ H Q h => by
  have h : denT C ρ (do let z ← (do let x ← ma; let y ← mb; k x y); asB z) σ H Q := by
    obtain ⟨S, μ, ms, so, mo, en, q⟩ := h
    refine ⟨S, μ, ms, so, mo, en, ?_⟩
    rw [M.bind_assoc]
    simp only [M.bind_assoc]
    exact q
  refine den_op hr (Q := fun x H' => ∃ k, x = .bl k ∧ Q k H') ?_
  obtain ⟨S, μ, ms, so, mo, en, q⟩ := h
  refine ⟨S, μ, ms, so, mo, en, ?_⟩
  have q : wpR C relB S μ H (((do let x ← ma; let y ← mb; k x y : M D) ms).bind asB) Q := q
  cases e : (do let x ← ma; let y ← mb; k x y : M D) ms with
  | bad => rw [e] at q; exact q
  | err x ms' => rw [e] at q; exact q
  | ok z ms' =>
    rw [e] at q
    intro v H' S' μ' g so' mo' r'
    cases z with
    | bool c => cases r'; exact ⟨c, rfl, q c H' S' μ' g so' mo' rfl⟩
    | _ => exact False.elim q

/-! ### and, or, not, if else -/
variable {rest : List Expr}
theorem dt_not {m : M Bool} (ha : PT X a (denT C ρ m)) : PT X (.UnaryOp .Not a pos) (denT C ρ (do let x ← m; pure (!x))) := (pt_not ha).wk fun σ H Q h =>
  denG.bind h fun x v S1 μ1 ms1 H1 so1 mo1 en1 r1 q1 => by cases r1; exact wpR.pure q1 so1 mo1 rfl
theorem denT_and {mx my : M Bool} {σ : L2.St} {H : Hp} {Q : Bool → Hp → Prop} (h : denT C ρ (do let x ← mx; if x = true then my else pure false) σ H Q) : tAnd (denT C ρ mx) (denT C ρ my) σ H Q := by
  refine denG.bind h fun x v S1 μ1 ms1 H1 so1 mo1 en1 r1 q1 => ?_
  cases r1
  cases x with
  | true => exact iteT ⟨S1, μ1, ms1, so1, mo1, en1, q1⟩
  | false => exact iteF (wpR.pure q1 so1 mo1 rfl)
theorem denT_or {mx my : M Bool} {σ : L2.St} {H : Hp} {Q : Bool → Hp → Prop} (h : denT C ρ (do let x ← mx; if x = true then pure true else my) σ H Q) : tOr (denT C ρ mx) (denT C ρ my) σ H Q := by
  refine denG.bind h fun x v S1 μ1 ms1 H1 so1 mo1 en1 r1 q1 => ?_
  cases r1
  cases x with
  | true => exact iteT (wpR.pure q1 so1 mo1 rfl)
  | false => exact iteF ⟨S1, μ1, ms1, so1, mo1, en1, q1⟩
theorem _root_.L2.PW.wk {X : Cx} {e : Expr} {t t' : TT} (h : PW X e t) (f : ∀ σ H Q, t' σ H Q → t σ H Q) : PW X e t' := ⟨fun wh pins s σ H Q I q => h.run wh pins s σ H Q I (f σ H Q q)⟩
theorem dw_and1 {m : M Bool} (ha : PT X a (denT C ρ m)) : PW X (.BoolOp .And [a] pos) (denT C ρ m) := pw_and1 ha
theorem dw_or1 {m : M Bool} (ha : PT X a (denT C ρ m)) : PW X (.BoolOp .Or [a] pos) (denT C ρ m) := pw_or1 ha
theorem dw_and {mx my : M Bool} (ha : PT X a (denT C ρ mx)) (hb : PW X (.BoolOp .And (b :: rest) pos) (denT C ρ my)) : PW X (.BoolOp .And (a :: b :: rest) pos) (denT C ρ (do let x ← mx; if x = true then my else pure false)) :=
  (pw_and ha hb).wk fun σ H Q h => denT_and h
theorem dw_or {mx my : M Bool} (ha : PT X a (denT C ρ mx)) (hb : PW X (.BoolOp .Or (b :: rest) pos) (denT C ρ my)) : PW X (.BoolOp .Or (a :: b :: rest) pos) (denT C ρ (do let x ← mx; if x = true then pure true else my)) :=
  (pw_or ha hb).wk fun σ H Q h => denT_or h
/-- as values: the first ones are True or False -/
theorem de_one {op} {m : M D} (h : PE X a (denE C ρ m)) : PE X (.BoolOp op [a] pos) (denE C ρ m) := pe_one h
theorem de_and {ma mr : M D} (ha : PE X a (denE C ρ ma)) (hb : PE X (.BoolOp .And (b :: rest) pos) (denE C ρ mr)) :
    PE X (.BoolOp .And (a :: b :: rest) pos) (denE C ρ (do let x ← ma; let c ← asB x; if c = true then mr else pure (.bool false))) := (pe_and ha hb).wk fun σ H Q h => by
  refine denG.bind h fun x v S1 μ1 ms1 H1 so1 mo1 en1 r1 q1 => ?_
  cases x with
  | bool c =>
    cases r1
    refine ⟨c, rfl, ?_⟩
    cases c with
    | true => exact iteT ⟨S1, μ1, ms1, so1, mo1, en1, q1⟩
    | false => exact iteF (wpR.pure q1 so1 mo1 (.bl false))
  | _ => exact False.elim q1
theorem de_or {ma mr : M D} (ha : PE X a (denE C ρ ma)) (hb : PE X (.BoolOp .Or (b :: rest) pos) (denE C ρ mr)) :
    PE X (.BoolOp .Or (a :: b :: rest) pos) (denE C ρ (do let x ← ma; let c ← asB x; if c = true then pure (.bool true) else mr)) := (pe_or ha hb).wk fun σ H Q h => by
  refine denG.bind h fun x v S1 μ1 ms1 H1 so1 mo1 en1 r1 q1 => ?_
  cases x with
  | bool c =>
    cases r1
    refine ⟨c, rfl, ?_⟩
    cases c with
    | true => exact iteT (wpR.pure q1 so1 mo1 (.bl true))
    | false => exact iteF ⟨S1, μ1, ms1, so1, mo1, en1, q1⟩
  | _ => exact False.elim q1
theorem de_not {ma : M D} (ha : PE X a (denE C ρ ma)) : PE X (.UnaryOp .Not a pos) (denE C ρ (do let x ← ma; let c ← asB x; pure (.bool (!c)))) := (pe_not ha).wk fun σ H Q h => by
  refine denG.bind h fun x v S1 μ1 ms1 H1 so1 mo1 en1 r1 q1 => ?_
  cases x with
  | bool c => cases r1; exact ⟨c, rfl, wpR.pure q1 so1 mo1 (.bl (!c))⟩
  | _ => exact False.elim q1
theorem de_if {c : Expr} {mc : M Bool} (hc : PT X c (denT C ρ mc)) (ha : PE X a (denE C ρ ma)) (hb : PE X b (denE C ρ mb)) : PE X (.IfExp c a b pos) (denE C ρ (do let x ← mc; if x = true then ma else mb)) :=
  (pe_ifExp hc ha hb).wk fun σ H Q h => by
    refine denG.bind h fun x v S1 μ1 ms1 H1 so1 mo1 en1 r1 q1 => ?_
    cases r1
    cases x with
    | true => exact iteT ⟨S1, μ1, ms1, so1, mo1, en1, q1⟩
    | false => exact iteF ⟨S1, μ1, ms1, so1, mo1, en1, q1⟩
/-- chains a <= b <= c, of ints -/
def leM (x y : D) : M D := match x, y with
  | .int i, .int j => pure (.bool (decide (i ≤ j)))
  | _, _ => M.bad
def ltM (x y : D) : M D := match x, y with
  | .int i, .int j => pure (.bool (decide (i < j)))
  | _, _ => M.bad
def gtM (x y : D) : M D := match x, y with
  | .int i, .int j => pure (.bool (decide (j < i)))
  | _, _ => M.bad
def geM (x y : D) : M D := match x, y with
  | .int i, .int j => pure (.bool (decide (j ≤ i)))
  | _, _ => M.bad
theorem intD {g : Int → Int → V} {gd : Int → Int → D} {k : D → D → M D} (hk : ∀ i j, k (.int i) (.int j) = pure (gd i j)) (hn : ∀ x y ms, (∀ i j, ¬ (x = .int i ∧ y = .int j)) → k x y ms = .bad)
    (hg : ∀ μ S i j, Rp C.K C.w μ S (gd i j) (g i j)) : OpD C (rI0 g) k := by
  intro S μ ms H x y v u Q so mo rx ry q
  by_cases h : ∃ i j, x = .int i ∧ y = .int j
  · obtain ⟨i, j, rfl, rfl⟩ := h
    cases rx; cases ry
    rw [hk] at q
    exact ⟨i, j, rfl, rfl, wpR.pure q so mo (hg μ S i j)⟩
  · rw [hn x y ms fun i j hh => h ⟨i, j, hh⟩] at q
    exact False.elim q
theorem od_le : OpD C (rI0 fun i j => .bl (decide (i ≤ j))) leM := intD (gd := fun i j => .bool (decide (i ≤ j))) (fun _ _ => rfl) (fun x y ms h => by cases x <;> cases y <;> first | rfl | exact absurd ⟨rfl, rfl⟩ (h _ _)) (fun _ _ _ _ => .bl _)
theorem od_lt : OpD C (rI0 fun i j => .bl (decide (i < j))) ltM := intD (gd := fun i j => .bool (decide (i < j))) (fun _ _ => rfl) (fun x y ms h => by cases x <;> cases y <;> first | rfl | exact absurd ⟨rfl, rfl⟩ (h _ _)) (fun _ _ _ _ => .bl _)
theorem od_gt : OpD C (rI0 fun i j => .bl (decide (j < i))) gtM := intD (gd := fun i j => .bool (decide (j < i))) (fun _ _ => rfl) (fun x y ms h => by cases x <;> cases y <;> first | rfl | exact absurd ⟨rfl, rfl⟩ (h _ _)) (fun _ _ _ _ => .bl _)
theorem od_ge : OpD C (rI0 fun i j => .bl (decide (j ≤ i))) geM := intD (gd := fun i j => .bool (decide (j ≤ i))) (fun _ _ => rfl) (fun x y ms h => by cases x <;> cases y <;> first | rfl | exact absurd ⟨rfl, rfl⟩ (h _ _)) (fun _ _ _ _ => .bl _)
theorem den_chain {r r' : R2} {k k' : D → D → M D} {mc : M D} (hr : OpD C r k) (hr' : OpD C r' k') {σ : L2.St} {H : Hp} {Q : VK}
    (h : denE C ρ (do let x ← ma; let y ← mb; let z ← k x y; let c ← asB z; if c = true then (do let u ← mc; k' y u) else pure (.bool false)) σ H Q) : tChain r r' (denE C ρ ma) (denE C ρ mb) (denE C ρ mc) σ H Q := by
  refine denG.bind h fun x v S1 μ1 ms1 H1 so1 mo1 en1 r1 q1 => ⟨S1, μ1, ms1, so1, mo1, en1, wpR.bind q1 fun y u S2 μ2 ms2 H2 g so2 mo2 r2 q2 => ?_⟩
  refine hr S2 μ2 ms2 H2 x y v u _ so2 mo2 (r1.mono g.s g.sm _ _) r2 (wpR.bind q2 fun z t S3 μ3 ms3 H3 g3 so3 mo3 r3 q3 => ?_)
  cases z with
  | bool c =>
    cases r3
    refine ⟨c, rfl, ?_⟩
    have en3 := (en1.grow g).grow g3
    cases c with
    | false => exact iteF (wpR.pure q3 so3 mo3 (.bl false))
    | true => exact iteT ⟨S3, μ3, ms3, so3, mo3, en3, wpR.bind q3 fun d e S4 μ4 ms4 H4 g4 so4 mo4 r4 q4 => hr' S4 μ4 ms4 H4 y d u e Q so4 mo4 ((r2.mono g3.s g3.sm _ _).mono g4.s g4.sm _ _) r4 q4⟩
  | _ => exact False.elim q3
theorem de_chain {c : Expr} {op op' : CmpOp} {r r' : R2} {k k' : D → D → M D} {mc : M D} (ho : OpR X (compareOp op) r) (hr : OpD C r k) (ho' : OpR X (compareOp op') r') (hr' : OpD C r' k') (ha : PE X a (denE C ρ ma)) (hb : PE X b (denE C ρ mb)) (hc : PE X c (denE C ρ mc))
    (hm : lastMarks [op, op'] [b, c] = false := by with_unfolding_all rfl) : PE X (.Compare a [op, op'] [b, c] pos) (denE C ρ (do let x ← ma; let y ← mb; let z ← k x y; let t ← asB z; if t = true then (do let u ← mc; k' y u) else pure (.bool false))) :=
  (pe_chain ho ho' ha hb hc hm).wk fun σ H Q h => den_chain hr hr' h

/-! ### argument lists, displays -/
variable {e : Expr} {es : List Expr}
theorem da_nil : PA X [] (denA C ρ (pure [])) := pa_nil.wk fun σ H Q ⟨S, μ, ms, so, mo, en, q⟩ => wpR.pure q so mo .nil
theorem da_cons {me : M D} {mes : M (List D)} (ha : PE X e (denE C ρ me)) (hr : PA X es (denA C ρ mes)) (hs : starEach (e :: es) X.env = (false, eval e X.env) :: starEach es X.env := by rfl) :
    PA X (e :: es) (denA C ρ (do let x ← me; let xs ← mes; pure (x :: xs))) := (pa_cons ha hr hs).wk fun σ H Q h => by
  refine denG.bind h fun x v S1 μ1 ms1 H1 so1 mo1 en1 r1 q1 => ⟨S1, μ1, ms1, so1, mo1, en1, wpR.bind q1 fun xs vs S2 μ2 ms2 H2 g so2 mo2 r2 q2 => ?_⟩
  exact wpR.pure q2 so2 mo2 (.cons (r1.mono g.s g.sm _ _) r2)
def tupM (xs : List D) : M D := if xs.length ≤ sizeLine then pure (.tuple xs) else M.bad
def lstM (xs : List D) : M D := if xs.length ≤ sizeLine then pure (.list xs) else M.bad
theorem wpR.ifbad {α β : Type} {rel : List Addr → Hp → α → β → Prop} {S H : Hp} {μ : List Addr} {c : Prop} [Decidable c] {m : M α} {ms : Ms} {Q : β → Hp → Prop} (h : wpR C rel S μ H ((if c then m else M.bad) ms) Q) : c ∧ wpR C rel S μ H (m ms) Q := by
  by_cases hc : c
  · rw [if_pos hc] at h; exact ⟨hc, h⟩
  · rw [if_neg hc] at h; exact False.elim h
theorem de_tup {k} {mes : M (List D)} (h : PA X es (denA C ρ mes)) : PE X (.Tuple es k pos) (denE C ρ (do let xs ← mes; tupM xs)) := (pe_tup h).wk fun σ H Q h => by
  refine denG.bind h fun xs vs S1 μ1 ms1 H1 so1 mo1 en1 r1 q1 => ?_
  obtain ⟨hl, q⟩ := wpR.ifbad q1
  exact ⟨by rw [← r1.len]; exact hl, wpR.tup q so1 mo1 r1⟩
theorem de_lst {mes : M (List D)} (h : PA X es (denA C ρ mes)) : PE X (.List es pos) (denE C ρ (do let xs ← mes; lstM xs)) := (pe_lst h).wk fun σ H Q h => by
  refine denG.bind h fun xs vs S1 μ1 ms1 H1 so1 mo1 en1 r1 q1 => ?_
  obtain ⟨hl, q⟩ := wpR.ifbad q1
  exact ⟨by rw [← r1.len]; exact hl, wpR.lst q so1 mo1 r1⟩
end
end Pf
set_option Elab.async false
set_option linter.all false
set_option maxRecDepth 100000
set_option maxHeartbeats 4000000
namespace Pf
open PySem PySem.Spec PyProof.Rows L2

section
variable {K : PySem.W.Frag} {w : World} {μ : List Addr} {S H : Hp} {C : Ct}
mutual
theorem Rp.dp (so : SOk C S H) : ∀ (d : D) (v : V), Rp C.K C.w μ S d v → d.canLay0 = true → Dp C.K H v d
  | .none, _, h, _ => by cases h; exact .non
  | .bool b, _, h, _ => by cases h; exact .bl b
  | .int i, _, h, _ => by cases h; exact .int i
  | .str x, _, h, _ => by cases h; exact .str x
  | .list ds, _, h, c => by
    cases h with
    | lst h1 h2 => exact .lst (so.sqL h1) (RpL.dp so ds _ h2 (by simpa [PyData.canLay0] using c))
  | .tuple ds, _, h, c => by
    cases h with
    | tup h1 h2 => exact .tup (so.sqT h1) (RpL.dp so ds _ h2 (by simpa [PyData.canLay0] using c))
  | .dict kvs, _, h, c => by simp [PyData.canLay0] at c
theorem RpL.dp (so : SOk C S H) : ∀ (ds : List D) (vs : List V), RpL C.K C.w μ S ds vs → PyData.canLayAll0 ds = true → DpAll C.K H vs ds
  | [], _, h, _ => by cases h; exact .nil
  | d :: ds, _, h, c => by
    have c' : d.canLay0 = true ∧ PyData.canLayAll0 ds = true := by simpa [PyData.canLayAll0] using c
    cases h with
    | cons h1 h2 => exact .cons (Rp.dp so d _ h1 c'.1) (RpL.dp so ds _ h2 c'.2)
end
end

section
variable {X : Cx} {C : Ct}
/-! ### ==, != of data -/
def eqOk (x y : D) : Prop := x.canLay0 = true ∧ y.canLay0 = true ∧ min x.depth y.depth ≤ 60
instance (x y : D) : Decidable (eqOk x y) := by unfold eqOk; infer_instance
def eqM (x y : D) : M D := if eqOk x y then pure (.bool (PyData.eqv x y)) else M.bad
def neM (x y : D) : M D := if eqOk x y then pure (.bool (!PyData.eqv x y)) else M.bad
def rEqP (K : PySem.W.Frag) : R2 := fun x y H Q => ∃ d e, Dp K H x d ∧ Dp K H y e ∧ eqOk d e ∧ Q (.bl (PyData.eqv d e)) H
def rNeP (K : PySem.W.Frag) : R2 := fun x y H Q => ∃ d e, Dp K H x d ∧ Dp K H y e ∧ eqOk d e ∧ Q (.bl (!PyData.eqv d e)) H
theorem op_eqP (hu : X.A.units + 64 < cLine) : OpR X (compareOp .Eq) (rEqP X.K) := by
  intro pins s σ H x y v u Q I rx ry h
  obtain ⟨d, e, hd, he, ⟨c1, c2, c3⟩, q⟩ := h
  obtain ⟨as, r1⟩ := Dp.reads I d x v hd rx
  obtain ⟨bs, r2⟩ := Dp.reads I e y u he ry
  exact SeqAt.compareEq_reads r1 r2 c1 c2 (by omega) ⟨.bl _, H, I, rfl, q⟩
theorem op_neP (hu : X.A.units + 64 < cLine) : OpR X (compareOp .NotEq) (rNeP X.K) := by
  intro pins s σ H x y v u Q I rx ry h
  obtain ⟨d, e, hd, he, ⟨c1, c2, c3⟩, q⟩ := h
  obtain ⟨as, r1⟩ := Dp.reads I d x v hd rx
  obtain ⟨bs, r2⟩ := Dp.reads I e y u he ry
  exact SeqAt.compareNe_reads r1 r2 c1 c2 (by omega) ⟨.bl _, H, I, rfl, q⟩
theorem od_eq : OpD C (rEqP C.K) eqM := fun S μ ms H x y v u Q so mo rx ry q => by
  obtain ⟨c, q⟩ := wpR.ifbad q
  exact ⟨x, y, rx.dp so _ _ c.1, ry.dp so _ _ c.2.1, c, wpR.pure q so mo (.bl _)⟩
theorem od_ne : OpD C (rNeP C.K) neM := fun S μ ms H x y v u Q so mo rx ry q => by
  obtain ⟨c, q⟩ := wpR.ifbad q
  exact ⟨x, y, rx.dp so _ _ c.1, ry.dp so _ _ c.2.1, c, wpR.pure q so mo (.bl _)⟩
/-! ### in, not in of a list or a tuple -/
def inOk (xs : List D) (x : D) : Prop := PyData.canLayAll0 xs = true ∧ x.canLay0 = true ∧ min (PyData.depthAll xs) x.depth ≤ 60
instance (xs : List D) (x : D) : Decidable (inOk xs x) := by unfold inOk; infer_instance
def inL (xs : List D) (x : D) : Bool := xs.any fun y => PyData.eqv y x
def inM (x y : D) : M D := match y with
  | .list xs => if inOk xs x then pure (.bool (inL xs x)) else M.bad
  | .tuple xs => if inOk xs x then pure (.bool (inL xs x)) else M.bad
  | _ => M.bad
def ninM (x y : D) : M D := match y with
  | .list xs => if inOk xs x then pure (.bool (!inL xs x)) else M.bad
  | .tuple xs => if inOk xs x then pure (.bool (!inL xs x)) else M.bad
  | _ => M.bad
def rInP (K : PySem.W.Frag) (f : Bool → Bool) : R2 := fun x y H Q => ∃ d ds, Dp K H x d ∧ (Dp K H y (.list ds) ∨ Dp K H y (.tuple ds)) ∧ inOk ds d ∧ Q (.bl (f (inL ds d))) H
theorem op_inP (hu : X.A.units + 65 < cLine) : OpR X (compareOp .In) (rInP X.K id) := by
  intro pins s σ H x y v u Q I rx ry h
  obtain ⟨d, ds, hd, he, ⟨c1, c2, c3⟩, q⟩ := h
  obtain ⟨as, r1⟩ := Dp.reads I d x v hd rx
  rcases he with he | he
  · obtain ⟨bs, r2⟩ := Dp.reads I (.list ds) y u he ry
    exact SeqAt.in_list_reads r2 r1 c1 c2 (by omega) ⟨.bl _, H, I, rfl, q⟩
  · obtain ⟨bs, r2⟩ := Dp.reads I (.tuple ds) y u he ry
    exact SeqAt.in_tuple_reads r2 r1 c1 c2 (by omega) ⟨.bl _, H, I, rfl, q⟩
theorem op_ninP (hu : X.A.units + 65 < cLine) : OpR X (compareOp .NotIn) (rInP X.K not) := by
  intro pins s σ H x y v u Q I rx ry h
  obtain ⟨d, ds, hd, he, ⟨c1, c2, c3⟩, q⟩ := h
  obtain ⟨as, r1⟩ := Dp.reads I d x v hd rx
  rcases he with he | he
  · obtain ⟨bs, r2⟩ := Dp.reads I (.list ds) y u he ry
    exact SeqAt.notIn_list_reads r2 r1 c1 c2 (by omega) ⟨.bl _, H, I, rfl, q⟩
  · obtain ⟨bs, r2⟩ := Dp.reads I (.tuple ds) y u he ry
    exact SeqAt.notIn_tuple_reads r2 r1 c1 c2 (by omega) ⟨.bl _, H, I, rfl, q⟩
theorem od_in : OpD C (rInP C.K id) inM := fun S μ ms H x y v u Q so mo rx ry q => by
  cases y with
  | list xs =>
    obtain ⟨c, q⟩ := wpR.ifbad q
    exact ⟨x, xs, rx.dp so _ _ c.2.1, .inl (ry.dp so _ _ (by simpa [PyData.canLay0] using c.1)), c, wpR.pure q so mo (.bl _)⟩
  | tuple xs =>
    obtain ⟨c, q⟩ := wpR.ifbad q
    exact ⟨x, xs, rx.dp so _ _ c.2.1, .inr (ry.dp so _ _ (by simpa [PyData.canLay0] using c.1)), c, wpR.pure q so mo (.bl _)⟩
  | _ => exact False.elim q
theorem od_nin : OpD C (rInP C.K not) ninM := fun S μ ms H x y v u Q so mo rx ry q => by
  cases y with
  | list xs =>
    obtain ⟨c, q⟩ := wpR.ifbad q
    exact ⟨x, xs, rx.dp so _ _ c.2.1, .inl (ry.dp so _ _ (by simpa [PyData.canLay0] using c.1)), c, wpR.pure q so mo (.bl _)⟩
  | tuple xs =>
    obtain ⟨c, q⟩ := wpR.ifbad q
    exact ⟨x, xs, rx.dp so _ _ c.2.1, .inr (ry.dp so _ _ (by simpa [PyData.canLay0] using c.1)), c, wpR.pure q so mo (.bl _)⟩
  | _ => exact False.elim q
/-! ### is None -/
def isnM (x y : D) : M D := match y with
  | .none => pure (.bool (match x with | .none => true | _ => false))
  | _ => M.bad
def nisnM (x y : D) : M D := match y with
  | .none => pure (.bool (match x with | .none => false | _ => true))
  | _ => M.bad
theorem od_isn : OpD C (fun x y H Q => y = .non ∧ Q (.bl (decide (x = .non))) H) isnM := fun S μ ms H x y v u Q so mo rx ry q => by
  cases y with
  | none =>
    cases ry
    refine ⟨rfl, ?_⟩
    generalize hx : x = x' at rx
    cases rx <;> subst hx <;> exact wpR.pure (a := PyData.bool _) q so mo (.bl _)
  | _ => exact False.elim q
theorem od_nisn : OpD C (fun x y H Q => y = .non ∧ Q (.bl (!decide (x = .non))) H) nisnM := fun S μ ms H x y v u Q so mo rx ry q => by
  cases y with
  | none =>
    cases ry
    refine ⟨rfl, ?_⟩
    generalize hx : x = x' at rx
    cases rx <;> subst hx <;> exact wpR.pure (a := PyData.bool _) q so mo (.bl _)
  | _ => exact False.elim q
/-! ### arithmetic -/
def subM (x y : D) : M D := match x, y with
  | .int i, .int j => pure (.int (i - j))
  | _, _ => M.bad
theorem od_sub : OpD C (rI0 fun i j => .int (i - j)) subM := intD (gd := fun i j => .int (i - j)) (fun _ _ => rfl) (fun x y ms h => by cases x <;> cases y <;> first | rfl | exact absurd ⟨rfl, rfl⟩ (h _ _)) (fun _ _ _ _ => .int _)
/-- with a condition -/
theorem intC {c : Int → Int → Prop} [∀ i j, Decidable (c i j)] {g : Int → Int → Int} {k : D → D → M D} (hk : ∀ i j, k (.int i) (.int j) = if c i j then pure (.int (g i j)) else M.bad) (hn : ∀ x y ms, (∀ i j, ¬ (x = .int i ∧ y = .int j)) → k x y ms = .bad) :
    OpD C (rI c fun i j => .int (g i j)) k := by
  intro S μ ms H x y v u Q so mo rx ry q
  by_cases h : ∃ i j, x = .int i ∧ y = .int j
  · obtain ⟨i, j, rfl, rfl⟩ := h
    cases rx; cases ry
    rw [hk] at q
    obtain ⟨hc, q⟩ := wpR.ifbad q
    exact ⟨i, j, rfl, rfl, hc, wpR.pure q so mo (.int _)⟩
  · rw [hn x y ms fun i j hh => h ⟨i, j, hh⟩] at q
    exact False.elim q
instance (i j : Int) : Decidable (CDiv i j) := by unfold CDiv; infer_instance
instance (i j : Int) : Decidable (CMul i j) := by unfold CMul; infer_instance
instance (i j : Int) : Decidable (CPow i j) := by unfold CPow; infer_instance
def modM (x y : D) : M D := match x, y with
  | .int i, .int j => if 0 < j then pure (.int (i % j)) else M.bad
  | _, _ => M.bad
def fdivM (x y : D) : M D := match x, y with
  | .int i, .int j => if CDiv i j then pure (.int (i / j)) else M.bad
  | _, _ => M.bad
def imulM (x y : D) : M D := match x, y with
  | .int i, .int j => if CMul i j then pure (.int (i * j)) else M.bad
  | _, _ => M.bad
def powM (x y : D) : M D := match x, y with
  | .int i, .int j => if CPow i j then pure (.int (i ^ j.toNat)) else M.bad
  | _, _ => M.bad
theorem od_mod : OpD C (rI (fun _ j => 0 < j) fun i j => .int (i % j)) modM := intC (c := fun _ j => 0 < j) (g := fun i j => i % j) (fun _ _ => rfl) (fun x y ms h => by cases x <;> cases y <;> first | rfl | exact absurd ⟨rfl, rfl⟩ (h _ _))
theorem od_fdiv : OpD C (rI CDiv fun i j => .int (i / j)) fdivM := intC (g := fun i j => i / j) (fun _ _ => rfl) (fun x y ms h => by cases x <;> cases y <;> first | rfl | exact absurd ⟨rfl, rfl⟩ (h _ _))
theorem od_imul : OpD C (rI CMul fun i j => .int (i * j)) imulM := intC (g := fun i j => i * j) (fun _ _ => rfl) (fun x y ms h => by cases x <;> cases y <;> first | rfl | exact absurd ⟨rfl, rfl⟩ (h _ _))
theorem od_pow : OpD C (rI CPow fun i j => .int (i ^ j.toNat)) powM := intC (g := fun i j => i ^ j.toNat) (fun _ _ => rfl) (fun x y ms h => by cases x <;> cases y <;> first | rfl | exact absurd ⟨rfl, rfl⟩ (h _ _))
def negM (x : D) : M D := match x with
  | .int i => pure (.int (-i))
  | _ => M.bad
theorem de_neg {a : Expr} {ma : M D} {ρ : List Ent} {pos : Pos} (ha : PE X a (denE C ρ ma)) : PE X (.UnaryOp .USub a pos) (denE C ρ (do let x ← ma; negM x)) := (pe_un un_neg ha).wk fun σ H Q h => by
  refine denG.bind h fun x v S1 μ1 ms1 H1 so1 mo1 en1 r1 q1 => ?_
  cases x with
  | int i => cases r1; exact ⟨i, rfl, wpR.pure q1 so1 mo1 (.int _)⟩
  | _ => exact False.elim q1

/-! ### + of ints, texts, lists, tuples -/
def addM (x y : D) : M D := match x, y with
  | .int i, .int j => pure (.int (i + j))
  | .bool a, .int j => pure (.int ((if a = true then 1 else 0) + j))
  | .str a, .str b => if a.length + b.length ≤ sizeLine then pure (.str (a ++ b)) else M.bad
  | .list xs, .list ys => if xs.length + ys.length ≤ sizeLine then pure (.list (xs ++ ys)) else M.bad
  | .tuple xs, .tuple ys => if xs.length + ys.length ≤ sizeLine then pure (.tuple (xs ++ ys)) else M.bad
  | _, _ => M.bad
def rCatL : R2 := fun x y H Q => ∃ l b xs zs, x = .ref l ∧ y = .ref b ∧ Rd H l (.lst xs) ∧ Rd H b (.lst zs) ∧ xs.length + zs.length ≤ sizeLine ∧ ∀ p, H p = none → Q (.ref p) (upd H p (.lst (xs ++ zs)))
theorem op_catL : OpR X (binaryOp .Add) rCatL := by
  intro pins s σ H x y v u Q I rx ry h
  obtain ⟨l, b, xs, zs, rfl, rfl, hH, hB, hz, q⟩ := h
  cases rx
  cases ry
  obtain ⟨z, its, n, r, e⟩ := hH.ok I.hok
  obtain ⟨z2, its2, n2, r2, e2⟩ := hB.ok I.hok
  have hl := r.length
  have hl2 := r2.length
  refine PySem.P.add_list e e2 ?_ (by rw [List.size_toArray, List.size_toArray]; omega)
  have ea : its.toArray ++ its2.toArray = (its ++ its2).toArray := by simp
  rw [ea]
  exact ⟨.ref _, _, I.lnew (t' := s.toks) (r.append r2) (by rw [List.length_append]; omega), rfl, q _ I.fresh⟩
def rAddB : R2 := fun x y H Q => ∃ a j, x = .bl a ∧ y = .int j ∧ Q (.int ((if a = true then 1 else 0) + j)) H
theorem op_addB : OpR X (binaryOp .Add) rAddB := by
  intro pins s σ H x y v u Q I rx ry h
  obtain ⟨i, j, rfl, rfl, q⟩ := h
  cases rx
  obtain ⟨t', rfl⟩ := ry
  exact PySem.IntBool.add_bool_int ⟨.int _, H, I.tok _, ⟨_, rfl⟩, q⟩
def rAddS : R2 := fun x y H Q => ∃ a b, x = .str a ∧ y = .str b ∧ a.length + b.length ≤ sizeLine ∧ Q (.str (a ++ b)) H
def rAddP (K : PySem.W.Frag) : R2 := fun x y H Q => rI0 (fun i j => .int (i + j)) x y H Q ∨ rAddB x y H Q ∨ rAddS x y H Q ∨ rCatL x y H Q ∨ rCatA K x y H Q
theorem OpR.or4 {f : Value → Value → Sem Value} {r1 r2 r3 r4 r5 : R2} (h1 : OpR X f r1) (h2 : OpR X f r2) (h3 : OpR X f r3) (h4 : OpR X f r4) (h5 : OpR X f r5) : OpR X f (fun x y H Q => r1 x y H Q ∨ r2 x y H Q ∨ r3 x y H Q ∨ r4 x y H Q ∨ r5 x y H Q) :=
  h1.or (h2.or (h3.or (h4.or h5)))
theorem op_addP : OpR X (binaryOp .Add) (rAddP X.K) := OpR.or4 op_add op_addB op_add_str op_catL op_catA
theorem od_add : OpD C (rAddP C.K) addM := fun S μ ms H x y v u Q so mo rx ry q => by
  unfold addM at q
  split at q
  · cases rx; cases ry
    exact .inl ⟨_, _, rfl, rfl, wpR.pure q so mo (.int _)⟩
  · cases rx; cases ry
    exact .inr (.inl ⟨_, _, rfl, rfl, wpR.pure q so mo (.int _)⟩)
  · cases rx; cases ry
    obtain ⟨c, q⟩ := wpR.ifbad q
    exact .inr (.inr (.inl ⟨_, _, rfl, rfl, c, wpR.pure q so mo (.str _)⟩))
  · cases rx with
    | lst h1 h2 =>
      cases ry with
      | lst g1 g2 =>
        obtain ⟨c, q⟩ := wpR.ifbad q
        refine .inr (.inr (.inr (.inl ⟨_, _, _, _, rfl, rfl, so.lst h1, so.lst g1, ?_, wpR.lst q so mo (h2.app g2)⟩)))
        rw [← h2.len, ← g2.len]; exact c
  · cases rx with
    | tup h1 h2 =>
      cases ry with
      | tup g1 g2 =>
        obtain ⟨c, q⟩ := wpR.ifbad q
        refine .inr (.inr (.inr (.inr ⟨_, _, _, _, rfl, rfl, so.sqT h1, so.sqT g1, ?_, fun e => ?_, fun _ e => ?_, fun _ _ => wpR.tup q so mo (h2.app g2)⟩)))
        · rw [← h2.len, ← g2.len]; exact c
        · subst e
          cases h2
          exact wpR.pure q so mo (.tup g1 g2)
        · subst e
          cases g2
          rw [List.append_nil] at q
          exact wpR.pure q so mo (.tup h1 h2)
  · exact False.elim q

/-! ### subscripts, slices -/
def M.optF {α : Type} (f : α → D) : Option α → M D
  | some a => pure (f a)
  | none => M.bad
theorem wpR.optF {α : Type} {f : α → D} {o : Option α} {S H : Hp} {μ : List Addr} {ms : Ms} {Q : VK} (h : wpR C (relD C) S μ H (M.optF f o ms) Q) : ∃ a, o = some a ∧ wpR C (relD C) S μ H (.ok (f a) ms) Q := by
  cases o with
  | none => exact False.elim h
  | some a => exact ⟨a, rfl, h⟩
def ixM (x y : D) : M D := match x, y with
  | .list xs, .int i => M.optF id (atI xs i)
  | .tuple xs, .int i => M.optF id (atI xs i)
  | .str z, .int i => if z.length ≤ sizeLine then M.optF (fun c => .str ⟨#[c]⟩) (atI z.cps.toList i) else M.bad
  | _, _ => M.bad
theorem RpL.atI {K : PySem.W.Frag} {w : World} {μ : List Addr} {S : Hp} {ds : List D} {vs : List V} {i : Int} {d : D} (h : RpL K w μ S ds vs) (e : L2.atI ds i = some d) : ∃ v, L2.atI vs i = some v ∧ Rp K w μ S d v := by
  unfold L2.atI at e ⊢
  rw [← h.len]
  cases z : ixN ds.length i with
  | none => rw [z] at e; cases e
  | some j =>
    rw [z] at e
    exact RpL.get (i := j) h e
theorem od_ix : OpD C (rIx C.K) ixM := fun S μ ms H x y v u Q so mo rx ry q => by
  unfold ixM at q
  split at q
  · cases ry
    cases rx with
    | lst h1 h2 =>
      obtain ⟨d, e, q⟩ := wpR.optF q
      obtain ⟨v, e1, e2⟩ := h2.atI e
      exact .inl ⟨_, _, _, v, rfl, rfl, so.sqL h1, e1, wpR.pure q so mo e2⟩
  · cases ry
    cases rx with
    | tup h1 h2 =>
      obtain ⟨d, e, q⟩ := wpR.optF q
      obtain ⟨v, e1, e2⟩ := h2.atI e
      exact .inr (.inl ⟨_, _, _, v, rfl, rfl, so.sqT h1, e1, wpR.pure q so mo e2⟩)
  · cases ry
    cases rx
    obtain ⟨c, q⟩ := wpR.ifbad q
    obtain ⟨d, e, q⟩ := wpR.optF q
    exact .inr (.inr ⟨_, _, d, rfl, rfl, c, e, wpR.pure q so mo (.str _)⟩)
  · exact False.elim q
theorem de_ix {a b : Expr} {ρ : List Ent} {ma mb : M D} {pos : Pos} (ha : PE X a (denE C ρ ma)) (hb : PE X b (denE C ρ mb)) (hK : X.K = C.K := by rfl) (hs : PlainIx b := by exact fun _ _ => rfl) :
    PE X (.Subscript a b pos) (denE C ρ (do let x ← ma; let y ← mb; ixM x y)) := (pe_ix (X := X) ix_seq ha hb hs).wk fun σ H Q h => den_op (r := rIx X.K) (by rw [hK]; exact od_ix) h
def cutL {α : Type} (xs : List α) (lo hi : Option Int) : List α := (xs.drop (HT.sIx xs.length 0 lo)).take (HT.sIx xs.length xs.length hi - HT.sIx xs.length 0 lo)
theorem RpL.cut {K : PySem.W.Frag} {w : World} {μ : List Addr} {S : Hp} {ds : List D} {vs : List V} {lo hi : Option Int} (h : RpL K w μ S ds vs) : RpL K w μ S (cutL ds lo hi) (cutV vs lo hi) := by
  unfold cutL cutV
  rw [h.len]
  exact (h.drop _).take _
def slM (x : D) (lo hi : Option Int) : M D := match x with
  | .list xs => pure (.list (cutL xs lo hi))
  | .tuple xs => pure (.tuple (cutL xs lo hi))
  | .str z => if z.length ≤ sizeLine then pure (.str (cutS z lo hi)) else M.bad
  | _ => M.bad
def rSlP (K : PySem.W.Frag) : V → Option Int → Option Int → Hp → VK → Prop := fun x lo hi H Q => rSlL K x lo hi H Q ∨ rSlA K x lo hi H Q ∨ rSlS x lo hi H Q
theorem sl_P : SlR X (rSlP X.K) := SlR.or sl_list (SlR.or sl_tupA sl_str)
theorem whole_cut {α : Type} {xs : List α} {lo hi : Option Int} (h : HT.sIx xs.length 0 lo = 0 ∧ HT.sIx xs.length xs.length hi = xs.length) : cutL xs lo hi = xs := by
  unfold cutL
  rw [h.1, h.2]
  simp
theorem slM_ok {S H : Hp} {μ : List Addr} {ms : Ms} {x : D} {v : V} {lo hi : Option Int} {Q : VK} (so : SOk C S H) (mo : MsOk C S μ ms H) (rx : Rp C.K C.w μ S x v) (q : wpR C (relD C) S μ H (slM x lo hi ms) Q) : rSlP C.K v lo hi H Q := by
  unfold slM at q
  split at q
  · cases rx with
    | lst h1 h2 => exact .inl ⟨_, _, rfl, so.sqL h1, wpR.lst q so mo h2.cut⟩
  · cases rx with
    | tup h1 h2 =>
      refine .inr (.inl ⟨_, _, rfl, so.sqT h1, fun e => ?_, fun _ => wpR.tup q so mo h2.cut⟩)
      rw [← h2.len] at e
      rw [whole_cut e] at q
      exact wpR.pure q so mo (.tup h1 h2)
  · cases rx
    obtain ⟨c, q⟩ := wpR.ifbad q
    exact .inr (.inr ⟨_, rfl, c, wpR.pure q so mo (.str _)⟩)
  · exact False.elim q
abbrev relO (C : Ct) : List Addr → Hp → Option Int → Option Int → Prop := fun _ _ a b => a = b
theorem _root_.L2.PO.wk {X : Cx} {e : Option Expr} {t t' : TO} (h : PO X e t) (f : ∀ σ H Q, t' σ H Q → t σ H Q) : PO X e t' := ⟨fun pins s σ H Q I q => h.run pins s σ H Q I (f σ H Q q)⟩
theorem do_none {ρ : List Ent} : PO X none (denG C (relO C) ρ (pure none)) := po_none.wk fun σ H Q ⟨S, μ, ms, so, mo, en, q⟩ => wpR.pure (b := none) q so mo rfl
def asI : D → M (Option Int)
  | .int i => pure (some i)
  | _ => M.bad
theorem do_some {e : Expr} {ρ : List Ent} {m : M D} (h : PE X e (denE C ρ m)) : PO X (some e) (denG C (relO C) ρ (do let x ← m; asI x)) := (po_some h).wk fun σ H Q h => by
  refine denG.bind h fun x v S1 μ1 ms1 H1 so1 mo1 en1 r1 q1 => ?_
  cases x with
  | int i => cases r1; exact ⟨i, rfl, wpR.pure (b := some i) q1 so1 mo1 rfl⟩
  | _ => exact False.elim q1
theorem de_slice {e : Expr} {lo hi : Option Expr} {ρ : List Ent} {m : M D} {ml mh : M (Option Int)} {pos p2 : Pos} (he : PE X e (denE C ρ m)) (hl : PO X lo (denG C (relO C) ρ ml)) (hu : PO X hi (denG C (relO C) ρ mh)) (hK : X.K = C.K := by rfl) :
    PE X (.Subscript e (.Slice lo hi none p2) pos) (denE C ρ (do let x ← m; let l ← ml; let h ← mh; slM x l h)) := (pe_slice sl_P he hl hu).wk fun σ H Q h => by
  refine denG.bind h fun x v S1 μ1 ms1 H1 so1 mo1 en1 r1 q1 => ⟨S1, μ1, ms1, so1, mo1, en1, wpR.bind q1 fun l l' S2 μ2 ms2 H2 g2 so2 mo2 r2 q2 => ?_⟩
  cases r2
  refine ⟨S2, μ2, ms2, so2, mo2, en1.grow g2, wpR.bind q2 fun h h' S3 μ3 ms3 H3 g3 so3 mo3 r3 q3 => ?_⟩
  cases r3
  rw [hK]
  exact slM_ok so3 mo3 ((r1.mono g2.s g2.sm _ _).mono g3.s g3.sm _ _) q3

/-! ### calls of built-ins -/
def CbD (C : Ct) (r : List V → Hp → VK → Prop) (k : List D → M D) : Prop := ∀ S μ ms H xs vs Q, SOk C S H → MsOk C S μ ms H → RpL C.K C.w μ S xs vs → wpR C (relD C) S μ H (k xs ms) Q → r vs H Q
theorem den_cb {r : List V → Hp → VK → Prop} {k : List D → M D} {ρ : List Ent} {ma : M (List D)} (hr : CbD C r k) {σ : L2.St} {H : Hp} {Q : VK} (h : denE C ρ (do let x ← ma; k x) σ H Q) : tCB r (denA C ρ ma) σ H Q :=
  denG.bind h fun x v S1 μ1 ms1 H1 so1 mo1 en1 r1 q1 => hr S1 μ1 ms1 H1 x v Q so1 mo1 r1 q1
section
variable {x : Str} {p pos : Pos} {e : Expr} {es : List Expr} {ρ : List Ent} {ma : M (List D)} {id T : String} {r : List V → Hp → VK → Prop} {k : List D → M D}
theorem de_callB (hc : CallR X (.builtin id) r) (hr : CbD C r k) (hg : Gl X x) (hm : X.mg x = none) (hv : bootBuiltins x = some (.builtin id)) (ha : PA X (e :: es) (denA C ρ ma)) (hn : x ≠ "__name__" := by decide) (hdb : (x == ("__debug__" : Str)) = false := by decide)
    (he : starEach (e :: es) X.env = (false, eval e X.env) :: starEach es X.env := by rfl) (hpl : (backTo pos (starEach es X.env)).any (·.1) = false := by rfl) : PE X (.Call (.Name x p) (e :: es) [] pos) (denE C ρ (do let x ← ma; k x)) :=
  (pe_callB hc hg hm hv ha hn hdb he hpl).wk fun σ H Q h => den_cb hr h
theorem de_callTy (hc : CallR X (.type T) r) (hr : CbD C r k) (hg : Gl X x) (hm : X.mg x = none) (hv : bootBuiltins x = some (.type T)) (ha : PA X (e :: es) (denA C ρ ma)) (hn : x ≠ "__name__" := by decide) (hdb : (x == ("__debug__" : Str)) = false := by decide)
    (he : starEach (e :: es) X.env = (false, eval e X.env) :: starEach es X.env := by rfl) (hpl : (backTo pos (starEach es X.env)).any (·.1) = false := by rfl) : PE X (.Call (.Name x p) (e :: es) [] pos) (denE C ρ (do let x ← ma; k x)) :=
  (pe_callTy hc hg hm hv ha hn hdb he hpl).wk fun σ H Q h => den_cb hr h
end
def lenM : List D → M D
  | [.list xs] => pure (.int xs.length)
  | [.tuple xs] => pure (.int xs.length)
  | [.str z] => if z.length ≤ sizeLine then pure (.int z.length) else M.bad
  | _ => M.bad
theorem cd_len : CbD C (fun xs H Q => ∃ x n, xs = [x] ∧ LenV C.K x H n ∧ Q (.int n) H) lenM := fun S μ ms H xs vs Q so mo rx q => by
  unfold lenM at q
  split at q
  · cases rx with
    | cons r1 r2 =>
      cases r2
      cases r1 with
      | lst h1 h2 => exact ⟨_, _, rfl, .inl ⟨_, so.sqL h1, h2.len⟩, wpR.pure q so mo (.int _)⟩
  · cases rx with
    | cons r1 r2 =>
      cases r2
      cases r1 with
      | tup h1 h2 => exact ⟨_, _, rfl, .inr ⟨_, so.sqT h1, h2.len⟩, wpR.pure q so mo (.int _)⟩
  · obtain ⟨c, q⟩ := wpR.ifbad q
    cases rx with
    | cons r1 r2 =>
      cases r2
      cases r1
      exact ⟨_, _, rfl, ⟨c, rfl⟩, wpR.pure q so mo (.int _)⟩
  · exact False.elim q
def boolsD : List D → Option (List Bool)
  | [] => some []
  | .bool b :: r => (boolsD r).map (b :: ·)
  | _ => none
theorem RpL.bools {K : PySem.W.Frag} {w : World} {μ : List Addr} {S : Hp} : ∀ {ds : List D} {vs : List V} {bs : List Bool}, RpL K w μ S ds vs → boolsD ds = some bs → vs = bs.map V.bl
  | [], _, _, h, e => by cases h; cases e; rfl
  | .bool b :: r, _, _, h, e => by
    cases h with
    | cons h1 h2 =>
      cases h1
      unfold boolsD at e
      cases z : boolsD r with
      | none => rw [z] at e; cases e
      | some cs => rw [z] at e; cases e; rw [RpL.bools h2 z]; rfl
  | .none :: r, _, _, h, e => by cases e
  | .int _ :: r, _, _, h, e => by cases e
  | .str _ :: r, _, _, h, e => by cases e
  | .list _ :: r, _, _, h, e => by cases e
  | .tuple _ :: r, _, _, h, e => by cases e
  | .dict _ :: r, _, _, h, e => by cases e
def allM : List D → M D
  | [.list xs] => M.optF (fun bs => .bool (bs.all id)) (boolsD xs)
  | _ => M.bad
def anyM : List D → M D
  | [.list xs] => M.optF (fun bs => .bool (bs.any id)) (boolsD xs)
  | _ => M.bad
theorem cd_all : CbD C (rAll C.K) allM := fun S μ ms H xs vs Q so mo rx q => by
  unfold allM at q
  split at q
  · cases rx with
    | cons r1 r2 =>
      cases r2
      cases r1 with
      | lst h1 h2 =>
        obtain ⟨bs, e, q⟩ := wpR.optF q
        have eb := h2.bools e
        subst eb
        exact ⟨_, bs, rfl, so.sqL h1, wpR.pure q so mo (.bl _)⟩
  · exact False.elim q
theorem cd_any : CbD C (rAny C.K) anyM := fun S μ ms H xs vs Q so mo rx q => by
  unfold anyM at q
  split at q
  · cases rx with
    | cons r1 r2 =>
      cases r2
      cases r1 with
      | lst h1 h2 =>
        obtain ⟨bs, e, q⟩ := wpR.optF q
        have eb := h2.bools e
        subst eb
        exact ⟨_, bs, rfl, so.sqL h1, wpR.pure q so mo (.bl _)⟩
  · exact False.elim q
def tupleM : List D → M D
  | [.list xs] => pure (.tuple xs)
  | [.tuple xs] => pure (.tuple xs)
  | _ => M.bad
theorem cd_tuple : CbD C (fun xs H Q => ∃ p ys, xs = [.ref p] ∧ ((SqL C.K H p ys ∧ ∀ l, H l = none → Q (.ref l) (upd H l (.tup ys))) ∨ (SqT C.K H p ys ∧ Q (.ref p) H))) tupleM := fun S μ ms H xs vs Q so mo rx q => by
  unfold tupleM at q
  split at q
  · cases rx with
    | cons r1 r2 =>
      cases r2
      cases r1 with
      | lst h1 h2 => exact ⟨_, _, rfl, .inl ⟨so.sqL h1, wpR.tup q so mo h2⟩⟩
  · cases rx with
    | cons r1 r2 =>
      cases r2
      cases r1 with
      | tup h1 h2 => exact ⟨_, _, rfl, .inr ⟨so.sqT h1, wpR.pure q so mo (.tup h1 h2)⟩⟩
  · exact False.elim q
def listM : List D → M D
  | [.list xs] => pure (.list xs)
  | [.tuple xs] => pure (.list xs)
  | _ => M.bad
theorem cd_list : CbD C (fun xs H Q => ∃ p ys, xs = [.ref p] ∧ (SqL C.K H p ys ∨ SqT C.K H p ys) ∧ ∀ l, H l = none → Q (.ref l) (upd H l (.lst ys))) listM := fun S μ ms H xs vs Q so mo rx q => by
  unfold listM at q
  split at q
  · cases rx with
    | cons r1 r2 =>
      cases r2
      cases r1 with
      | lst h1 h2 => exact ⟨_, _, rfl, .inl (so.sqL h1), wpR.lst q so mo h2⟩
  · cases rx with
    | cons r1 r2 =>
      cases r2
      cases r1 with
      | tup h1 h2 => exact ⟨_, _, rfl, .inr (so.sqT h1), wpR.lst q so mo h2⟩
  · exact False.elim q
def intM : List D → M D
  | [.int i] => pure (.int i)
  | [.bool b] => pure (.int (if b = true then 1 else 0))
  | _ => M.bad
theorem cd_int : CbD C (fun xs H Q => (∃ i, xs = [V.int i] ∧ Q (.int i) H) ∨ ∃ k, xs = [V.bl k] ∧ Q (.int (if k = true then 1 else 0)) H) intM := fun S μ ms H xs vs Q so mo rx q => by
  unfold intM at q
  split at q
  · cases rx with
    | cons r1 r2 => cases r2; cases r1; exact .inl ⟨_, rfl, wpR.pure q so mo (.int _)⟩
  · cases rx with
    | cons r1 r2 => cases r2; cases r1; exact .inr ⟨_, rfl, wpR.pure q so mo (.int _)⟩
  · exact False.elim q
def strM : List D → M D
  | [.int i] => if i.natAbs.log2 < 1920 then pure (.str (toString i)) else M.bad
  | _ => M.bad
theorem cd_str : CbD C (fun xs H Q => ∃ i, xs = [V.int i] ∧ i.natAbs.log2 < 1920 ∧ Q (.str (toString i)) H) strM := fun S μ ms H xs vs Q so mo rx q => by
  unfold strM at q
  split at q
  · obtain ⟨c, q⟩ := wpR.ifbad q
    cases rx with
    | cons r1 r2 => cases r2; cases r1; exact ⟨_, rfl, c, wpR.pure q so mo (.str _)⟩
  · exact False.elim q
def min2M : List D → M D
  | [.int i, .int j] => pure (.int (if j < i then j else i))
  | _ => M.bad
theorem cd_min2 : CbD C (fun xs H Q => ∃ i j, xs = [V.int i, V.int j] ∧ Q (.int (if j < i then j else i)) H) min2M := fun S μ ms H xs vs Q so mo rx q => by
  unfold min2M at q
  split at q
  · cases rx with
    | cons r1 r2 =>
      cases r2 with
      | cons r3 r4 => cases r4; cases r1; cases r3; exact ⟨_, _, rfl, wpR.pure q so mo (.int _)⟩
  · exact False.elim q
def intsD : List D → Option (List Int)
  | [] => some []
  | .int b :: r => (intsD r).map (b :: ·)
  | _ => none
theorem RpL.ints {K : PySem.W.Frag} {w : World} {μ : List Addr} {S : Hp} : ∀ {ds : List D} {vs : List V} {bs : List Int}, RpL K w μ S ds vs → intsD ds = some bs → vs = bs.map V.int
  | [], _, _, h, e => by cases h; cases e; rfl
  | .int b :: r, _, _, h, e => by
    cases h with
    | cons h1 h2 =>
      cases h1
      unfold intsD at e
      cases z : intsD r with
      | none => rw [z] at e; cases e
      | some cs => rw [z] at e; cases e; rw [RpL.ints h2 z]; rfl
  | .none :: r, _, _, h, e => by cases e
  | .bool _ :: r, _, _, h, e => by cases e
  | .str _ :: r, _, _, h, e => by cases e
  | .list _ :: r, _, _, h, e => by cases e
  | .tuple _ :: r, _, _, h, e => by cases e
  | .dict _ :: r, _, _, h, e => by cases e
def sumM : List D → M D
  | [.list xs] => M.optF (fun bs => .int bs.sum) (intsD xs)
  | _ => M.bad
theorem cd_sum : CbD C (rSum C.K) sumM := fun S μ ms H xs vs Q so mo rx q => by
  unfold sumM at q
  split at q
  · cases rx with
    | cons r1 r2 =>
      cases r2
      cases r1 with
      | lst h1 h2 =>
        obtain ⟨bs, e, q⟩ := wpR.optF q
        have eb := h2.ints e
        subst eb
        exact ⟨_, bs, rfl, so.sqL h1, wpR.pure q so mo (.int _)⟩
  · exact False.elim q
end
end Pf
set_option Elab.async false
set_option linter.all false
set_option maxRecDepth 100000
set_option maxHeartbeats 4000000
namespace Pf
open PySem PySem.Spec PyProof.Rows L2

/-! ### isinstance of a built-in class -/
def tyD : D → Option String
  | .none => some "NoneType"
  | .bool _ => some "bool"
  | .int _ => some "int"
  | .str _ => some "str"
  | .list _ => some "list"
  | .tuple _ => some "tuple"
  | .dict _ => none
def isiM (T : String) (d : D) : M D := M.optF PyData.bool ((tyD d).bind fun t => kitB t T)
section
variable {X : Cx} {C : Ct} {ρ : List Ent}
theorem Rp.tyx {S H : Hp} {μ : List Addr} (so : SOk C S H) {d : D} {v : V} {t : String} (h : Rp C.K C.w μ S d v) (e : tyD d = some t) : TyX C.K H v (.type t) := by
  cases d with
  | none => cases h; cases e; exact .base .non
  | bool b => cases h; cases e; exact .base (.bl b)
  | int b => cases h; cases e; exact .base (.int b)
  | str b => cases h; cases e; exact .base (.str b)
  | list ds =>
    cases e
    cases h with
    | lst h1 h2 =>
      rcases so.lst h1 with q | ⟨o, q⟩
      · exact .base (.lst q)
      · exact .base (.frz q)
  | tuple ds =>
    cases e
    cases h with
    | tup h1 h2 =>
      rcases so.sqT h1 with (q | ⟨o, q⟩) | ⟨o, its, n, q, qc, _⟩
      · exact .base (.tup q)
      · exact .fTuple q
      · exact .kTuple q qc
  | dict kvs => cases e
theorem de_isi {e : Expr} {me : M D} {T : String} {t : Str} {p p2 pos : Pos} (ha : PE X e (denE C ρ me)) (hg : Gl X "isinstance") (hm : X.mg "isinstance" = none) (hv : bootBuiltins "isinstance" = some (.builtin "isinstance"))
    (hgT : Gl X t) (hmT : X.mg t = none) (hvT : bootBuiltins t = some (.type T)) (hK : X.K = C.K := by rfl) (hnT : t ≠ "__name__" := by decide) (hdT : (t == ("__debug__" : Str)) = false := by decide)
    (hst : starEach [e, .Name t p2] X.env = (false, eval e X.env) :: starEach [.Name t p2] X.env := by rfl) :
    PE X (.Call (.Name "isinstance" p) [e, .Name t p2] [] pos) (denE C ρ (do let x ← me; isiM T x)) :=
  (pe_callB call_isi hg hm hv (pa_cons ha (pa_cons (pe_bltn (v := .ty T) hgT hmT hvT rfl hnT hdT) pa_nil) hst) (he := hst)).wk fun σ H Q h => by
    refine denG.bind h fun x v S1 μ1 ms1 H1 so1 mo1 en1 r1 q1 => ?_
    obtain ⟨b, eb, q⟩ := wpR.optF q1
    cases ez : tyD x with
    | none => rw [ez] at eb; cases eb
    | some t' =>
      rw [ez] at eb
      exact ⟨v, .ty T, .type t', .type T, b, rfl, .ty T, by rw [hK]; exact r1.tyx so1 ez, kit_ty eb, wpR.pure q so1 mo1 (.bl b)⟩
end

/-! ### a def's promise -/
def spec (K : PySem.W.Frag) (w : World) (mg : Str → Option Value) (T : List (Addr × Str)) (g : List D → M D) : Sp := fun vs H Q E =>
  ∃ ds S μ ms, SOk ⟨K, w, mg, T, E⟩ S H ∧ MsOk ⟨K, w, mg, T, E⟩ S μ ms H ∧ RpL K w μ S ds vs ∧ wpR ⟨K, w, mg, T, E⟩ (relD ⟨K, w, mg, T, E⟩) S μ H (g ds ms) Q
section
variable {X : Cx} {C : Ct} {ρ : List Ent} {k : Nat} {f : Addr} {fd : FuncData} {ps : List Str} {g : List D → M D} {x : Str} {p pos : Pos} {e : Expr} {es : List Expr} {ma : M (List D)}
theorem de_call (F : FnOk X.prog X.w X.K X.mg X.base (L2.CX X.prog X.w) k f fd ps (spec C.K C.w C.mg C.T g)) (hr : Room k X.A) (hg : Gl X x) (hm : X.mg x = some (.ref f)) (hk : PySem.W.keepIn X.K (.ref f) = true) (hb : Binds X.K fd ps []) (hx : Passes (L2.CX X.prog X.w) X C.E)
    (ha : PA X (e :: es) (denA C ρ ma)) (hdb : (x == ("__debug__" : Str)) = false := by decide) (he : starEach (e :: es) X.env = (false, eval e X.env) :: starEach es X.env := by rfl) (hpl : (backTo pos (starEach es X.env)).any (·.1) = false := by rfl) :
    PE X (.Call (.Name x p) (e :: es) [] pos) (denE C ρ (do let xs ← ma; g xs)) := (pe_call F hr hg hm hk hb .nil hx ha hdb he hpl).wk fun σ H Q h =>
  denG.bind h fun xs vs S1 μ1 ms1 H1 so1 mo1 en1 r1 q1 => ⟨xs, S1, μ1, ms1, so1, mo1, by rw [List.append_nil]; exact r1, q1⟩
theorem de_call0 (F : FnOk X.prog X.w X.K X.mg X.base (L2.CX X.prog X.w) k f fd ps (spec C.K C.w C.mg C.T g)) (hr : Room k X.A) (hg : Gl X x) (hm : X.mg x = some (.ref f)) (hk : PySem.W.keepIn X.K (.ref f) = true) (hb : Binds X.K fd ps []) (hx : Passes (L2.CX X.prog X.w) X C.E)
    (hdb : (x == ("__debug__" : Str)) = false := by decide) : PE X (.Call (.Name x p) [] [] pos) (denE C ρ (g [])) := (pe_call0 F hr hg hm hk hb .nil hx hdb).wk fun σ H Q ⟨S, μ, ms, so, mo, en, q⟩ =>
  ⟨[], S, μ, ms, so, mo, .nil, q⟩
end

/-! ### what is walked -/
def IterOk (C : Ct) (μ : List Addr) (S : Hp) (ds : List D) (J : It) : Prop :=
  ∀ (i : Nat) (S' : Hp) (μ' : List Addr) (H' : Hp), SubH S S' → SubM μ μ' → SOk C S' H' →
    (i < ds.length → J.go i H' ∧ ∀ x H'', J.yld i H' x H'' → ∃ S'', Grow S' μ' H' S'' μ' H'' ∧ SOk C S'' H'' ∧ (∀ ms, MsOk C S' μ' ms H' → MsOk C S'' μ' ms H'') ∧ ∃ d, ds[i]? = some d ∧ Rp C.K C.w μ' S'' d x) ∧
    (ds.length ≤ i → J.stop i H')
abbrev denI (C : Ct) (ρ : List Ent) (m : M (List D)) : TI := denG C (IterOk C) ρ m
section
variable {X : Cx} {C : Ct} {ρ : List Ent} {tg : Expr}
theorem _root_.L2.PI.wk {X : Cx} {tg e : Expr} {t t' : TI} (h : PI X tg e t) (f : ∀ σ H Q, t' σ H Q → t σ H Q) : PI X tg e t' := ⟨fun pins s σ H Q I q => h.run pins s σ H Q I (f σ H Q q)⟩
def iSeqP (K : PySem.W.Frag) (tl : TE) : TI := fun σ H R => tl σ H fun x H1 => ∃ a, x = .ref a ∧ (((∃ xs, SqL K H1 a xs) ∧ R (Itl K a) H1) ∨ ((∃ xs, SqT K H1 a xs) ∧ R (Itt K a) H1))
theorem pi_seqP {l : Expr} {tl : TE} (hl : PE X l tl) : PI X tg l (iSeqP X.K tl) := by
  refine ⟨fun pins s σ H R I h => ?_⟩
  refine thn (hl.run pins s σ H _ I h) fun v s1 ⟨x, H1, I1, r1, q1⟩ => ?_
  obtain ⟨a, e, q⟩ := q1
  subst e
  cases r1
  rcases q with ⟨⟨xs, hq⟩, q⟩ | ⟨⟨xs, hq⟩, q⟩
  · obtain ⟨its, rv, p, hz⟩ := I1.list hq
    refine wpAny_pyIter_list p.isList ?_
    refine ⟨s1.heap.objs.size, [s1.heap.objs.size], _, _, H1, rfl, I1.kept (t' := s1.toks) fun b o e => Heap.get?_push_of_some _ e, turn_list a _, ⟨_, Heap.get?_push_size _ rfl, rfl, rfl⟩, fun b hb => ?_, q⟩
    have e : b = s1.heap.objs.size := by simpa using hb
    subst e
    exact I1.fpOk (Nat.le_refl _) (I1.hok.fresh (Nat.le_refl _))
  · obtain ⟨its, rv, p, hz⟩ := I1.tuple hq
    refine wpAny_pyIter_tuple (show s1.heap.IsTuple a its.toArray from p) ?_
    refine ⟨s1.heap.objs.size, [s1.heap.objs.size], _, _, H1, rfl, I1.kept (t' := s1.toks) fun b o e => Heap.get?_push_of_some _ e, turn_tuple a _, ⟨_, Heap.get?_push_size _ rfl, rfl, rfl⟩, fun b hb => ?_, q⟩
    have e : b = s1.heap.objs.size := by simpa using hb
    subst e
    exact I1.fpOk (Nat.le_refl _) (I1.hok.fresh (Nat.le_refl _))
def itemsM : D → M (List D)
  | .list xs => pure xs
  | .tuple xs => pure xs
  | _ => M.bad
theorem MsOk.keep {S H : Hp} {μ : List Addr} : ∀ ms, MsOk C S μ ms H → MsOk C S μ ms H := fun _ h => h
theorem iter_lst {S : Hp} {μ : List Addr} {a : Addr} {vs : List V} {ds : List D} (h1 : Rd S a (.lst vs)) (h2 : RpL C.K C.w μ S ds vs) : IterOk C μ S ds (Itl C.K a) := fun i S' μ' H' s m so => by
  have hq : SqL C.K H' a vs := so.sqL (s.rd h1)
  refine ⟨fun hi => ?_, fun hi => ⟨vs, hq, by rw [← h2.len]; exact hi⟩⟩
  obtain ⟨v, e1, e2⟩ := h2.get (List.getElem?_eq_getElem hi)
  refine ⟨⟨vs, v, hq, e1⟩, fun x H'' ⟨eH, ex⟩ => ?_⟩
  subst eH
  have e3 : some v = some x := e1.symm.trans (ex vs hq)
  cases e3
  exact ⟨S', .refl _ _ _, so, fun _ h => h, ds[i], by simp [hi], e2.mono s m _ _⟩
theorem iter_tup {S : Hp} {μ : List Addr} {a : Addr} {vs : List V} {ds : List D} (h1 : SqT C.K S a vs) (h2 : RpL C.K C.w μ S ds vs) : IterOk C μ S ds (Itt C.K a) := fun i S' μ' H' s m so => by
  have hq : SqT C.K H' a vs := so.sqT (s.sqT h1)
  refine ⟨fun hi => ?_, fun hi => ⟨vs, hq, by rw [← h2.len]; exact hi⟩⟩
  obtain ⟨v, e1, e2⟩ := h2.get (List.getElem?_eq_getElem hi)
  refine ⟨⟨vs, v, hq, e1⟩, fun x H'' ⟨eH, ex⟩ => ?_⟩
  subst eH
  have e3 : some v = some x := e1.symm.trans (ex vs hq)
  cases e3
  exact ⟨S', .refl _ _ _, so, fun _ h => h, ds[i], by simp [hi], e2.mono s m _ _⟩
theorem di_seq {l : Expr} {m : M D} (hl : PE X l (denE C ρ m)) (hK : X.K = C.K := by rfl) : PI X tg l (denI C ρ (do let x ← m; itemsM x)) := (pi_seqP hl).wk fun σ H R h => by
  refine denG.bind h fun x v S1 μ1 ms1 H1 so1 mo1 en1 r1 q1 => ?_
  rw [hK]
  cases x with
  | list xs =>
    cases r1 with
    | lst h1 h2 => exact ⟨_, rfl, .inl ⟨⟨_, so1.sqL h1⟩, wpR.pure q1 so1 mo1 (iter_lst h1 h2)⟩⟩
  | tuple xs =>
    cases r1 with
    | tup h1 h2 => exact ⟨_, rfl, .inr ⟨⟨_, so1.sqT h1⟩, wpR.pure q1 so1 mo1 (iter_tup h1 h2)⟩⟩
  | _ => exact False.elim q1
/-- range -/
def rangeD (lo : Int) (n : Nat) : List D := (List.range n).map fun (i : Nat) => PyData.int (lo + (i : Int))
def smI (i : Int) : Prop := -(2 ^ 62) ≤ i ∧ i < 2 ^ 62
instance (i : Int) : Decidable (smI i) := by unfold smI; infer_instance
def range1M : List D → M (List D)
  | [.int j] => if smI j then pure (rangeD 0 j.toNat) else M.bad
  | _ => M.bad
def range2M : List D → M (List D)
  | [.int i, .int j] => if smI i ∧ smI j then pure (rangeD i (j - i).toNat) else M.bad
  | _ => M.bad
theorem iter_rng {S : Hp} {μ : List Addr} {lo : Int} {n : Nat} : IterOk C μ S (rangeD lo n) (Itr lo n) := fun i S' μ' H' s m so => by
  have hl : (rangeD lo n).length = n := by simp [rangeD]
  rw [hl]
  refine ⟨fun hi => ⟨hi, fun x H'' ⟨eH, ex⟩ => ?_⟩, fun hi => hi⟩
  subst eH ex
  exact ⟨S', .refl _ _ _, so, fun _ h => h, .int (lo + i), by simp [rangeD, hi], .int _⟩
theorem di_range1 {a : Expr} {ma : M (List D)} {p pos : Pos} (hg : Gl X "range") (hm : X.mg "range" = none) (ha : PA X [a] (denA C ρ ma)) (hs : starEach [a] X.env = [(false, eval a X.env)] := by rfl) :
    PI X tg (.Call (.Name "range" p) [a] [] pos) (denI C ρ (do let xs ← ma; range1M xs)) := (pi_range1 hg hm ha hs).wk fun σ H R h => by
  refine denG.bind h fun x v S1 μ1 ms1 H1 so1 mo1 en1 r1 q1 => ?_
  unfold range1M at q1
  split at q1
  · obtain ⟨⟨c1, c2⟩, q⟩ := wpR.ifbad q1
    cases r1 with
    | cons r1 r2 => cases r2; cases r1; exact ⟨_, rfl, c1, c2, wpR.pure q so1 mo1 iter_rng⟩
  · exact False.elim q1
theorem di_range2 {a b : Expr} {ma : M (List D)} {p pos : Pos} (hg : Gl X "range") (hm : X.mg "range" = none) (ha : PA X [a, b] (denA C ρ ma)) (hs : starEach [a, b] X.env = [(false, eval a X.env), (false, eval b X.env)] := by rfl) (hs2 : starEach [b] X.env = [(false, eval b X.env)] := by rfl) :
    PI X tg (.Call (.Name "range" p) [a, b] [] pos) (denI C ρ (do let xs ← ma; range2M xs)) := (pi_range2 hg hm ha hs hs2).wk fun σ H R h => by
  refine denG.bind h fun x v S1 μ1 ms1 H1 so1 mo1 en1 r1 q1 => ?_
  unfold range2M at q1
  split at q1
  · obtain ⟨⟨⟨c1, c2⟩, c3, c4⟩, q⟩ := wpR.ifbad q1
    cases r1 with
    | cons r1 r2 =>
      cases r2 with
      | cons r3 r4 => cases r4; cases r1; cases r3; exact ⟨_, _, rfl, ⟨c1, c2, c3, c4⟩, wpR.pure q so1 mo1 iter_rng⟩
  · exact False.elim q1
/-- zip of two lists, of two tuples -/
def zipD (xs ys : List D) : List D := (List.zip xs ys).map fun p => .tuple [p.1, p.2]
def zipM : List D → M (List D)
  | [.list xs, .list ys] => pure (zipD xs ys)
  | [.tuple xs, .tuple ys] => pure (zipD xs ys)
  | _ => M.bad
theorem zip_step {S' H' : Hp} {μ' : List Addr} (so : SOk C S' H') {xs ys : List D} {vs us : List V} (h2 : RpL C.K C.w μ' S' xs vs) (g2 : RpL C.K C.w μ' S' ys us) {i : Nat} (hi : i < (zipD xs ys).length) {T : Addr} {x y : V} (hT : H' T = none) (ex : vs[i]? = some x) (ey : us[i]? = some y) :
    ∃ S'', Grow S' μ' H' S'' μ' (upd H' T (.tup [x, y])) ∧ SOk C S'' (upd H' T (.tup [x, y])) ∧ (∀ ms, MsOk C S' μ' ms H' → MsOk C S'' μ' ms (upd H' T (.tup [x, y]))) ∧ ∃ d, (zipD xs ys)[i]? = some d ∧ Rp C.K C.w μ' S'' d (.ref T) := by
  have hl : i < xs.length ∧ i < ys.length := by
    have hi' : i < min xs.length ys.length := by simpa [zipD] using hi
    exact ⟨by omega, by omega⟩
  obtain ⟨v, e1, e2⟩ := h2.get (List.getElem?_eq_getElem hl.1)
  obtain ⟨u, f1, f2⟩ := g2.get (List.getElem?_eq_getElem hl.2)
  rw [ex] at e1; cases e1
  rw [ey] at f1; cases f1
  have sn : SubH S' (upd S' T (.tup [x, y])) := subH_new (so.free hT)
  refine ⟨upd S' T (.tup [x, y]), Grow.new so _ hT, so.new hT (fun ps q => by cases q), fun ms mo => mo.new so _ hT, .tuple [xs[i], ys[i]], by simp [zipD, List.getElem?_zip_eq_some, hl.1, hl.2], .tup (.inl (.inl upd_same)) (.cons (e2.mono sn (.refl _) _ _) (.cons (f2.mono sn (.refl _) _ _) .nil))⟩
theorem di_zip {e e2 : Expr} {ma : M (List D)} {p pos tpos : Pos} {elts : List Expr} {kk : Nat} (hg : Gl X "zip") (hm : X.mg "zip" = none) (ha : PA X [e, e2] (denA C ρ ma)) (hK : X.K = C.K := by rfl)
    (hs : starEach [e, e2] X.env = (false, eval e X.env) :: starEach [e2] X.env := by rfl) (hpl : (backTo pos (starEach [e2] X.env)).any (·.1) = false := by rfl) :
    PI X (.Tuple elts kk tpos) (.Call (.Name "zip" p) [e, e2] [] pos) (denI C ρ (do let xs ← ma; zipM xs)) := (RZ.pi_zipA hg hm ha hs hpl).wk fun σ H R h => by
  refine denG.bind h fun x v S1 μ1 ms1 H1 so1 mo1 en1 r1 q1 => ?_
  rw [hK]
  unfold zipM at q1
  split at q1
  · rename_i xs ys
    cases r1 with
    | cons r1 r2 =>
      cases r2 with
      | cons r3 r4 =>
        cases r4
        cases r1 with
        | @lst a vs _ h1 h2 =>
          cases r3 with
          | @lst b us _ g1 g2 =>
            refine ⟨a, b, vs, us, rfl, .inl ⟨so1.sqL h1, so1.sqL g1, wpR.pure q1 so1 mo1 fun i S' μ' H' s m so => ?_⟩⟩
            have hq : SqL C.K H' a vs := so.sqL (s.rd h1)
            have gq : SqL C.K H' b us := so.sqL (s.rd g1)
            have hl : (zipD xs ys).length = min vs.length us.length := by simp [zipD, h2.len, g2.len]
            refine ⟨fun hi => ?_, fun hi => ⟨vs, us, hq, gq, by omega⟩⟩
            have hv : i < vs.length := by omega
            have hu : i < us.length := by omega
            refine ⟨⟨vs, us, vs[i], us[i], hq, gq, by simp, by simp⟩, fun x H'' ⟨T, x1, y1, e1, e2, e3, e4, e5⟩ => ?_⟩
            subst e1 e3
            exact zip_step so (h2.mono s m _ _) (g2.mono s m _ _) hi e2 (e4 _ hq) (e5 _ gq)
  · rename_i xs ys
    cases r1 with
    | cons r1 r2 =>
      cases r2 with
      | cons r3 r4 =>
        cases r4
        cases r1 with
        | @tup a vs _ h1 h2 =>
          cases r3 with
          | @tup b us _ g1 g2 =>
            refine ⟨a, b, vs, us, rfl, .inr ⟨so1.sqT h1, so1.sqT g1, wpR.pure q1 so1 mo1 fun i S' μ' H' s m so => ?_⟩⟩
            have hq : SqT C.K H' a vs := so.sqT (s.sqT h1)
            have gq : SqT C.K H' b us := so.sqT (s.sqT g1)
            have hl : (zipD xs ys).length = min vs.length us.length := by simp [zipD, h2.len, g2.len]
            refine ⟨fun hi => ?_, fun hi => ⟨vs, us, hq, gq, by omega⟩⟩
            have hv : i < vs.length := by omega
            have hu : i < us.length := by omega
            refine ⟨⟨vs, us, vs[i], us[i], hq, gq, by simp, by simp⟩, fun x H'' ⟨T, x1, y1, e1, e2, e3, e4, e5⟩ => ?_⟩
            subst e1 e3
            exact zip_step so (h2.mono s m _ _) (g2.mono s m _ _) hi e2 (e4 _ hq) (e5 _ gq)
  · exact False.elim q1

/-! ### targets -/
inductive Pat where
  | nm (i : Nat)
  | tp (ps : List Pat)
mutual
def patD : Pat → D → Option (List D)
  | .nm _, d => some [d]
  | .tp ps, .tuple ds => patL ps ds
  | .tp _, _ => none
def patL : List Pat → List D → Option (List D)
  | [], [] => some []
  | p :: ps, d :: ds => match patD p d, patL ps ds with
    | some a, some b => some (a ++ b)
    | _, _ => none
  | _, _ => none
end
mutual
def slots : Pat → List Nat
  | .nm i => [i]
  | .tp ps => slotsL ps
def slotsL : List Pat → List Nat
  | [] => []
  | p :: ps => slots p ++ slotsL ps
end
def setV : L2.St → List Nat → List V → L2.St
  | σ, i :: is, v :: vs => setV (σ.set i (some v)) is vs
  | σ, _, _ => σ
def setE : List Ent → List Nat → List D → List Ent
  | ρ, i :: is, d :: ds => setE (ρ.set i (.sh d)) is ds
  | ρ, _, _ => ρ
theorem EnvOk.set {F : Addr → Prop} {S H : Hp} {μ : List Addr} {σ : L2.St} {i : Nat} {d : D} {v : V} (e : EnvOk C F S μ H ρ σ) (r : Rp C.K C.w μ S d v) : EnvOk C F S μ H (ρ.set i (.sh d)) (σ.set i (some v)) := by
  have hl := e.len
  refine ⟨fun j d' h => ?_, fun j en h1 h2 => ?_, by simp [e.len], fun j j' en en' a hne h1 h2 h3 h4 h5 => ?_⟩
  · by_cases hj : i = j
    · subst hj
      by_cases hi : i < ρ.length
      · rw [List.getElem?_set_self hi] at h
        cases h
        exact ⟨v, by rw [List.getElem?_set_self (by omega)], r⟩
      · rw [List.getElem?_eq_none (by simpa using hi)] at h; cases h
    · rw [List.getElem?_set_ne hj] at h
      obtain ⟨v', q1, q2⟩ := e.sh j d' h
      exact ⟨v', by rw [List.getElem?_set_ne hj]; exact q1, q2⟩
  · by_cases hj : i = j
    · subst hj
      by_cases hi : i < ρ.length
      · rw [List.getElem?_set_self hi] at h1
        cases h1; cases h2
      · rw [List.getElem?_eq_none (by simpa using hi)] at h1; cases h1
    · rw [List.getElem?_set_ne hj] at h1
      obtain ⟨a, ho, q⟩ := e.ow j en h1 h2
      exact ⟨a, ho, by rw [List.getElem?_set_ne hj]; exact q.1, q.2⟩
  · have nj : ∀ {k : Nat} {en : Ent}, (ρ.set i (.sh d))[k]? = some en → en.own = true → i ≠ k := fun {k en} g1 g2 z => by
      subst z
      by_cases hi : i < ρ.length
      · rw [List.getElem?_set_self hi] at g1
        cases g1; cases g2
      · rw [List.getElem?_eq_none (by simpa using hi)] at g1; cases g1
    have n1 := nj h1 h2
    have n2 := nj h3 h4
    rw [List.getElem?_set_ne n1] at h1 h5
    rw [List.getElem?_set_ne n2] at h3 ⊢
    exact e.ne j j' en en' a hne h1 h2 h3 h4 h5
theorem EnvOk.setL {F : Addr → Prop} {S H : Hp} {μ : List Addr} : ∀ {is : List Nat} {ds : List D} {vs : List V} {ρ : List Ent} {σ : L2.St}, EnvOk C F S μ H ρ σ → RpL C.K C.w μ S ds vs → EnvOk C F S μ H (setE ρ is ds) (setV σ is vs)
  | [], _, _, _, _, e, _ => by unfold setE setV; exact e
  | i :: is, [], _, _, _, e, h => by cases h; unfold setE setV; exact e
  | i :: is, d :: ds, _, _, _, e, h => by
    cases h with
    | cons h1 h2 =>
      unfold setE setV
      exact EnvOk.setL (e.set h1) h2
theorem setV_app : ∀ {is js : List Nat} {vs us : List V} {σ : L2.St}, is.length = vs.length → setV σ (is ++ js) (vs ++ us) = setV (setV σ is vs) js us
  | [], js, [], us, σ, _ => by simp [setV]
  | i :: is, js, v :: vs, us, σ, h => by
    simp only [List.cons_append, setV]
    exact setV_app (by simpa using h)
  | [], _, _ :: _, _, _, h => by simp at h
  | _ :: _, _, [], _, _, h => by simp at h
theorem setE_app : ∀ {is js : List Nat} {vs us : List D} {ρ : List Ent}, is.length = vs.length → setE ρ (is ++ js) (vs ++ us) = setE (setE ρ is vs) js us
  | [], js, [], us, σ, _ => by simp [setE]
  | i :: is, js, v :: vs, us, σ, h => by
    simp only [List.cons_append, setE]
    exact setE_app (by simpa using h)
  | [], _, _ :: _, _, _, h => by simp at h
  | _ :: _, _, [], _, _, h => by simp at h
mutual
theorem patD_len : ∀ (p : Pat) (d : D) (ds : List D), patD p d = some ds → ds.length = (slots p).length
  | .nm i, d, ds, h => by simp only [patD, Option.some.injEq] at h; subst h; simp [slots]
  | .tp ps, .tuple es, ds, h => by simp only [patD] at h; simp only [slots]; exact patL_len ps es ds h
  | .tp ps, .none, ds, h => by simp [patD] at h
  | .tp ps, .bool _, ds, h => by simp [patD] at h
  | .tp ps, .int _, ds, h => by simp [patD] at h
  | .tp ps, .str _, ds, h => by simp [patD] at h
  | .tp ps, .list _, ds, h => by simp [patD] at h
  | .tp ps, .dict _, ds, h => by simp [patD] at h
theorem patL_len : ∀ (ps : List Pat) (es : List D) (ds : List D), patL ps es = some ds → ds.length = (slotsL ps).length
  | [], [], ds, h => by simp only [patL, Option.some.injEq] at h; subst h; simp [slotsL]
  | p :: ps, e :: es, ds, h => by
    unfold patL at h
    cases h1 : patD p e with
    | none => rw [h1] at h; simp at h
    | some a =>
      cases h2 : patL ps es with
      | none => rw [h1, h2] at h; simp at h
      | some b =>
        rw [h1, h2] at h
        simp only [Option.some.injEq] at h
        subst h
        simp only [slotsL, List.length_append]
        rw [patD_len p e a h1, patL_len ps es b h2]
  | [], _ :: _, ds, h => by simp [patL] at h
  | _ :: _, [], ds, h => by simp [patL] at h
end
theorem patL_same : ∀ (ps : List Pat) (es : List D) (ds : List D), patL ps es = some ds → es.length = ps.length
  | [], [], ds, h => rfl
  | p :: ps, e :: es, ds, h => by
    unfold patL at h
    cases h2 : patL ps es with
    | none => rw [h2] at h; cases z : patD p e <;> rw [z] at h <;> simp at h
    | some b => simp [patL_same ps es b h2]
  | [], _ :: _, ds, h => by simp [patL] at h
  | _ :: _, [], ds, h => by simp [patL] at h
def gD (C : Ct) (p : Pat) : TG := fun v σ H Q => ∃ S μ d ds, SOk C S H ∧ Rp C.K C.w μ S d v ∧ patD p d = some ds ∧ ∀ vs, RpL C.K C.w μ S ds vs → Q (setV σ (slots p) vs) H
def gDs (C : Ct) (ps : List Pat) : TGs := fun us σ H Q => ∃ S μ es ds, SOk C S H ∧ RpL C.K C.w μ S es us ∧ patL ps es = some ds ∧ ∀ vs, RpL C.K C.w μ S ds vs → Q (setV σ (slotsL ps) vs) H
theorem _root_.L2.PG.wk {X : Cx} {e : Expr} {t t' : TG} (h : PG X e t) (f : ∀ v σ H Q, t' v σ H Q → t v σ H Q) : PG X e t' := ⟨fun pins s σ H v u Q I r q => h.run pins s σ H v u Q I r (f v σ H Q q)⟩
theorem _root_.L2.PGs.wk {X : Cx} {e : List Expr} {t t' : TGs} (h : PGs X e t) (f : ∀ v σ H Q, t' v σ H Q → t v σ H Q) : PGs X e t' := ⟨fun pins s σ H v u Q I r q => h.run pins s σ H v u Q I r (f v σ H Q q)⟩
theorem dg_name {i : Nat} {x : Str} {pos : Pos} (hN : X.N.Nodup) (hi : X.N[i]? = some x := by rfl) (hx : Loc X.env.scope x := by first | exact Or.inl rfl | exact Or.inr rfl) (hf : X.fn x = true ∨ X.env.scope.names.lookup x = some .local := by first | exact .inl rfl | exact .inr rfl) :
    PG X (.Name x pos) (gD C (.nm i)) := (pg_name hN hi hx hf).wk fun v σ H Q ⟨S, μ, d, ds, so, r, e, q⟩ => by
  simp only [patD, Option.some.injEq] at e
  subst e
  have q := q [v] (.cons r .nil)
  simp only [slots, setV] at q
  exact q
theorem dgs_nil : PGs X [] (gDs C []) := pgs_nil.wk fun vs σ H Q ⟨S, μ, es, ds, so, r, e, q⟩ => by
  cases es with
  | nil =>
    cases r
    simp only [patL, Option.some.injEq] at e
    subst e
    exact ⟨rfl, by simpa [slotsL, setV] using q [] .nil⟩
  | cons d es => simp [patL] at e
theorem dgs_cons {e : Expr} {es : List Expr} {p : Pat} {ps : List Pat} (h1 : PG X e (gD C p)) (h2 : PGs X es (gDs C ps))
    (hs : (assignEach (e :: es) X.env).map (·.2) = assign e X.env :: (assignEach es X.env).map (·.2) := by rfl) : PGs X (e :: es) (gDs C (p :: ps)) := (pgs_cons h1 h2 hs).wk fun us σ H Q ⟨S, μ, dl, ds, so, r, e, q⟩ => by
  cases dl with
  | nil => simp [patL] at e
  | cons d dl =>
    cases r with
    | cons r1 r2 =>
      unfold patL at e
      cases e1 : patD p d with
      | none => rw [e1] at e; simp at e
      | some a =>
        cases e2 : patL ps dl with
        | none => rw [e1, e2] at e; simp at e
        | some b =>
          rw [e1, e2] at e
          simp only [Option.some.injEq] at e
          subst e
          refine ⟨_, _, rfl, S, μ, d, a, so, r1, e1, fun vs hv => ⟨S, μ, dl, b, so, r2, e2, fun ws hw => ?_⟩⟩
          have q := q (vs ++ ws) (hv.app hw)
          simp only [slotsL] at q
          rw [setV_app (by rw [← patD_len p d a e1, hv.len])] at q
          exact q
theorem dg_tup {es : List Expr} {k : Nat} {ps : List Pat} {pos : Pos} (hc : X.calm = true) (h : PGs X es (gDs C ps)) (hK : X.K = C.K := by rfl)
    (hn : (assignEach es X.env).length = ps.length := by rfl) (hst : (assignEach es X.env).findIdx? (·.1) = none := by rfl) : PG X (.Tuple es k pos) (gD C (.tp ps)) := (pg_tup hc h hn hst).wk fun v σ H Q ⟨S, μ, d, ds, so, r, e, q⟩ => by
  cases d with
  | tuple dl =>
    simp only [patD] at e
    cases r with
    | tup h1 h2 =>
      refine ⟨_, _, rfl, by rw [hK]; exact so.sqT h1, ?_, S, μ, dl, ds, so, h2, e, by simpa only [slots] using q⟩
      rw [← h2.len, patL_same ps dl ds e]
  | _ => simp [patD] at e
end
end Pf
set_option Elab.async false
set_option linter.all false
set_option maxRecDepth 100000
set_option maxHeartbeats 4000000
namespace Pf
open PySem PySem.Spec PyProof.Rows L2

/-! ### comprehensions -/
def M.noerr {α : Type} (m : M α) : M α := fun ms => match m ms with
  | .ok a ms' => .ok a ms'
  | _ => .bad
def M.opt {α : Type} : Option α → M α
  | some a => pure a
  | none => M.bad
abbrev Ct.noE (C : Ct) : Ct := ⟨C.K, C.w, C.mg, C.T, E0⟩
/-- [me for p in .. if mt] -/
def lcM (p : Pat) (mt : List D → M Bool) (me : List D → M D) : List D → M (List D)
  | [] => pure []
  | d :: r => do
    let ds ← M.opt (patD p d)
    let b ← M.noerr (mt ds)
    if b = true then do
      let y ← M.noerr (me ds)
      let ys ← lcM p mt me r
      pure (y :: ys)
    else lcM p mt me r
section
variable {C : Ct} {S H : Hp} {μ : List Addr}
theorem Grow.poke {S1 H1 : Hp} {μ1 : List Addr} {p : Addr} {o : HO} (g : Grow S1 μ1 H1 S μ H) (h1 : H1 p = none) : Grow S1 μ1 H1 S μ (L2.upd H p o) :=
  ⟨g.s, g.n, fun a u h hm ht => by rw [upd_ne (ne_of_none h h1)]; exact g.h a u h hm ht, fun a h => by
    by_cases e : a = p
    · subst e; exact absurd (Fr.of h1) h
    · exact fun z => g.t a h fun u q => z u (by rw [upd_ne e]; exact q), g.m⟩
/-- neither a table nor a code object -/
def NotTC (u : HO) : Prop := (∀ ps, u ≠ .tbl ps) ∧ ∀ c q, u ≠ LamX.CodeO c q
theorem ntc_lst {vs : List V} : NotTC (.lst vs) := ⟨fun ps z => (by cases z), fun c q z => (by unfold LamX.CodeO at z; cases z)⟩
theorem SOk.poke (so : SOk C S H) {p : Addr} {o u : HO} (h1 : S p = none) (hp : H p = some u) (ht : NotTC u) : SOk C S (L2.upd H p o) := by
  refine ⟨fun a v h => ?_, fun q hq => ?_, so.ntb⟩
  · rw [upd_ne (ne_of_none h h1)]; exact so.sub a v h
  · obtain ⟨ps, e1, e2, e3⟩ := so.tabs q hq
    refine ⟨ps, by rw [upd_ne (ne_of e1 hp fun z => ht.1 ps z.symm)]; exact e1, e2, fun pos cv hc => ?_⟩
    obtain ⟨c, q1, q2⟩ := e3 pos cv hc
    exact ⟨c, q1, by rw [upd_ne (ne_of q2 hp fun z => ht.2 c q.2 z.symm)]; exact q2⟩
theorem MsOk.poke {ms : Ms} (mo : MsOk C S μ ms H) {p : Addr} (o : HO) (hp : p ∉ μ) : MsOk C S μ ms (L2.upd H p o) := by
  refine ⟨mo.len, mo.nd, mo.out, fun n x a h1 h2 => ?_⟩
  obtain ⟨ho, q, r⟩ := mo.at_ n x a h1 h2
  refine ⟨ho, ?_, r⟩
  rw [upd_ne (fun z => hp (by rw [← z]; exact List.mem_of_getElem? h2))]; exact q
/-- a tracked thing of ours is handed over -/
theorem SOk.give (so : SOk C S H) {p : Addr} {u : HO} (h1 : S p = none) (hp : H p = some u) (ht : ∀ ps, u ≠ .tbl ps) : SOk C (L2.upd S p u) H := by
  refine ⟨fun a v h => ?_, so.tabs, fun a ps h => ?_⟩
  · by_cases e : a = p
    · subst e; rw [upd_same] at h; cases h; exact .inl hp
    · rw [upd_ne e] at h; exact so.sub a v h
  · by_cases e : a = p
    · subst e; rw [upd_same] at h; exact ht ps (Option.some.inj h)
    · rw [upd_ne e] at h; exact so.ntb a ps h
theorem MsOk.give {ms : Ms} (mo : MsOk C S μ ms H) {p : Addr} {u : HO} (h1 : S p = none) (hp : p ∉ μ) : MsOk C (L2.upd S p u) μ ms H := by
  refine ⟨mo.len, mo.nd, fun a h => ?_, fun n x a h2 h3 => ?_⟩
  · rw [upd_ne (fun z => hp (by rw [← z]; exact h))]; exact mo.out a h
  · obtain ⟨ho, q, r⟩ := mo.at_ n x a h2 h3
    exact ⟨ho, q, r.mono (subH_new h1) (.refl _)⟩
theorem Grow.give {S1 H1 : Hp} {μ1 : List Addr} {p : Addr} {u : HO} (g : Grow S1 μ1 H1 S μ H) (h1 : S p = none) (hp : H1 p = none) : Grow S1 μ1 H1 (L2.upd S p u) μ H :=
  ⟨g.s.trans (subH_new h1), fun a h => by
    by_cases e : a = p
    · subst e; exact .inr (Fr.of hp)
    · rw [upd_ne e] at h; exact g.n a h, g.h, g.t, g.m⟩
theorem Grow.sfree {S1 H1 : Hp} {μ1 : List Addr} {p : Addr} (g : Grow S1 μ1 H1 S μ H) (h1 : S1 p = none) (h2 : ¬ Fr H1 p) : S p = none := by
  cases z : S p with
  | none => rfl
  | some u =>
    rcases g.n p (by rw [z]; simp) with q | q
    · exact absurd h1 q
    · exact absurd q h2
theorem Grow.mfree {S1 H1 : Hp} {μ1 : List Addr} {p : Addr} (g : Grow S1 μ1 H1 S μ H) (h1 : p ∉ μ1) (h2 : ¬ Fr H1 p) : p ∉ μ := by
  obtain ⟨ex, e1, e2⟩ := g.m
  rw [e1]
  intro z
  rcases List.mem_append.mp z with z | z
  · exact h1 z
  · exact h2 (e2 p z)
theorem wipe_setV {vs : List Nat} : ∀ {is : List Nat} {xs : List V} {σ : L2.St}, (∀ i ∈ is, i ∈ vs) → wipe (setV σ is xs) vs = wipe σ vs
  | [], xs, σ, _ => by simp [setV]
  | i :: is, [], σ, _ => by simp [setV]
  | i :: is, x :: xs, σ, h => by
    simp only [setV]
    rw [wipe_setV (fun j hj => h j (List.mem_cons_of_mem _ hj))]
    have hi : i ∈ vs := h i List.mem_cons_self
    have key : ∀ (l : List Nat) (τ : L2.St), i ∈ l → wipe (τ.set i (some x)) l = wipe τ l := by
      intro l
      induction l with
      | nil => intro τ hm; cases hm
      | cons v l ih =>
        intro τ hm
        unfold wipe
        by_cases hv : i ∈ l
        · rw [ih τ hv]
        · have e : i = v := by
            rcases List.mem_cons.mp hm with q | q
            · exact q
            · exact absurd q hv
          subst e
          have com : ∀ (l : List Nat) (τ : L2.St), i ∉ l → wipe (τ.set i (some x)) l = (wipe τ l).set i (some x) := by
            intro l
            induction l with
            | nil => intro τ _; rfl
            | cons v l ih2 =>
              intro τ hm
              unfold wipe
              simp only [List.mem_cons, not_or] at hm
              rw [ih2 τ hm.2, List.set_comm _ _ hm.1]
          rw [com l τ hv, List.set_set]
    exact key vs σ hi
theorem wipe_set {σ : L2.St} {v : Nat} : ∀ {vs : List Nat}, v ∈ vs → (L2.wipe σ vs).set v none = L2.wipe σ vs
  | [], h => by cases h
  | u :: vs, h => by
    unfold L2.wipe
    by_cases e : u = v
    · subst e; rw [List.set_set]
    · have hv : v ∈ vs := by
        rcases List.mem_cons.mp h with q | q
        · exact absurd q.symm e
        · exact q
      rw [List.set_comm _ _ e, wipe_set hv]
theorem wipe_idem {σ : L2.St} {vs : List Nat} : ∀ {l : List Nat}, (∀ i ∈ l, i ∈ vs) → L2.wipe (L2.wipe σ vs) l = L2.wipe σ vs
  | [], _ => rfl
  | v :: l, h => by
    show (L2.wipe (L2.wipe σ vs) l).set v none = _
    rw [wipe_idem (fun i hi => h i (List.mem_cons_of_mem _ hi)), wipe_set (h v List.mem_cons_self)]
theorem EnvOk.wipe {F : Addr → Prop} {ρ : List Ent} {σ : L2.St} (e : EnvOk C F S μ H ρ σ) : ∀ {vs : List Nat}, (∀ i ∈ vs, ρ[i]? = some Ent.none) → EnvOk C F S μ H ρ (L2.wipe σ vs) := by
  intro vs h
  have keep : ∀ (vs : List Nat) (i : Nat) (x : V), i ∉ vs → σ[i]? = some (some x) → (L2.wipe σ vs)[i]? = some (some x) := by
    intro vs
    induction vs with
    | nil => intro i x _ h; exact h
    | cons v vs ih =>
      intro i x hi hx
      simp only [List.mem_cons, not_or] at hi
      unfold L2.wipe
      rw [List.getElem?_set_ne (Ne.symm hi.1)]
      exact ih i x hi.2 hx
  refine ⟨fun i d hd => ?_, fun i en h1 h2 => ?_, by rw [wipe_length]; exact e.len, fun i j en en' a hne h1 h2 h3 h4 h5 => ?_⟩
  · obtain ⟨v, q1, q2⟩ := e.sh i d hd
    exact ⟨v, keep vs i v (fun hm => by rw [h i hm] at hd; cases hd) q1, q2⟩
  · obtain ⟨a, ho, q⟩ := e.ow i en h1 h2
    exact ⟨a, ho, keep vs i _ (fun hm => by rw [h i hm] at h1; cases h1; cases h2) q.1, q.2⟩
  · exact fun z => e.ne i j en en' a hne h1 h2 h3 h4 (wipe_some h5).1 (wipe_some z).1
end

theorem bad_bind {α β : Type} (f : α → M β) : (M.bad >>= f) = M.bad := rfl
theorem lcM_cons {p : Pat} {mt : List D → M Bool} {me : List D → M D} {d : D} {r : List D} {k : List D → M D} {ms : Ms} :
    ((lcM p mt me (d :: r)) >>= k) ms = match patD p d with
      | none => .bad
      | some ds => match mt ds ms with
        | .ok true ms1 => (match me ds ms1 with
          | .ok y ms2 => ((lcM p mt me r) >>= fun ys => k (y :: ys)) ms2
          | _ => .bad)
        | .ok false ms1 => ((lcM p mt me r) >>= k) ms1
        | _ => .bad := by
  show ((M.bind (M.opt (patD p d)) fun ds => M.bind (M.noerr (mt ds)) fun b => if b = true then M.bind (M.noerr (me ds)) fun y => M.bind (lcM p mt me r) fun ys => M.pure (y :: ys) else lcM p mt me r) ms).bind k = _
  cases e : patD p d with
  | none => rfl
  | some ds =>
    show ((M.noerr (mt ds) ms).bind (fun b => if b = true then M.bind (M.noerr (me ds)) fun y => M.bind (lcM p mt me r) fun ys => M.pure (y :: ys) else lcM p mt me r)).bind k = _
    unfold M.noerr
    cases e1 : mt ds ms with
    | bad => simp only [e1]; rfl
    | err x m => simp only [e1]; rfl
    | ok b ms1 =>
      simp only [e1]
      cases b with
      | false => rfl
      | true =>
        show ((M.noerr (me ds) ms1).bind (fun y => M.bind (lcM p mt me r) fun ys => M.pure (y :: ys))).bind k = _
        unfold M.noerr
        cases e2 : me ds ms1 with
        | bad => simp only [e2]; rfl
        | err x m => simp only [e2]; rfl
        | ok y ms2 =>
          simp only [e2]
          show ((lcM p mt me r ms2).bind fun ys => M.pure (y :: ys)).bind k = (lcM p mt me r ms2).bind fun ys => k (y :: ys)
          cases lcM p mt me r ms2 <;> rfl

section
variable {X : Cx} {C : Ct} {ρ : List Ent}
theorem SOk.noE {S H : Hp} (h : SOk C S H) : SOk C.noE S H := ⟨h.sub, h.tabs, h.ntb⟩
theorem SOk.ofE {S H : Hp} (h : SOk C.noE S H) : SOk C S H := ⟨h.sub, h.tabs, h.ntb⟩
theorem MsOk.noE {S H : Hp} {μ : List Addr} {ms : Ms} (h : MsOk C S μ ms H) : MsOk C.noE S μ ms H := ⟨h.len, h.nd, h.out, h.at_⟩
theorem MsOk.ofE {S H : Hp} {μ : List Addr} {ms : Ms} (h : MsOk C.noE S μ ms H) : MsOk C S μ ms H := ⟨h.len, h.nd, h.out, h.at_⟩
theorem EnvOk.noE {F : Addr → Prop} {S H : Hp} {μ : List Addr} {σ : L2.St} (h : EnvOk C F S μ H ρ σ) : EnvOk C.noE F S μ H ρ σ := ⟨h.sh, fun i e h1 h2 => by
  obtain ⟨a, ho, q1, q2, q3, q4⟩ := h.ow i e h1 h2
  refine ⟨a, ho, q1, q2, ?_, q4⟩
  cases e <;> exact q3, h.len, h.ne⟩
theorem lcM_err {p : Pat} {mt : List D → M Bool} {me : List D → M D} : ∀ (xs : List D) (ms : Ms) (x : Xn) (ms' : Ms), lcM p mt me xs ms ≠ .err x ms'
  | [], ms, x, ms', h => by cases h
  | d :: r, ms, x, ms', h => by
    have e := lcM_cons (p := p) (mt := mt) (me := me) (d := d) (r := r) (k := fun ys => pure (.list ys)) (ms := ms)
    have h2 : ((lcM p mt me (d :: r)) >>= fun ys => (pure (.list ys) : M D)) ms = .err x ms' := by
      show ((lcM p mt me (d :: r)) ms).bind _ = _
      rw [h]; rfl
    rw [e] at h2
    cases e0 : patD p d with
    | none => rw [e0] at h2; cases h2
    | some ds =>
      rw [e0] at h2
      simp only at h2
      cases e1 : mt ds ms with
      | bad => rw [e1] at h2; cases h2
      | err _ _ => rw [e1] at h2; cases h2
      | ok b ms1 =>
        rw [e1] at h2
        cases b with
        | false =>
          simp only at h2
          cases e2 : lcM p mt me r ms1 with
          | err x2 m2 => exact lcM_err r ms1 x2 m2 e2
          | bad => have h2 : (lcM p mt me r ms1).bind _ = _ := h2; rw [e2] at h2; cases h2
          | ok _ _ => have h2 : (lcM p mt me r ms1).bind _ = _ := h2; rw [e2] at h2; cases h2
        | true =>
          simp only at h2
          cases e3 : me ds ms1 with
          | bad => rw [e3] at h2; cases h2
          | err _ _ => rw [e3] at h2; cases h2
          | ok y ms2 =>
            rw [e3] at h2
            simp only at h2
            cases e2 : lcM p mt me r ms2 with
            | err x2 m2 => exact lcM_err r ms2 x2 m2 e2
            | bad => have h2 : (lcM p mt me r ms2).bind _ = _ := h2; rw [e2] at h2; cases h2
            | ok _ _ => have h2 : (lcM p mt me r ms2).bind _ = _ := h2; rw [e2] at h2; cases h2
theorem dts_nil : PTs X [] (denT C ρ (pure true)) := ⟨fun pins s σ H Q I ⟨S, μ, ms, so, mo, en, q⟩ => pts_nil.run pins s σ H Q I (wpR.pure q so mo rfl)⟩
theorem dts_one {c : Expr} {m : M Bool} (h : PT X c (denT C ρ m)) : PTs X [c] (denT C ρ m) := pts_one h
theorem _root_.Pf.wpR.eqn {α β : Type} {rel : List Addr → Hp → α → β → Prop} {S H : Hp} {μ : List Addr} {r r' : Rs α} {Q : β → Hp → Prop} (h : wpR C rel S μ H r Q) (e : r = r') : wpR C rel S μ H r' Q := e ▸ h

theorem den_lc {own : List (Str × Nat)} {mi : M (List D)} {p : Pat} {mt : List D → M Bool} {me : List D → M D} (hown : ∀ i ∈ own.map (·.2), ρ[i]? = some Ent.none) (hsl : ∀ i ∈ slots p, i ∈ own.map (·.2)) {σ : L2.St} {H : Hp} {Q : VK}
    (h : denE C ρ (do let xs ← mi; let ys ← lcM p mt me xs; lstM ys) σ H Q) :
    tLc (denI C ρ mi) (gD C p) (fun σ H Q => ∃ ds, ds.length = (slots p).length ∧ denT C.noE (setE ρ (slots p) ds) (mt ds) σ H Q) (fun σ H Q => ∃ ds, ds.length = (slots p).length ∧ denE C.noE (setE ρ (slots p) ds) (me ds) σ H Q) (own.map (·.2)) σ H Q := by
  refine denG.bind h fun xs J S1 μ1 ms1 H1 so1 mo1 en1 r1 q1 Da hDa => ?_
  have hDm : Da ∉ μ1 := fun z => mo1.had z hDa
  have q1 : wpR C (relD C) S1 μ1 H1 ((lcM p mt me xs >>= lstM) ms1) Q := q1
  generalize hT : (lcM p mt me xs >>= lstM) ms1 = T at q1
  refine ⟨fun i m Hc => m = xs.length - i ∧ i ≤ xs.length ∧ ∃ S μ ms acc accV, Grow S1 μ1 H1 S μ Hc ∧ SOk C S Hc ∧ MsOk C S μ ms Hc ∧ Hc Da = some (.lst accV) ∧ S Da = none ∧ Da ∉ μ ∧ RpL C.K C.w μ S acc accV ∧ ((lcM p mt me (xs.drop i)) >>= fun ys => lstM (acc ++ ys)) ms = T,
    ⟨xs.length, by simp, Nat.zero_le _, S1, μ1, ms1, [], [], (Grow.refl _ _ _).poke hDa, so1.upd _ hDa, mo1.upd _ hDa, upd_same, so1.free hDa, hDm, .nil, hT⟩, ?_⟩
  rintro i m Hc ⟨rfl, hi, S, μ, ms, acc, accV, g, so, mo, hD, sD, mD, rA, eT⟩
  have it := r1 i S μ Hc g.s g.sm so
  by_cases hlt : i < xs.length
  · obtain ⟨hgo, hy⟩ := it.1 hlt
    refine .inr ⟨hgo, fun Hn => ∃ S μ ms acc accV, Grow S1 μ1 H1 S μ Hn ∧ SOk C S Hn ∧ MsOk C S μ ms Hn ∧ Hn Da = some (.lst accV) ∧ S Da = none ∧ Da ∉ μ ∧ RpL C.K C.w μ S acc accV ∧ ((lcM p mt me (xs.drop (i + 1))) >>= fun ys => lstM (acc ++ ys)) ms = T,
      fun Hn hn => ⟨xs.length - (i + 1), by omega, rfl, hlt, hn⟩, fun x H2 y2 => ?_⟩
    obtain ⟨S2, g2, so2, mo2, d, ed, rd⟩ := hy x H2 y2
    have mo2 := mo2 ms mo
    have edr : xs.drop i = d :: xs.drop (i + 1) := by
      rw [List.drop_eq_getElem_cons hlt]
      rw [List.getElem?_eq_getElem hlt] at ed
      cases ed; rfl
    rw [edr, lcM_cons] at eT
    cases e0 : patD p d with
    | none => rw [e0] at eT; subst eT; exact False.elim q1
    | some ds =>
      rw [e0] at eT
      simp only at eT
      have hl := patD_len p d ds e0
      have g12 := g.trans (C := C) (ms := ms) g2
      refine ⟨S2, μ, d, ds, so2, rd, e0, fun vs hv => ⟨(wipe_setV hsl).trans (wipe_idem fun _ z => z), ds, hl, S2, μ, ms, so2.noE, mo2.noE, (((en1.grow g12).wipe hown).setL hv).noE, ?_⟩⟩
      have hD2 : H2 Da = some (.lst accV) := g2.h Da _ hD mD (fun ps z => by cases z)
      cases e1 : mt ds ms with
      | bad => rw [e1] at eT; subst eT; exact False.elim q1
      | err _ _ => rw [e1] at eT; subst eT; exact False.elim q1
      | ok b ms3 =>
        rw [e1] at eT
        intro b' H3 S3 μ3 g3 so3 mo3 eb
        cases eb
        have g13 := g12.trans (C := C) (ms := ms) g3
        have hD3 : H3 Da = some (.lst accV) := g3.h Da _ hD2 mD (fun ps z => by cases z)
        have sD3 : S3 Da = none := (g2.trans (C := C) (ms := ms) g3).sfree sD (fr_lst hD)
        have mD3 : Da ∉ μ3 := (g2.trans (C := C) (ms := ms) g3).mfree mD (fr_lst hD)
        have rA3 : RpL C.K C.w μ3 S3 acc accV := (rA.mono g2.s g2.sm _ _).mono g3.s g3.sm _ _
        cases b with
        | false => exact iteF ⟨S3, μ3, ms3, acc, accV, g13, so3.ofE, mo3.ofE, hD3, sD3, mD3, rA3, eT⟩
        | true =>
          simp only at eT
          refine iteT ⟨ds, hl, S3, μ3, ms3, so3, mo3, ((((en1.grow g12).wipe hown).setL hv).noE).grow g3, ?_⟩
          cases e4 : me ds ms3 with
          | bad => rw [e4] at eT; subst eT; exact False.elim q1
          | err _ _ => rw [e4] at eT; subst eT; exact False.elim q1
          | ok y ms4 =>
            rw [e4] at eT
            simp only at eT
            intro v H4 S4 μ4 g4 so4 mo4 rv
            have hD4 : H4 Da = some (.lst accV) := g4.h Da _ hD3 mD3 (fun ps z => by cases z)
            have sD4 : S4 Da = none := g4.sfree sD3 (fr_lst hD3)
            have mD4 : Da ∉ μ4 := g4.mfree mD3 (fr_lst hD3)
            refine ⟨accV, hD4, ?_, S4, μ4, ms4, acc ++ [y], accV ++ [v], (g13.trans (C := C) (ms := ms) g4).poke hDa, so4.ofE.poke sD4 hD4 ntc_lst, mo4.ofE.poke _ mD4, upd_same, sD4, mD4, ?_, ?_⟩
            · rw [← rA.len]
              have eT : ((lcM p mt me (xs.drop (i + 1))) ms4).bind (fun ys => lstM (acc ++ y :: ys)) = T := eT
              cases e5 : lcM p mt me (xs.drop (i + 1)) ms4 with
              | bad => rw [e5] at eT; subst eT; exact False.elim q1
              | err x5 m5 => exact absurd e5 (lcM_err _ _ _ _)
              | ok ys ms5 =>
                rw [e5] at eT
                rw [← eT] at q1
                obtain ⟨hz, _⟩ := wpR.ifbad q1
                simp only [List.length_append, List.length_cons] at hz
                omega
            · exact (rA3.mono g4.s g4.sm _ _).app (.cons rv .nil)
            · rw [← eT]; simp only [List.append_assoc, List.cons_append, List.nil_append]
  · have e : i = xs.length := by omega
    refine .inl ⟨it.2 (by omega), ?_⟩
    rw [e, List.drop_length] at eT
    rw [← eT] at q1
    have q1 : wpR C (relD C) S1 μ1 H1 (lstM (acc ++ []) ms) Q := q1
    rw [List.append_nil] at q1
    obtain ⟨hz, q⟩ := wpR.ifbad q1
    exact q _ _ _ _ (g.give sD hDa) (so.give sD hD (fun ps z => by cases z)) (mo.give sD mD) (.lst (.inl upd_same) (rA.mono (subH_new sD) (.refl _) _ _))
theorem de_lc {elt tg iter : Expr} {ifs : List Expr} {scope : Scope} {own : List (Str × Nat)} {pos : Pos} {mi : M (List D)} {p : Pat} {mt : List D → M Bool} {me : List D → M D} (hc : X.calm = true) (hN : X.N.Nodup) (hi : PI X tg iter (denI C ρ mi))
    (ok : BlkOk X.N X.env.scope scope own) (hown : ∀ i ∈ own.map (·.2), ρ[i]? = some Ent.none) (hsl : ∀ i ∈ slots p, i ∈ own.map (·.2))
    (hg : ∀ (s : Shared) (H : Hp) (c : Addr) (cl : List (Str × Addr)) (fp : List Addr), PG (X.blk s H scope (compEnvC scope cl c X.env) fp) tg (gD C p))
    (hb : ∀ (ds : List D), ds.length = (slots p).length → ∀ (s : Shared) (H : Hp) (c : Addr) (cl : List (Str × Addr)) (fp : List Addr),
      PTs (X.blk s H scope (compEnvC scope cl c X.env) fp) ifs (denT C.noE (setE ρ (slots p) ds) (mt ds)) ∧ PE (X.blk s H scope (compEnvC scope cl c X.env) fp) elt (denE C.noE (setE ρ (slots p) ds) (me ds)))
    (hs : ∀ x, foldedSetIterable iter X.env x = pure x := by intro _; rfl) : PE X (.ListComp elt [⟨tg, iter, ifs, 0⟩] scope pos) (denE C ρ (do let xs ← mi; let ys ← lcM p mt me xs; lstM ys)) := by
  exact (pe_lc hc hN hi ok hg (tt := fun σ H Q => ∃ ds, ds.length = (slots p).length ∧ denT C.noE (setE ρ (slots p) ds) (mt ds) σ H Q)
    (te := fun σ H Q => ∃ ds, ds.length = (slots p).length ∧ denE C.noE (setE ρ (slots p) ds) (me ds) σ H Q)
    (fun s H c cl fp => ⟨fun pins s' σ H' Q I ⟨ds, hl, q⟩ => (hb ds hl s H c cl fp).1.run pins s' σ H' Q I q⟩)
    (fun s H c cl fp => ⟨fun pins s' σ H' Q I ⟨ds, hl, q⟩ => (hb ds hl s H c cl fp).2.run pins s' σ H' Q I q⟩) hs).wk fun σ H Q h => den_lc hown hsl h
end
end Pf
set_option Elab.async false
set_option linter.all false
set_option maxRecDepth 100000
set_option maxHeartbeats 4000000
namespace Pf
open PySem PySem.Spec PyProof.Rows L2

/-! ### blocks -/
/-- where a block stands: the def's entry; what is to stay known -/
structure Bs where
  S : Hp
  μ : List Addr
  H : Hp
  Sb : Hp
  μb : List Addr
structure GB (B : Bs) (S' : Hp) (μ' : List Addr) (H' : Hp) : Prop where
  g : Grow B.S B.μ B.H S' μ' H'
  s : SubH B.Sb S'
  m : SubM B.μb μ'
theorem GB.trans {C : Ct} {B : Bs} {S S' H H' : Hp} {μ μ' : List Addr} {ms : Ms} (b : GB B S μ H) (k : Grow S μ H S' μ' H') : GB B S' μ' H' := ⟨b.g.trans (C := C) (ms := ms) k, b.s.trans k.s, b.m.trans k.sm⟩
def outR {τ : Type} (C : Ct) (env : τ → List Ent) (B : Bs) (r : Rs (Out τ)) (Dn : Ends) : Prop :=
  match r with
  | .bad => False
  | .err x ms' => ∀ cls dx H' S' μ', GB B S' μ' H' → SOk C S' H' → MsOk C S' μ' ms' H' → XnOk C S' μ' x cls dx H' → C.E cls dx H'
  | .ok (.ret d) ms' => ∀ v H' S' μ', GB B S' μ' H' → SOk C S' H' → MsOk C S' μ' ms' H' → Rp C.K C.w μ' S' d v → Dn.rt v H'
  | .ok (.nxt t) ms' => ∀ σ' H' S' μ', GB B S' μ' H' → SOk C S' H' → MsOk C S' μ' ms' H' → EnvOk C (fun a => Fr B.H a) S' μ' H' (env t) σ' → Dn.nx σ' H'
  | .ok (.brk t) ms' => ∀ σ' H' S' μ', GB B S' μ' H' → SOk C S' H' → MsOk C S' μ' ms' H' → EnvOk C (fun a => Fr B.H a) S' μ' H' (env t) σ' → Dn.bk σ' H'
  | .ok (.cnt t) ms' => ∀ σ' H' S' μ', GB B S' μ' H' → SOk C S' H' → MsOk C S' μ' ms' H' → EnvOk C (fun a => Fr B.H a) S' μ' H' (env t) σ' → Dn.ct σ' H'
def denB {τ : Type} (C : Ct) (ρ : List Ent) (env : τ → List Ent) (m : M (Out τ)) : TS := fun Dn σ H =>
  ∃ B S μ ms, GB B S μ H ∧ SOk C S H ∧ MsOk C S μ ms H ∧ EnvOk C (fun a => Fr B.H a) S μ H ρ σ ∧ outR C env B (m ms) Dn
theorem _root_.L2.PSs.wk {X : Cx} {b : List Stmt} {t t' : TS} (h : PSs X b t) (f : ∀ D σ H, t' D σ H → t D σ H) : PSs X b t' := ⟨fun pins s σ H D I q => h.run pins s σ H D I (f D σ H q)⟩
theorem _root_.L2.PS.wk {X : Cx} {b : Stmt} {t t' : TS} (h : PS X b t) (f : ∀ D σ H, t' D σ H → t D σ H) : PS X b t' := ⟨fun pins s σ H D I q => h.run pins s σ H D I (f D σ H q)⟩
section
variable {C : Ct} {τ : Type} {env : τ → List Ent} {B : Bs} {S H : Hp} {μ : List Addr}
/-- an expression within a block -/
theorem outR.bind {α β : Type} {rel : List Addr → Hp → α → β → Prop} {r : Rs α} {k : α → M (Out τ)} {Dn : Ends} {Q' : β → Hp → Prop} (g0 : GB B S μ H) (h : outR C env B (r.bind k) Dn)
    (f : ∀ a b S' μ' ms' H', Grow S μ H S' μ' H' → SOk C S' H' → MsOk C S' μ' ms' H' → rel μ' S' a b → outR C env B (k a ms') Dn → Q' b H') : wpR C rel S μ H r Q' := by
  cases r with
  | bad => exact h
  | err x ms' => exact fun cls dx H' S' μ' g => h cls dx H' S' μ' (g0.trans (C := C) (ms := ms') g)
  | ok a ms' => exact fun b H' S' μ' g so mo r => f a b S' μ' ms' H' g so mo r h
/-- what is forgotten -/
def Wk (ρ ρ' : List Ent) : Prop := ρ'.length = ρ.length ∧ ∀ (i : Nat) (e : Ent), ρ'[i]? = some e → e = .none ∨ ρ[i]? = some e
theorem EnvOk.wk {F : Addr → Prop} {ρ ρ' : List Ent} {σ : L2.St} (e : EnvOk C F S μ H ρ σ) (w : Wk ρ ρ') : EnvOk C F S μ H ρ' σ := by
  refine ⟨fun i d h => ?_, fun i en h1 h2 => ?_, by rw [w.1]; exact e.len, fun i j en en' a hne h1 h2 h3 h4 => ?_⟩
  · rcases w.2 i _ h with q | q
    · cases q
    · exact e.sh i d q
  · rcases w.2 i _ h1 with q | q
    · subst q; cases h2
    · exact e.ow i en q h2
  · rcases w.2 i _ h1 with q | q
    · subst q; cases h2
    · rcases w.2 j _ h3 with q' | q'
      · subst q'; cases h4
      · exact e.ne i j en en' a hne q h2 q' h4
def wkB : List Ent → List Ent → Bool
  | [], [] => true
  | _ :: r, .none :: r' => wkB r r'
  | _, _ => false
theorem Wk.refl (ρ : List Ent) : Wk ρ ρ := ⟨rfl, fun _ _ h => .inr h⟩
theorem Wk.nil : Wk [] [] := Wk.refl []
theorem Wk.keep {e : Ent} {r r' : List Ent} (h : Wk r r') : Wk (e :: r) (e :: r') := ⟨by simp [h.1], fun i x hx => by
  cases i with
  | zero => exact .inr hx
  | succ i => exact h.2 i x (by simpa using hx)⟩
theorem Wk.drop {e : Ent} {r r' : List Ent} (h : Wk r r') : Wk (e :: r) (.none :: r') := ⟨by simp [h.1], fun i x hx => by
  cases i with
  | zero => simp at hx; exact .inl hx.symm
  | succ i => exact h.2 i x (by simpa using hx)⟩
theorem Wk.all {ρ : List Ent} {n : Nat} (h : n = ρ.length) : Wk ρ (List.replicate n .none) := ⟨by simp [h], fun i x hx => by
  rw [List.getElem?_replicate] at hx
  split at hx
  · exact .inl (Option.some.inj hx).symm
  · cases hx⟩
end

section
variable {X : Cx} {C : Ct} {ρ : List Ent} {τ : Type} {env : τ → List Ent} {pos : Pos} {rest : List Stmt} {e : Expr} {me : M D}
theorem db_nil {t : τ} (w : Wk ρ (env t)) : PSs X [] (denB C ρ env (pure (.nxt t))) := pss_nil.wk fun Dn σ H ⟨B, S, μ, ms, g, so, mo, en, q⟩ => q σ H S μ g so mo (en.wk w)
theorem db_ret (he : PE X e (denE C ρ me)) : PSs X (.Return (some e) pos :: rest) (denB C ρ env (do let d ← me; pure (.ret d))) :=
  (pss_cons (ps_ret he) (pss_never (sts := rest))).wk fun Dn σ H ⟨B, S, μ, ms, g, so, mo, en, q⟩ =>
    ⟨S, μ, ms, so, mo, en.imp fun _ _ => trivial, outR.bind g q fun d v S' μ' ms' H' g' so' mo' r q' => q' v H' S' μ' (g.trans (C := C) (ms := ms') g') so' mo' r⟩
theorem db_cont {t : τ} (w : Wk ρ (env t)) : PSs X (.Continue pos :: rest) (denB C ρ env (pure (.cnt t))) :=
  (pss_cons ps_continue (pss_never (sts := rest))).wk fun Dn σ H ⟨B, S, μ, ms, g, so, mo, en, q⟩ => q σ H S μ g so mo (en.wk w)
theorem db_break {t : τ} (w : Wk ρ (env t)) : PSs X (.Break pos :: rest) (denB C ρ env (pure (.brk t))) :=
  (pss_cons ps_break (pss_never (sts := rest))).wk fun Dn σ H ⟨B, S, μ, ms, g, so, mo, en, q⟩ => q σ H S μ g so mo (en.wk w)
/-- what comes behind, for some value -/
theorem pss_ex {α : Type} {u : α → TS} (h : ∀ a, PSs X rest (u a)) : PSs X rest (fun D σ H => ∃ a, u a D σ H) := ⟨fun pins s σ H D I ⟨a, q⟩ => (h a).run pins s σ H D I q⟩
theorem db_asg {tg : Expr} {p : Pat} {mr : List D → M (Out τ)} (he : PE X e (denE C ρ me)) (hg : PG X tg (gD C p)) (hr : ∀ ds, ds.length = (slots p).length → PSs X rest (denB C (setE ρ (slots p) ds) env (mr ds)))
    (hs : swapsWithSole [tg] e pos.line X.env = pure false := by rfl) (hw : swappedStores [tg] e X.env = pure none := by rfl) (h1 : (assignEach [tg] X.env).map (·.2) = [assign tg X.env] := by rfl) :
    PSs X (.Assign [tg] e pos :: rest) (denB C ρ env (do let d ← me; let ds ← M.opt (patD p d); mr ds)) := by
  have hrest : PSs X rest (fun D σ H => ∃ ds, ds.length = (slots p).length ∧ denB C (setE ρ (slots p) ds) env (mr ds) D σ H) := ⟨fun pins s σ H D I ⟨ds, hl, q⟩ => (hr ds hl).run pins s σ H D I q⟩
  refine (pss_cons (ps_asg he hg hs hw h1) hrest).wk fun Dn σ H ⟨B, S, μ, ms, g, so, mo, en, q⟩ => ?_
  refine ⟨S, μ, ms, so, mo, en.imp fun _ _ => trivial, outR.bind g q fun d v S' μ' ms' H' g' so' mo' r q' => ?_⟩
  cases e0 : patD p d with
  | none => rw [e0] at q'; exact False.elim q'
  | some ds =>
    rw [e0] at q'
    exact ⟨S', μ', d, ds, so', r, e0, fun vs hv => ⟨ds, patD_len p d ds e0, B, S', μ', ms', g.trans (C := C) (ms := ms') g', so', mo', (en.grow g').setL hv, q'⟩⟩
/-- an assignment to one name -/
theorem db_set {i : Nat} {x : Str} {pos' : Pos} {mr : D → M (Out τ)} (hN : X.N.Nodup) (he : PE X e (denE C ρ me)) (hr : ∀ d, PSs X rest (denB C (ρ.set i (.sh d)) env (mr d))) (hi : X.N[i]? = some x := by rfl) (hx : Loc X.env.scope x := by first | exact Or.inl rfl | exact Or.inr rfl)
    (hs : swapsWith e (some (.Name x pos')) pos.line X.env = pure false := by rfl) (hf : X.fn x = true ∨ X.env.scope.names.lookup x = some .local := by first | exact .inl rfl | exact .inr rfl) :
    PSs X (.Assign [.Name x pos'] e pos :: rest) (denB C ρ env (do let d ← me; mr d)) :=
  (pss_cons (ps_set hN hi hx he hs hf) (pss_ex hr)).wk fun Dn σ H ⟨B, S, μ, ms, g, so, mo, en, q⟩ =>
    ⟨S, μ, ms, so, mo, en.imp fun _ _ => trivial, outR.bind g q fun d v S' μ' ms' H' g' so' mo' r q' => ⟨d, B, S', μ', ms', g.trans (C := C) (ms := ms') g', so', mo', (en.grow g').set r, q'⟩⟩
/-- if, nothing behind it -/
theorem db_if1 {c : Expr} {a b : List Stmt} {mc : M Bool} {ma mb : M (Out τ)} (hc : PT X c (denT C ρ mc)) (ha : PSs X a (denB C ρ env ma)) (hb : PSs X b (denB C ρ env mb)) :
    PSs X [.If c a b pos] (denB C ρ env (do let x ← mc; if x = true then ma else mb)) := (pss_one (ps_if hc ha hb)).wk fun Dn σ H ⟨B, S, μ, ms, g, so, mo, en, q⟩ => by
  refine ⟨S, μ, ms, so, mo, en.imp fun _ _ => trivial, outR.bind g q fun d v S' μ' ms' H' g' so' mo' r q' => ?_⟩
  cases r
  cases d with
  | true => exact iteT ⟨B, S', μ', ms', g.trans (C := C) (ms := ms') g', so', mo', en.grow g', q'⟩
  | false => exact iteF ⟨B, S', μ', ms', g.trans (C := C) (ms := ms') g', so', mo', en.grow g', q'⟩
/-- if c: what does not come out at its end; the rest -/
def Out.none {τ : Type} : Empty → List Ent := fun z => nomatch z
def lift0 {τ : Type} (m : M (Out Empty)) : M (Out τ) := do
  match ← m with
  | .ret d => pure (.ret d)
  | .nxt t => nomatch t
  | .brk t => nomatch t
  | .cnt t => nomatch t
theorem db_if {c : Expr} {a : List Stmt} {mc : M Bool} {ma : M (Out Empty)} {mr : M (Out τ)} (hc : PT X c (denT C ρ mc)) (ha : PSs X a (denB C ρ (fun z : Empty => nomatch z) ma)) (hr : PSs X rest (denB C ρ env mr)) :
    PSs X (.If c a [] pos :: rest) (denB C ρ env (do let x ← mc; if x = true then lift0 ma else mr)) := (pss_cons (ps_if hc ha pss_nil) hr).wk fun Dn σ H ⟨B, S, μ, ms, g, so, mo, en, q⟩ => by
  refine ⟨S, μ, ms, so, mo, en.imp fun _ _ => trivial, outR.bind g q fun d v S' μ' ms' H' g' so' mo' r q' => ?_⟩
  cases r
  cases d with
  | true =>
    refine iteT ⟨B, S', μ', ms', g.trans (C := C) (ms := ms') g', so', mo', en.grow g', ?_⟩
    have q' : outR C env B ((ma ms').bind fun o => match o with
      | .ret d => pure (.ret d)
      | .nxt t => nomatch t
      | .brk t => nomatch t
      | .cnt t => nomatch t) Dn := q'
    cases z : ma ms' with
    | bad => rw [z] at q'; exact q'
    | err x m2 => rw [z] at q'; exact q'
    | ok o m2 =>
      rw [z] at q'
      cases o with
      | ret d => exact q'
      | nxt t => exact nomatch t
      | brk t => exact nomatch t
      | cnt t => exact nomatch t
  | false => exact iteF ⟨B, S', μ', ms', g.trans (C := C) (ms := ms') g', so', mo', en.grow g', q'⟩
/-- if c: .. else: .., then the rest, at a common state -/
def joinO {τ τ' : Type} (m : M (Out τ')) (k : τ' → M (Out τ)) : M (Out τ) := do
  match ← m with
  | .ret d => pure (.ret d)
  | .nxt t => k t
  | .brk t => k t
  | .cnt t => k t
def noBC {τ : Type} (o : Out τ) : Bool := match o with
  | .brk _ => false
  | .cnt _ => false
  | _ => true
theorem db_ifk {τ' : Type} {env' : τ' → List Ent} {c : Expr} {a b : List Stmt} {mc : M Bool} {ma mb : M (Out τ')} {mr : τ' → M (Out τ)} (hc : PT X c (denT C ρ mc)) (ha : PSs X a (denB C ρ env' ma)) (hb : PSs X b (denB C ρ env' mb))
    (hr : ∀ t, PSs X rest (denB C (env' t) env (mr t))) (na : ∀ ms o ms', ma ms = .ok o ms' → noBC o = true) (nb : ∀ ms o ms', mb ms = .ok o ms' → noBC o = true) :
    PSs X (.If c a b pos :: rest) (denB C ρ env (do let x ← mc; if x = true then joinO ma mr else joinO mb mr)) := (pss_cons (ps_if hc ha hb) (pss_ex hr)).wk fun Dn σ H ⟨B, S, μ, ms, g, so, mo, en, q⟩ => by
  refine ⟨S, μ, ms, so, mo, en.imp fun _ _ => trivial, outR.bind g q fun d v S' μ' ms' H' g' so' mo' r q' => ?_⟩
  cases r
  have key : ∀ (m : M (Out τ')), (∀ ms o ms', m ms = .ok o ms' → noBC o = true) → outR C env B (joinO m mr ms') Dn → outR C env' B (m ms') { Dn with nx := fun σ H => ∃ t, denB C (env' t) env (mr t) Dn σ H } := fun m hm q2 => by
    have q2 : outR C env B ((m ms').bind fun o => match o with
      | .ret d => pure (.ret d)
      | .nxt t => mr t
      | .brk t => mr t
      | .cnt t => mr t) Dn := q2
    cases z : m ms' with
    | bad => rw [z] at q2; exact q2
    | err x m2 => rw [z] at q2; exact q2
    | ok o m2 =>
      rw [z] at q2
      cases o with
      | ret d => exact q2
      | nxt t => exact fun σ2 H2 S2 μ2 g2 so2 mo2 en2 => ⟨t, B, S2, μ2, m2, g2, so2, mo2, en2, q2⟩
      | brk t => have := hm _ _ _ z; cases this
      | cnt t => have := hm _ _ _ z; cases this
  cases d with
  | true => exact iteT ⟨B, S', μ', ms', g.trans (C := C) (ms := ms') g', so', mo', en.grow g', key ma na q'⟩
  | false => exact iteF ⟨B, S', μ', ms', g.trans (C := C) (ms := ms') g', so', mo', en.grow g', key mb nb q'⟩
/-- an expression alone -/
theorem db_expr {mr : M (Out τ)} (he : PE X e (denE C ρ me)) (hr : PSs X rest (denB C ρ env mr)) (hs : swapsWith e none pos.line X.env = pure false := by rfl) : PSs X (.Expr e pos :: rest) (denB C ρ env (do let _ ← me; mr)) :=
  (pss_cons (ps_expr he hs) hr).wk fun Dn σ H ⟨B, S, μ, ms, g, so, mo, en, q⟩ =>
    ⟨S, μ, ms, so, mo, en.imp fun _ _ => trivial, outR.bind g q fun d v S' μ' ms' H' g' so' mo' r q' => ⟨B, S', μ', ms', g.trans (C := C) (ms := ms') g', so', mo', en.grow g', q'⟩⟩
/-- raise X('..') -/
theorem db_raise {t : L2.St → Hp → XK → Prop} {x : Str} {cls : Value} (hc : X.calm = true) (tk : Takes X fun c d _ H => C.E c d H) (he : PMk X e t) (ht : ∀ σ H Q, Q cls none H → t σ H Q) (hm : C.mg x = some cls) :
    PSs X (.Raise (some e) none pos :: rest) (denB C ρ env (M.err ⟨x, none⟩)) :=
  (pss_cons (ps_raise hc tk he) (pss_never (sts := rest))).wk fun Dn σ H ⟨B, S, μ, ms, g, so, mo, en, q⟩ => ht σ H _ (q cls none H S μ g so mo ⟨hm, rfl⟩)

/-! ### loops -/
def forM {τ : Type} (f : D → τ → M (Out τ)) : List D → τ → M (Out τ)
  | [], t => pure (.nxt t)
  | d :: r, t => do
    match ← f d t with
    | .nxt t' => forM f r t'
    | .cnt t' => forM f r t'
    | .brk t' => pure (.nxt t')
    | .ret v => pure (.ret v)
theorem forM_cons {τ τ' : Type} {f : D → τ → M (Out τ)} {d : D} {r : List D} {t : τ} {k : τ → M (Out τ')} {ms : Ms} :
    joinO (forM f (d :: r) t) k ms = match f d t ms with
      | .bad => .bad
      | .err x m => .err x m
      | .ok (.ret v) m => .ok (.ret v) m
      | .ok (.nxt t') m => joinO (forM f r t') k m
      | .ok (.cnt t') m => joinO (forM f r t') k m
      | .ok (.brk t') m => k t' m := by
  show ((f d t ms).bind fun o => match o with
    | .nxt t' => forM f r t'
    | .cnt t' => forM f r t'
    | .brk t' => pure (.nxt t')
    | .ret v => pure (.ret v)).bind _ = _
  cases f d t ms with
  | bad => rfl
  | err x m => rfl
  | ok o m => cases o <;> rfl
theorem db_for {τ' : Type} {envL : τ' → List Ent} {tg iter : Expr} {body : List Stmt} {p : Pat} {mi : M (List D)} {fb : List D → τ' → M (Out τ')} {mr : τ' → M (Out τ)} {t0 : τ'} (hp : PassesOwn (model X.prog X.w) X.A X.env X.xe) (hc : X.calm = true)
    (hi : PI X tg iter (denI C ρ mi)) (hg : PG X tg (gD C p)) (w0 : Wk ρ (envL t0)) (hb : ∀ t ds, ds.length = (slots p).length → PSs X body (denB C (setE (envL t) (slots p) ds) envL (fb ds t)))
    (hr : ∀ t, PSs X rest (denB C (envL t) env (mr t))) (hs : ∀ x, foldedSetIterable iter X.env x = pure x := by intro _; rfl) :
    PSs X (.For tg iter body [] pos :: rest) (denB C ρ env (do let xs ← mi; joinO (forM (fun d t => do let ds ← M.opt (patD p d); fb ds t) xs t0) mr)) := by
  have hbody : PSs X body (fun D σ H => ∃ t ds, ds.length = (slots p).length ∧ denB C (setE (envL t) (slots p) ds) envL (fb ds t) D σ H) := ⟨fun pins s σ H D I ⟨t, ds, hl, q⟩ => (hb t ds hl).run pins s σ H D I q⟩
  refine (pss_cons (ps_for hp hc hi hg hbody hs) (pss_ex hr)).wk fun Dn σ H ⟨B, S, μ, ms, g, so, mo, en, q⟩ => ?_
  refine ⟨S, μ, ms, so, mo, en.imp fun _ _ => trivial, outR.bind g q fun xs J S1 μ1 ms1 H1 g1 so1 mo1 r1 q1 => ?_⟩
  have g01 := g.trans (C := C) (ms := ms1) g1
  refine ⟨fun i m σ' H' => m = xs.length - i ∧ i ≤ xs.length ∧ ∃ t S' μ' ms', GB B S' μ' H' ∧ SubH S1 S' ∧ SubM μ1 μ' ∧ SOk C S' H' ∧ MsOk C S' μ' ms' H' ∧ EnvOk C (fun a => Fr B.H a) S' μ' H' (envL t) σ' ∧
      outR C env B (joinO (forM (fun d t => do let ds ← M.opt (patD p d); fb ds t) (xs.drop i) t) mr ms') Dn,
    ⟨xs.length, by simp, Nat.zero_le _, t0, S1, μ1, ms1, g01, .refl _, .refl _, so1, mo1, (en.grow g1).wk w0, q1⟩, ?_⟩
  rintro i m σ' H' ⟨rfl, hi', t, S', μ', ms', g', sS, sM, so', mo', en', q'⟩
  have it := r1 i S' μ' H' sS sM so'
  by_cases hlt : i < xs.length
  · obtain ⟨hgo, hy⟩ := it.1 hlt
    refine .inr ⟨hgo, fun σ2 H2 => ∃ t S' μ' ms', GB B S' μ' H2 ∧ SubH S1 S' ∧ SubM μ1 μ' ∧ SOk C S' H2 ∧ MsOk C S' μ' ms' H2 ∧ EnvOk C (fun a => Fr B.H a) S' μ' H2 (envL t) σ2 ∧
      outR C env B (joinO (forM (fun d t => do let ds ← M.opt (patD p d); fb ds t) (xs.drop (i + 1)) t) mr ms') Dn, fun σ2 H2 h2 => ⟨xs.length - (i + 1), by omega, rfl, hlt, h2⟩, fun x H2 y2 => ?_⟩
    obtain ⟨S2, g2, so2, mo2, d, ed, rd⟩ := hy x H2 y2
    have mo2 := mo2 ms' mo'
    have edr : xs.drop i = d :: xs.drop (i + 1) := by
      rw [List.drop_eq_getElem_cons hlt]
      rw [List.getElem?_eq_getElem hlt] at ed
      cases ed; rfl
    rw [edr, forM_cons] at q'
    have g02 := g'.trans (C := C) (ms := ms') g2
    cases e0 : patD p d with
    | none =>
      have q' : False := by simpa [e0, M.opt, bad_bind, M.bad, outR] using q'
      exact q'.elim
    | some ds =>
      have hl := patD_len p d ds e0
      have e1 : (do let ds ← M.opt (patD p d); fb ds t : M (Out τ')) ms' = fb ds t ms' := by rw [e0]; rfl
      rw [e1] at q'
      -- the base: what is walked is to stay known, too
      refine ⟨S2, μ', d, ds, so2, rd, e0, fun vs hv => ⟨t, ds, hl, ⟨B.S, B.μ, B.H, S2, μ'⟩, S2, μ', ms', ⟨g02.g, .refl _, .refl _⟩, so2, mo2, (en'.grow g2).setL hv, ?_⟩⟩
      cases e2 : fb ds t ms' with
      | bad => rw [e2] at q'; exact False.elim q'
      | err x m =>
        rw [e2] at q'
        exact fun cls dx H3 S3 μ3 g3 => q' cls dx H3 S3 μ3 ⟨g3.g, (g02.s.trans g3.s), g02.m.trans g3.m⟩
      | ok o m =>
        rw [e2] at q'
        cases o with
        | ret v => exact fun v2 H3 S3 μ3 g3 => q' v2 H3 S3 μ3 ⟨g3.g, (g02.s.trans g3.s), g02.m.trans g3.m⟩
        | nxt t3 => exact fun σ3 H3 S3 μ3 g3 so3 mo3 en3 => ⟨t3, S3, μ3, m, ⟨g3.g, (g02.s.trans g3.s), g02.m.trans g3.m⟩, (sS.trans g2.s).trans g3.s, (sM.trans g2.sm).trans g3.m, so3, mo3, en3, q'⟩
        | cnt t3 => exact fun σ3 H3 S3 μ3 g3 so3 mo3 en3 => ⟨t3, S3, μ3, m, ⟨g3.g, (g02.s.trans g3.s), g02.m.trans g3.m⟩, (sS.trans g2.s).trans g3.s, (sM.trans g2.sm).trans g3.m, so3, mo3, en3, q'⟩
        | brk t3 => exact fun σ3 H3 S3 μ3 g3 so3 mo3 en3 => ⟨t3, B, S3, μ3, m, ⟨g3.g, (g02.s.trans g3.s), g02.m.trans g3.m⟩, so3, mo3, en3, q'⟩
  · have e : i = xs.length := by omega
    refine .inl ⟨it.2 (by omega), ?_⟩
    rw [e, List.drop_length] at q'
    exact ⟨t, B, S', μ', ms', g', so', mo', en', q'⟩
end
end Pf
set_option Elab.async false
set_option linter.all false
set_option maxRecDepth 100000
set_option maxHeartbeats 4000000
namespace Pf
open PySem PySem.Spec PyProof.Rows L2

def finK {τ : Type} : Out τ → M D
  | .ret d => pure d
  | .nxt _ => pure .none
  | .brk _ => M.bad
  | .cnt _ => M.bad
def fin {τ : Type} (m : M (Out τ)) : M D := m >>= finK
def ρ0 (n : Nat) (ds : List D) : List Ent := ds.map .sh ++ List.replicate (n - ds.length) .none
theorem RpL.start {K : PySem.W.Frag} {w : World} {μ : List Addr} {S : Hp} : ∀ {ds : List D} {vs : List V}, RpL K w μ S ds vs → ∀ (i : Nat) (d : D), ds[i]? = some d → ∃ v, vs[i]? = some v ∧ Rp K w μ S d v := fun h i d e => h.get e
section
variable {C : Ct} {F : Addr → Prop} {S H : Hp} {μ : List Addr}
theorem EnvOk.start {N : List Str} {ds : List D} {vs : List V} (h : RpL C.K C.w μ S ds vs) : EnvOk C F S μ H (ρ0 N.length ds) (L2.start N vs) := by
  have hl := h.len
  have hsh : ∀ (i : Nat) (e : Ent), (ρ0 N.length ds)[i]? = some e → e = .none ∨ ∃ d, e = .sh d ∧ ds[i]? = some d := fun i e he => by
    unfold ρ0 at he
    by_cases hi : i < ds.length
    · rw [List.getElem?_append_left (by simpa using hi), List.getElem?_map, List.getElem?_eq_getElem hi] at he
      cases he
      exact .inr ⟨ds[i], rfl, by simp [hi]⟩
    · rw [List.getElem?_append_right (by simpa using hi), List.getElem?_replicate] at he
      split at he
      · exact .inl (Option.some.inj he).symm
      · cases he
  refine ⟨fun i d he => ?_, fun i e he ho => ?_, ?_, fun i j e e' a hne he ho _ _ _ => ?_⟩
  · rcases hsh i _ he with q | ⟨d', q, q2⟩
    · cases q
    · cases q
      obtain ⟨v, e1, e2⟩ := h.get q2
      refine ⟨v, ?_, e2⟩
      have hi : i < vs.length := (List.getElem?_eq_some_iff.mp e1).1
      unfold L2.start
      rw [List.getElem?_append_left (by simpa using hi), List.getElem?_map, e1]
      rfl
  · rcases hsh i _ he with q | ⟨d', q, q2⟩
    · subst q; cases ho
    · subst q; cases ho
  · unfold ρ0 L2.start
    simp [hl]
  · rcases hsh i _ he with q | ⟨d', q, q2⟩
    · subst q; cases ho
    · subst q; cases ho
end
/-- a def of the text, by its body -/
theorem fn_den {P : Program} {w : World} {K : PySem.W.Frag} {mg : Str → Option Value} {base : Heap} {T : List (Addr × Str)} {x qual : Str} {st : Stmt} {f : Addr} {fd : FuncData} {N ps : List Str} {k : Nat} {g : List D → M D} {mb : List D → M (Out Unit)}
    (F : Fun K x qual st f fd) (S : FnScope N ps (defScope st)) (hl : ∀ ds ms, ds.length ≠ ps.length → g ds ms = .bad) (hg : ∀ ds, ds.length = ps.length → g ds = fin (mb ds))
    (hbody : ∀ (cdv : Value) (A : Around) (outer : List Env) (s : Shared) (H : Hp) (E : XK), Room k (A.deeper (envOfC qual (defScope st) s.heap.objs.size f cdv)) → ∀ ds, ds.length = ps.length →
      PSs (cxOf (L2.CX P w) P w K mg base N qual (defScope st) f cdv A outer s H E) (defBody st) (denB ⟨K, w, mg, T, E⟩ (ρ0 N.length ds) (fun _ : Unit => List.replicate N.length .none) (mb ds))) :
    FnOk P w K mg base (L2.CX P w) (k + 1) f fd ps (spec K w mg T g) := by
  refine F.okX S (fun vs H Q E h => ?_) (fun cdv A outer s H vs Q E hr h => ?_)
  · obtain ⟨ds, S, μ, ms, so, mo, r, q⟩ := h
    by_cases e : ds.length = ps.length
    · rw [← r.len]; exact e
    · rw [hl ds ms e] at q; exact q.elim
  · obtain ⟨ds, S, μ, ms, so, mo, r, q⟩ := h
    by_cases e : ds.length = ps.length
    · refine ⟨_, hbody cdv A outer s H E hr ds e, ⟨S, μ, H, S, μ⟩, S, μ, ms, ⟨.refl _ _ _, .refl _, .refl _⟩, so, mo, EnvOk.start r, ?_⟩
      rw [hg ds e] at q
      have q : wpR ⟨K, w, mg, T, E⟩ (relD ⟨K, w, mg, T, E⟩) S μ H ((mb ds ms).bind finK) Q := q
      cases z : mb ds ms with
      | bad => rw [z] at q; exact q.elim
      | err x m => rw [z] at q; exact fun cls dx H' S' μ' gb => q cls dx H' S' μ' gb.g
      | ok o m =>
        rw [z] at q
        cases o with
        | ret d => exact fun v H' S' μ' gb => q v H' S' μ' gb.g
        | nxt t => exact fun σ' H' S' μ' gb so' mo' _ => q .non H' S' μ' gb.g so' mo' .non
        | brk t => exact q.elim
        | cnt t => exact q.elim
    · rw [hl ds ms e] at q; exact q.elim
/-! ### while -/
def whM {τ : Type} (c : τ → M Bool) (f : τ → M (Out τ)) : Nat → τ → M (Out τ)
  | 0, _ => M.bad
  | n + 1, t => do
    let b ← c t
    if b = true then do
      match ← f t with
      | .nxt t' => whM c f n t'
      | .cnt t' => whM c f n t'
      | .brk t' => pure (.nxt t')
      | .ret v => pure (.ret v)
    else pure (.nxt t)
theorem whM_succ {τ τ' : Type} {c : τ → M Bool} {f : τ → M (Out τ)} {n : Nat} {t : τ} {k : τ → M (Out τ')} {ms : Ms} :
    joinO (whM c f (n + 1) t) k ms = (c t ms).bind (fun b => if b = true then (fun m => match f t m with
      | .bad => .bad
      | .err x m => .err x m
      | .ok (.ret v) m => .ok (.ret v) m
      | .ok (.nxt t') m => joinO (whM c f n t') k m
      | .ok (.cnt t') m => joinO (whM c f n t') k m
      | .ok (.brk t') m => k t' m) else k t) := by
  show ((c t ms).bind fun b => if b = true then M.bind (f t) (fun o => match o with
      | .nxt t' => whM c f n t'
      | .cnt t' => whM c f n t'
      | .brk t' => pure (.nxt t')
      | .ret v => pure (.ret v)) else M.pure (.nxt t)).bind _ = _
  cases c t ms with
  | bad => rfl
  | err x m => rfl
  | ok b m =>
    cases b with
    | false => rfl
    | true =>
      show ((f t m).bind _).bind _ = (match f t m with
        | .bad => .bad
        | .err x m => .err x m
        | .ok (.ret v) m => .ok (.ret v) m
        | .ok (.nxt t') m => joinO (whM c f n t') k m
        | .ok (.cnt t') m => joinO (whM c f n t') k m
        | .ok (.brk t') m => k t' m)
      cases f t m with
      | bad => rfl
      | err x m => rfl
      | ok o m => cases o <;> rfl
theorem joinO_bad {τ τ' : Type} {k : τ → M (Out τ')} {ms : Ms} : joinO (M.bad : M (Out τ)) k ms = .bad := rfl
section
variable {X : Cx} {C : Ct} {ρ : List Ent} {τ : Type} {env : τ → List Ent} {pos : Pos} {rest : List Stmt}
theorem db_while {τ' : Type} {envL : τ' → List Ent} {c : Expr} {body : List Stmt} {mc : τ' → M Bool} {fb : τ' → M (Out τ')} {mr : τ' → M (Out τ)} {t0 : τ'} (n : Nat) (hp : PassesOwn (model X.prog X.w) X.A X.env X.xe)
    (w0 : Wk ρ (envL t0)) (hc : ∀ t, PT X c (denT C (envL t) (mc t))) (hb : ∀ t, PSs X body (denB C (envL t) envL (fb t))) (hr : ∀ t, PSs X rest (denB C (envL t) env (mr t))) :
    PSs X (.While c body [] pos :: rest) (denB C ρ env (joinO (whM mc fb n t0) mr)) := by
  have hbody : PSs X body (fun D σ H => ∃ t, denB C (envL t) envL (fb t) D σ H) := pss_ex hb
  have htest : PT X c (fun σ H Q => ∃ t, denT C (envL t) (mc t) σ H Q) := ⟨fun pins s σ H Q I ⟨t, q⟩ => (hc t).run pins s σ H Q I q⟩
  refine (pss_cons (ps_while hp htest hbody) (pss_ex hr)).wk fun Dn σ H ⟨B, S, μ, ms, g, so, mo, en, q⟩ => ?_
  refine ⟨fun m σ' H' => ∃ t S' μ' ms', GB B S' μ' H' ∧ SOk C S' H' ∧ MsOk C S' μ' ms' H' ∧ EnvOk C (fun a => Fr B.H a) S' μ' H' (envL t) σ' ∧ outR C env B (joinO (whM mc fb m t) mr ms') Dn,
    ⟨n, t0, S, μ, ms, g, so, mo, en.wk w0, q⟩, ?_⟩
  rintro m σ' H' ⟨t, S', μ', ms', g', so', mo', en', q'⟩
  cases m with
  | zero => exact False.elim q'
  | succ m =>
    rw [whM_succ] at q'
    refine ⟨t, S', μ', ms', so', mo', en'.imp fun _ _ => trivial, ?_⟩
    cases z : mc t ms' with
    | bad => rw [z] at q'; exact q'
    | err x m2 => rw [z] at q'; exact fun cls dx H2 S2 μ2 g2 => q' cls dx H2 S2 μ2 (g'.trans (C := C) (ms := m2) g2)
    | ok b ms2 =>
      rw [z] at q'
      intro b' H2 S2 μ2 g2 so2 mo2 eb
      cases eb
      have g02 := g'.trans (C := C) (ms := ms2) g2
      cases b with
      | false => exact iteF ⟨t, B, S2, μ2, ms2, g02, so2, mo2, en'.grow g2, q'⟩
      | true =>
        refine iteT ⟨fun σ3 H3 => ∃ t S' μ' ms', GB B S' μ' H3 ∧ SOk C S' H3 ∧ MsOk C S' μ' ms' H3 ∧ EnvOk C (fun a => Fr B.H a) S' μ' H3 (envL t) σ3 ∧ outR C env B (joinO (whM mc fb m t) mr ms') Dn,
          fun σ3 H3 h3 => ⟨m, Nat.lt_succ_self m, h3⟩, t, B, S2, μ2, ms2, g02, so2, mo2, en'.grow g2, ?_⟩
        have q' : outR C env B (match fb t ms2 with
          | .bad => .bad
          | .err x m => .err x m
          | .ok (.ret v) m => .ok (.ret v) m
          | .ok (.nxt t') ms3 => joinO (whM mc fb m t') mr ms3
          | .ok (.cnt t') ms3 => joinO (whM mc fb m t') mr ms3
          | .ok (.brk t') m => mr t' m) Dn := q'
        cases z2 : fb t ms2 with
        | bad => rw [z2] at q'; exact q'
        | err x m3 => rw [z2] at q'; exact q'
        | ok o m3 =>
          rw [z2] at q'
          cases o with
          | ret v => exact q'
          | nxt t3 => exact fun σ3 H3 S3 μ3 g3 so3 mo3 en3 => ⟨t3, S3, μ3, m3, g3, so3, mo3, en3, q'⟩
          | cnt t3 => exact fun σ3 H3 S3 μ3 g3 so3 mo3 en3 => ⟨t3, S3, μ3, m3, g3, so3, mo3, en3, q'⟩
          | brk t3 => exact fun σ3 H3 S3 μ3 g3 so3 mo3 en3 => ⟨t3, B, S3, μ3, m3, g3, so3, mo3, en3, q'⟩
end
/-- forgetting a name -/
theorem de_forget {X : Cx} {C : Ct} {ρ ρ' : List Ent} {e : Expr} {m : M D} (w : Wk ρ ρ') (h : PE X e (denE C ρ' m)) : PE X e (denE C ρ m) := h.wk fun σ H Q ⟨S, μ, ms, so, mo, en, q⟩ => ⟨S, μ, ms, so, mo, en.wk w, q⟩
theorem hu65 {k : Nat} {A : Around} (hr : Room k A) : A.units + 65 < cLine := by have := hr.un; omega
theorem dt_chain {X : Cx} {C : Ct} {ρ : List Ent} {pos : Pos} {a b c : Expr} {op op' : CmpOp} {r r' : R2} {k k' : D → D → M D} {ma mb mc : M D} (ho : OpR X (compareOp op) r) (hr : OpD C r k) (ho' : OpR X (compareOp op') r') (hr' : OpD C r' k') (ha : PE X a (denE C ρ ma)) (hb : PE X b (denE C ρ mb)) (hc : PE X c (denE C ρ mc))
    (hm : lastMarks [op, op'] [b, c] = false := by with_unfolding_all rfl) : PT X (.Compare a [op, op'] [b, c] pos) (denT C ρ (do let d ← (do let x ← ma; let y ← mb; let z ← k x y; let t ← asB z; if t = true then (do let u ← mc; k' y u) else pure (.bool false)); asB d)) :=
  (pt_chain ho ho' ha hb hc hm).wk fun σ H Q ⟨S, μ, ms, so, mo, en, q⟩ => by
    refine den_chain hr hr' (Q := fun x H' => ∃ k, x = .bl k ∧ Q k H') ⟨S, μ, ms, so, mo, en, ?_⟩
    refine wpR.bind q fun z v S' μ' ms' H' g' so' mo' r' q' => ?_
    cases z with
    | bool c => cases r'; exact ⟨c, rfl, wpR.pure q' so' mo' rfl⟩
    | _ => exact False.elim q'
end Pf
set_option Elab.async false
set_option linter.all false
set_option maxRecDepth 100000
set_option maxHeartbeats 4000000
namespace Pf
open PySem PySem.Spec PyProof.Rows L2

/-! ### functions of so many things -/
def on1 {α : Type} (f : D → M α) : List D → M α
  | [a] => f a
  | _ => M.bad
def on2 {α : Type} (f : D → D → M α) : List D → M α
  | [a, b] => f a b
  | _ => M.bad
def on3 {α : Type} (f : D → D → D → M α) : List D → M α
  | [a, b, c] => f a b c
  | _ => M.bad
def on4 {α : Type} (f : D → D → D → D → M α) : List D → M α
  | [a, b, c, d] => f a b c d
  | _ => M.bad
def on5 {α : Type} (f : D → D → D → D → D → M α) : List D → M α
  | [a, b, c, d, e] => f a b c d e
  | _ => M.bad
def on6 {α : Type} (f : D → D → D → D → D → D → M α) : List D → M α
  | [a, b, c, d, e, g] => f a b c d e g
  | _ => M.bad
def on7 {α : Type} (f : D → D → D → D → D → D → D → M α) : List D → M α
  | [a, b, c, d, e, g, h] => f a b c d e g h
  | _ => M.bad
def on0 {α : Type} (f : M α) : List D → M α
  | [] => f
  | _ => M.bad
theorem fin_bad {τ : Type} {m : M (Out τ)} {ms : Ms} (h : m = M.bad) : fin m ms = .bad := by subst h; rfl
theorem on0_bad {α : Type} {f : M α} {ds : List D} (h : ds.length ≠ 0) : on0 f ds = M.bad := by
  match ds, h with
  | [], h => exact absurd rfl h
  | _ :: _, _ => rfl
theorem on1_bad {α : Type} {f : D → M α} {ds : List D} (h : ds.length ≠ 1) : on1 f ds = M.bad := by
  match ds, h with
  | [], _ => rfl
  | [_], h => exact absurd rfl h
  | _ :: _ :: _, _ => rfl
theorem on2_bad {α : Type} {f : D → D → M α} {ds : List D} (h : ds.length ≠ 2) : on2 f ds = M.bad := by
  match ds, h with
  | [], _ => rfl
  | [_], _ => rfl
  | [_, _], h => exact absurd rfl h
  | _ :: _ :: _ :: _, _ => rfl
theorem on3_bad {α : Type} {f : D → D → D → M α} {ds : List D} (h : ds.length ≠ 3) : on3 f ds = M.bad := by
  match ds, h with
  | [], _ => rfl
  | [_], _ => rfl
  | [_, _], _ => rfl
  | [_, _, _], h => exact absurd rfl h
  | _ :: _ :: _ :: _ :: _, _ => rfl
theorem on4_bad {α : Type} {f : D → D → D → D → M α} {ds : List D} (h : ds.length ≠ 4) : on4 f ds = M.bad := by
  match ds, h with
  | [], _ => rfl
  | [_], _ => rfl
  | [_, _], _ => rfl
  | [_, _, _], _ => rfl
  | [_, _, _, _], h => exact absurd rfl h
  | _ :: _ :: _ :: _ :: _ :: _, _ => rfl
theorem on5_bad {α : Type} {f : D → D → D → D → D → M α} {ds : List D} (h : ds.length ≠ 5) : on5 f ds = M.bad := by
  match ds, h with
  | [], _ => rfl
  | [_], _ => rfl
  | [_, _], _ => rfl
  | [_, _, _], _ => rfl
  | [_, _, _, _], _ => rfl
  | [_, _, _, _, _], h => exact absurd rfl h
  | _ :: _ :: _ :: _ :: _ :: _ :: _, _ => rfl
theorem hown_nil {ρ : List Ent} : ∀ i ∈ ([] : List Nat), ρ[i]? = some Ent.none := fun i h => by cases h
theorem hown_cons {ρ : List Ent} {j : Nat} {js : List Nat} (h : ρ[j]? = some Ent.none) (t : ∀ i ∈ js, ρ[i]? = some Ent.none) : ∀ i ∈ j :: js, ρ[i]? = some Ent.none := fun i hi => by
  rcases List.mem_cons.mp hi with e | e
  · rw [e]; exact h
  · exact t i e
/-- nothing is left by break or continue -/
def NB {τ : Type} (m : M (Out τ)) : Prop := ∀ ms o ms', m ms = .ok o ms' → noBC o = true
theorem nb_pure {τ : Type} {o : Out τ} (h : noBC o = true) : NB (pure o : M (Out τ)) := fun ms o' ms' e => by cases e; exact h
theorem nb_err {τ : Type} {x : Xn} : NB (M.err x : M (Out τ)) := fun ms o' ms' e => by cases e
theorem nb_bad {τ : Type} : NB (M.bad : M (Out τ)) := fun ms o' ms' e => by cases e
theorem nb_bind {α τ : Type} {m : M α} {f : α → M (Out τ)} (h : ∀ a, NB (f a)) : NB (m >>= f) := fun ms o ms' e => by
  have e : (m ms).bind f = .ok o ms' := e
  cases z : m ms with
  | bad => rw [z] at e; cases e
  | err x m2 => rw [z] at e; cases e
  | ok a m2 => rw [z] at e; exact h a m2 o ms' e
theorem nb_ite {τ : Type} {c : Prop} [Decidable c] {a b : M (Out τ)} (ha : NB a) (hb : NB b) : NB (if c then a else b) := by
  by_cases h : c
  · rw [if_pos h]; exact ha
  · rw [if_neg h]; exact hb
theorem nb_lift {τ : Type} {m : M (Out Empty)} : NB (lift0 m : M (Out τ)) := nb_bind fun o => match o with
  | .ret d => nb_pure rfl
  | .nxt t => nomatch t
  | .brk t => nomatch t
  | .cnt t => nomatch t
theorem nb_join {τ τ' : Type} {m : M (Out τ')} {k : τ' → M (Out τ)} (h : ∀ t, NB (k t)) : NB (joinO m k) := nb_bind fun o => match o with
  | .ret d => nb_pure rfl
  | .nxt t => h t
  | .brk t => h t
  | .cnt t => h t

/-! ### what a derivation asks again and again -/
section
variable {X : Cx} {C : Ct}
theorem takesE {E : XK} {E₁ : Value → Shared → Prop} (hs : X.stack = X.env :: X.outer) (hf : X.env.frame = some X.env.locals) (hex : X.ex = [])
    (hx : X.xe = fun e s' => wpAny (model X.prog X.w) X.A (leaving X.env e) (fun _ s'' => L2.CX X.prog X.w X.outer X.H_0 X.s_0 E e s'') E₁ s') : Takes X fun c d _ H => E c d H := takes_of hs hf hex hx
theorem passE {E : XK} {E₁ : Value → Shared → Prop} (hs : X.stack = X.env :: X.outer) (hf : X.env.frame = some X.env.locals) (hex : X.ex = [])
    (hx : X.xe = fun e s' => wpAny (model X.prog X.w) X.A (leaving X.env e) (fun _ s'' => L2.CX X.prog X.w X.outer X.H_0 X.s_0 E e s'') E₁ s') : Passes (L2.CX X.prog X.w) X E := passes_call (takes_of hs hf hex hx) fun _ _ _ _ h => h
end
end Pf
set_option Elab.async false
set_option linter.all false
set_option maxRecDepth 100000
set_option maxHeartbeats 4000000
namespace Pf
open PySem PySem.Spec PyProof.Rows PySem.SeqAt PySem.W PySem.Calls

section
variable {A : Around} {s : Shared}
theorem call_tuple_lt {prog : Program} {w : World} {E : Value → Shared → Prop} {Q : Value → Shared → Prop} {l b : Addr} {items items2 : Array Value} {e r : Nat → Bool} (hl : s.heap.IsTuple l items) (hb : s.heap.IsTuple b items2)
    (he : ∀ j (h1 : j < items.size) (h2 : j < items2.size), EqAt A.in1 s items[j] items2[j] (e j)) (hr : ∀ j (h1 : j < items.size) (h2 : j < items2.size), e j = false → RcLt A.in1 s items[j] items2[j] (r j))
    (h : Q (.bool (firstLt e r (decide (items.size < items2.size)) (List.range (min items.size items2.size)))) s) : wpAny (model prog w) A (call (.builtin "tuple.__lt__") [.ref l, .ref b]) Q E s := by
  obtain ⟨⟨cls, dd, data, sl⟩, ho, hc, n, hd⟩ := id hl
  obtain ⟨⟨cls2, dd2, data2, sl2⟩, ho2, hc2, n2, hd2⟩ := id hb
  simp only at hc hd hc2 hd2
  subst hc hd hc2 hd2
  exact call_meets F.slot_tuple_lt ⟨_, ho, rfl⟩ F.entry_tuple_lt (F.args_tuple_lt_2 _ _) (tuple_ltAt l b items items2 n n2 dd dd2 sl sl2 e r) ⟨ho, ho2, he, hr, h⟩
variable {prog : Program} {w : World} {E : Value → Shared → Prop}
theorem oneLt_tups {xs ys : List PyData} {a b : Value} {as bs : List Addr} {Q : Bool → Shared → Prop} (ra : Reads s.heap a (.tuple xs) as) (rb : Reads s.heap b (.tuple ys) bs) (h : alike (.tuple xs) (.tuple ys) = true)
    (hu : A.units + min (PyData.tuple xs).depth (PyData.tuple ys).depth < cLine) (hq : Q (dataLt (.tuple xs) (.tuple ys)) s) : wpAny (model prog w) A (oneLt' true a b) Q E s := by
  have hal : alikeAll xs ys = true := by simpa [alike] using h
  cases ra with
  | @tuple l o vs n _ as₁ h1 h2 h3 h4 =>
    cases rb with
    | @tuple l' o' vs' n' _ bs₁ k1 k2 k3 k4 =>
      have n1 : vs.size = xs.length := by simpa using ReadsAll.length _ _ _ h4
      have n2 : vs'.size = ys.length := by simpa using ReadsAll.length _ _ _ k4
      rw [dataLt_tuple, ← firstLt_toks xs ys hal, ← n1, ← n2] at hq
      rw [oneLt'_eq]
      simp only [if_true]
      refine wpAny_bind (wpAny_cRoomFor (room_here hu) ?_)
      refine wpAny_bind (wpAny_callSpecialIfBound?_slot (T := "tuple") ⟨_, h1, h2⟩ F.slot_tuple_lt (call_tuple_lt (e := pairEq xs ys) (r := fun j => dataLt (xs.getD j .none) (ys.getD j .none)) ⟨_, h1, h2, _, h3⟩ ⟨_, k1, k2, _, k3⟩ (fun j j1 j2 => ?_) (fun j j1 j2 hj => ?_) ?_))
      · have := eqAt_alikeAll xs ys A.in1 s vs.toList vs'.toList _ _ h4 k4 hal (room_in hu) j (by simpa using j1) (by simpa using j2)
        simpa using this
      · have := rcLt_alikeAll xs ys A.in1 s vs.toList vs'.toList _ _ h4 k4 hal (room_in hu) j (by simpa using j1) (by simpa using j2) hj
        simpa using this
      · exact wpAny_truthy_bool hq
theorem mapM_some {M : Model} {α β : Type} {f : α → Sem β} : ∀ (l : List α) {Q : List β → Shared → Prop}, (∀ v ∈ l, ∃ r, ∀ (Q' : β → Shared → Prop), Q' r s → wpAny M A (f v) Q' E s) → (∀ rs : List β, rs.length = l.length → Q rs s) → wpAny M A (l.mapM f) Q E s
  | [], _, _, h => by rw [List.mapM_nil]; exact wpAny_pure (h [] rfl)
  | x :: l, Q, hf, h => by
    rw [List.mapM_cons]
    obtain ⟨r, hr⟩ := hf x (.head _)
    exact wpAny_bind (hr _ (wpAny_bind (mapM_some l (Q := fun bs s' => wpAny M A (pure (r :: bs)) Q E s') (fun v hv => hf v (.tail _ hv)) fun rs e => wpAny_pure (h (r :: rs) (by simp [e])))))
/-- the kind of keys: tuples, the first one empty -/
theorem kind_empty {M : Model} {v₁ v₂ : Value} {rest : List Value} {Q : SortKind → Shared → Prop} (h1 : ∃ a o n, v₁ = .ref a ∧ s.heap.get? a = some o ∧ o.cls = .type "tuple" ∧ o.data = .seq #[] n)
    (hT : ∀ v ∈ v₁ :: v₂ :: rest, ∃ a o xs n, v = .ref a ∧ s.heap.get? a = some o ∧ o.cls = .type "tuple" ∧ o.data = .seq xs n) (h : Q oneType' s) : wpAny M A (keyKind' (v₁ :: v₂ :: rest).toArray) Q E s := by
  have first : ∀ v ∈ v₁ :: v₂ :: rest, ∃ r, ∀ (Q' : Option Value → Shared → Prop), Q' r s → wpAny M A (firstOfTuple' v) Q' E s := fun v hv => by
    obtain ⟨a, o, xs, n, rfl, ho, hc, hd⟩ := hT v hv
    refine ⟨xs[0]?, fun Q' hq => ?_⟩
    rw [kas_first_eq]
    refine wpAny_bind (Looks.here (show Looks M s.heap (typeOf (.ref a)) o.cls from (Looks.ld ho).andThen .now) ?_)
    rw [hc, if_neg (by first | decide | simp)]
    exact wpAny_bind (listItems_at ho hd (wpAny_pure hq))
  have one : ∀ (Q' : Option Value → Shared → Prop), Q' none s → wpAny M A (firstOfTuple' v₁) Q' E s := fun Q' hq => by
    obtain ⟨a, o, n, rfl, ho, hc, hd⟩ := h1
    rw [kas_first_eq]
    refine wpAny_bind (Looks.here (show Looks M s.heap (typeOf (.ref a)) o.cls from (Looks.ld ho).andThen .now) ?_)
    rw [hc, if_neg (by first | decide | simp)]
    exact wpAny_bind (listItems_at ho hd (wpAny_pure hq))
  have ty : ∀ v ∈ v₁ :: v₂ :: rest, Looks M s.heap (typeOf v) (.type "tuple") := fun v hv => by
    obtain ⟨a, o, xs, n, rfl, ho, hc, hd⟩ := hT v hv
    rw [← hc]
    exact (Looks.ld ho).andThen .now
  rw [kat_kind_eq, List.mapM_toArray, map_eq_pure_bind]
  refine wpAny_bind (wpAny_bind ?_)
  rw [List.mapM_cons]
  refine wpAny_bind (one _ (wpAny_bind (mapM_some (v₂ :: rest) (fun v hv => first v (List.mem_cons_of_mem _ hv)) fun rs hl => ?_)))
  refine wpAny_pure (wpAny_pure ?_)
  rw [if_neg (by simp), if_neg (by simp)]
  rw [oneTypeOnly'_eq, List.mapM_toArray, map_eq_pure_bind]
  refine wpAny_bind (wpAny_bind (wpAny_bind (kas_mapM (r := Value.type "tuple") _ (fun v hv Q' hq => (ty v hv).here hq) (wpAny_pure ?_))))
  have hall : ((List.map (fun _ => Value.type "tuple") (v₁ :: v₂ :: rest)).toArray.all fun x => x == Value.type "tuple") = true := by
    simp only [List.all_toArray, List.all_map, List.all_eq_true]
    intro _ _
    exact beq_self_eq_true _
  have h0 : (List.map (fun _ => Value.type "tuple") (v₁ :: v₂ :: rest)).toArray[0]? = some (Value.type "tuple") := by simp
  rw [h0]
  simp only [hall, if_true]
  exact wpAny_pure (wpAny_pure h)
theorem alike_empty {d : PyData} (h : alike (.tuple []) d = true) : ∃ xs, d = .tuple xs := by
  cases d <;> first | exact ⟨_, rfl⟩ | simp [alike] at h
theorem tup_reads {v : Value} {xs : List PyData} {as : List Addr} {h : Heap} (r : Reads h v (.tuple xs) as) : ∃ a o vs n, v = .ref a ∧ h.get? a = some o ∧ o.cls = .type "tuple" ∧ o.data = .seq vs n ∧ vs.size = xs.length := by
  cases r with
  | tuple h1 h2 h3 h4 => exact ⟨_, _, _, _, rfl, h1, h2, h3, by simpa using ReadsAll.length _ _ _ h4⟩
theorem sortsAt_empty {vs : List Value} {ds : List PyData} (e : EachIs (fun v d => ∃ as, Reads s.heap v d as) vs ds) (hal : AllAlike ds) (h0 : ds.head? = some (.tuple [])) (hu : ∀ d, d ∈ ds → A.units + d.depth < cLine) : SortsAt prog w A s (dataKind s.heap ds) vs := by
  have room : ∀ {d d' : PyData}, d ∈ ds → A.units + min d.depth d'.depth < cLine := fun {d d'} hd => Nat.lt_of_le_of_lt (Nat.add_le_add_left (Nat.min_le_left _ _) _) (hu d hd)
  have tups : ∀ d ∈ ds, ∃ xs, d = .tuple xs := fun d hd => by
    cases ds with
    | nil => cases hd
    | cons d0 r =>
      have q : d0 = .tuple [] := by simpa using h0
      exact alike_empty (q ▸ hal d0 List.mem_cons_self d hd)
  refine ⟨fun v hv => ?_, oneType', ?_, fun h2 E Q hq => ?_⟩
  · obtain ⟨d, hd, as, r⟩ := e.left v hv
    exact ⟨_, dataKind_some hal hd r⟩
  · intro E x y a b Q ha hb hq
    obtain ⟨d, as, hd, ra, rfl⟩ := dataKind_inv ha
    obtain ⟨d', as', hd', rb, rfl⟩ := dataKind_inv hb
    rw [keyLt'_oneType]
    obtain ⟨xs, rfl⟩ := tups d hd
    obtain ⟨ys, rfl⟩ := tups d' hd'
    exact oneLt_tups ra rb (hal _ hd _ hd') (room hd) hq
  · cases e with
    | nil => simp at h2
    | @cons v1 d1 vs1 ds1 r1 t1 =>
      cases t1 with
      | nil => simp at h2
      | @cons v2 d2 vs2 ds2 r2 t2 =>
        refine kind_empty ?_ (fun v hv => ?_) hq
        · obtain ⟨as, r1⟩ := r1
          have q : d1 = .tuple [] := by simpa using h0
          subst q
          obtain ⟨a, o, vs, n, q1, q2, q3, q4, q5⟩ := tup_reads r1
          refine ⟨a, o, n, q1, q2, q3, ?_⟩
          have : vs = #[] := by
            apply Array.eq_empty_of_size_eq_zero
            simpa using q5
          rw [q4, this]
        · obtain ⟨d, hd, as, r⟩ := (EachIs.cons r1 (EachIs.cons r2 t2)).left v hv
          obtain ⟨xs, rfl⟩ := tups d hd
          obtain ⟨a, o, vs, n, q1, q2, q3, q4, _⟩ := tup_reads r
          exact ⟨a, o, vs, n, q1, q2, q3, q4⟩
theorem sorted_dataP {l : Addr} {vs : List Value} {ds : List PyData} {R : Value → PyData → Prop} {Q : Value → Shared → Prop} (hl : s.heap.IsList l vs.toArray) (e : EachIs R vs ds) (er : EachIs (fun v b => ∃ as, Reads s.heap v b as) vs ds) (hal : AllAlike ds)
    (hk : Sortable ds ∨ ds.head? = some (.tuple [])) (hL : ds.length ≤ sizeLine) (hu : ∀ b, b ∈ ds → A.units + 2 + b.depth < cLine)
    (h : ∀ out, out.length = ds.length → EachIs R out (ds.mergeSort (dataLe false id)) → Q (.ref (s.heap.objs.size + 1)) { s with heap := sortedAll s.heap vs (List.toArray out) }) :
    wpAny (model prog w) A (call (.builtin "sorted") [.ref l]) Q E s := by
  rcases hk with hk | hk
  · refine sorted_data (enc := id) hl e er (by simpa using hal) (by simpa using hk) hL hu h
  · have er' : EachIs (fun v b => ∃ as, Reads (sortingHeap (copyHeap s.heap vs) (s.heap.objs.size + 1) vs) v b as) vs ds := er.mono fun _ _ ⟨as, r⟩ => ⟨as, PyProof.Rows.Reads.keeps (fun _ _ => sorting_copy_old) r⟩
    have hm : ds.map id = ds := List.map_id ds
    have sd := sortVals_data (h' := sortingHeap (copyHeap s.heap vs) (s.heap.objs.size + 1) vs) (enc := id) (bs := ds) false e er' (by rw [hm]; exact hal)
    rw [hm] at sd
    exact sorted_vals hl (sortsAt_empty (A := A.in1.in1) (s := { s with heap := sortingHeap (copyHeap s.heap vs) (s.heap.objs.size + 1) vs }) er' hal hk hu) (by rw [e.length]; exact hL)
      (h _ (by rw [sortVals_length false rfl]; exact e.length) sd)
end
end Pf

namespace Pf
open PySem PySem.Spec PyProof.Rows L2
section
variable {X : Cx} {C : Ct}
theorem each_of {R : V → D → Prop} : ∀ {vs : List V} {us : List Value} {ds : List D}, Vals vs us → Paired R vs ds → PySem.W.EachIs (fun u d => ∃ v, RelV v u ∧ R v d) us ds
  | _, _, _, .nil, .nil => .nil
  | _, _, _, .cons r t, .cons q s => .cons ⟨_, r, q⟩ (each_of t s)
theorem of_each {R : V → D → Prop} : ∀ {us : List Value} {ds : List D}, PySem.W.EachIs (fun u d => ∃ v, RelV v u ∧ R v d) us ds → ∃ vs, Vals vs us ∧ Paired R vs ds
  | _, _, .nil => ⟨[], .nil, .nil⟩
  | _, _, .cons ⟨v, r, q⟩ t => by
    obtain ⟨vs, h1, h2⟩ := of_each t
    exact ⟨v :: vs, .cons r h1, .cons q h2⟩
theorem RpL.paired {K : PySem.W.Frag} {w : World} {μ : List Addr} {S : Hp} : ∀ {ds : List D} {vs : List V}, RpL K w μ S ds vs → Paired (fun v d => Rp K w μ S d v) vs ds
  | [], _, h => by cases h; exact .nil
  | _ :: _, _, h => by cases h with | cons h1 h2 => exact .cons h1 (RpL.paired h2)
theorem RpL.ofP {K : PySem.W.Frag} {w : World} {μ : List Addr} {S : Hp} : ∀ {ds : List D} {vs : List V}, Paired (fun v d => Rp K w μ S d v) vs ds → RpL K w μ S ds vs
  | [], _, h => by cases h; exact .nil
  | _ :: _, _, h => by cases h with | cons h1 h2 => exact .cons h1 (RpL.ofP h2)
def isNT : D → Bool
  | .tuple (_ :: _) => true
  | _ => false
def isOth : D → Bool
  | .tuple _ => false
  | .none => false
  | _ => true
def isE : Option D → Bool
  | some (.tuple []) => true
  | _ => false
def sortOk (ds : List D) : Bool := (ds.all fun d => ds.all fun e => PySem.W.alike d e) && (ds.all isNT || ds.all isOth || isE ds.head?) && PyData.canLayAll0 ds && decide (PyData.depthAll ds ≤ 40) && decide (ds.length ≤ sizeLine)
def dsort (ds : List D) : List D := ds.mergeSort (PySem.W.dataLe false id)
theorem sortOk_spec {ds : List D} (h : sortOk ds = true) : PySem.W.AllAlike ds ∧ (PySem.W.Sortable ds ∨ ds.head? = some (.tuple [])) ∧ PyData.canLayAll0 ds = true ∧ PyData.depthAll ds ≤ 40 ∧ ds.length ≤ sizeLine := by
  unfold sortOk at h
  simp only [Bool.and_eq_true, decide_eq_true_eq, List.all_eq_true, Bool.or_eq_true] at h
  obtain ⟨⟨⟨⟨h1, h2⟩, h3⟩, h4⟩, h5⟩ := h
  refine ⟨fun d hd d' hd' => h1 d hd d' hd', ?_, h3, h4, h5⟩
  rcases h2 with (h2 | h2) | h2
  · refine .inl (.inl fun d hd => ?_)
    have q := h2 d hd
    unfold isNT at q
    split at q
    · exact ⟨_, _, rfl⟩
    · cases q
  · refine .inl (.inr fun d hd => ?_)
    have q := h2 d hd
    unfold isOth at q
    split at q
    · cases q
    · cases q
    · rename_i n1 n2
      exact ⟨fun z => n2 z, fun xs z => n1 xs z⟩
  · refine .inr ?_
    unfold isE at h2
    split at h2
    · assumption
    · cases h2
theorem depth_mem : ∀ {ds : List D} {d : D}, d ∈ ds → d.depth ≤ PyData.depthAll ds
  | d :: ds, e, h => by
    unfold PyData.depthAll
    rcases List.mem_cons.mp h with rfl | h
    · exact Nat.le_max_left _ _
    · exact Nat.le_trans (depth_mem h) (Nat.le_max_right _ _)
def rSortP (K : PySem.W.Frag) : List V → Hp → VK → Prop := fun vs H Q => ∃ (a : Addr) (xs : List V) (ds : List D) (R : V → D → Prop), vs = [.ref a] ∧ SqL K H a xs ∧ Paired R xs ds ∧ DpAll K H xs ds ∧ sortOk ds = true ∧
  ∀ l ys, H l = none → Paired R ys (dsort ds) → Q (.ref l) (upd H l (.lst ys))
theorem each_reads {h : Heap} : ∀ {us : List Value} {ds : List D} {as : List Addr}, ReadsAll h us ds as → PySem.W.EachIs (fun v b => ∃ as, Reads h v b as) us ds
  | _, [], _, r => by cases r; exact .nil
  | _, _ :: _, _, r => by cases r with | cons h1 h2 => exact .cons ⟨_, h1⟩ (each_reads h2)
theorem cr_sortP (hu : X.A.units + 64 < cLine) : CallR X (.builtin "sorted") (rSortP X.K) := by
  intro pins s σ H vs us Q I r h
  obtain ⟨a, xs, ds, R, rfl, hs, hp, hd, ok, q⟩ := h
  obtain ⟨hal, hk, hc, hdp, hL⟩ := sortOk_spec ok
  obtain ⟨u, rfl, ru⟩ := vals1 r
  cases ru
  obtain ⟨its, rv, pl, hz⟩ := I.list hs
  obtain ⟨as, rd⟩ := Dp.readsAll I ds xs its hd rv
  refine sorted_dataP (R := fun u d => ∃ v, RelV v u ∧ R v d) (s := s) pl.isList (each_of rv hp) (each_reads rd) hal hk hL (fun b hb => ?_) fun out ho eo => ?_
  · have := depth_mem hb; omega
  · obtain ⟨ys, hy1, hy2⟩ := of_each eo
    obtain ⟨c, hcc⟩ := PyProof.Rows.sortedAll_at s.heap its out.toArray
    have hlen : ys.length ≤ sizeLine := by
      rw [hy1.length, ho]; exact hL
    have hf : H (s.heap.objs.size + 1) = none := I.hok.fresh (Nat.le_succ _)
    refine ⟨.ref (s.heap.objs.size + 1), upd H (s.heap.objs.size + 1) (.lst ys), I.laid (a := s.heap.objs.size + 1) (o := .lst ys) (t' := s.toks) (fun b o e => PyProof.Rows.sortedAll_old e) (Nat.le_succ _) ⟨hlen, out, c, hy1, hcc⟩, rfl, q _ ys hf hy2⟩
def sortedM : List D → M D
  | [.list xs] => if sortOk xs = true then pure (.list (dsort xs)) else M.bad
  | _ => M.bad
theorem cd_sorted : CbD C (rSortP C.K) sortedM := fun S μ ms H xs vs Q so mo rx q => by
  unfold sortedM at q
  split at q
  · obtain ⟨c, q⟩ := wpR.ifbad q
    cases rx with
    | cons r1 r2 =>
      cases r2
      cases r1 with
      | lst h1 h2 => exact ⟨_, _, _, fun v d => Rp C.K C.w μ S d v, rfl, so.sqL h1, h2.paired, h2.dp so _ _ (sortOk_spec c).2.2.1, c, fun l ys hl hy => wpR.lst q so mo (RpL.ofP hy) l hl⟩
  · exact False.elim q
end
end Pf
set_option Elab.async false
set_option linter.all false
set_option maxRecDepth 100000
set_option maxHeartbeats 4000000
namespace L2
open PySem PySem.Spec PyProof.Rows
section
variable {P : Program} {w : World} {A : Around} {E : Value → Shared → Prop} {s : Shared}
set_option maxRecDepth 100000 in
set_option maxHeartbeats 3200000 in
theorem set_of_list {l : Addr} {items : Array Value} (ns : List Int) {Q : Value → Shared → Prop} (hh : A.handled = none) (hl : s.heap.IsList l items) (hit : IntsAre items.toList ns) (hb : ns.length + 1 < scanBound)
    (h : ∀ (h' : Heap) (tk c : Nat), SetR w h' s.heap.objs.size (fun j => decide (j ∈ ns)) c → c ≤ ns.length → (∀ b o, s.heap.get? b = some o → h'.get? b = some o) → Q (.ref s.heap.objs.size) { s with heap := h', toks := tk }) :
    wpAny (model P w) A (call (.type "set") [.ref l]) Q E s := by
  have hisz : items.size = ns.length := by
    have q := IntsAre.length hit
    rw [Array.length_toList] at q
    exact q
  obtain ⟨c, tl, hmro⟩ := F.called_set.mro
  have hmade := F.called_set.made
  have hsub := F.called_set.sub
  refine wpAny_call (codeAny_of_tree ?_)
  show wpAny _ _ (callAny (.type "set") _) _ _ _
  refine wpAny_pure ⟨Code.quiet_builtin _ (by decide +kernel), codeAny_builtin F.entry_type_call ?_⟩
  rw [Around.under_plain (weight_type_call_type "set" [.ref l] []) rfl]
  have h1 := F.called_set.notType
  have h2 := F.called_set.canCreate
  have hct := F.typeCall_set_1 (.ref l)
  repeat (any_goals (first | assumption | wp_step))

  refine codeAny_mono (code_set_led1 (.ref l) (E := E) (Q₁ := fun obj s₁ => obj = .ref s.heap.objs.size ∧ s₁ = { s with heap := s.heap.push { cls := .type "set", dict := none, data := .set #[] 0 (.fresh 0 0 (!w.params.followText "set-order")) } }) ⟨rfl, rfl⟩) fun r s₁ hr => ?_
  cases r with
  | error e => exact hr
  | ok fl =>
    cases fl with
    | ret obj =>
      obtain ⟨rfl, rfl⟩ := hr
      have hS : (s.heap.push { cls := .type "set", dict := none, data := .set #[] 0 (.fresh 0 0 (!w.params.followText "set-order")) }).get? s.heap.objs.size = some { cls := .type "set", dict := none, data := .set #[] 0 (.fresh 0 0 (!w.params.followText "set-order")) } := Heap.get?_push_size _ rfl
      have hT : Shared.TypeIs { s with heap := s.heap.push { cls := .type "set", dict := none, data := .set #[] 0 (.fresh 0 0 (!w.params.followText "set-order")) } } (.ref s.heap.objs.size) "set" := ⟨_, hS, rfl⟩
      have hli := F.called_set.init.lookup
      have hbi := F.called_set.init.bind (.ref s.heap.objs.size)
      repeat (any_goals (first | assumption | wp_step))

      refine codeAny_mono (codeAny_call_builtin (R := wants (fun r s₂ => r = .none ∧ ∃ h' tk c, s₂ = { s with heap := h', toks := tk } ∧ SetR w h' s.heap.objs.size (fun j => decide (j ∈ ns)) c ∧ c ≤ ns.length ∧
          (∀ b o, s.heap.get? b = some o → h'.get? b = some o)) E) F.called_set.init.plain F.entry_set_init (check_set_init_1 hT ?_)) fun r₂ s₂ hr₂ => ?_
      · obtain ⟨ol, hol, hcl, nl, hdl⟩ := hl
        obtain ⟨ocls, odict, odata, oslots⟩ := ol
        simp only at hcl hdl
        subst hcl; subst hdl
        have hol' : (s.heap.push { cls := .type "set", dict := none, data := .set #[] 0 (.fresh 0 0 (!w.params.followText "set-order")) }).get? l = some { cls := .type "list", dict := odict, data := .seq items nl, slots := oslots } := Heap.get?_push_of_some _ hol
        have hsls := F.sub_list_set
        have hslf := F.sub_list_frozenset
        have hne : (Value.type "tuple" == Value.type "dict") = false := by decide
        have hl1 : (s.heap.push { cls := .type "set", dict := none, data := .set #[] 0 (.fresh 0 0 (!w.params.followText "set-order")) }).IsList l items := ⟨_, hol', rfl, nl, rfl⟩
        unfold Builtin.«set.__init__» noKeywords Builtin.Frozenset.updateFrom
        generalize hPI : pyIter = PI
        wp_walk
        subst hPI

        refine wpAny_pyIter_list hl1 ?_
        refine wpAny_bind (wpAny_runValue ?_)
        have hlS : l < s.heap.objs.size := Heap.lt_size hol
        have hh3 : A.in1.in1.in1.handled = none := by simp [hh]
        have hz1 : (s.heap.push { cls := .type "set", dict := none, data := .set #[] 0 (.fresh 0 0 (!w.params.followText "set-order")) }).objs.size = s.heap.objs.size + 1 := Heap.size_push ..
        have hneI : l ≠ (s.heap.push { cls := .type "set", dict := none, data := .set #[] 0 (.fresh 0 0 (!w.params.followText "set-order")) }).objs.size := by
          rw [Heap.size_push]; exact Nat.ne_of_lt (Nat.lt_succ_of_lt hlS)
        have hSf : s.heap.objs.size ∉ [(s.heap.push { cls := .type "set", dict := none, data := .set #[] 0 (.fresh 0 0 (!w.params.followText "set-order")) }).objs.size, l] := by
          rw [Heap.size_push]; simp only [List.mem_cons, List.mem_singleton, List.not_mem_nil, or_false, not_or]
          exact ⟨Nat.ne_of_lt (Nat.lt_succ_self _), Nat.ne_of_gt hlS⟩
        have hval : ∀ (i : Nat) (v : Value), items[i]? = some v → ∃ k t, ns[i]? = some k ∧ v = .int k t := fun i v hv => by
          have hi : i < ns.length := by rw [← hisz]; exact (Array.getElem?_eq_some_iff.mp hv).1
          obtain ⟨t, e⟩ := PyProof.Rows.IntsAre.int_at hit i v (by rw [Array.getElem?_toList]; exact hv)
          refine ⟨ns[i], t, List.getElem?_eq_getElem hi, ?_⟩
          rw [e, List.getD_eq_getElem?_getD, List.getElem?_eq_getElem hi] <;> rfl
        refine set_update_ints ((Walks.list hh3 _ l hneI items).toS) s.heap.objs.size
          hSf ns hisz hb hval (items.size - 0) 0 _ (by omega) (Nat.zero_le _)
          ⟨⟨_, Heap.get?_push_size _ rfl, rfl, rfl⟩, (hl1.push _)⟩ ?hS0 ?hR
        case hS0 =>
          have hget : ((s.heap.push { cls := .type "set", dict := none, data := .set #[] 0 (.fresh 0 0 (!w.params.followText "set-order")) }).push { cls := .type "list_iterator", data := .fields #[.ref l, .int 0 0] }).get? s.heap.objs.size
              = some { cls := .type "set", dict := none, data := .set #[] 0 (.fresh 0 0 (!w.params.followText "set-order")) } := Heap.get?_push_of_some _ hS
          exact ⟨0, Nat.le_refl 0, setR_new_at hget⟩
        case hR =>
          intro s' c' hm hc' hS'
          obtain ⟨h', g2, d', tk', os'⟩ := s'
          have eg : g2 = s.gens := hm.gens
          have ed : d' = s.drawn := hm.drawn
          have eo : os' = s.os := hm.os
          subst eg; subst ed; subst eo
          show wpAny _ _ _ _ _ _
          refine wpAny_pure ?_
          show wpAny _ _ (ret Value.none) _ _ _
          rw [hisz] at hc'
          refine wpAny_pure ⟨rfl, h', tk', c', rfl, hS', hc', fun b o e => ?_⟩
          have hb0 : b < s.heap.objs.size := Heap.lt_size e
          have hb1 : b ≠ s.heap.objs.size := Nat.ne_of_lt hb0
          have hb2 : b ≠ (s.heap.push { cls := .type "set", dict := none, data := .set #[] 0 (.fresh 0 0 (!w.params.followText "set-order")) }).objs.size := by
            rw [Heap.size_push]; exact Nat.ne_of_lt (Nat.lt_succ_of_lt hb0)
          exact hm.heap b o (by simp only [List.mem_cons, List.mem_singleton, List.not_mem_nil, or_false, not_or]; exact ⟨hb1, hb2⟩) (Heap.get?_push_of_some _ (Heap.get?_push_of_some _ e))

      · cases r₂ with
        | error e => exact hr₂
        | ok fl₂ =>
          cases fl₂ with
          | ret r =>
            obtain ⟨rfl, h', tk, c', rfl, hS', hc', hk'⟩ := hr₂
            repeat (any_goals (first | assumption | wp_step))
            exact h _ _ _ hS' hc' hk'
          | _ => exact hr₂.elim
    | _ => exact hr.elim


end
end L2
set_option Elab.async false
set_option linter.all false
set_option maxRecDepth 100000
set_option maxHeartbeats 4000000
namespace Pf
open PySem PySem.Spec PyProof.Rows L2

/-! ### sets of ints: len(set(..)), sorted(set(..)) -/
def uins (x : Int) : List Int → List Int
  | [] => [x]
  | y :: r => if x < y then x :: y :: r else if x = y then y :: r else y :: uins x r
def usort : List Int → List Int
  | [] => []
  | x :: r => uins x (usort r)
theorem mem_uins {x k : Int} : ∀ {l : List Int}, k ∈ uins x l ↔ k = x ∨ k ∈ l
  | [] => by simp [uins]
  | y :: r => by
    unfold uins
    split
    · simp
    · split
      · rename_i h1 h2; subst h2; simp
      · rw [List.mem_cons, mem_uins, List.mem_cons]
        constructor
        · rintro (h | h | h)
          · exact .inr (.inl h)
          · exact .inl h
          · exact .inr (.inr h)
        · rintro (h | h | h)
          · exact .inr (.inl h)
          · exact .inl h
          · exact .inr (.inr h)
theorem mem_usort {k : Int} : ∀ {l : List Int}, k ∈ usort l ↔ k ∈ l
  | [] => by simp [usort]
  | x :: r => by rw [usort, mem_uins, mem_usort, List.mem_cons]
theorem uins_up {x : Int} : ∀ {l : List Int}, l.Pairwise (· < ·) → (uins x l).Pairwise (· < ·)
  | [], _ => by simp [uins]
  | y :: r, h => by
    have h' := List.pairwise_cons.mp h
    unfold uins
    split
    · rename_i h1
      refine List.pairwise_cons.mpr ⟨fun z hz => ?_, h⟩
      rcases List.mem_cons.mp hz with rfl | hz
      · exact h1
      · exact Int.lt_trans h1 (h'.1 z hz)
    · split
      · exact h
      · rename_i h1 h2
        refine List.pairwise_cons.mpr ⟨fun z hz => ?_, uins_up h'.2⟩
        rcases mem_uins.mp hz with rfl | hz
        · omega
        · exact h'.1 z hz
theorem usort_up : ∀ l : List Int, (usort l).Pairwise (· < ·)
  | [] => List.Pairwise.nil
  | x :: r => uins_up (usort_up r)
theorem up_unique : ∀ {l m : List Int}, l.Pairwise (· < ·) → m.Pairwise (· < ·) → (∀ k, k ∈ l ↔ k ∈ m) → l = m
  | [], [], _, _, _ => rfl
  | [], y :: m, _, _, h => absurd ((h y).mpr List.mem_cons_self) (by simp)
  | x :: l, [], _, _, h => absurd ((h x).mp List.mem_cons_self) (by simp)
  | x :: l, y :: m, hl, hm, h => by
    have hl' := List.pairwise_cons.mp hl
    have hm' := List.pairwise_cons.mp hm
    have e : x = y := by
      rcases List.mem_cons.mp ((h x).mp List.mem_cons_self) with e | e
      · exact e
      · rcases List.mem_cons.mp ((h y).mpr List.mem_cons_self) with e2 | e2
        · exact e2.symm
        · have := hm'.1 x e; have := hl'.1 y e2; omega
    subst e
    rw [up_unique hl'.2 hm'.2 fun k => ?_]
    have hk := h k
    simp only [List.mem_cons] at hk
    constructor
    · intro q
      rcases hk.mp (.inr q) with e | e
      · subst e; have := hl'.1 k q; omega
      · exact e
    · intro q
      rcases hk.mpr (.inr q) with e | e
      · subst e; have := hm'.1 k q; omega
      · exact e
theorem up_nodup {l : List Int} (h : l.Pairwise (· < ·)) : l.Nodup := h.imp fun h => by omega

section
variable {X : Cx} {C : Ct}
/-- set(xs): what stands at a new place -/
def rSetI (K : PySem.W.Frag) (w : World) : List V → Hp → VK → Prop := fun xs H Q => ∃ (l : Addr) (ns : List Int), xs = [.ref l] ∧ (SqL K H l (ns.map V.int) ∨ SqT K H l (ns.map V.int)) ∧ ns.length ≤ 4000 ∧
  ∀ p c, H p = none → c ≤ ns.length → Q (.ref p) (upd H p (SetO w p (fun j => decide (j ∈ ns)) c))
theorem cr_setI (hc : X.calm = true) : CallR X (.type "set") (rSetI X.K X.w) := by
  intro pins s σ H xs us Q I r h
  obtain ⟨l, ns, rfl, hs, hl, q⟩ := h
  obtain ⟨u, rfl, ru⟩ := vals1 r
  cases ru
  have hf : H s.heap.objs.size = none := I.hok.fresh (Nat.le_refl _)
  have fin : ∀ (h' : Heap) (tk c : Nat), SetR X.w h' s.heap.objs.size (fun j => decide (j ∈ ns)) c → c ≤ ns.length → (∀ b o, s.heap.get? b = some o → h'.get? b = some o) → EP X pins σ Q (.ref s.heap.objs.size) { s with heap := h', toks := tk } := fun h' tk c hS hcl hk =>
    ⟨.ref s.heap.objs.size, _, I.laid (a := s.heap.objs.size) (o := SetO X.w s.heap.objs.size (fun j => decide (j ∈ ns)) c) hk (Nat.le_refl _) (setO_new hS), rfl, q _ c hf hcl⟩
  rcases hs with hs | hs
  · obtain ⟨its, rv, pl, _⟩ := I.list hs
    exact set_of_list ns (I.ok.hd hc) pl.isList (by simpa using intsAre_of rv) (by unfold scanBound; omega) fun h' tk c hS hcl hk => fin h' tk c hS hcl hk
  · obtain ⟨its, rv, pl, _⟩ := I.tuple hs
    exact call_set_tupI ns (I.ok.hd hc) pl (by simpa using intsAre_of rv) (by unfold scanBound; omega) fun h' tk c hS hcl hk => fin h' tk c hS hcl hk
/-- len of a set of ints -/
def rLenS (w : World) : List V → Hp → VK → Prop := fun xs H Q => ∃ (a : Addr) (ns : List Int) (c : Nat), xs = [.ref a] ∧ H a = some (SetO w a (fun j => decide (j ∈ ns)) c) ∧ Q (.int (usort ns).length) H
theorem cr_lenS : CallR X (.builtin "len") (rLenS X.w) := by
  intro pins s σ H xs us Q I r h
  obtain ⟨a, ns, c, rfl, ha, q⟩ := h
  obtain ⟨u, rfl, ru⟩ := vals1 r
  cases ru
  obtain ⟨o, es, ep, t, ho, hex, hd, _, hnd, hS, hb, hf, hn, _⟩ := setO_get I ha
  have hlen : es.size = (usort ns).length := by
    have hp : (es.toList.map keyOf).Perm (usort ns) := (List.perm_ext_iff_of_nodup hnd (up_nodup (usort_up ns))).mpr fun k => by
      rw [mem_usort, ← hS k, decide_eq_true_iff]
    have := hp.length_eq
    rw [List.length_map, Array.length_toList] at this
    exact this
  exact call_len_set ho hex hd hf (by unfold scanBound at hb; omega) ⟨.int (usort ns).length, H, I.tok _, ⟨_, by rw [hlen]⟩, q⟩
variable {ρ : List Ent} {a : Expr} {ma : M D} {p p2 pos pos2 : Pos}
def seqI : D → Option (List Int)
  | .list xs => intsD xs
  | .tuple xs => intsD xs
  | _ => none
theorem seqI_spec {S H : Hp} {μ : List Addr} (so : SOk C S H) {x : D} {v : V} {ns : List Int} (r : Rp C.K C.w μ S x v) (e : seqI x = some ns) : ∃ l, v = .ref l ∧ (SqL C.K H l (ns.map V.int) ∨ SqT C.K H l (ns.map V.int)) := by
  unfold seqI at e
  split at e
  · cases r with
    | lst h1 h2 =>
      have := h2.ints e
      subst this
      exact ⟨_, rfl, .inl (so.sqL h1)⟩
  · cases r with
    | tup h1 h2 =>
      have := h2.ints e
      subst this
      exact ⟨_, rfl, .inr (so.sqT h1)⟩
  · cases e
def lenSetM (x : D) : M D := if ((seqI x).getD []).length ≤ 4000 then M.optF (fun ns => .int (usort ns).length) (seqI x) else M.bad
def sortSetM (x : D) : M D := if ((seqI x).getD []).length < 64 then M.optF (fun ns => .list ((usort ns).map .int)) (seqI x) else M.bad
theorem de_lenset (hg : Gl X "len") (hm : X.mg "len" = none) (hv : bootBuiltins "len" = some (.builtin "len")) (hg2 : Gl X "set") (hm2 : X.mg "set" = none) (hv2 : bootBuiltins "set" = some (.type "set")) (hc : X.calm = true) (ha : PE X a (denE C ρ ma)) (hK : X.K = C.K := by rfl)
    (na : starEach [a] X.env = (false, eval a X.env) :: starEach [] X.env := by rfl) (nb : starEach [.Call (.Name "set" p2) [a] [] pos2] X.env = (false, eval (.Call (.Name "set" p2) [a] [] pos2) X.env) :: starEach [] X.env := by rfl) :
    PE X (.Call (.Name "len" p) [.Call (.Name "set" p2) [a] [] pos2] [] pos) (denE C ρ (do let x ← ma; lenSetM x)) :=
  (pe_callB cr_lenS hg hm hv (pa_cons (pe_callTy (cr_setI hc) hg2 hm2 hv2 (pa_cons ha pa_nil na) (he := na)) pa_nil nb) (he := nb)).wk fun σ H Q h => by
    refine denG.bind h fun x v S1 μ1 ms1 H1 so1 mo1 en1 r1 q1 => ?_
    obtain ⟨hl, q⟩ := wpR.ifbad q1
    obtain ⟨ns, e, q⟩ := wpR.optF q
    rw [e] at hl
    obtain ⟨l, rfl, hs⟩ := seqI_spec so1 r1 e
    exact ⟨l, ns, rfl, by rw [hK]; exact hs, hl, fun pp c hp _ => ⟨pp, ns, c, rfl, upd_same, q _ _ _ _ (Grow.upd so1 _ hp) (so1.upd _ hp) (mo1.upd _ hp) (.int _)⟩⟩
theorem rpl_ints {K : PySem.W.Frag} {w : World} {μ : List Addr} {S : Hp} : ∀ ns : List Int, RpL K w μ S (ns.map .int) (ns.map V.int)
  | [] => .nil
  | n :: ns => .cons (.int n) (rpl_ints ns)
theorem de_sortset (hg : Gl X "sorted") (hm : X.mg "sorted" = none) (hv : bootBuiltins "sorted" = some (.builtin "sorted")) (hg2 : Gl X "set") (hm2 : X.mg "set" = none) (hv2 : bootBuiltins "set" = some (.type "set")) (hc : X.calm = true) (ha : PE X a (denE C ρ ma)) (hK : X.K = C.K := by rfl)
    (na : starEach [a] X.env = (false, eval a X.env) :: starEach [] X.env := by rfl) (nb : starEach [.Call (.Name "set" p2) [a] [] pos2] X.env = (false, eval (.Call (.Name "set" p2) [a] [] pos2) X.env) :: starEach [] X.env := by rfl) :
    PE X (.Call (.Name "sorted" p) [.Call (.Name "set" p2) [a] [] pos2] [] pos) (denE C ρ (do let x ← ma; sortSetM x)) :=
  (pe_callB (cr_sortedSet hc) hg hm hv (pa_cons (pe_callTy (cr_setI hc) hg2 hm2 hv2 (pa_cons ha pa_nil na) (he := na)) pa_nil nb) (he := nb)).wk fun σ H Q h => by
    refine denG.bind h fun x v S1 μ1 ms1 H1 so1 mo1 en1 r1 q1 => ?_
    obtain ⟨hl, q⟩ := wpR.ifbad q1
    obtain ⟨ns, e, q⟩ := wpR.optF q
    rw [e] at hl
    have hl : ns.length < 64 := hl
    obtain ⟨l, rfl, hs⟩ := seqI_spec so1 r1 e
    refine ⟨l, ns, rfl, by rw [hK]; exact hs, by omega, fun pp c hp hcl => ⟨pp, _, c, rfl, upd_same, by omega, fun ks p3 hup hmem _ hp3 => ?_⟩⟩
    have ek : ks = usort ns := up_unique hup (usort_up ns) fun k => by rw [hmem k, mem_usort, decide_eq_true_iff]
    subst ek
    have so2 := so1.upd (SetO X.w pp (fun j => decide (j ∈ ns)) c) hp
    have mo2 := mo1.upd (SetO X.w pp (fun j => decide (j ∈ ns)) c) hp
    exact q _ _ _ _ ((Grow.upd so1 _ hp).trans (C := C) (ms := ms1) (Grow.new so2 _ hp3)) (so2.new hp3 (fun ps z => by cases z)) (mo2.new so2 _ hp3) (.lst (.inl upd_same) (rpl_ints _))

/-! ### a list, a tuple, times an int -/
def rRepL : R2 := fun x y H Q => ∃ l k xs, x = .ref l ∧ y = .int k ∧ Rd H l (.lst xs) ∧ -(2 ^ 63) ≤ k ∧ k < 2 ^ 63 ∧ xs.length * k.toNat ≤ sizeLine ∧ ∀ p, H p = none → Q (.ref p) (upd H p (.lst (List.replicate k.toNat xs).flatten))
theorem op_repL : OpR X (binaryOp .Mult) rRepL := by
  intro pins s σ H x y v u Q I rx ry h
  obtain ⟨l, k, xs, rfl, rfl, hH, h1, h2, hz, q⟩ := h
  cases rx
  obtain ⟨t, rfl⟩ := ry
  obtain ⟨z, its, n, r, e⟩ := hH.ok I.hok
  have hl := r.length
  have hlen : its.toArray.size * k.toNat ≤ sizeLine := by rw [List.size_toArray, ← hl]; exact hz
  have hcap : ¬ its.toArray.size * k.toNat > (2 ^ 63 - 1) / 8 := by
    have : (sizeLine : Nat) ≤ (2 ^ 63 - 1) / 8 := by decide
    omega
  have hfit : ¬ (!Builtin.List.listFitsIndex k) = true := by
    rw [fitsIndex_both h1 h2]
    exact Bool.false_ne_true
  have hlong : ¬ Builtin.List.listTooLong (its.toArray.size * k.toNat) = true := by
    rw [notLongL hlen]
    exact Bool.false_ne_true
  have hnew : List.foldl (fun x1 x2 => x1 ++ x2) #[] (List.replicate (if its.toArray.isEmpty = true then 0 else k.toNat) its.toArray) = (List.replicate k.toNat its).flatten.toArray := by
    have f0 : ∀ m : Nat, List.foldl (fun x1 x2 => x1 ++ x2) #[] (List.replicate m its.toArray) = (List.replicate m its).flatten.toArray := fun m => by
      have := foldl_rep its m []
      rw [List.nil_append] at this
      exact this
    rw [f0]
    cases its with
    | nil => simp
    | cons a r' => rw [if_neg (by simp)]
  refine wpAny_binaryOp_repeat_ref (T := "list") (U := "int") (by decide) ⟨_, e, rfl⟩ (fun s' => typeIs_int s' k t) noFill_list_mul F.fills_int_mul F.slot_int_rmul repeat_list F.slot_int_index.lookup
    (call_meets F.slot_int_rmul (typeIs_int s k t) F.entry_int_rmul (F.args_int_rmul_2 _ _) (int___rmul___int_list k t l its.toArray n)
      ⟨e, rfl, ⟨_, e, rfl⟩, call_meets F.slot_list_mul ⟨_, e, rfl⟩ F.entry_list_mul (F.args_list_mul_2 _ _) (AutoListH.list___mul___list_int_3 l its.toArray n k t hfit hcap hlong) ⟨e, ?_⟩⟩)
  rw [hnew]
  exact ⟨.ref _, _, I.lnew (t' := s.toks) (r.rep k.toNat) (by rw [PyProof.Rows.lm_len_rep_flat, Nat.mul_comm]; exact hz), rfl, q _ I.fresh⟩


theorem tuple_mul1 (l : Addr) (items : Array Value) (n : Nat) (dd : Option Addr) (sl : Array (Option Value)) (u : Tok) :
    Meets (Builtin.«tuple.__mul__» ⟨[.ref l, .int 1 u], []⟩) (fun _ R s => s.heap.get? l = some { cls := .type "tuple", dict := dd, data := .seq items n, slots := sl } ∧ R (.ok (.ret (Value.ref l))) s) :=
  .of_wp fun prog w A R s h => by
    obtain ⟨hp, g, d, tk, os⟩ := s
    obtain ⟨hl, h⟩ := h
    have f1 := AutoSeq1.idx_int
    have c1 : (items.isEmpty || (1 : Int) == 1) = true := by simp
    wp_walk using wpAny_loadPart' hl
    exact ⟨_, rfl, h⟩
def rRepT1 (K : PySem.W.Frag) : R2 := fun x y H Q => ∃ l xs, x = .ref l ∧ y = .int 1 ∧ SqT K H l xs ∧ Q (.ref l) H
theorem op_repT1 : OpR X (binaryOp .Mult) (rRepT1 X.K) := by
  intro pins s σ H x y v u Q I rx ry h
  obtain ⟨l, xs, rfl, rfl, hT, q⟩ := h
  cases rx
  obtain ⟨t, rfl⟩ := ry
  obtain ⟨its, r, ⟨⟨cls, dd, data, sl⟩, ho, hc, n, hd⟩, hs⟩ := I.tuple hT
  simp only at hc hd
  subst hc hd
  refine wpAny_binaryOp_repeat_ref (T := "tuple") (U := "int") (by decide) ⟨_, ho, rfl⟩ (fun s' => typeIs_int s' 1 t) noFill_tuple_mul F.fills_int_mul F.slot_int_rmul repeat_tuple F.slot_int_index.lookup
    (call_meets F.slot_int_rmul (typeIs_int s 1 t) F.entry_int_rmul (F.args_int_rmul_2 _ _) (int_rmul_tuple 1 t l its.toArray n dd sl)
      ⟨ho, rfl, ⟨_, ho, rfl⟩, call_meets F.slot_tuple_mul ⟨_, ho, rfl⟩ F.entry_tuple_mul (F.args_tuple_mul_2 _ _) (tuple_mul1 l its.toArray n dd sl t) ⟨ho, ?_⟩⟩)
  exact ⟨.ref l, H, I, rfl, q⟩
def repT (xs : List D) (k : Int) : M D := if k = 1 then pure (.tuple xs) else if xs ≠ [] ∧ 2 ≤ k ∧ k ≤ 1000 ∧ xs.length ≤ 1000 then pure (.tuple (List.replicate k.toNat xs).flatten) else M.bad
def mulM (x y : D) : M D := match x, y with
  | .int i, .int j => if CMul i j then pure (.int (i * j)) else M.bad
  | .list xs, .int k => if -(2 ^ 63) ≤ k ∧ k < 2 ^ 63 ∧ xs.length * k.toNat ≤ sizeLine then pure (.list (List.replicate k.toNat xs).flatten) else M.bad
  | .tuple xs, .int k => repT xs k
  | _, _ => M.bad
def rMulP (K : PySem.W.Frag) : R2 := fun x y H Q => rI CMul (fun i j => .int (i * j)) x y H Q ∨ rRepL x y H Q ∨ rRepT1 K x y H Q ∨ rRepT K x y H Q
theorem op_mulP : OpR X (binaryOp .Mult) (rMulP X.K) := op_mul.or (op_repL.or (op_repT1.or op_repT))
theorem RpL.rep {K : PySem.W.Frag} {w : World} {μ : List Addr} {S : Hp} {ds : List D} {vs : List V} (h : RpL K w μ S ds vs) : ∀ n : Nat, RpL K w μ S (List.replicate n ds).flatten (List.replicate n vs).flatten
  | 0 => .nil
  | n + 1 => by rw [List.replicate_succ, List.replicate_succ, List.flatten_cons, List.flatten_cons]; exact h.app (RpL.rep h n)
theorem od_mul : OpD C (rMulP C.K) mulM := fun S μ ms H x y v u Q so mo rx ry q => by
  unfold mulM at q
  split at q
  · cases rx; cases ry
    obtain ⟨c, q⟩ := wpR.ifbad q
    exact .inl ⟨_, _, rfl, rfl, c, wpR.pure q so mo (.int _)⟩
  · cases ry
    cases rx with
    | lst h1 h2 =>
      obtain ⟨⟨c1, c2, c3⟩, q⟩ := wpR.ifbad q
      exact .inr (.inl ⟨_, _, _, rfl, rfl, so.lst h1, c1, c2, by rw [← h2.len]; exact c3, wpR.lst q so mo (h2.rep _)⟩)
  · rename_i xs k
    cases ry
    cases rx with
    | tup h1 h2 =>
      unfold repT at q
      by_cases hk : k = 1
      · rw [if_pos hk] at q
        subst hk
        exact .inr (.inr (.inl ⟨_, _, rfl, rfl, so.sqT h1, wpR.pure q so mo (.tup h1 h2)⟩))
      · rw [if_neg hk] at q
        obtain ⟨⟨c1, c2, c3, c4⟩, q⟩ := wpR.ifbad q
        refine .inr (.inr (.inr ⟨_, _, _, rfl, rfl, so.sqT h1, fun e => c1 ?_, c2, c3, by rw [← h2.len]; exact c4, wpR.tup q so mo (h2.rep _)⟩))
        subst e
        cases h2
        rfl
  · exact False.elim q
end
end Pf
set_option Elab.async false
set_option linter.all false
set_option maxRecDepth 100000
set_option maxHeartbeats 4000000
namespace Pf
open PySem PySem.Spec PyProof.Rows L2

/-! ### comprehensions with two fors -/
def lc2M (p1 p2 : Pat) (mt1 : List D → M Bool) (mi : List D → M (List D)) (mt2 : List D → List D → M Bool) (me : List D → List D → M D) : List D → M (List D)
  | [] => pure []
  | d :: r => do
    let ds ← M.opt (patD p1 d)
    let b ← M.noerr (mt1 ds)
    if b = true then do
      let ys ← M.noerr (mi ds)
      let zs ← lcM p2 (mt2 ds) (me ds) ys
      let rs ← lc2M p1 p2 mt1 mi mt2 me r
      pure (zs ++ rs)
    else lc2M p1 p2 mt1 mi mt2 me r
theorem lc2M_cons {p1 p2 : Pat} {mt1 : List D → M Bool} {mi : List D → M (List D)} {mt2 : List D → List D → M Bool} {me : List D → List D → M D} {d : D} {r : List D} {k : List D → M D} {ms : Ms} :
    ((lc2M p1 p2 mt1 mi mt2 me (d :: r)) >>= k) ms = match patD p1 d with
      | none => .bad
      | some ds => match mt1 ds ms with
        | .ok true ms1 => (match mi ds ms1 with
          | .ok ys ms2 => ((lcM p2 (mt2 ds) (me ds) ys) >>= fun zs => (lc2M p1 p2 mt1 mi mt2 me r) >>= fun rs => k (zs ++ rs)) ms2
          | _ => .bad)
        | .ok false ms1 => ((lc2M p1 p2 mt1 mi mt2 me r) >>= k) ms1
        | _ => .bad := by
  show ((M.bind (M.opt (patD p1 d)) fun ds => M.bind (M.noerr (mt1 ds)) fun b => if b = true then M.bind (M.noerr (mi ds)) fun ys => M.bind (lcM p2 (mt2 ds) (me ds) ys) fun zs => M.bind (lc2M p1 p2 mt1 mi mt2 me r) fun rs => M.pure (zs ++ rs) else lc2M p1 p2 mt1 mi mt2 me r) ms).bind k = _
  cases e : patD p1 d with
  | none => rfl
  | some ds =>
    show ((M.noerr (mt1 ds) ms).bind (fun b => if b = true then M.bind (M.noerr (mi ds)) fun ys => M.bind (lcM p2 (mt2 ds) (me ds) ys) fun zs => M.bind (lc2M p1 p2 mt1 mi mt2 me r) fun rs => M.pure (zs ++ rs) else lc2M p1 p2 mt1 mi mt2 me r)).bind k = _
    unfold M.noerr
    cases e1 : mt1 ds ms with
    | bad => simp only [e1]; rfl
    | err x m => simp only [e1]; rfl
    | ok b ms1 =>
      simp only [e1]
      cases b with
      | false => rfl
      | true =>
        show ((M.noerr (mi ds) ms1).bind (fun ys => M.bind (lcM p2 (mt2 ds) (me ds) ys) fun zs => M.bind (lc2M p1 p2 mt1 mi mt2 me r) fun rs => M.pure (zs ++ rs))).bind k = _
        unfold M.noerr
        cases e2 : mi ds ms1 with
        | bad => simp only [e2]; rfl
        | err x m => simp only [e2]; rfl
        | ok ys ms2 =>
          simp only [e2]
          show ((lcM p2 (mt2 ds) (me ds) ys ms2).bind fun zs => M.bind (lc2M p1 p2 mt1 mi mt2 me r) fun rs => M.pure (zs ++ rs)).bind k = (lcM p2 (mt2 ds) (me ds) ys ms2).bind fun zs => M.bind (lc2M p1 p2 mt1 mi mt2 me r) fun rs => k (zs ++ rs)
          cases lcM p2 (mt2 ds) (me ds) ys ms2 with
          | bad => rfl
          | err x m => rfl
          | ok zs ms3 =>
            show ((lc2M p1 p2 mt1 mi mt2 me r ms3).bind fun rs => M.pure (zs ++ rs)).bind k = (lc2M p1 p2 mt1 mi mt2 me r ms3).bind fun rs => k (zs ++ rs)
            cases lc2M p1 p2 mt1 mi mt2 me r ms3 <;> rfl
theorem lcM_consL {p : Pat} {mt : List D → M Bool} {me : List D → M D} {d : D} {r : List D} {k : List D → M D} {ms : Ms} :
    ((lcM p mt me (d :: r)) >>= k) ms = match patD p d with
      | none => .bad
      | some ds => match mt ds ms with
        | .ok true ms1 => (match me ds ms1 with
          | .ok y ms2 => ((lcM p mt me r) >>= fun ys => k (y :: ys)) ms2
          | _ => .bad)
        | .ok false ms1 => ((lcM p mt me r) >>= k) ms1
        | _ => .bad := lcM_cons
theorem lc2M_err {p1 p2 : Pat} {mt1 : List D → M Bool} {mi : List D → M (List D)} {mt2 : List D → List D → M Bool} {me : List D → List D → M D} : ∀ (xs : List D) (ms : Ms) (x : Xn) (ms' : Ms), lc2M p1 p2 mt1 mi mt2 me xs ms ≠ .err x ms'
  | [], ms, x, ms', h => by cases h
  | d :: r, ms, x, ms', h => by
    have e := lc2M_cons (p1 := p1) (p2 := p2) (mt1 := mt1) (mi := mi) (mt2 := mt2) (me := me) (d := d) (r := r) (k := fun ys => pure (.list ys)) (ms := ms)
    have h2 : ((lc2M p1 p2 mt1 mi mt2 me (d :: r)) >>= fun ys => (pure (.list ys) : M D)) ms = .err x ms' := by
      show ((lc2M p1 p2 mt1 mi mt2 me (d :: r)) ms).bind _ = _
      rw [h]; rfl
    rw [e] at h2
    have fin : ∀ {m : M (List D)} {f : List D → M D} {ms1 : Ms}, (∀ x2 m2, m ms1 ≠ .err x2 m2) → (∀ a ms2 x2 m2, f a ms2 ≠ .err x2 m2) → (m >>= f) ms1 ≠ .err x ms' := fun {m f ms1} h1 h2 h3 => by
      have h3 : (m ms1).bind f = .err x ms' := h3
      cases z : m ms1 with
      | bad => rw [z] at h3; cases h3
      | err x2 m2 => exact h1 _ _ z
      | ok a m2 => rw [z] at h3; exact h2 a m2 _ _ h3
    cases e0 : patD p1 d with
    | none => rw [e0] at h2; cases h2
    | some ds =>
      rw [e0] at h2
      simp only at h2
      cases e1 : mt1 ds ms with
      | bad => rw [e1] at h2; cases h2
      | err _ _ => rw [e1] at h2; cases h2
      | ok b ms1 =>
        rw [e1] at h2
        cases b with
        | false => exact fin (fun _ _ => lc2M_err r ms1 _ _) (fun _ _ _ _ z => by cases z) h2
        | true =>
          simp only at h2
          cases e3 : mi ds ms1 with
          | bad => rw [e3] at h2; cases h2
          | err _ _ => rw [e3] at h2; cases h2
          | ok ys ms2 =>
            rw [e3] at h2
            simp only at h2
            refine fin (fun _ _ => lcM_err ys ms2 _ _) (fun zs ms3 x2 m2 z => ?_) h2
            have z : (lc2M p1 p2 mt1 mi mt2 me r ms3).bind (fun rs => (pure (.list (zs ++ rs)) : M D)) = .err x2 m2 := z
            cases z4 : lc2M p1 p2 mt1 mi mt2 me r ms3 with
            | bad => rw [z4] at z; cases z
            | err x5 m5 => exact lc2M_err r ms3 _ _ z4
            | ok a m5 => rw [z4] at z; cases z
section
variable {X : Cx} {C : Ct} {ρ : List Ent}
theorem de_lc2 {elt tg iter tg1 iter1 : Expr} {ifs ifs1 : List Expr} {scope : Scope} {own : List (Str × Nat)} {vs1 : List Nat} {pos : Pos} {mi : M (List D)} {p p1 : Pat} {mt : List D → M Bool} {mi1 : List D → M (List D)} {mt1 : List D → List D → M Bool} {me : List D → List D → M D} (hc : X.calm = true) (hN : X.N.Nodup)
    (hi : PI X tg iter (denI C ρ mi)) (ok : BlkOk X.N X.env.scope scope own) (hv : ∀ i ∈ vs1, i ∈ own.map (·.2)) (hown : ∀ i ∈ own.map (·.2), ρ[i]? = some Ent.none) (hsl : ∀ i ∈ slots p, i ∈ own.map (·.2)) (hsl1 : ∀ i ∈ slots p1, i ∈ vs1)
    (hown1 : ∀ ds, ds.length = (slots p).length → ∀ i ∈ vs1, (setE ρ (slots p) ds)[i]? = some Ent.none)
    (hg : ∀ (s : Shared) (H : Hp) (c : Addr) (cl : List (Str × Addr)) (fp : List Addr), PG (X.blk s H scope (compEnvC scope cl c X.env) fp) tg (gD C p) ∧ PG (X.blk s H scope (compEnvC scope cl c X.env) fp) tg1 (gD C p1))
    (ho : ∀ (ds : List D), ds.length = (slots p).length → ∀ (s : Shared) (H : Hp) (c : Addr) (cl : List (Str × Addr)) (fp : List Addr),
      PTs (X.blk s H scope (compEnvC scope cl c X.env) fp) ifs (denT C.noE (setE ρ (slots p) ds) (mt ds)) ∧ PI (X.blk s H scope (compEnvC scope cl c X.env) fp) tg1 iter1 (denI C.noE (setE ρ (slots p) ds) (mi1 ds)))
    (hb : ∀ (ds : List D), ds.length = (slots p).length → ∀ (es : List D), es.length = (slots p1).length → ∀ (s : Shared) (H : Hp) (c : Addr) (cl : List (Str × Addr)) (fp : List Addr),
      PTs (X.blk s H scope (compEnvC scope cl c X.env) fp) ifs1 (denT C.noE (setE (setE ρ (slots p) ds) (slots p1) es) (mt1 ds es)) ∧ PE (X.blk s H scope (compEnvC scope cl c X.env) fp) elt (denE C.noE (setE (setE ρ (slots p) ds) (slots p1) es) (me ds es)))
    (hs : ∀ x, foldedSetIterable iter X.env x = pure x := by intro _; rfl) (hs1 : ∀ env x, foldedSetIterable iter1 env x = pure x := by intro _ _; rfl) :
    PE X (.ListComp elt [⟨tg, iter, ifs, 0⟩, ⟨tg1, iter1, ifs1, 0⟩] scope pos) (denE C ρ (do let xs ← mi; let ys ← lc2M p p1 mt mi1 mt1 me xs; lstM ys)) := by
  refine (pe_lc2 hc hN hi ok hv (fun s H c cl fp => (hg s H c cl fp).1) (tt := fun σ H Q => ∃ ds, ds.length = (slots p).length ∧ denT C.noE (setE ρ (slots p) ds) (mt ds) σ H Q)
    (wi1 := fun σ H R => ∃ ds, ds.length = (slots p).length ∧ denI C.noE (setE ρ (slots p) ds) (mi1 ds) σ H R)
    (tt1 := fun σ H Q => ∃ ds es, ds.length = (slots p).length ∧ es.length = (slots p1).length ∧ denT C.noE (setE (setE ρ (slots p) ds) (slots p1) es) (mt1 ds es) σ H Q)
    (te := fun σ H Q => ∃ ds es, ds.length = (slots p).length ∧ es.length = (slots p1).length ∧ denE C.noE (setE (setE ρ (slots p) ds) (slots p1) es) (me ds es) σ H Q)
    (fun s H c cl fp => ⟨fun pins s' σ H' Q I ⟨ds, hl, q⟩ => (ho ds hl s H c cl fp).1.run pins s' σ H' Q I q⟩)
    (fun s H c cl fp => ⟨fun pins s' σ H' Q I ⟨ds, hl, q⟩ => (ho ds hl s H c cl fp).2.run pins s' σ H' Q I q⟩)
    (fun s H c cl fp => (hg s H c cl fp).2)
    (fun s H c cl fp => ⟨fun pins s' σ H' Q I ⟨ds, es, hl, hl1, q⟩ => (hb ds hl es hl1 s H c cl fp).1.run pins s' σ H' Q I q⟩)
    (fun s H c cl fp => ⟨fun pins s' σ H' Q I ⟨ds, es, hl, hl1, q⟩ => (hb ds hl es hl1 s H c cl fp).2.run pins s' σ H' Q I q⟩) hs hs1).wk fun σ H Q h => ?_
  refine denG.bind h fun xs J S1 μ1 ms1 H1 so1 mo1 en1 r1 q1 Da hDa => ?_
  have hDm : Da ∉ μ1 := fun z => mo1.had z hDa
  have q1 : wpR C (relD C) S1 μ1 H1 ((lc2M p p1 mt mi1 mt1 me xs >>= lstM) ms1) Q := q1
  generalize hT : (lc2M p p1 mt mi1 mt1 me xs >>= lstM) ms1 = T at q1
  refine ⟨fun i m Hc => m = xs.length - i ∧ i ≤ xs.length ∧ ∃ S μ ms acc accV, Grow S1 μ1 H1 S μ Hc ∧ SOk C S Hc ∧ MsOk C S μ ms Hc ∧ Hc Da = some (.lst accV) ∧ S Da = none ∧ Da ∉ μ ∧ RpL C.K C.w μ S acc accV ∧ ((lc2M p p1 mt mi1 mt1 me (xs.drop i)) >>= fun ys => lstM (acc ++ ys)) ms = T,
    ⟨xs.length, by simp, Nat.zero_le _, S1, μ1, ms1, [], [], (Grow.refl _ _ _).poke hDa, so1.upd _ hDa, mo1.upd _ hDa, upd_same, so1.free hDa, hDm, .nil, hT⟩, ?_⟩
  rintro i m Hc ⟨rfl, hi, S, μ, ms, acc, accV, g, so, mo, hD, sD, mD, rA, eT⟩
  have it := r1 i S μ Hc g.s g.sm so
  by_cases hlt : i < xs.length
  · obtain ⟨hgo, hy⟩ := it.1 hlt
    refine .inr ⟨hgo, fun Hn => ∃ S μ ms acc accV, Grow S1 μ1 H1 S μ Hn ∧ SOk C S Hn ∧ MsOk C S μ ms Hn ∧ Hn Da = some (.lst accV) ∧ S Da = none ∧ Da ∉ μ ∧ RpL C.K C.w μ S acc accV ∧ ((lc2M p p1 mt mi1 mt1 me (xs.drop (i + 1))) >>= fun ys => lstM (acc ++ ys)) ms = T,
      fun Hn hn => ⟨xs.length - (i + 1), by omega, rfl, hlt, hn⟩, fun x H2 y2 => ?_⟩
    obtain ⟨S2, g2, so2, mo2, d, ed, rd⟩ := hy x H2 y2
    have mo2 := mo2 ms mo
    have edr : xs.drop i = d :: xs.drop (i + 1) := by
      rw [List.drop_eq_getElem_cons hlt]
      rw [List.getElem?_eq_getElem hlt] at ed
      cases ed; rfl
    rw [edr, lc2M_cons] at eT
    cases e0 : patD p d with
    | none => rw [e0] at eT; subst eT; exact False.elim q1
    | some ds =>
      rw [e0] at eT
      simp only at eT
      have hl := patD_len p d ds e0
      have g12 := g.trans (C := C) (ms := ms) g2
      refine ⟨S2, μ, d, ds, so2, rd, e0, fun vs hv2 => ?_⟩
      have henv : ∀ Sx μx Hx, Grow S1 μ1 H1 Sx μx Hx → SubH S2 Sx → SubM μ μx → EnvOk C.noE (fun _ => True) Sx μx Hx (setE ρ (slots p) ds) (setV (wipe σ (own.map (·.2))) (slots p) vs) := fun Sx μx Hx gx sx mx =>
        (((en1.grow gx).wipe hown).setL (hv2.mono sx mx _ _)).noE
      refine ⟨(wipe_setV hsl).trans (wipe_idem fun _ z => z), ds, hl, S2, μ, ms, so2.noE, mo2.noE, henv _ _ _ g12 (.refl _) (.refl _), ?_⟩
      have hD2 : H2 Da = some (.lst accV) := g2.h Da _ hD mD (fun ps z => by cases z)
      cases e1 : mt ds ms with
      | bad => rw [e1] at eT; subst eT; exact False.elim q1
      | err _ _ => rw [e1] at eT; subst eT; exact False.elim q1
      | ok b ms3 =>
        rw [e1] at eT
        intro b' H3 S3 μ3 g3 so3 mo3 eb
        cases eb
        have g13 := g12.trans (C := C) (ms := ms) g3
        have hD3 : H3 Da = some (.lst accV) := g3.h Da _ hD2 mD (fun ps z => by cases z)
        have sD3 : S3 Da = none := (g2.trans (C := C) (ms := ms) g3).sfree sD (fr_lst hD)
        have mD3 : Da ∉ μ3 := (g2.trans (C := C) (ms := ms) g3).mfree mD (fr_lst hD)
        have rA3 : RpL C.K C.w μ3 S3 acc accV := (rA.mono g2.s g2.sm _ _).mono g3.s g3.sm _ _
        cases b with
        | false => exact iteF ⟨S3, μ3, ms3, acc, accV, g13, so3.ofE, mo3.ofE, hD3, sD3, mD3, rA3, eT⟩
        | true =>
          simp only at eT
          refine iteT ⟨ds, hl, S3, μ3, ms3, so3, mo3, henv _ _ _ g13 g3.s g3.sm, ?_⟩
          cases e4 : mi1 ds ms3 with
          | bad => rw [e4] at eT; subst eT; exact False.elim q1
          | err _ _ => rw [e4] at eT; subst eT; exact False.elim q1
          | ok ys ms4 =>
            rw [e4] at eT
            simp only at eT
            intro J1 H4 S4 μ4 g4 so4 mo4 it1
            have g14 := g13.trans (C := C) (ms := ms) g4
            have hD4 : H4 Da = some (.lst accV) := g4.h Da _ hD3 mD3 (fun ps z => by cases z)
            have sD4 : S4 Da = none := g4.sfree sD3 (fr_lst hD3)
            have mD4 : Da ∉ μ4 := g4.mfree mD3 (fr_lst hD3)
            have rA4 := rA3.mono g4.s g4.sm _ _
            have s24 : SubH S2 S4 := g3.s.trans g4.s
            have m24 : SubM μ μ4 := g3.sm.trans g4.sm
            refine ⟨fun j m Hc => m = ys.length - j ∧ j ≤ ys.length ∧ ∃ S μ ms acc accV, SubH S4 S ∧ SubM μ4 μ ∧ Grow S1 μ1 H1 S μ Hc ∧ SOk C S Hc ∧ MsOk C S μ ms Hc ∧ Hc Da = some (.lst accV) ∧ S Da = none ∧ Da ∉ μ ∧ RpL C.K C.w μ S acc accV ∧
                ((lcM p1 (mt1 ds) (me ds) (ys.drop j)) >>= fun zs => (lc2M p p1 mt mi1 mt1 me (xs.drop (i + 1))) >>= fun rs => lstM (acc ++ (zs ++ rs))) ms = T,
              ⟨ys.length, by simp, Nat.zero_le _, S4, μ4, ms4, acc, accV, .refl _, .refl _, g14, so4.ofE, mo4.ofE, hD4, sD4, mD4, rA4, eT⟩, ?_⟩
            rintro j m Hc ⟨rfl, hj, S, μ, ms, acc, accV, sS, sM, g, so, mo, hD, sD, mD, rA, eT⟩
            have it := it1 j S μ Hc sS sM so.noE
            by_cases hjl : j < ys.length
            · obtain ⟨hgo, hy⟩ := it.1 hjl
              refine .inr ⟨hgo, fun Hn => ∃ S μ ms acc accV, SubH S4 S ∧ SubM μ4 μ ∧ Grow S1 μ1 H1 S μ Hn ∧ SOk C S Hn ∧ MsOk C S μ ms Hn ∧ Hn Da = some (.lst accV) ∧ S Da = none ∧ Da ∉ μ ∧ RpL C.K C.w μ S acc accV ∧
                  ((lcM p1 (mt1 ds) (me ds) (ys.drop (j + 1))) >>= fun zs => (lc2M p p1 mt mi1 mt1 me (xs.drop (i + 1))) >>= fun rs => lstM (acc ++ (zs ++ rs))) ms = T,
                fun Hn hn => ⟨ys.length - (j + 1), by omega, rfl, hjl, hn⟩, fun x H5 y5 => ?_⟩
              obtain ⟨S5, g5, so5, mo5, e, ee, re⟩ := hy x H5 y5
              have mo5 := (mo5 ms mo.noE).ofE
              have so5 := so5.ofE
              have eyr : ys.drop j = e :: ys.drop (j + 1) := by
                rw [List.drop_eq_getElem_cons hjl]
                rw [List.getElem?_eq_getElem hjl] at ee
                cases ee; rfl
              rw [eyr, lcM_consL] at eT
              cases e5 : patD p1 e with
              | none => rw [e5] at eT; subst eT; exact False.elim q1
              | some es =>
                rw [e5] at eT
                simp only at eT
                have hl1 := patD_len p1 e es e5
                have g15 := g.trans (C := C) (ms := ms) g5
                have hD5 : H5 Da = some (.lst accV) := g5.h Da _ hD mD (fun ps z => by cases z)
                refine ⟨S5, μ, e, es, so5, re, e5, fun us hu => ⟨(wipe_setV hsl1).trans (wipe_idem fun _ z => z), ds, es, hl, hl1, S5, μ, ms, so5.noE, mo5.noE, ?_, ?_⟩⟩
                · exact ((henv _ _ _ g15 ((s24.trans sS).trans g5.s) (m24.trans sM)).wipe (hown1 ds hl)).setL hu
                · have hin : ∀ Sx μx Hx, Grow S1 μ1 H1 Sx μx Hx → SubH S5 Sx → SubM μ μx → EnvOk C.noE (fun _ => True) Sx μx Hx (setE (setE ρ (slots p) ds) (slots p1) es) (setV (wipe (setV (wipe σ (own.map (·.2))) (slots p) vs) vs1) (slots p1) us) := fun Sx μx Hx gx sx mx =>
                    ((henv _ _ _ gx (((s24.trans sS).trans g5.s).trans sx) ((m24.trans sM).trans mx)).wipe (hown1 ds hl)).setL (hu.mono sx mx _ _)
                  cases e6 : mt1 ds es ms with
                  | bad => rw [e6] at eT; subst eT; exact False.elim q1
                  | err _ _ => rw [e6] at eT; subst eT; exact False.elim q1
                  | ok b ms6 =>
                    rw [e6] at eT
                    intro b' H6 S6 μ6 g6 so6 mo6 eb
                    cases eb
                    have g16 := g15.trans (C := C) (ms := ms) g6
                    have hD6 : H6 Da = some (.lst accV) := g6.h Da _ hD5 mD (fun ps z => by cases z)
                    have sD6 : S6 Da = none := (g5.trans (C := C) (ms := ms) g6).sfree sD (fr_lst hD)
                    have mD6 : Da ∉ μ6 := (g5.trans (C := C) (ms := ms) g6).mfree mD (fr_lst hD)
                    have rA6 := (rA.mono g5.s g5.sm _ _).mono g6.s g6.sm _ _
                    cases b with
                    | false => exact iteF ⟨S6, μ6, ms6, acc, accV, (sS.trans g5.s).trans g6.s, sM.trans g6.sm, g16, so6.ofE, mo6.ofE, hD6, sD6, mD6, rA6, eT⟩
                    | true =>
                      simp only at eT
                      refine iteT ⟨ds, es, hl, hl1, S6, μ6, ms6, so6, mo6, hin _ _ _ g16 g6.s g6.sm, ?_⟩
                      cases e7 : me ds es ms6 with
                      | bad => rw [e7] at eT; subst eT; exact False.elim q1
                      | err _ _ => rw [e7] at eT; subst eT; exact False.elim q1
                      | ok y ms7 =>
                        rw [e7] at eT
                        simp only at eT
                        intro v H7 S7 μ7 g7 so7 mo7 rv
                        have hD7 : H7 Da = some (.lst accV) := g7.h Da _ hD6 mD6 (fun ps z => by cases z)
                        have sD7 : S7 Da = none := g7.sfree sD6 (fr_lst hD6)
                        have mD7 : Da ∉ μ7 := g7.mfree mD6 (fr_lst hD6)
                        refine ⟨accV, hD7, ?_, S7, μ7, ms7, acc ++ [y], accV ++ [v], ((sS.trans g5.s).trans g6.s).trans g7.s, (sM.trans g6.sm).trans g7.sm, (g16.trans (C := C) (ms := ms) g7).poke hDa, so7.ofE.poke sD7 hD7 ntc_lst, mo7.ofE.poke _ mD7, upd_same, sD7, mD7, (rA6.mono g7.s g7.sm _ _).app (.cons rv .nil), ?_⟩
                        · rw [← rA.len]
                          have eT : ((lcM p1 (mt1 ds) (me ds) (ys.drop (j + 1))) ms7).bind (fun zs => (lc2M p p1 mt mi1 mt1 me (xs.drop (i + 1))) >>= fun rs => lstM (acc ++ (y :: zs ++ rs))) = T := eT
                          cases e8 : lcM p1 (mt1 ds) (me ds) (ys.drop (j + 1)) ms7 with
                          | bad => rw [e8] at eT; subst eT; exact False.elim q1
                          | err x5 m5 => exact absurd e8 (lcM_err _ _ _ _)
                          | ok zs ms8 =>
                            rw [e8] at eT
                            have eT : ((lc2M p p1 mt mi1 mt1 me (xs.drop (i + 1))) ms8).bind (fun rs => lstM (acc ++ (y :: zs ++ rs))) = T := eT
                            cases e9 : lc2M p p1 mt mi1 mt1 me (xs.drop (i + 1)) ms8 with
                            | bad => rw [e9] at eT; subst eT; exact False.elim q1
                            | err x5 m5 => exact absurd e9 (lc2M_err _ _ _ _)
                            | ok rs ms9 =>
                              rw [e9] at eT
                              rw [← eT] at q1
                              obtain ⟨hz, _⟩ := wpR.ifbad q1
                              simp only [List.length_append, List.length_cons] at hz
                              omega
                        · rw [← eT]; simp only [List.append_assoc, List.cons_append, List.nil_append]
            · have e : j = ys.length := by omega
              refine .inl ⟨it.2 (by omega), S, μ, ms, acc, accV, g, so, mo, hD, sD, mD, rA, ?_⟩
              rw [e, List.drop_length] at eT
              exact eT
  · have e : i = xs.length := by omega
    refine .inl ⟨it.2 (by omega), ?_⟩
    rw [e, List.drop_length] at eT
    rw [← eT] at q1
    have q1 : wpR C (relD C) S1 μ1 H1 (lstM (acc ++ []) ms) Q := q1
    rw [List.append_nil] at q1
    obtain ⟨hz, q⟩ := wpR.ifbad q1
    exact q _ _ _ _ (g.give sD hDa) (so.give sD hD (fun ps z => by cases z)) (mo.give sD mD) (.lst (.inl upd_same) (rA.mono (subH_new sD) (.refl _) _ _))
end
end Pf
set_option Elab.async false
set_option linter.all false
set_option maxRecDepth 100000
set_option maxHeartbeats 4000000
namespace Pf
open PySem PySem.Spec PyProof.Rows L2

/-! ### things that are changed in place: lists by their number -/
def newO (xs : List D) : M D := fun ms => if xs.length ≤ sizeLine then .ok (objD ms.length) (ms ++ [.lst xs]) else .bad
def ixO (x y : D) : M D := fun ms => match objN x with
  | some n => (match ms[n]? with
    | some (.lst xs) => (match y with
      | .int i => M.optF id (atI xs i) ms
      | _ => .bad)
    | _ => .bad)
  | none => .bad
def setO (x y v : D) : M Unit := fun ms => match objN x with
  | some n => (match ms[n]? with
    | some (.lst xs) => (match y with
      | .int i => (match ixN xs.length i with
        | some j => .ok () (ms.set n (.lst (xs.set j v)))
        | none => .bad)
      | _ => .bad)
    | _ => .bad)
  | none => .bad
theorem Rp.objA {K : PySem.W.Frag} {w : World} {μ : List Addr} {S : Hp} {d : D} {v : V} {n : Nat} (h : Rp K w μ S d v) (e : objN d = some n) : ∃ a, v = .ref a ∧ μ[n]? = some a := by
  generalize hd : d = d' at h
  cases h with
  | dic h0 _ _ _ => subst hd; rw [h0] at e; cases e
  | obj h1 => subst hd; rw [objN_objD] at e; cases e; exact ⟨_, rfl, h1⟩
  | _ => subst hd; cases e
theorem RpL.setD {K : PySem.W.Frag} {w : World} {μ : List Addr} {S : Hp} {d : D} {v : V} (r : Rp K w μ S d v) : ∀ {ds : List D} {vs : List V} (j : Nat), RpL K w μ S ds vs → RpL K w μ S (ds.set j d) (vs.set j v)
  | [], _, j, h => by cases h; exact .nil
  | _ :: _, _, 0, h => by cases h with | cons h1 h2 => exact .cons r h2
  | _ :: _, _, j + 1, h => by cases h with | cons h1 h2 => exact .cons h1 (RpL.setD r j h2)
section
variable {X : Cx} {C : Ct} {ρ : List Ent} {pos : Pos} {es : List Expr}
theorem de_newO {mes : M (List D)} (h : PA X es (denA C ρ mes)) : PE X (.List es pos) (denE C ρ (do let xs ← mes; newO xs)) := (pe_lst h).wk fun σ H Q h => by
  refine denG.bind h fun xs vs S1 μ1 ms1 H1 so1 mo1 en1 r1 q1 => ?_
  unfold newO at q1
  by_cases hl : xs.length ≤ sizeLine
  · simp only [hl, if_true] at q1
    refine ⟨by rw [← r1.len]; exact hl, fun p hp => ?_⟩
    have hpm : p ∉ μ1 := fun z => mo1.had z hp
    have hSp := so1.free hp
    refine q1 (.ref p) _ S1 (μ1 ++ [p]) ⟨.refl _, fun _ z => .inl z, fun a o ha _ _ => by rw [upd_ne (ne_of_none ha hp)]; exact ha, (Grow.upd (μ := μ1) so1 (.lst vs) hp).t, [p], rfl, fun a ha => by rw [List.mem_singleton.mp ha]; exact Fr.of hp⟩
      (so1.upd _ hp) ⟨by simp [mo1.len], ?_, fun a ha => ?_, fun n mo a h1 h2 => ?_⟩ (.obj (by rw [mo1.len]; simp))
    · rw [List.nodup_append]
      exact ⟨mo1.nd, by simp, fun a ha b hb => by rw [List.mem_singleton.mp hb]; exact fun z => hpm (by rw [← z]; exact ha)⟩
    · rcases List.mem_append.mp ha with q | q
      · exact mo1.out a q
      · rw [List.mem_singleton.mp q]; exact hSp
    · by_cases hn : n < ms1.length
      · rw [List.getElem?_append_left hn] at h1
        rw [List.getElem?_append_left (by rw [← mo1.len]; exact hn)] at h2
        obtain ⟨ho, q, r⟩ := mo1.at_ n mo a h1 h2
        exact ⟨ho, by rw [upd_ne (ne_of_none q hp)]; exact q, r.mono (.refl _) (SubM.app _ _)⟩
      · have en : n = ms1.length := by
          have := (List.getElem?_eq_some_iff.mp h1).1
          simp at this
          omega
        subst en
        rw [List.getElem?_append_right (Nat.le_refl _)] at h1
        rw [mo1.len, List.getElem?_append_right (Nat.le_refl _)] at h2
        simp at h1 h2
        subst h1 h2
        exact ⟨.lst vs, upd_same, r1.mono (.refl _) (SubM.app _ _) _ _⟩
  · simp only [hl, if_false] at q1
    exact False.elim q1
theorem ixO_ok : OpD C (rIx C.K) ixO := fun S μ ms H x y v u Q so mo rx ry q => by
  unfold ixO at q
  cases e : objN x with
  | none => rw [e] at q; exact False.elim q
  | some n =>
    rw [e] at q
    simp only at q
    obtain ⟨a, rfl, ha⟩ := rx.objA e
    cases e2 : ms[n]? with
    | none => rw [e2] at q; exact False.elim q
    | some o =>
      rw [e2] at q
      cases o with
      | lst xs =>
        obtain ⟨ho, h1, h2⟩ := mo.at_ n _ a e2 ha
        cases ho with
        | lst vs =>
          cases y with
          | int i =>
            cases ry
            obtain ⟨d, e3, q⟩ := wpR.optF q
            obtain ⟨z, e4, rz⟩ := RpL.atI h2 e3
            exact .inl ⟨a, vs, i, z, rfl, rfl, .inl (.inl h1), e4, wpR.pure q so mo rz⟩
          | _ => exact False.elim q
        | _ => exact False.elim h2
      | ins c fs => exact False.elim q
theorem de_ixO {a b : Expr} {ma mb : M D} (ha : PE X a (denE C ρ ma)) (hb : PE X b (denE C ρ mb)) (hK : X.K = C.K := by rfl) (hs : PlainIx b := by exact fun _ _ => rfl) :
    PE X (.Subscript a b pos) (denE C ρ (do let x ← ma; let y ← mb; ixO x y)) := (pe_ix (X := X) ix_seq ha hb hs).wk fun σ H Q h => den_op (r := rIx X.K) (by rw [hK]; exact ixO_ok) h
theorem db_setO {τ : Type} {env : τ → List Ent} {rest : List Stmt} {o i e : Expr} {pos' : Pos} {mo mi me : M D} {mr : M (Out τ)} (he : PE X e (denE C ρ me)) (ho : PE X o (denE C ρ mo)) (hi : PE X i (denE C ρ mi)) (hr : PSs X rest (denB C ρ env mr))
    (hs : swapsWithSole [.Subscript o i pos'] e pos.line X.env = pure false := by rfl) (hw : swappedStores [.Subscript o i pos'] e X.env = pure none := by rfl) (h1 : (assignEach [.Subscript o i pos'] X.env).map (·.2) = [assign (.Subscript o i pos') X.env] := by rfl)
    (ha : ∀ v, assign (.Subscript o i pos') X.env v = (do
      let ov ← holding [v] (eval o X.env)
      let iv ← holding [v, ov] (eval i X.env)
      standAt pos'
      holding [v, ov, iv] (setItem ov iv v)
      release [v, ov, iv] []) := by intro _; rfl) :
    PSs X (.Assign [.Subscript o i pos'] e pos :: rest) (denB C ρ env (do let v ← me; let x ← mo; let y ← mi; setO x y v; mr)) :=
  (pss_cons (ps_asg he (pg_sub ho hi set_list ha) hs hw h1) hr).wk fun Dn σ H ⟨B, S, μ, ms, g, so, mok, en, q⟩ => by
    refine ⟨S, μ, ms, so, mok, en.imp fun _ _ => trivial, outR.bind g q fun d v S1 μ1 ms1 H1 g1 so1 mo1 r1 q1 => ?_⟩
    have g01 := g.trans (C := C) (ms := ms1) g1
    refine ⟨S1, μ1, ms1, so1, mo1, (en.grow g1).imp fun _ _ => trivial, outR.bind g01 q1 fun x o2 S2 μ2 ms2 H2 g2 so2 mo2 r2 q2 => ?_⟩
    have g02 := g01.trans (C := C) (ms := ms2) g2
    refine ⟨S2, μ2, ms2, so2, mo2, ((en.grow g1).grow g2).imp fun _ _ => trivial, outR.bind g02 q2 fun y i2 S3 μ3 ms3 H3 g3 so3 mo3 r3 q3 => ?_⟩
    have g03 := g02.trans (C := C) (ms := ms3) g3
    have en3 := ((en.grow g1).grow g2).grow g3
    have rx := r2.mono g3.s g3.sm _ _
    have rd := (r1.mono g2.s g2.sm _ _).mono g3.s g3.sm _ _
    have q3 : outR C env B ((setO x y d ms3).bind fun _ => mr) Dn := q3
    unfold setO at q3
    cases e : objN x with
    | none => rw [e] at q3; exact False.elim q3
    | some n =>
      rw [e] at q3
      simp only at q3
      obtain ⟨a, rfl, ha⟩ := rx.objA e
      cases e2 : ms3[n]? with
      | none => rw [e2] at q3; exact False.elim q3
      | some ob =>
        rw [e2] at q3
        cases ob with
        | ins c fs => exact False.elim q3
        | lst xs =>
          obtain ⟨hoo, h1, h2⟩ := mo3.at_ n _ a e2 ha
          cases hoo with
          | lst vs =>
            cases y with
            | int k =>
              cases r3
              simp only at q3
              cases e3 : ixN xs.length k with
              | none => rw [e3] at q3; exact False.elim q3
              | some j =>
                rw [e3] at q3
                have ham : a ∈ μ3 := List.mem_of_getElem? ha
                have hSa := mo3.out a ham
                have h2 : RpL C.K C.w μ3 S3 xs vs := h2
                have g34 : Grow S3 μ3 H3 S3 μ3 (upd H3 a (.lst (vs.set j v))) := ⟨.refl _, fun _ z => .inl z, fun b ob hb hbm _ => by rw [upd_ne (fun z => hbm (by rw [z]; exact ham))]; exact hb, fun b hb => by
                  by_cases z : b = a
                  · rw [z]; exact fr_lst upd_same
                  · exact fun q => hb fun u q2 => q u (by rw [upd_ne z]; exact q2), [], by simp, by simp⟩
                refine ⟨a, vs, k, j, rfl, rfl, h1, by rw [← h2.len]; exact e3, B, S3, μ3, ms3.set n (.lst (xs.set j d)), g03.trans (C := C) (ms := ms3) g34, so3.poke hSa h1 ntc_lst, ⟨by simp [mo3.len], mo3.nd, mo3.out, fun n' mo' a' h5 h6 => ?_⟩, en3.grow g34, q3⟩
                by_cases hn : n = n'
                · subst hn
                  rw [ha] at h6
                  cases h6
                  rw [List.getElem?_set_self (List.getElem?_eq_some_iff.mp e2).1] at h5
                  cases h5
                  exact ⟨_, upd_same, h2.setD rd j⟩
                · rw [List.getElem?_set_ne hn] at h5
                  obtain ⟨ho', q, r⟩ := mo3.at_ n' mo' a' h5 h6
                  refine ⟨ho', ?_, r⟩
                  rw [upd_ne]; exact q
                  intro z
                  subst z
                  have l1 := (List.getElem?_eq_some_iff.mp ha)
                  have l2 := (List.getElem?_eq_some_iff.mp h6)
                  obtain ⟨p1, p2⟩ := l1
                  obtain ⟨p3, p4⟩ := l2
                  exact hn ((List.getElem_inj mo3.nd).mp (p2.trans p4.symm))
            | _ => exact False.elim q3
          | _ => exact False.elim h2
end
end Pf
set_option Elab.async false
set_option linter.all false
set_option maxRecDepth 100000
set_option maxHeartbeats 4000000
namespace Pf
open PySem PySem.Spec PyProof.Rows L2

/-! ### a def that makes lambdas: its code object is known -/
theorem fun_ofD {K : PySem.W.Frag} {x q : Str} {st : Stmt} {f : Addr} {fd : FuncData} (F : FunD K x q (defArgs st) (defBody st) (defScope st) [] [] f fd) : Fun K x q st f fd := by
  obtain ⟨oc, od, dV, kV, doc, pm, an, cdv, ct, osl, e, lk, hc, hd, _⟩ := F.ex
  rcases hd with ⟨_, hd⟩ | ⟨hd, _⟩
  · subst hd; exact ⟨⟨oc, od, kV, doc, pm, an, cdv, ct, osl, e, lk, hc⟩, F.kp⟩
  · exact absurd rfl hd
theorem fn_denC {P : Program} {w : World} {K : PySem.W.Frag} {mg : Str → Option Value} {base : Heap} {T : List (Addr × Str)} {x qual : Str} {st : Stmt} {fd : FuncData} {N ps : List Str} {k : Nat} {g : List D → M D} {mb : List D → M (Out Unit)}
    (F : Fun K x qual st (He.fAd K (x, none)) fd) (S : FnScope N ps (defScope st)) (hl : ∀ ds ms, ds.length ≠ ps.length → g ds ms = .bad) (hg : ∀ ds, ds.length = ps.length → g ds = fin (mb ds))
    (hbody : ∀ (A : Around) (outer : List Env) (s : Shared) (H : Hp) (E : XK), Room k (A.deeper (envOfC qual (defScope st) s.heap.objs.size (He.fAd K (x, none)) (.ref (He.cT K (x, none)).1))) → ∀ ds, ds.length = ps.length →
      PSs (cxOf (L2.CX P w) P w K mg base N qual (defScope st) (He.fAd K (x, none)) (.ref (He.cT K (x, none)).1) A outer s H E) (defBody st) (denB ⟨K, w, mg, T, E⟩ (ρ0 N.length ds) (fun _ : Unit => List.replicate N.length .none) (mb ds))) :
    FnOk P w K mg base (L2.CX P w) (k + 1) (He.fAd K (x, none)) fd ps (spec K w mg T g) := by
  obtain ⟨oc, od, kV, doc, pm, an, cdv, ct, osl, rfl, lk, hcd⟩ := F.ex
  obtain ⟨c, rfl⟩ := He.codeIn_ref hcd
  have ec : (He.cT K (x, none)).1 = c := He.codeOf_eq lk rfl
  refine fn_of lk hcd S (fun vs H Q E h => ?_) fun A outer s H vs Q E hr h => ?_
  · obtain ⟨ds, S, μ, ms, so, mo, r, q⟩ := h
    by_cases e : ds.length = ps.length
    · rw [← r.len]; exact e
    · rw [hl ds ms e] at q; exact q.elim
  · obtain ⟨ds, S, μ, ms, so, mo, r, q⟩ := h
    by_cases e : ds.length = ps.length
    · have hb := hbody A outer s H E
      rw [ec] at hb
      refine ⟨_, hb hr ds e, ⟨S, μ, H, S, μ⟩, S, μ, ms, ⟨.refl _ _ _, .refl _, .refl _⟩, so, mo, EnvOk.start r, ?_⟩
      rw [hg ds e] at q
      have q : wpR ⟨K, w, mg, T, E⟩ (relD ⟨K, w, mg, T, E⟩) S μ H ((mb ds ms).bind finK) Q := q
      cases z : mb ds ms with
      | bad => rw [z] at q; exact q.elim
      | err x m => rw [z] at q; exact fun cls dx H' S' μ' gb => q cls dx H' S' μ' gb.g
      | ok o m =>
        rw [z] at q
        cases o with
        | ret d => exact fun v H' S' μ' gb => q v H' S' μ' gb.g
        | nxt t => exact fun σ' H' S' μ' gb so' mo' _ => q .non H' S' μ' gb.g so' mo' .non
        | brk t => exact q.elim
        | cnt t => exact q.elim
    · rw [hl ds ms e] at q; exact q.elim

/-! ### try: x() / except A: return 'a' ..; return 'r' -/
def wS (K : PySem.W.Frag) (Q : VK) : List (Value × Str) → Value → Hp → Prop
  | [], _, _ => False
  | (c, r) :: l, cls, H => ∃ b, PySem.W.exmOne K cls c = some b ∧ (b = true → Q (.str r) H) ∧ (b = false → wS K Q l cls H)
inductive HS (sg : Scope) (mg : Str → Option Value) : List ExceptHandler → List (Value × Str) → Prop
  | nil : HS sg mg [] []
  | cons {e r : Str} {c : Addr} {j : Nat} {np p5 p6 pos' : Pos} {hds : List ExceptHandler} {l : List (Value × Str)} (hge : sg.names.lookup e = some .globalImplicit) (hme : mg e = some (.ref c)) (hde : (e == ("__debug__" : Str)) = false) (h : HS sg mg hds l) :
      HS sg mg (.ExceptHandler (some (.Name e np)) none [.Return (some (.Constant (.str r) j p5)) p6] pos' :: hds) ((.ref c, r) :: l)
theorem HS.ok {X : Cx} : ∀ {hds : List ExceptHandler} {l : List (Value × Str)}, HS X.env.scope X.mg hds l →
    ∃ l', HdsOk X hds l' ∧ ∀ (Wout : WX) (D : Ends) (cls : Value) (d : Option Addr) (σ : L2.St) (H : Hp), wS X.K D.rt l cls H → wMany X.K Wout D l' cls d σ H
  | _, _, .nil => ⟨[], .nil, fun _ _ _ _ _ _ h => h.elim⟩
  | _, _, .cons (r := r) (c := c) hge hme hde h => by
    obtain ⟨l', h1, h2⟩ := HS.ok h
    refine ⟨(.ref c, fun _ _ _ => _) :: l', .cons ⟨hge, hde, .inl hme⟩ (fun a oe cls d pn _ _ => pss_one (ps_ret pe_str)) h1, fun Wout D cls d σ H ⟨b, e1, e2, e3⟩ => ⟨b, e1, fun hb a _ => e2 hb, fun hb => h2 _ _ _ _ _ _ (e3 hb)⟩⟩
def TTm (K : PySem.W.Frag) (l : List (Value × Str)) (ret : Str) : (XK → Hp → VK → Prop) → Hp → VK → Prop := fun tl H Q =>
  tl (fun cls _ H' => wS K Q l cls H') H (fun _ H' => Q (.str ret) H')
theorem many_gives {X : Cx} {Ng : List Str} {x a q ret : Str} {sg : Scope} {g : Addr} {cdg : Value} {j : Nat} {h0 : ExceptHandler} {hds : List ExceptHandler} {l : List (Value × Str)} {p1 p2 p3 p8 p9 p10 : Pos} (hs : HS sg X.mg (h0 :: hds) l)
    (hst : ∀ f : Addr, (L2.start Ng [V.ref f])[0]? = some (some (V.ref f))) (hsw : ∀ env, swapsWith (.Call (.Name a p1) [] [] p2) none p3.line env = pure false := by intro _; rfl) :
    LamX.GivesTo X Ng x sg g cdg [.Try [.Expr (.Call (.Name a p1) [] [] p2) p3] (h0 :: hds) [] [] p8, .Return (some (.Constant (.str ret) j p9)) p10] a q (TTm X.K l ret) := by
  intro f c' s H Q tl act hc h
  obtain ⟨l', k1, k2⟩ := HS.ok (X := (cxOf C8.CX0 X.prog X.w X.K X.mg X.base Ng x sg g cdg X.A X.stack s H C8.E0).nox) hs
  refine ⟨_, pss_cons (ps_try_many (X := (cxOf C8.CX0 X.prog X.w X.K X.mg X.base Ng x sg g cdg X.A X.stack s H C8.E0).nox) (Wout := fun _ _ _ _ => False)
      (tb := fun W D σ H => ∃ Ech : XK, (∀ cls d σ' H', Ech cls d H' → W cls d σ' H') ∧ σ[0]? = some (some (.ref f)) ∧ H c' = some (LamX.CodeO c' q) ∧ tl Ech H (fun _ H' => D.nx σ H'))
      rfl rfl LamX.takes0 (fun W pn xe tk _ => ?_) k1) (pss_one (ps_ret pe_str)), ?_⟩
  · refine ⟨fun pins s' σ H' D I h' => ?_⟩
    obtain ⟨Ech, hW, h1, h2, h3⟩ := h'
    have hp := act W pn xe Ech p1 p2 tk hW
    have hq := pss_one (ps_expr (pos := p3) hp (hsw _))
    exact hq.run pins s' σ H' D I ⟨h1, h2, h3⟩
  · exact ⟨fun cls _ H' => wS X.K Q l cls H', fun cls d σ' H' w => k2 _ _ _ _ _ _ w, hst f, hc, h⟩
/-- what it makes of a call: hs: classes and texts -/
def catchS (sub : Str → Str → Bool) (known : List Str) (hs : List (Str × Str)) (ret : Str) (m : M D) : M D := fun ms => match m ms with
  | .ok _ ms' => .ok (.str ret) ms'
  | .err x ms' => if known.contains x.cls then (match hs.find? fun h => sub x.cls h.1 with
    | some h => .ok (.str h.2) ms'
    | none => .bad) else .bad
  | .bad => .bad
theorem wS_of {K : PySem.W.Frag} {Q : VK} {cls : Value} {H : Hp} {sub : Str → Bool} {v : Str} {cl : Str → Value} : ∀ {hs : List (Str × Str)}, (∀ p ∈ hs, PySem.W.exmOne K cls (cl p.1) = some (sub p.1)) →
    (hs.find? fun h => sub h.1).map (·.2) = some v → Q (.str v) H → wS K Q (hs.map fun p => (cl p.1, p.2)) cls H
  | [], _, e, _ => by cases e
  | (x, r) :: hs, hx, e, q => by
    refine ⟨sub x, hx (x, r) List.mem_cons_self, fun hb => ?_, fun hb => ?_⟩
    · rw [List.find?_cons_of_pos (by exact hb)] at e; cases e; exact q
    · rw [List.find?_cons_of_neg (by simp [hb])] at e
      exact wS_of (fun p hp => hx p (List.mem_cons_of_mem _ hp)) e q
section
variable {C : Ct} {S H H1 : Hp} {μ : List Addr}
theorem SOk.extN (so : SOk C S H) (e : LamX.ExtN H H1) (t : LamX.Tabs C.T H1) : SOk C S H1 := by
  refine ⟨fun a u h => ?_, t, so.ntb⟩
  rcases so.sub a u h with q | ⟨h1, o, q⟩
  · exact .inl (e a u q fun ps z => so.ntb a ps (by rw [h, z]))
  · exact .inr ⟨h1, o, e a _ q fun ps z => by cases z⟩
theorem MsOk.extN {ms : Ms} (mo : MsOk C S μ ms H) (e : LamX.ExtN H H1) : MsOk C S μ ms H1 := by
  refine ⟨mo.len, mo.nd, mo.out, fun n x a h1 h2 => ?_⟩
  obtain ⟨ho, q, r⟩ := mo.at_ n x a h1 h2
  refine ⟨ho, e a ho q fun ps z => ?_, r⟩
  subst z
  cases x <;> exact r
theorem EnvOk.extN {F : Addr → Prop} {ρ : List Ent} {σ : L2.St} (en : EnvOk C F S μ H ρ σ) (e : LamX.ExtN H H1) : EnvOk C F S μ H1 ρ σ := by
  refine ⟨en.sh, fun i x h1 h2 => ?_, en.len, en.ne⟩
  obtain ⟨a, ho, q1, q2, q3, q4, q5, q6⟩ := en.ow i x h1 h2
  exact ⟨a, ho, q1, e a ho q2 q3.ntbl, q3, q4, q5, q6⟩
theorem Grow.extN (e : LamX.ExtN H H1) : Grow S μ H S μ H1 := ⟨.refl _, fun _ h => .inl h, fun a o h _ ht => e a o h ht, fun a h z => h fun o q => Classical.byContradiction fun nt => by
  obtain ⟨ps, e2⟩ := z o (e a o q fun ps z2 => nt ⟨ps, z2⟩)
  exact nt ⟨ps, e2⟩, [], by simp, by simp⟩
end
/-- x(lambda: body) of such a def -/
theorem de_lamcall {X : Cx} {C : Ct} {ρ : List Ent} {x a ret : Str} {g c P : Addr} {k : Nat} {fd : FuncData} {Ng : List Str} {sub : Str → Str → Bool} {known : List Str} {hs : List (Str × Str)} {cl : Str → Value}
    {params : Arguments} {body : Expr} {scope : Scope} {mb : M D} {p lpos pos : Pos} {st : Stmt} {j : Nat} {h0 : ExceptHandler} {hds : List ExceptHandler} {p1 p2 p3 p8 p9 p10 : Pos}
    (hK : C.K = X.K) (hm' : C.mg = X.mg) (hg : Gl X x) (hm : X.mg x = some (.ref g)) (F : Fun X.K x x st g fd) (hb : L2.Binds X.K fd [a] []) (hbg : defBody st = [.Try [.Expr (.Call (.Name a p1) [] [] p2) p3] (h0 :: hds) [] [] p8, .Return (some (.Constant (.str ret) j p9)) p10])
    (Sg : FnScope Ng [a] (defScope st)) (hNg : Ng[0]? = some a) (hva : Vis (defScope st) a) (hst : ∀ f : Addr, (L2.start Ng [V.ref f])[0]? = some (some (V.ref f)))
    (hHS : HS (defScope st) X.mg (h0 :: hds) (hs.map fun p => (cl p.1, p.2)))
    (hsub : ∀ y ∈ known, ∀ cls, X.mg y = some cls → ∀ p ∈ hs, PySem.W.exmOne X.K cls (cl p.1) = some (sub y p.1))
    (TB : LamX.TabB X.base X.mg c P) (hcode : X.env.code = .ref c) (hmT : (P, X.env.qual ++ "<lambda>") ∈ C.T) (hu : ∀ p ∈ C.T, p.1 = P → p.2 = X.env.qual ++ "<lambda>") (hr : Room (k + 2) X.A) (L : LamX.LamS X.env.scope scope) (hdef : defaultsOf params X.env = ([], []))
    (hbind : ∀ (q : Str) (cl : List (Str × Addr)) (pm cv ctv : Value), bindArgs (PySem.W.kla_fn "<lambda>" q params body scope cl pm cv ctv) ⟨[], []⟩ = pure [])
    (hbody : ∀ (A : Around) (outer : List Env) (s : Shared) (H : Hp) (E : XK) (f c' : Addr), Room k (A.deeper (LamX.lamEnv X scope s.heap.objs.size f c')) → PE (LamX.lamCx X A outer s H E scope f c') body (denE { C with E := E } ρ mb))
    (hsw : ∀ env, swapsWith (.Call (.Name a p1) [] [] p2) none p3.line env = pure false := by intro _; rfl)
    (hdb : (x == ("__debug__" : Str)) = false := by decide) (hd : (a == ("__debug__" : Str)) = false := by decide) (hcd : (a == ("__classdict__" : Str)) = false := by decide) :
    PE X (.Call (.Name x p) [.Lambda params body scope lpos] [] pos) (denE C ρ (catchS sub known hs ret mb)) := by
  obtain ⟨oc, od, kV, doc, pm, an, cdv, ct, osl, rfl, lk, hcg⟩ := F.ex
  have hG : LamX.GivesTo X Ng x (defScope st) g cdv (defBody st) a (X.env.qual ++ "<lambda>") (TTm X.K (hs.map fun p => (cl p.1, p.2)) ret) := by
    rw [hbg]; exact many_gives hHS hst hsw
  refine (LamX.pe_lamcall (T := C.T) (t := fun E => denE { C with E := E } ρ mb) hg hm F.kp lk hcg hb Sg hNg hva hG TB hcode hmT hu hr L hdef hbind hbody hdb hd hcd).wk fun σ H Q ⟨S, μ, ms, so, mo, en, q⟩ => ?_
  refine ⟨so.tabs, fun H1 eN T1 => ⟨S, μ, ms, ⟨(so.extN eN T1).sub, T1, so.ntb⟩, ?_, ?_, ?_⟩⟩
  · have z := mo.extN eN
    exact ⟨z.len, z.nd, z.out, z.at_⟩
  · have z := en.extN eN
    exact ⟨z.sh, z.ow, z.len, z.ne⟩
  · have g0 : Grow S μ H S μ H1 := Grow.extN eN
    have q : wpR C (relD C) S μ H (match mb ms with
      | .ok _ ms' => .ok (.str ret) ms'
      | .err x ms' => if known.contains x.cls then (match hs.find? fun h => sub x.cls h.1 with
        | some h => .ok (.str h.2) ms'
        | none => .bad) else .bad
      | .bad => .bad) Q := q
    cases z : mb ms with
    | bad => rw [z] at q; exact q
    | ok d ms' =>
      rw [z] at q
      exact fun v H' S' μ' g so' mo' r => q (.str ret) H' S' μ' (g0.trans (C := C) (ms := ms') g) ⟨so'.sub, so'.tabs, so'.ntb⟩ ⟨mo'.len, mo'.nd, mo'.out, mo'.at_⟩ (.str ret)
    | err y ms' =>
      rw [z] at q
      intro cls dx H' S' μ' g so' mo' hx
      simp only at q
      split at q
      · rename_i hk
        have hk : y.cls ∈ known := by simpa using hk
        cases e : hs.find? fun h => sub y.cls h.1 with
        | none => rw [e] at q; exact q.elim
        | some h =>
          rw [e] at q
          have hcl : X.mg y.cls = some cls := by rw [← hm']; exact hx.1
          refine wS_of (sub := sub y.cls) (v := h.2) (cl := cl) (hsub y.cls hk cls hcl) (by rw [e]; rfl) ?_
          exact q (.str h.2) H' S' μ' (g0.trans (C := C) (ms := ms') g) ⟨so'.sub, so'.tabs, so'.ntb⟩ ⟨mo'.len, mo'.nd, mo'.out, mo'.at_⟩ (.str h.2)
      · exact q.elim
end Pf
set_option Elab.async false
set_option linter.all false
set_option maxRecDepth 100000
set_option maxHeartbeats 4000000
namespace Pf
open PySem PySem.Spec PyProof.Rows L2

section
variable {X : Cx} {C : Ct} {ρ : List Ent} {τ : Type} {env : τ → List Ent} {pos : Pos} {rest : List Stmt}
/-! ### a, b = x, y -/
theorem db_par2 {i j : Nat} {x y : Str} {a b : Expr} {px py pt : Pos} {kt k2 pt2} {ma : M (List D)} {mr : D → D → M (Out τ)} (hN : X.N.Nodup) (ha : PA X [a, b] (denA C ρ ma)) (hr : ∀ d e, PSs X rest (denB C ((ρ.set i (.sh d)).set j (.sh e)) env (mr d e)))
    (hc : X.calm = true := by rfl) (hi : X.N[i]? = some x := by rfl) (hj : X.N[j]? = some y := by rfl) (hij : i ≠ j := by decide) (hx : X.env.scope.names.lookup x = some .local := by rfl) (hy : X.env.scope.names.lookup y = some .local := by rfl)
    (hw : swappedStores [.Tuple [.Name x px, .Name y py] kt pt] (.Tuple [a, b] k2 pt2) X.env = pure (some [x, y]) := by rfl) (hs : swapsWithSole [.Tuple [.Name x px, .Name y py] kt pt] (.Tuple [a, b] k2 pt2) pos.line X.env = pure false := by rfl) :
    PSs X (.Assign [.Tuple [.Name x px, .Name y py] kt pt] (.Tuple [a, b] k2 pt2) pos :: rest) (denB C ρ env (do let ds ← ma; on2 mr ds)) := by
  have hrest : PSs X rest (fun D σ H => ∃ d e, denB C ((ρ.set i (.sh d)).set j (.sh e)) env (mr d e) D σ H) := pss_ex fun d => pss_ex fun e => hr d e
  refine (pss_cons (ps_par hc hN hi hj hij hx hy ha hw hs) hrest).wk fun Dn σ H ⟨B, S, μ, ms, g, so, mo, en, q⟩ => ?_
  refine ⟨S, μ, ms, so, mo, en.imp fun _ _ => trivial, outR.bind g q fun ds vs S' μ' ms' H' g' so' mo' r q' => ?_⟩
  match ds, r with
  | [d, e], .cons r1 (.cons r2 .nil) => exact ⟨_, _, rfl, d, e, B, S', μ', ms', g.trans (C := C) (ms := ms') g', so', mo', ((en.grow g').set r1).set r2, q'⟩
  | [], _ => exact False.elim q'
  | [_], _ => exact False.elim q'
  | _ :: _ :: _ :: _, _ => exact False.elim q'
theorem db_par3 {i j l : Nat} {x y z : Str} {a b c : Expr} {px py pz pt : Pos} {kt k2 pt2} {ma : M (List D)} {mr : D → D → D → M (Out τ)} (hN : X.N.Nodup) (ha : PA X [a, b, c] (denA C ρ ma)) (hr : ∀ d e f, PSs X rest (denB C (((ρ.set i (.sh d)).set j (.sh e)).set l (.sh f)) env (mr d e f)))
    (hc : X.calm = true := by rfl) (hi : X.N[i]? = some x := by rfl) (hj : X.N[j]? = some y := by rfl) (hl : X.N[l]? = some z := by rfl) (hij : i ≠ j := by decide) (hil : i ≠ l := by decide) (hjl : j ≠ l := by decide)
    (hx : X.env.scope.names.lookup x = some .local := by rfl) (hy : X.env.scope.names.lookup y = some .local := by rfl) (hz : X.env.scope.names.lookup z = some .local := by rfl)
    (hw : swappedStores [.Tuple [.Name x px, .Name y py, .Name z pz] kt pt] (.Tuple [a, b, c] k2 pt2) X.env = pure (some [x, y, z]) := by rfl) (hs : swapsWithSole [.Tuple [.Name x px, .Name y py, .Name z pz] kt pt] (.Tuple [a, b, c] k2 pt2) pos.line X.env = pure false := by rfl) :
    PSs X (.Assign [.Tuple [.Name x px, .Name y py, .Name z pz] kt pt] (.Tuple [a, b, c] k2 pt2) pos :: rest) (denB C ρ env (do let ds ← ma; on3 mr ds)) := by
  have hrest : PSs X rest (fun D σ H => ∃ d e f, denB C (((ρ.set i (.sh d)).set j (.sh e)).set l (.sh f)) env (mr d e f) D σ H) := pss_ex fun d => pss_ex fun e => pss_ex fun f => hr d e f
  refine (pss_cons (ps_par3 hc hN hi hj hl hij hil hjl hx hy hz ha hw hs) hrest).wk fun Dn σ H ⟨B, S, μ, ms, g, so, mo, en, q⟩ => ?_
  refine ⟨S, μ, ms, so, mo, en.imp fun _ _ => trivial, outR.bind g q fun ds vs S' μ' ms' H' g' so' mo' r q' => ?_⟩
  match ds, r with
  | [d, e, f], .cons r1 (.cons r2 (.cons r3 .nil)) => exact ⟨_, _, _, rfl, d, e, f, B, S', μ', ms', g.trans (C := C) (ms := ms') g', so', mo', (((en.grow g').set r1).set r2).set r3, q'⟩
  | [], _ => exact False.elim q'
  | [_], _ => exact False.elim q'
  | [_, _], _ => exact False.elim q'
  | _ :: _ :: _ :: _ :: _, _ => exact False.elim q'

/-! ### lists of a name's own -/
variable {F : Addr → Prop} {S H : Hp} {μ : List Addr} {σ : L2.St}
theorem set_some {α : Type} {l : List α} {i j : Nat} {a b : α} (h : (l.set i a)[j]? = some b) : (i = j ∧ a = b ∧ j < l.length) ∨ (i ≠ j ∧ l[j]? = some b) := by
  by_cases e : i = j
  · subst e
    by_cases hi : i < l.length
    · rw [List.getElem?_set_self hi] at h; exact .inl ⟨rfl, Option.some.inj h, hi⟩
    · rw [List.getElem?_eq_none (by simpa using hi)] at h; cases h
  · rw [List.getElem?_set_ne e] at h; exact .inr ⟨e, h⟩
theorem EnvOk.setOwn {i : Nat} {p : Addr} {x : Ent} {ho : HO} (en : EnvOk C F S μ H ρ σ) (so : SOk C S H) (hp : H p = none) (hx : HOof C.K C.w μ S p x ho) (hm : p ∉ μ) (hF : F p) :
    EnvOk C F S μ (upd H p ho) (ρ.set i x) (σ.set i (some (.ref p))) := by
  have hl := en.len
  refine ⟨fun j d' h => ?_, fun j e h1 h2 => ?_, by simp [hl], fun j j' e e' a hne h1 h2 h3 h4 h5 h6 => ?_⟩
  · rcases set_some h with ⟨rfl, e, hi⟩ | ⟨e, h⟩
    · subst e; exact hx.elim
    · obtain ⟨v, q1, q2⟩ := en.sh j d' h
      exact ⟨v, by rw [List.getElem?_set_ne e]; exact q1, q2⟩
  · rcases set_some h1 with ⟨rfl, e0, hi⟩ | ⟨e0, h1⟩
    · subst e0; exact ⟨p, ho, by rw [List.getElem?_set_self (by omega)], upd_same, hx, so.free hp, hm, hF⟩
    · obtain ⟨a, ho', q1, q2, q⟩ := en.ow j e h1 h2
      exact ⟨a, ho', by rw [List.getElem?_set_ne e0]; exact q1, by rw [upd_ne (ne_of_none q2 hp)]; exact q2, q⟩
  · rcases set_some h1 with ⟨rfl, e0, hi⟩ | ⟨e0, h1⟩
    · rcases set_some h3 with ⟨rfl, _, _⟩ | ⟨e1, h3⟩
      · exact hne rfl
      · rw [List.getElem?_set_self (by omega)] at h5
        rw [List.getElem?_set_ne e1] at h6
        cases h5
        obtain ⟨a, ho', q1, q2, q⟩ := en.ow j' e' h3 h4
        rw [q1] at h6
        cases h6
        rw [q2] at hp; cases hp
    · rcases set_some h3 with ⟨rfl, _, hi⟩ | ⟨e1, h3⟩
      · rw [List.getElem?_set_self (by omega)] at h6
        rw [List.getElem?_set_ne e0] at h5
        cases h6
        obtain ⟨a, ho', q1, q2, q⟩ := en.ow j e h1 h2
        rw [q1] at h5
        cases h5
        rw [q2] at hp; cases hp
      · rw [List.getElem?_set_ne e0] at h5
        rw [List.getElem?_set_ne e1] at h6
        exact en.ne j j' e e' a hne h1 h2 h3 h4 h5 h6
/-- the own thing of a name is changed -/
theorem EnvOk.pokeOwn {i : Nat} {p : Addr} {x x' : Ent} {ho : HO} (en : EnvOk C F S μ H ρ σ) (hi : ρ[i]? = some x) (ho_ : x.own = true) (hp : σ[i]? = some (some (.ref p))) (hx : HOof C.K C.w μ S p x' ho) (hown : x'.own = true) : EnvOk C F S μ (upd H p ho) (ρ.set i x') σ := by
  obtain ⟨p0, h0, e0, e1, e2, e3, e4, e5⟩ := en.ow i x hi ho_
  rw [hp] at e0
  cases e0
  refine ⟨fun j d' h => ?_, fun j e h1 h2 => ?_, by simp [en.len], fun j j' e e' a hne h1 h2 h3 h4 h5 => ?_⟩
  · rcases set_some h with ⟨rfl, e, _⟩ | ⟨e, h⟩
    · subst e; exact hx.elim
    · exact en.sh j d' h
  · rcases set_some h1 with ⟨rfl, e, _⟩ | ⟨ne, h1⟩
    · subst e; exact ⟨p, ho, hp, upd_same, hx, e3, e4, e5⟩
    · obtain ⟨a, ho', q1, q2, q⟩ := en.ow j e h1 h2
      refine ⟨a, ho', q1, ?_, q⟩
      have : a ≠ p := fun z => by subst z; exact en.ne i j x e a ne hi ho_ h1 h2 hp q1
      rw [upd_ne this]; exact q2
  · rcases set_some h1 with ⟨rfl, _, _⟩ | ⟨n1, h1⟩
    · rcases set_some h3 with ⟨rfl, _, _⟩ | ⟨n2, h3⟩
      · exact absurd rfl hne
      · exact en.ne i j' x e' a hne hi ho_ h3 h4 h5
    · rcases set_some h3 with ⟨rfl, _, _⟩ | ⟨n2, h3⟩
      · exact en.ne j i e x a hne h1 h2 hi ho_ h5
      · exact en.ne j j' e e' a hne h1 h2 h3 h4 h5
/-- the own list of a name becomes a value -/
theorem EnvOk.give {i : Nat} {ds : List D} {p : Addr} {vs : List V} (en : EnvOk C F S μ H ρ σ) (hi : ρ[i]? = some (.lst ds)) (hp : σ[i]? = some (some (.ref p))) (hH : H p = some (.lst vs)) (hS : S p = none) : EnvOk C F (upd S p (.lst vs)) μ H (ρ.set i (.sh (.list ds))) σ := by
  obtain ⟨p0, h0, e0, e1, ⟨vs', ev, e2⟩, e3, e4, e5⟩ := en.ow i _ hi rfl
  rw [hp] at e0
  cases e0
  rw [hH] at e1
  cases e1
  cases ev
  have sub := subH_new (S := S) (p := p) (o := .lst vs) hS
  refine ⟨fun j d' h => ?_, fun j e h1 h2 => ?_, by simp [en.len], fun j j' e e' a hne h1 h2 h3 h4 h5 => ?_⟩
  · rcases set_some h with ⟨rfl, e, _⟩ | ⟨e, h⟩
    · cases e; exact ⟨_, hp, .lst (.inl upd_same) (e2.mono sub (.refl _) _ _)⟩
    · obtain ⟨v, q1, q2⟩ := en.sh j d' h
      exact ⟨v, q1, q2.mono sub (.refl _) _ _⟩
  · rcases set_some h1 with ⟨rfl, e, _⟩ | ⟨ne, h1⟩
    · subst e; cases h2
    · obtain ⟨a, ho', q1, q2, q3, q4, q5⟩ := en.ow j e h1 h2
      have : a ≠ p := fun z => by subst z; exact en.ne i j _ e a ne hi rfl h1 h2 hp q1
      exact ⟨a, ho', q1, q2, q3.mono sub (.refl _), by rw [upd_ne this]; exact q4, q5⟩
  · rcases set_some h1 with ⟨rfl, e, _⟩ | ⟨n1, h1⟩
    · subst e; cases h2
    · rcases set_some h3 with ⟨rfl, e, _⟩ | ⟨n2, h3⟩
      · subst e; cases h4
      · exact en.ne j j' e e' a hne h1 h2 h3 h4 h5
theorem db_give {i : Nat} {ds : List D} {m : M (Out τ)} {b : List Stmt} (hi : ρ[i]? = some (.lst ds)) (h : PSs X b (denB C (ρ.set i (.sh (.list ds))) env m)) : PSs X b (denB C ρ env m) := h.wk fun Dn σ H ⟨B, S, μ, ms, g, so, mo, en, q⟩ => by
  obtain ⟨p, h0, e0, e1, ⟨vs, rfl, e2⟩, e3, e4, e5⟩ := en.ow i _ hi rfl
  have sub := subH_new (S := S) (p := p) (o := .lst vs) e3
  exact ⟨B, upd S p (.lst vs), μ, ms, ⟨⟨g.g.s.trans sub, fun a z => by
    by_cases e : a = p
    · subst e; exact .inr e5
    · rw [upd_ne e] at z; exact g.g.n a z, g.g.h, g.g.t, g.g.m⟩, g.s.trans sub, g.m⟩, so.give e3 e1 (fun ps z => by cases z), mo.give e3 e4, en.give hi e0 e1 e3, q⟩
/-- x = [..], changed later -/
theorem db_ownLit {i : Nat} {x : Str} {pos' p2 : Pos} {es : List Expr} {ma : M (List D)} {mr : List D → M (Out τ)} (hN : X.N.Nodup) (he : PA X es (denA C ρ ma)) (hr : ∀ ds, PSs X rest (denB C (ρ.set i (.lst ds)) env (mr ds))) (hi : X.N[i]? = some x := by rfl) (hx : Loc X.env.scope x := by first | exact Or.inl rfl | exact Or.inr rfl)
    (hs : swapsWith (.List es p2) (some (.Name x pos')) pos.line X.env = pure false := by rfl) (hf : X.fn x = true ∨ X.env.scope.names.lookup x = some .local := by first | exact .inl rfl | exact .inr rfl) :
    PSs X (.Assign [.Name x pos'] (.List es p2) pos :: rest) (denB C ρ env (do let ds ← ma; if ds.length ≤ sizeLine then mr ds else M.bad)) :=
  (pss_cons (ps_set hN hi hx (pe_lst he) hs hf) (pss_ex hr)).wk fun Dn σ H ⟨B, S, μ, ms, g, so, mo, en, q⟩ => by
    refine ⟨S, μ, ms, so, mo, en.imp fun _ _ => trivial, outR.bind g q fun ds vs S' μ' ms' H' g' so' mo' r q' => ?_⟩
    have g2 := g.trans (C := C) (ms := ms') g'
    by_cases hl : ds.length ≤ sizeLine
    · rw [if_pos hl] at q'
      refine ⟨by rw [← r.len]; exact hl, fun p hp => ⟨ds, B, S', μ', ms', g2.trans (C := C) (ms := ms') (Grow.upd so' _ hp), so'.upd _ hp, mo'.upd _ hp, (en.grow g').setOwn so' hp ⟨vs, rfl, r⟩ (fun z => mo'.had z hp) ?_, q'⟩⟩
      exact Classical.byContradiction fun z => g2.g.t p z (Fr.of hp)
    · rw [if_neg hl] at q'; exact False.elim q'
/-- x = a + b, changed later -/
theorem db_ownAdd {i : Nat} {x : Str} {pos' p2 : Pos} {a b : Expr} {ma mb : M D} {mr : List D → M (Out τ)} (hN : X.N.Nodup) (ha : PE X a (denE C ρ ma)) (hb : PE X b (denE C ρ mb)) (hr : ∀ ds, PSs X rest (denB C (ρ.set i (.lst ds)) env (mr ds))) (hi : X.N[i]? = some x := by rfl) (hx : Loc X.env.scope x := by first | exact Or.inl rfl | exact Or.inr rfl)
    (hs : swapsWith (.BinOp a .Add b p2) (some (.Name x pos')) pos.line X.env = pure false := by rfl) (hf : X.fn x = true ∨ X.env.scope.names.lookup x = some .local := by first | exact .inl rfl | exact .inr rfl) :
    PSs X (.Assign [.Name x pos'] (.BinOp a .Add b p2) pos :: rest) (denB C ρ env (do let x ← ma; let y ← mb; match x, y with
      | .list xs, .list ys => if xs.length + ys.length ≤ sizeLine then mr (xs ++ ys) else M.bad
      | _, _ => M.bad)) :=
  (pss_cons (ps_set hN hi hx (pe_op op_addP ha hb) hs hf) (pss_ex hr)).wk fun Dn σ H ⟨B, S, μ, ms, g, so, mo, en, q⟩ => by
    refine ⟨S, μ, ms, so, mo, en.imp fun _ _ => trivial, outR.bind g q fun x v S' μ' ms' H' g' so' mo' r q' => ?_⟩
    have g1 := g.trans (C := C) (ms := ms') g'
    refine ⟨S', μ', ms', so', mo', en.imp (fun _ _ => trivial) |>.grow g', outR.bind g1 q' fun y u S2 μ2 ms2 H2 g2 so2 mo2 r2 q2 => ?_⟩
    have g3 := g1.trans (C := C) (ms := ms2) g2
    have r1 := r.mono g2.s g2.sm _ _
    match x, y, r1, r2 with
    | .list xs, .list ys, .lst h1 h2, .lst k1 k2 =>
      by_cases hl : xs.length + ys.length ≤ sizeLine
      · have q2 : outR C env B (mr (xs ++ ys) ms2) Dn := by simpa only [hl, if_true] using q2
        refine .inr (.inr (.inr (.inl ⟨_, _, _, _, rfl, rfl, so2.lst h1, so2.lst k1, by rw [← h2.len, ← k2.len]; exact hl, fun p hp => ⟨xs ++ ys, B, S2, μ2, ms2, g3.trans (C := C) (ms := ms2) (Grow.upd so2 _ hp), so2.upd _ hp, mo2.upd _ hp,
          ((en.grow g').grow g2).setOwn so2 hp ⟨_, rfl, h2.app k2⟩ (fun z => mo2.had z hp) (Classical.byContradiction fun z => g3.g.t p z (Fr.of hp)), q2⟩⟩)))
      · have q2 : outR C env B ((if xs.length + ys.length ≤ sizeLine then mr (xs ++ ys) else M.bad) ms2) Dn := q2
        rw [if_neg hl] at q2; exact False.elim q2
/-- x.append(e) -/
theorem db_append {i : Nat} {x : Str} {p1 p2 p3 : Pos} {e : Expr} {me : M D} {ds : List D} {mr : List D → M (Out τ)} (hi : ρ[i]? = some (.lst ds)) (he : PE X e (denE C ρ me)) (hr : ∀ d, PSs X rest (denB C (ρ.set i (.lst (ds ++ [d]))) env (mr (ds ++ [d]))))
    (hN : X.N[i]? = some x := by rfl) (hv : Vis X.env.scope x := by first | exact Or.inl rfl | exact Or.inr (Or.inl rfl) | exact Or.inr (Or.inr rfl)) (hd : (x == ("__debug__" : Str)) = false := by decide) (hcd : (x == ("__classdict__" : Str)) = false := by decide)
    (hbase : attributeBase (.Name x p1) "append" X.env (eval (.Name x p1) X.env) = eval (.Name x p1) X.env := by rfl)
    (hfew : ((backTo p3 (starEach [e] X.env)).all (fun x => !x.1) && (backToKw p3 (keywordEach [] X.env)).all (fun x => x.1.isSome) && decide ([e].length + ([] : List Keyword).length + (if ([] : List Keyword).isEmpty then 0 else 1) < 30)) = true := by rfl)
    (hline : (p2.endLine == p3.line) = true := by rfl) (hst : starEach [e] X.env = (false, eval e X.env) :: starEach [] X.env := by rfl) (hplain : (backTo p3 (starEach [] X.env)).any (·.1) = false := by rfl)
    (hs : swapsWith (.Call (.Attribute (.Name x p1) "append" p2) [e] [] p3) none pos.line X.env = pure false := by rfl) :
    PSs X (.Expr (.Call (.Attribute (.Name x p1) "append" p2) [e] [] p3) pos :: rest) (denB C ρ env (do let d ← me; if ds.length < sizeLine then mr (ds ++ [d]) else M.bad)) := by
  refine (pss_cons (ps_expr (pe_bm PySem.F.plainAttrs_list PySem.F.slot_list_append PySem.F.type_list_append mt_append (pe_var hN hv hd hcd) (pa_cons he pa_nil hst) hbase hfew hline hst hplain) hs) (pss_ex hr)).wk fun Dn σ H ⟨B, S, μ, ms, g, so, mo, en, q⟩ => ?_
  obtain ⟨p, h0, e0, e1, ⟨vs, rfl, e2⟩, e3, e4, e5⟩ := en.ow i _ hi rfl
  refine ⟨.ref p, e0, .inl ⟨rfl, vs, .inl (.inl e1)⟩, S, μ, ms, so, mo, en.imp fun _ _ => trivial, outR.bind g q fun d v S' μ' ms' H' g' so' mo' r q' => ?_⟩
  have en' := en.grow g'
  have g2 := g.trans (C := C) (ms := ms') g'
  have hH' := g'.h p _ e1 e4 (fun ps z => by cases z)
  obtain ⟨p0, h0, f0, f1, ⟨vs0, ev, f2⟩, f3, f4, f5⟩ := en'.ow i _ hi rfl
  rw [e0] at f0
  cases f0
  rw [hH'] at f1
  cases f1
  cases ev
  by_cases hl : ds.length < sizeLine
  · rw [if_pos hl] at q'
    refine ⟨p, vs, v, rfl, rfl, hH', by rw [← f2.len]; exact hl, d, B, S', μ', ms', ?_, so'.poke f3 hH' ntc_lst, mo'.poke _ f4, ?_, q'⟩
    · exact ⟨⟨g2.g.s, g2.g.n, fun a u h hm ht => by
        have : a ≠ p := fun z => by subst z; obtain ⟨ps, e⟩ := f5 _ h; exact ht ps e
        rw [upd_ne this]; exact g2.g.h a u h hm ht, fun a h => by
        by_cases e : a = p
        · subst e; exact absurd f5 h
        · exact fun z => g2.g.t a h fun u q => z u (by rw [upd_ne e]; exact q), g2.g.m⟩, g2.s, g2.m⟩
    · exact en'.pokeOwn hi rfl e0 ⟨_, rfl, f2.app (.cons r .nil)⟩ rfl
  · rw [if_neg hl] at q'; exact False.elim q'
end
end Pf
set_option Elab.async false
set_option linter.all false
set_option maxRecDepth 100000
set_option maxHeartbeats 4000000
namespace Pf
open PySem PySem.Spec PyProof.Rows L2
theorem hu64 {k : Nat} {A : Around} (hr : Room k A) : A.units + 64 < cLine := by have := hr.un; omega
/-- a def of which nothing is promised -/
theorem fn_bad {P : Program} {w : World} {K : PySem.W.Frag} {mg : Str → Option Value} {base : Heap} {T : List (Addr × Str)} {x qual : Str} {st : Stmt} {f : Addr} {fd : FuncData} {N ps : List Str} {k : Nat} (F : Fun K x qual st f fd) (S : FnScope N ps (defScope st)) :
    FnOk P w K mg base (L2.CX P w) (k + 1) f fd ps (spec K w mg T fun _ => M.bad) :=
  fn_den (mb := fun _ => M.bad) F S (fun _ _ _ => rfl) (fun _ _ => rfl) fun cdv A outer s H E hr ds hl => ⟨fun pins s' σ H' D I ⟨B, S, μ, ms, _, _, _, _, q⟩ => False.elim q⟩
theorem nd_inj {α β : Type} {f : α → β} : ∀ {l : List α}, (l.map f).Nodup → ∀ {a b : α}, a ∈ l → b ∈ l → f a = f b → a = b
  | [], _, _, _, h, _, _ => by cases h
  | x :: l, nd, a, b, ha, hb, e => by
    rw [List.map_cons, List.nodup_cons] at nd
    rcases List.mem_cons.mp ha with h1 | h1
    · rcases List.mem_cons.mp hb with h2 | h2
      · rw [h1, h2]
      · exact (nd.1 (List.mem_map.mpr ⟨b, h2, by rw [← e, h1]⟩)).elim
    · rcases List.mem_cons.mp hb with h2 | h2
      · exact (nd.1 (List.mem_map.mpr ⟨a, h1, by rw [e, h2]⟩)).elim
      · exact nd_inj nd.2 h1 h2 e
/-- the tables of the defs that make lambdas -/
def tabsOf (K : PySem.W.Frag) (tf : List He.Defn) : List (Addr × Str) := tf.map fun p => ((He.cT K p).2, (p.1 ++ ".<locals>.") ++ "<lambda>")
theorem tabs_mem {K : PySem.W.Frag} {tf : List He.Defn} {q : He.Defn} (h : q ∈ tf) : ((He.cT K q).2, (q.1 ++ ".<locals>.") ++ "<lambda>") ∈ tabsOf K tf := List.mem_map.mpr ⟨q, h, rfl⟩
theorem tabs_u {K : PySem.W.Frag} {tf : List He.Defn} (nd : (tf.map fun p => (He.cT K p).2).Nodup) {q : He.Defn} (hq : q ∈ tf) : ∀ p ∈ tabsOf K tf, p.1 = (He.cT K q).2 → p.2 = (q.1 ++ ".<locals>.") ++ "<lambda>" := fun p hp e => by
  obtain ⟨r, hr, rfl⟩ := List.mem_map.mp hp
  have : r = q := nd_inj (f := fun p : He.Defn => (He.cT K p).2) nd hr hq e
  rw [this]
/-- x = a + b, as a list of its own -/
def ownAddK {τ : Type} (x y : D) (k : List D → M (Out τ)) : M (Out τ) := match x, y with
  | .list xs, .list ys => if xs.length + ys.length ≤ sizeLine then k (xs ++ ys) else M.bad
  | _, _ => M.bad
/-- one for each pair of classes -/
def subT (y z : Str) : Bool := y == z || z == ("PaperError" : Str)
def exmF (ks hs : List Str) : List He.Fa := ks.flatMap fun y => hs.map fun z => .exm y z (subT y z)
theorem exmF_mem {ks hs : List Str} {y z : Str} (hy : y ∈ ks) (hz : z ∈ hs) : He.Fa.exm y z (subT y z) ∈ exmF ks hs := List.mem_flatMap.mpr ⟨y, hy, List.mem_map.mpr ⟨z, hz, rfl⟩⟩
end Pf
namespace Pf
open PySem PySem.Spec PyProof.Rows L2
theorem de_lamc {X : Cx} {C : Ct} {ρ : List Ent} {x a ret x0 : Str} {tf : List He.Defn} {g : Addr} {k : Nat} {fd : FuncData} {Ng : List Str} {sub : Str → Str → Bool} {known : List Str} {hs : List (Str × Str)} {cl : Str → Value}
    {params : Arguments} {body : Expr} {scope : Scope} {mb : M D} {p lpos pos : Pos} {st : Stmt} {j : Nat} {h0 : ExceptHandler} {hds : List ExceptHandler} {p1 p2 p3 p8 p9 p10 : Pos}
    (hK : C.K = X.K) (hm' : C.mg = X.mg) (hg : Gl X x) (hm : X.mg x = some (.ref g)) (F : Fun X.K x x st g fd) (hb : L2.Binds X.K fd [a] []) (hbg : defBody st = [.Try [.Expr (.Call (.Name a p1) [] [] p2) p3] (h0 :: hds) [] [] p8, .Return (some (.Constant (.str ret) j p9)) p10])
    (Sg : FnScope Ng [a] (defScope st)) (hNg : Ng[0]? = some a) (hva : Vis (defScope st) a) (hst : ∀ f : Addr, (L2.start Ng [V.ref f])[0]? = some (some (V.ref f)))
    (hHS : HS (defScope st) X.mg (h0 :: hds) (hs.map fun p => (cl p.1, p.2)))
    (hsub : ∀ y ∈ known, ∀ cls, X.mg y = some cls → ∀ p ∈ hs, PySem.W.exmOne X.K cls (cl p.1) = some (sub y p.1))
    (TB : ∀ p ∈ tf, LamX.TabB X.base X.mg (He.cT X.K p).1 (He.cT X.K p).2) (hcode : X.env.code = .ref (He.cT X.K (x0, none)).1) (hq : X.env.qual = x0 ++ ".<locals>.") (hCT : C.T = tabsOf X.K tf) (hmem : ((x0, none) : He.Defn) ∈ tf) (nd : (tf.map fun p => (He.cT X.K p).2).Nodup) (hr : Room (k + 2) X.A) (L : LamX.LamS X.env.scope scope) (hdef : defaultsOf params X.env = ([], []))
    (hbind : ∀ (q : Str) (cl : List (Str × Addr)) (pm cv ctv : Value), bindArgs (PySem.W.kla_fn "<lambda>" q params body scope cl pm cv ctv) ⟨[], []⟩ = pure [])
    (hbody : ∀ (A : Around) (outer : List Env) (s : Shared) (H : Hp) (E : XK) (f c' : Addr), Room k (A.deeper (LamX.lamEnv X scope s.heap.objs.size f c')) → PE (LamX.lamCx X A outer s H E scope f c') body (denE { C with E := E } ρ mb))
    (hsw : ∀ env, swapsWith (.Call (.Name a p1) [] [] p2) none p3.line env = pure false := by intro _; rfl)
    (hdb : (x == ("__debug__" : Str)) = false := by decide) (hd : (a == ("__debug__" : Str)) = false := by decide) (hcd : (a == ("__classdict__" : Str)) = false := by decide) :
    PE X (.Call (.Name x p) [.Lambda params body scope lpos] [] pos) (denE C ρ (catchS sub known hs ret mb)) :=
  de_lamcall (c := (He.cT X.K (x0, none)).1) (P := (He.cT X.K (x0, none)).2) hK hm' hg hm F hb hbg Sg hNg hva hst hHS hsub (TB _ hmem) hcode (by rw [hq, hCT]; exact tabs_mem hmem) (by rw [hq, hCT]; exact tabs_u nd hmem) hr L hdef hbind hbody hsw hdb hd hcd
end Pf
namespace Pf
open PySem PySem.Spec PyProof.Rows L2
theorem db_ownAdd' {X : Cx} {C : Ct} {ρ : List Ent} {τ : Type} {env : τ → List Ent} {pos : Pos} {rest : List Stmt} {i : Nat} {x : Str} {pos' p2 : Pos} {a b : Expr} {ma mb : M D} {mr : List D → M (Out τ)} (hN : X.N.Nodup) (ha : PE X a (denE C ρ ma)) (hb : PE X b (denE C ρ mb)) (hr : ∀ ds, PSs X rest (denB C (ρ.set i (.lst ds)) env (mr ds))) (hi : X.N[i]? = some x := by rfl) (hx : Loc X.env.scope x := by first | exact Or.inl rfl | exact Or.inr rfl)
    (hs : swapsWith (.BinOp a .Add b p2) (some (.Name x pos')) pos.line X.env = pure false := by rfl) (hf : X.fn x = true ∨ X.env.scope.names.lookup x = some .local := by first | exact .inl rfl | exact .inr rfl) :
    PSs X (.Assign [.Name x pos'] (.BinOp a .Add b p2) pos :: rest) (denB C ρ env (do let x ← ma; let y ← mb; ownAddK x y mr)) := db_ownAdd hN ha hb hr hi hx hs hf
end Pf

namespace Pf
open PySem PySem.Spec PyProof.Rows L2
/-- x = [..] on one line -/
theorem db_setLc {X : Cx} {C : Ct} {ρ : List Ent} {τ : Type} {env : τ → List Ent} {rest : List Stmt} {i : Nat} {y : Str} {py spos : Pos} {elt tg iter : Expr} {ifs : List Expr} {scope : Scope} {own : List (Str × Nat)} {pos : Pos} {mi : M (List D)} {p : Pat} {mt : List D → M Bool} {me : List D → M D} {mr : D → M (Out τ)} (hc : X.calm = true) (hN : X.N.Nodup) (hi : PI X tg iter (denI C ρ mi))
    (ok : BlkOk X.N X.env.scope scope own) (hown : ∀ i ∈ own.map (·.2), ρ[i]? = some Ent.none) (hsl : ∀ i ∈ slots p, i ∈ own.map (·.2))
    (hg : ∀ (s : Shared) (H : Hp) (c : Addr) (cl : List (Str × Addr)) (fp : List Addr), PG (X.blk s H scope (compEnvC scope cl c X.env) fp) tg (gD C p))
    (hb : ∀ (ds : List D), ds.length = (slots p).length → ∀ (s : Shared) (H : Hp) (c : Addr) (cl : List (Str × Addr)) (fp : List Addr),
      PTs (X.blk s H scope (compEnvC scope cl c X.env) fp) ifs (denT C.noE (setE ρ (slots p) ds) (mt ds)) ∧ PE (X.blk s H scope (compEnvC scope cl c X.env) fp) elt (denE C.noE (setE ρ (slots p) ds) (me ds)))
    (hr : ∀ d, PSs X rest (denB C (ρ.set i (.sh d)) env (mr d)))
    (hk : X.env.scope.kind = .function := by rfl) (hl : (py.line == pos.line) = true := by rfl) (ha : (scope.names.any fun (n, k) => n == y && (k == .local || k == .cell)) = false := by decide +kernel)
    (hy : X.N[i]? = some y := by rfl) (hyl : X.env.scope.names.lookup y = some .local := by rfl) (hs : ∀ x, foldedSetIterable iter X.env x = pure x := by intro _; rfl) :
    PSs X (.Assign [.Name y py] (.ListComp elt [⟨tg, iter, ifs, 0⟩] scope pos) spos :: rest) (denB C ρ env (do let d ← (do let xs ← mi; let ys ← lcM p mt me xs; lstM ys); mr d)) :=
  (pss_cons (ps_setLc hc hN hy hyl (sw_true hk hyl hl ha) hi ok hg (tt := fun σ H Q => ∃ ds, ds.length = (slots p).length ∧ denT C.noE (setE ρ (slots p) ds) (mt ds) σ H Q)
    (te := fun σ H Q => ∃ ds, ds.length = (slots p).length ∧ denE C.noE (setE ρ (slots p) ds) (me ds) σ H Q)
    (fun s H c cl fp => ⟨fun pins s' σ H' Q I ⟨ds, hl, q⟩ => (hb ds hl s H c cl fp).1.run pins s' σ H' Q I q⟩)
    (fun s H c cl fp => ⟨fun pins s' σ H' Q I ⟨ds, hl, q⟩ => (hb ds hl s H c cl fp).2.run pins s' σ H' Q I q⟩) hs) (pss_ex hr)).wk fun Dn σ H ⟨B, S, μ, ms, g, so, mo, en, q⟩ =>
    den_lc hown hsl (Q := fun v H' => ∃ d, denB C (ρ.set i (.sh d)) env (mr d) Dn (σ.set i (some v)) H') ⟨S, μ, ms, so, mo, en.imp fun _ _ => trivial, outR.bind g q fun d v S' μ' ms' H' g' so' mo' r q' => ⟨d, B, S', μ', ms', g.trans (C := C) (ms := ms') g', so', mo', (en.grow g').set r, q'⟩⟩
end Pf
set_option Elab.async false
set_option linter.all false
set_option maxRecDepth 100000
set_option maxHeartbeats 4000000
namespace Pf
open PySem PySem.Spec PyProof.Rows L2
/-! ### the law's end -/
def noLists (K : PySem.W.Frag) : Bool := K.all fun p => match p.2.cls with
  | .type c => !decide (c = "list")
  | _ => true
theorem noL {K : PySem.W.Frag} (h : noLists K = true) {a : Addr} {o : Obj} (e : K.lookup a = some o) : o.cls ≠ .type "list" := fun z => by
  have h1 := List.all_eq_true.mp h (a, o) (He.lookup_mem e)
  simp only [z] at h1
  cases h1
theorem rp_ints {K : PySem.W.Frag} {w : World} {μ : List Addr} {S : Hp} : ∀ (ns : List Int), RpL K w μ S (ns.map PyData.int) (ns.map V.int)
  | [] => .nil
  | _ :: r => .cons (.int _) (rp_ints r)
theorem law_sp {K : PySem.W.Frag} {w : World} {mg : Str → Option Value} {tf : List He.Defn} {g : List D → M D} (nl : noLists K = true) {H : Hp} {a : Addr} {ns : List Int} (hg : ∃ ms', g [.list (ns.map .int)] [] = .ok (.bool true) ms')
    (hT : ∀ p ∈ tf.map (He.cT K), H p.2 = some (.tbl #[])) (hS : SqL K H a (ns.map V.int)) : spec K w mg (tabsOf K tf) g [.ref a] H (fun v _ => v = .bl true) (fun _ _ _ => False) := by
  obtain ⟨ms', hg⟩ := hg
  have hR : Rd H a (.lst (ns.map V.int)) := by
    rcases hS with h | ⟨o, its, n, h1, h2, _⟩
    · exact h
    · exact absurd h2 (noL nl h1)
  have tabs : LamX.Tabs (tabsOf K tf) H := fun p hp => by
    obtain ⟨q, hq, rfl⟩ := List.mem_map.mp hp
    exact .nil (hT _ (List.mem_map.mpr ⟨q, hq, rfl⟩))
  refine ⟨[.list (ns.map .int)], fun b => if b = a then H a else none, [], [], ⟨fun b u e => ?_, tabs, fun b ps e => ?_⟩, ⟨rfl, List.nodup_nil, fun b h => (by cases h), fun n mo b h => by simp at h⟩, .cons (.lst ?_ (rp_ints ns)) .nil, ?_⟩
  · by_cases hb : b = a
    · subst hb; exact .inl (by simpa using e)
    · simp [hb] at e
  · by_cases hb : b = a
    · subst hb
      have e : H b = some (.tbl ps) := by simpa using e
      rcases hR with h | ⟨o, h⟩
      · rw [h] at e; cases e
      · rw [h] at e; cases e
    · simp [hb] at e
  · rcases hR with h | ⟨o, h⟩
    · exact .inl (by simpa using h)
    · exact .inr ⟨o, by simpa using h⟩
  · rw [hg]
    intro v H' S' μ' _ _ _ r
    cases r; rfl
theorem tab_of {K : PySem.W.Frag} {base : Heap} {mg : Str → Option Value} {tf : List He.Defn} (h : ∀ p ∈ tf.map (He.cT K), LamX.TabB base mg p.1 p.2) : ∀ p ∈ tf, LamX.TabB base mg (He.cT K p).1 (He.cT K p).2 := fun p hp => h _ (List.mem_map.mpr ⟨p, hp, rfl⟩)
end Pf
namespace Pf
open PySem PySem.Spec PyProof.Rows L2
def appK {τ : Type} (ds : List D) (d : D) (k : List D → M (Out τ)) : M (Out τ) := if ds.length < sizeLine then k (ds ++ [d]) else M.bad
theorem db_append' {X : Cx} {C : Ct} {ρ : List Ent} {τ : Type} {env : τ → List Ent} {pos : Pos} {rest : List Stmt} {i : Nat} {x : Str} {p1 p2 p3 : Pos} {e : Expr} {me : M D} {ds : List D} {mr : List D → M (Out τ)} (hi : ρ[i]? = some (.lst ds)) (he : PE X e (denE C ρ me)) (hr : ∀ r, PSs X rest (denB C (ρ.set i (.lst r)) env (mr r)))
    (hN : X.N[i]? = some x := by rfl) (hv : Vis X.env.scope x := by first | exact Or.inl rfl | exact Or.inr (Or.inl rfl) | exact Or.inr (Or.inr rfl)) (hd : (x == ("__debug__" : Str)) = false := by decide) (hcd : (x == ("__classdict__" : Str)) = false := by decide)
    (hbase : attributeBase (.Name x p1) "append" X.env (eval (.Name x p1) X.env) = eval (.Name x p1) X.env := by rfl)
    (hfew : ((backTo p3 (starEach [e] X.env)).all (fun x => !x.1) && (backToKw p3 (keywordEach [] X.env)).all (fun x => x.1.isSome) && decide ([e].length + ([] : List Keyword).length + (if ([] : List Keyword).isEmpty then 0 else 1) < 30)) = true := by rfl)
    (hline : (p2.endLine == p3.line) = true := by rfl) (hst : starEach [e] X.env = (false, eval e X.env) :: starEach [] X.env := by rfl) (hplain : (backTo p3 (starEach [] X.env)).any (·.1) = false := by rfl)
    (hs : swapsWith (.Call (.Attribute (.Name x p1) "append" p2) [e] [] p3) none pos.line X.env = pure false := by rfl) :
    PSs X (.Expr (.Call (.Attribute (.Name x p1) "append" p2) [e] [] p3) pos :: rest) (denB C ρ env (do let d ← me; appK ds d mr)) := db_append hi he (fun d => hr (ds ++ [d])) hN hv hd hcd hbase hfew hline hst hplain hs
end Pf
set_option Elab.async false
set_option linter.all false
set_option maxRecDepth 100000
set_option maxHeartbeats 4000000
namespace Pf
open PySem PySem.Spec PyProof.Rows L2
/-- an if with something behind it -/
theorem db_ifj {X : Cx} {C : Ct} {ρ : List Ent} {τ : Type} {env : τ → List Ent} {pos : Pos} {rest : List Stmt} {τ' : Type} {env' : τ' → List Ent} {c : Expr} {a b : List Stmt} {mc : M Bool} {ma mb : M (Out τ')} {mr : τ' → M (Out τ)} (hc : PT X c (denT C ρ mc)) (ha : PSs X a (denB C ρ env' ma)) (hb : PSs X b (denB C ρ env' mb))
    (hr : ∀ t, PSs X rest (denB C (env' t) env (mr t))) (na : ∀ ms o ms', ma ms = .ok o ms' → noBC o = true) (nb : ∀ ms o ms', mb ms = .ok o ms' → noBC o = true) :
    PSs X (.If c a b pos :: rest) (denB C ρ env (do let x ← mc; joinO (if x = true then ma else mb) mr)) := by
  have e : (fun x : Bool => joinO (if x = true then ma else mb) mr) = fun x => if x = true then joinO ma mr else joinO mb mr := by funext x; cases x <;> rfl
  show PSs X _ (denB C ρ env (mc >>= fun x => joinO (if x = true then ma else mb) mr))
  rw [e]; exact db_ifk hc ha hb hr na nb
end Pf
set_option Elab.async false
set_option linter.all false
set_option maxRecDepth 100000
set_option maxHeartbeats 4000000
namespace Pf
open PySem PySem.Spec PyProof.Rows L2
def topS (i : Nat) : Stmt := PySem.Challenge.pw_needpapers_k01_towns_and_stands_known.main.body.getD i (.Pass ⟨0, 0, 0, 0⟩)
abbrev FUEL : Nat := 1000000000
abbrev RF : Nat := 40
local macro_rules | `(tactic| walk_at "nb") => `(tactic| first | exact nb_pure rfl | exact nb_err | exact nb_bad | exact nb_lift | (refine nb_bind fun _ => ?_; walk_at "nb") | (refine nb_ite ?_ ?_ <;> walk_at "nb") | (refine nb_join fun _ => ?_; walk_at "nb"))
abbrev s_is_number : Stmt := topS 7
def D_is_number : He.DefD := ⟨("is_number", none), "is_number", "is_number", defArgs s_is_number, defBody s_is_number, defScope s_is_number, [], []⟩
abbrev s_is_rising : Stmt := topS 8
def D_is_rising : He.DefD := ⟨("is_rising", none), "is_rising", "is_rising", defArgs s_is_rising, defBody s_is_rising, defScope s_is_rising, [], []⟩
abbrev s_is_shown : Stmt := topS 9
def D_is_shown : He.DefD := ⟨("is_shown", none), "is_shown", "is_shown", defArgs s_is_shown, defBody s_is_shown, defScope s_is_shown, [], []⟩
abbrev s_is_desk : Stmt := topS 10
def D_is_desk : He.DefD := ⟨("is_desk", none), "is_desk", "is_desk", defArgs s_is_desk, defBody s_is_desk, defScope s_is_desk, [], []⟩
abbrev s_is_kind : Stmt := topS 11
def D_is_kind : He.DefD := ⟨("is_kind", none), "is_kind", "is_kind", defArgs s_is_kind, defBody s_is_kind, defScope s_is_kind, [], []⟩
abbrev s_is_town : Stmt := topS 12
def D_is_town : He.DefD := ⟨("is_town", none), "is_town", "is_town", defArgs s_is_town, defBody s_is_town, defScope s_is_town, [], []⟩
abbrev s_is_paper : Stmt := topS 13
def D_is_paper : He.DefD := ⟨("is_paper", none), "is_paper", "is_paper", defArgs s_is_paper, defBody s_is_paper, defScope s_is_paper, [], []⟩
abbrev s_is_stand_of : Stmt := topS 14
def D_is_stand_of : He.DefD := ⟨("is_stand_of", none), "is_stand_of", "is_stand_of", defArgs s_is_stand_of, defBody s_is_stand_of, defScope s_is_stand_of, [], []⟩
abbrev s_need_town : Stmt := topS 15
def D_need_town : He.DefD := ⟨("need_town", none), "need_town", "need_town", defArgs s_need_town, defBody s_need_town, defScope s_need_town, [], []⟩
abbrev s_need_stand : Stmt := topS 16
def D_need_stand : He.DefD := ⟨("need_stand", none), "need_stand", "need_stand", defArgs s_need_stand, defBody s_need_stand, defScope s_need_stand, [], []⟩
abbrev s_as_good : Stmt := topS 17
def D_as_good : He.DefD := ⟨("as_good", none), "as_good", "as_good", defArgs s_as_good, defBody s_as_good, defScope s_as_good, [], []⟩
abbrev s_covers_it : Stmt := topS 18
def D_covers_it : He.DefD := ⟨("covers_it", none), "covers_it", "covers_it", defArgs s_covers_it, defBody s_covers_it, defScope s_covers_it, [], []⟩
abbrev s_papers_of : Stmt := topS 19
def D_papers_of : He.DefD := ⟨("papers_of", none), "papers_of", "papers_of", defArgs s_papers_of, defBody s_papers_of, defScope s_papers_of, [], []⟩
abbrev s_stands_of : Stmt := topS 20
def D_stands_of : He.DefD := ⟨("stands_of", none), "stands_of", "stands_of", defArgs s_stands_of, defBody s_stands_of, defScope s_stands_of, [], []⟩
abbrev s_is_stand : Stmt := topS 21
def D_is_stand : He.DefD := ⟨("is_stand", none), "is_stand", "is_stand", defArgs s_is_stand, defBody s_is_stand, defScope s_is_stand, [], []⟩
abbrev s_covers : Stmt := topS 22
def D_covers : He.DefD := ⟨("covers", none), "covers", "covers", defArgs s_covers, defBody s_covers, defScope s_covers, [], []⟩
abbrev s_count_stands : Stmt := topS 23
def D_count_stands : He.DefD := ⟨("count_stands", none), "count_stands", "count_stands", defArgs s_count_stands, defBody s_count_stands, defScope s_count_stands, [], []⟩
abbrev s__law_urn : Stmt := topS 25
def D__law_urn : He.DefD := ⟨("_law_urn", none), "_law_urn", "_law_urn", defArgs s__law_urn, defBody s__law_urn, defScope s__law_urn, [], []⟩
abbrev s__law_ball : Stmt := topS 26
def D__law_ball : He.DefD := ⟨("_law_ball", none), "_law_ball", "_law_ball", defArgs s__law_ball, defBody s__law_ball, defScope s__law_ball, [], []⟩
abbrev s__law_any : Stmt := topS 27
def D__law_any : He.DefD := ⟨("_law_any", none), "_law_any", "_law_any", defArgs s__law_any, defBody s__law_any, defScope s__law_any, [], []⟩
abbrev s__law_desk : Stmt := topS 28
def D__law_desk : He.DefD := ⟨("_law_desk", none), "_law_desk", "_law_desk", defArgs s__law_desk, defBody s__law_desk, defScope s__law_desk, [], []⟩
abbrev s__law_town : Stmt := topS 29
def D__law_town : He.DefD := ⟨("_law_town", none), "_law_town", "_law_town", defArgs s__law_town, defBody s__law_town, defScope s__law_town, [], []⟩
abbrev s__law_had : Stmt := topS 30
def D__law_had : He.DefD := ⟨("_law_had", none), "_law_had", "_law_had", defArgs s__law_had, defBody s__law_had, defScope s__law_had, [], []⟩
abbrev s__law_stand : Stmt := topS 31
def D__law_stand : He.DefD := ⟨("_law_stand", none), "_law_stand", "_law_stand", defArgs s__law_stand, defBody s__law_stand, defScope s__law_stand, [], []⟩
abbrev s__law_all : Stmt := topS 32
def D__law_all : He.DefD := ⟨("_law_all", none), "_law_all", "_law_all", defArgs s__law_all, defBody s__law_all, defScope s__law_all, [], []⟩
abbrev s__law_int : Stmt := topS 33
def D__law_int : He.DefD := ⟨("_law_int", none), "_law_int", "_law_int", defArgs s__law_int, defBody s__law_int, defScope s__law_int, [], []⟩
abbrev s__law_rising : Stmt := topS 34
def D__law_rising : He.DefD := ⟨("_law_rising", none), "_law_rising", "_law_rising", defArgs s__law_rising, defBody s__law_rising, defScope s__law_rising, [], []⟩
abbrev s__law_is_desk : Stmt := topS 35
def D__law_is_desk : He.DefD := ⟨("_law_is_desk", none), "_law_is_desk", "_law_is_desk", defArgs s__law_is_desk, defBody s__law_is_desk, defScope s__law_is_desk, [], []⟩
abbrev s__law_is_town : Stmt := topS 36
def D__law_is_town : He.DefD := ⟨("_law_is_town", none), "_law_is_town", "_law_is_town", defArgs s__law_is_town, defBody s__law_is_town, defScope s__law_is_town, [], []⟩
abbrev s__law_is_stand : Stmt := topS 37
def D__law_is_stand : He.DefD := ⟨("_law_is_stand", none), "_law_is_stand", "_law_is_stand", defArgs s__law_is_stand, defBody s__law_is_stand, defScope s__law_is_stand, [], []⟩
abbrev s__law_odd : Stmt := topS 38
def D__law_odd : He.DefD := ⟨("_law_odd", none), "_law_odd", "_law_odd", defArgs s__law_odd, defBody s__law_odd, defScope s__law_odd, [], []⟩
abbrev s__law_bent : Stmt := topS 39
def D__law_bent : He.DefD := ⟨("_law_bent", none), "_law_bent", "_law_bent", defArgs s__law_bent, defBody s__law_bent, defScope s__law_bent, [], []⟩
abbrev s__law_good_as : Stmt := topS 40
def D__law_good_as : He.DefD := ⟨("_law_good_as", none), "_law_good_as", "_law_good_as", defArgs s__law_good_as, defBody s__law_good_as, defScope s__law_good_as, [], []⟩
abbrev s__law_covers : Stmt := topS 41
def D__law_covers : He.DefD := ⟨("_law_covers", none), "_law_covers", "_law_covers", defArgs s__law_covers, defBody s__law_covers, defScope s__law_covers, [], []⟩
abbrev s__law_error : Stmt := topS 42
def D__law_error : He.DefD := ⟨("_law_error", none), "_law_error", "_law_error", defArgs s__law_error, defBody s__law_error, defScope s__law_error, [], []⟩
abbrev s__law_right : Stmt := topS 43
def D__law_right : He.DefD := ⟨("_law_right", none), "_law_right", "_law_right", defArgs s__law_right, defBody s__law_right, defScope s__law_right, [], []⟩
abbrev s_law : Stmt := topS 44
def D_law : He.DefD := ⟨("law", none), "law", "law", defArgs s_law, defBody s_law, defScope s_law, [], []⟩
theorem sc_is_number : FnScope ["value", "low", "high"] ["value", "low", "high"] (defScope s_is_number) := ⟨rfl, rfl, rfl, by decide +kernel, rfl, by decide +kernel, by decide +kernel⟩
theorem sc_is_rising : FnScope ["value", "low", "high", "one", "other"] ["value", "low", "high"] (defScope s_is_rising) := ⟨rfl, rfl, rfl, by decide +kernel, rfl, by decide +kernel, by decide +kernel⟩
theorem sc_is_shown : FnScope ["value", "many", "one"] ["value", "many"] (defScope s_is_shown) := ⟨rfl, rfl, rfl, by decide +kernel, rfl, by decide +kernel, by decide +kernel⟩
theorem sc_is_desk : FnScope ["value", "week", "many", "named", "one"] ["value", "week", "many"] (defScope s_is_desk) := ⟨rfl, rfl, rfl, by decide +kernel, rfl, by decide +kernel, by decide +kernel⟩
theorem sc_is_kind : FnScope ["value"] ["value"] (defScope s_is_kind) := ⟨rfl, rfl, rfl, by decide +kernel, rfl, by decide +kernel, by decide +kernel⟩
theorem sc_is_town : FnScope ["value", "one"] ["value"] (defScope s_is_town) := ⟨rfl, rfl, rfl, by decide +kernel, rfl, by decide +kernel, by decide +kernel⟩
theorem sc_is_paper : FnScope ["value", "kind"] ["value", "kind"] (defScope s_is_paper) := ⟨rfl, rfl, rfl, by decide +kernel, rfl, by decide +kernel, by decide +kernel⟩
theorem sc_is_stand_of : FnScope ["town", "value", "one", "kind"] ["town", "value"] (defScope s_is_stand_of) := ⟨rfl, rfl, rfl, by decide +kernel, rfl, by decide +kernel, by decide +kernel⟩
theorem sc_need_town : FnScope ["town"] ["town"] (defScope s_need_town) := ⟨rfl, rfl, rfl, by decide +kernel, rfl, by decide +kernel, by decide +kernel⟩
theorem sc_need_stand : FnScope ["town", "stand"] ["town", "stand"] (defScope s_need_stand) := ⟨rfl, rfl, rfl, by decide +kernel, rfl, by decide +kernel, by decide +kernel⟩
theorem sc_as_good : FnScope ["one", "other"] ["one", "other"] (defScope s_as_good) := ⟨rfl, rfl, rfl, by decide +kernel, rfl, by decide +kernel, by decide +kernel⟩
theorem sc_covers_it : FnScope ["one", "other", "mine", "yours"] ["one", "other"] (defScope s_covers_it) := ⟨rfl, rfl, rfl, by decide +kernel, rfl, by decide +kernel, by decide +kernel⟩
theorem sc_papers_of : FnScope ["kind", "found", "age", "uses"] ["kind"] (defScope s_papers_of) := ⟨rfl, rfl, rfl, by decide +kernel, rfl, by decide +kernel, by decide +kernel⟩
theorem sc_stands_of : FnScope ["town", "found", "kind", "day", "some", "one"] ["town"] (defScope s_stands_of) := ⟨rfl, rfl, rfl, by decide +kernel, rfl, by decide +kernel, by decide +kernel⟩
theorem sc_is_stand : FnScope ["town", "value"] ["town", "value"] (defScope s_is_stand) := ⟨rfl, rfl, rfl, by decide +kernel, rfl, by decide +kernel, by decide +kernel⟩
theorem sc_covers : FnScope ["town", "one", "other"] ["town", "one", "other"] (defScope s_covers) := ⟨rfl, rfl, rfl, by decide +kernel, rfl, by decide +kernel, by decide +kernel⟩
theorem sc_count_stands : FnScope ["town"] ["town"] (defScope s_count_stands) := ⟨rfl, rfl, rfl, by decide +kernel, rfl, by decide +kernel, by decide +kernel⟩
theorem sc__law_urn : FnScope ["cell", "salt", "great"] ["cell", "salt"] (defScope s__law_urn) := ⟨rfl, rfl, rfl, by decide +kernel, rfl, by decide +kernel, by decide +kernel⟩
theorem sc__law_ball : FnScope ["urn", "many", "found", "deep"] ["urn", "many"] (defScope s__law_ball) := ⟨rfl, rfl, rfl, by decide +kernel, rfl, by decide +kernel, by decide +kernel⟩
theorem sc__law_any : FnScope ["urn", "things"] ["urn", "things"] (defScope s__law_any) := ⟨rfl, rfl, rfl, by decide +kernel, rfl, by decide +kernel, by decide +kernel⟩
theorem sc__law_desk : FnScope ["urn", "week", "kinds", "opened", "shown", "given_up", "barred", "kind", "way", "gives", "pause", "day"] ["urn", "week", "kinds"] (defScope s__law_desk) := ⟨rfl, rfl, rfl, by decide +kernel, rfl, by decide +kernel, by decide +kernel⟩
theorem sc__law_town : FnScope ["urn", "most", "desks", "week", "kinds", "found", "turn"] ["urn", "most", "desks"] (defScope s__law_town) := ⟨rfl, rfl, rfl, by decide +kernel, rfl, by decide +kernel, by decide +kernel⟩
theorem sc__law_had : FnScope ["kind", "found", "age", "many"] ["kind"] (defScope s__law_had) := ⟨rfl, rfl, rfl, by decide +kernel, rfl, by decide +kernel, by decide +kernel⟩
theorem sc__law_stand : FnScope ["urn", "town", "papers", "kind"] ["urn", "town"] (defScope s__law_stand) := ⟨rfl, rfl, rfl, by decide +kernel, rfl, by decide +kernel, by decide +kernel⟩
theorem sc__law_all : FnScope ["town", "found", "kind", "longer", "papers", "stands", "day", "one"] ["town"] (defScope s__law_all) := ⟨rfl, rfl, rfl, by decide +kernel, rfl, by decide +kernel, by decide +kernel⟩
theorem sc__law_int : FnScope ["value", "low", "high"] ["value", "low", "high"] (defScope s__law_int) := ⟨rfl, rfl, rfl, by decide +kernel, rfl, by decide +kernel, by decide +kernel⟩
theorem sc__law_rising : FnScope ["value", "low", "high", "one"] ["value", "low", "high"] (defScope s__law_rising) := ⟨rfl, rfl, rfl, by decide +kernel, rfl, by decide +kernel, by decide +kernel⟩
theorem sc__law_is_desk : FnScope ["value", "week", "many", "one", "kinds", "some", "named"] ["value", "week", "many"] (defScope s__law_is_desk) := ⟨rfl, rfl, rfl, by decide +kernel, rfl, by decide +kernel, by decide +kernel⟩
theorem sc__law_is_town : FnScope ["value", "some", "kind", "desk"] ["value"] (defScope s__law_is_town) := ⟨rfl, rfl, rfl, by decide +kernel, rfl, by decide +kernel, by decide +kernel⟩
theorem sc__law_is_stand : FnScope ["town", "value", "one", "life", "many"] ["town", "value"] (defScope s__law_is_stand) := ⟨rfl, rfl, rfl, by decide +kernel, rfl, by decide +kernel, by decide +kernel⟩
theorem sc__law_odd : FnScope ["urn", "some"] ["urn"] (defScope s__law_odd) := ⟨rfl, rfl, rfl, by decide +kernel, rfl, by decide +kernel, by decide +kernel⟩
theorem sc__law_bent : FnScope ["urn", "value", "at", "way"] ["urn", "value"] (defScope s__law_bent) := ⟨rfl, rfl, rfl, by decide +kernel, rfl, by decide +kernel, by decide +kernel⟩
theorem sc__law_good_as : FnScope ["one", "other"] ["one", "other"] (defScope s__law_good_as) := ⟨rfl, rfl, rfl, by decide +kernel, rfl, by decide +kernel, by decide +kernel⟩
theorem sc__law_covers : FnScope ["one", "other", "kind"] ["one", "other"] (defScope s__law_covers) := ⟨rfl, rfl, rfl, by decide +kernel, rfl, by decide +kernel, by decide +kernel⟩
theorem sc__law_right : FnScope ["town", "value", "found", "stand", "one"] ["town", "value"] (defScope s__law_right) := ⟨rfl, rfl, rfl, by decide +kernel, rfl, by decide +kernel, by decide +kernel⟩
theorem sc_law : FnScope ["script", "cell", "urn", "town", "turn", "value", "again", "one", "other", "kinds", "desk", "bad", "rows", "at", "odd"] ["script"] (defScope s_law) := ⟨rfl, rfl, rfl, by decide +kernel, rfl, by decide +kernel, by decide +kernel⟩
theorem sc__law_error : FnScope ["call"] ["call"] (defScope s__law_error) := ⟨rfl, rfl, rfl, by decide +kernel, rfl, by decide +kernel, by decide +kernel⟩
def hknown : List Str := ["InvalidStand", "InvalidTown"]
def hhandled : List Str := ["InvalidStand", "InvalidTown", "PaperError"]
def hfn_0 : List He.DefD := [D_is_number, D_is_rising, D_is_shown, D_is_desk, D_is_kind, D_is_town, D_is_paper, D_is_stand_of]
def hfn_1 : List He.DefD := [D_need_town, D_need_stand, D_as_good, D_covers_it, D_papers_of, D_stands_of, D_is_stand, D_covers]
def hfn_2 : List He.DefD := [D_count_stands, D__law_urn, D__law_ball, D__law_any, D__law_desk, D__law_town, D__law_had, D__law_stand]
def hfn_3 : List He.DefD := [D__law_all, D__law_int, D__law_rising, D__law_is_desk, D__law_is_town, D__law_is_stand, D__law_odd, D__law_bent]
def hfn_4 : List He.DefD := [D__law_good_as, D__law_covers, D__law_error, D__law_right, D_law]
def hfn : List He.DefD := hfn_0 ++ hfn_1 ++ hfn_2 ++ hfn_3 ++ hfn_4
def hfa0_0 : List He.Fa := [.glo "is_number", .glo "is_rising", .glo "is_shown", .glo "is_desk", .glo "is_kind", .glo "is_town", .glo "is_paper", .glo "is_stand_of"]
def hfa0_1 : List He.Fa := [.glo "need_town", .glo "need_stand", .glo "as_good", .glo "covers_it", .glo "papers_of", .glo "stands_of", .glo "is_stand", .glo "covers"]
def hfa0_2 : List He.Fa := [.glo "count_stands", .glo "_law_urn", .glo "_law_ball", .glo "_law_any", .glo "_law_desk", .glo "_law_town", .glo "_law_had", .glo "_law_stand"]
def hfa0_3 : List He.Fa := [.glo "_law_all", .glo "_law_int", .glo "_law_rising", .glo "_law_is_desk", .glo "_law_is_town", .glo "_law_is_stand", .glo "_law_odd", .glo "_law_bent"]
def hfa0_4 : List He.Fa := [.glo "_law_good_as", .glo "_law_covers", .glo "_law_error", .glo "_law_right", .glo "law", .glo "PaperError", .glo "InvalidTown", .glo "InvalidStand"]
def hfa0_5 : List He.Fa := [.free "all", .free "bool", .free "int", .free "isinstance", .free "len", .free "list", .free "min", .free "range"]
def hfa0_6 : List He.Fa := [.free "set", .free "sorted", .free "tuple", .free "zip", .int "MOST_KINDS" 3, .int "MOST_DESKS" 5, .exc "InvalidStand", .exc "InvalidTown"]
def hfa0 : List He.Fa := hfa0_0 ++ hfa0_1 ++ hfa0_2 ++ hfa0_3 ++ hfa0_4 ++ hfa0_5 ++ hfa0_6
def hfa : List He.Fa := hfa0 ++ exmF hknown hhandled
def htf : List He.Defn := [("_law_right", none)]
def hex (K : PySem.W.Frag) : Bool := decide ((htf.map fun p => (He.cT K p).2).Nodup) && noLists K
structure Tx (K : PySem.W.Frag) (mg : Str → Option Value) where
  nd : (htf.map fun p => (He.cT K p).2).Nodup
  xm : ∀ y ∈ hknown, ∀ z ∈ hhandled, PySem.W.exmOne K (.ref (He.ga K y)) (.ref (He.ga K z)) = some (subT y z)
  ky : ∀ y ∈ hknown, mg y = some (.ref (He.ga K y))
  n_all : mg "all" = none
  v_all : bootBuiltins "all" = some (.builtin "all")
  n_bool : mg "bool" = none
  v_bool : bootBuiltins "bool" = some (.type "bool")
  n_int : mg "int" = none
  v_int : bootBuiltins "int" = some (.type "int")
  n_isinstance : mg "isinstance" = none
  v_isinstance : bootBuiltins "isinstance" = some (.builtin "isinstance")
  n_len : mg "len" = none
  v_len : bootBuiltins "len" = some (.builtin "len")
  n_list : mg "list" = none
  v_list : bootBuiltins "list" = some (.type "list")
  n_min : mg "min" = none
  v_min : bootBuiltins "min" = some (.builtin "min")
  n_range : mg "range" = none
  n_set : mg "set" = none
  v_set : bootBuiltins "set" = some (.type "set")
  n_sorted : mg "sorted" = none
  v_sorted : bootBuiltins "sorted" = some (.builtin "sorted")
  n_tuple : mg "tuple" = none
  v_tuple : bootBuiltins "tuple" = some (.type "tuple")
  n_zip : mg "zip" = none
  c_MOST_KINDS : Tok
  g_MOST_KINDS : mg "MOST_KINDS" = some (.int 3 c_MOST_KINDS)
  c_MOST_DESKS : Tok
  g_MOST_DESKS : mg "MOST_DESKS" = some (.int 5 c_MOST_DESKS)
  g_PaperError : mg "PaperError" = some (.ref (He.ga K "PaperError"))
  g_InvalidTown : mg "InvalidTown" = some (.ref (He.ga K "InvalidTown"))
  g_InvalidStand : mg "InvalidStand" = some (.ref (He.ga K "InvalidStand"))
  x_InvalidStand : PySem.W.excIn K (He.ga K "InvalidStand") He.veBase "ValueError.__new__" = true
  k_InvalidStand : PySem.W.keepIn K (.ref (He.ga K "InvalidStand")) = true
  s_InvalidStand : PySem.W.subIn K (.ref (He.ga K "InvalidStand")) (.type "BaseException") = some true
  t_InvalidStand : PySem.W.typeIn K (.ref (He.ga K "InvalidStand")) = some (.type "type")
  x_InvalidTown : PySem.W.excIn K (He.ga K "InvalidTown") He.veBase "ValueError.__new__" = true
  k_InvalidTown : PySem.W.keepIn K (.ref (He.ga K "InvalidTown")) = true
  s_InvalidTown : PySem.W.subIn K (.ref (He.ga K "InvalidTown")) (.type "BaseException") = some true
  t_InvalidTown : PySem.W.typeIn K (.ref (He.ga K "InvalidTown")) = some (.type "type")
  d_law : FuncData
  bl : ∀ (s : Shared) (u : Value), BindsTo s d_law ⟨[u], []⟩ [("script", u)]
  d_is_number : FuncData
  F_is_number : Fun K "is_number" "is_number" s_is_number (He.fAd K ("is_number", none)) d_is_number
  g_is_number : mg "is_number" = some (.ref (He.fAd K ("is_number", none)))
  b_is_number : Binds K d_is_number ["value", "low", "high"] []
  d_is_rising : FuncData
  F_is_rising : Fun K "is_rising" "is_rising" s_is_rising (He.fAd K ("is_rising", none)) d_is_rising
  g_is_rising : mg "is_rising" = some (.ref (He.fAd K ("is_rising", none)))
  b_is_rising : Binds K d_is_rising ["value", "low", "high"] []
  d_is_shown : FuncData
  F_is_shown : Fun K "is_shown" "is_shown" s_is_shown (He.fAd K ("is_shown", none)) d_is_shown
  g_is_shown : mg "is_shown" = some (.ref (He.fAd K ("is_shown", none)))
  b_is_shown : Binds K d_is_shown ["value", "many"] []
  d_is_desk : FuncData
  F_is_desk : Fun K "is_desk" "is_desk" s_is_desk (He.fAd K ("is_desk", none)) d_is_desk
  g_is_desk : mg "is_desk" = some (.ref (He.fAd K ("is_desk", none)))
  b_is_desk : Binds K d_is_desk ["value", "week", "many"] []
  d_is_kind : FuncData
  F_is_kind : Fun K "is_kind" "is_kind" s_is_kind (He.fAd K ("is_kind", none)) d_is_kind
  g_is_kind : mg "is_kind" = some (.ref (He.fAd K ("is_kind", none)))
  b_is_kind : Binds K d_is_kind ["value"] []
  d_is_town : FuncData
  F_is_town : Fun K "is_town" "is_town" s_is_town (He.fAd K ("is_town", none)) d_is_town
  g_is_town : mg "is_town" = some (.ref (He.fAd K ("is_town", none)))
  b_is_town : Binds K d_is_town ["value"] []
  d_is_paper : FuncData
  F_is_paper : Fun K "is_paper" "is_paper" s_is_paper (He.fAd K ("is_paper", none)) d_is_paper
  g_is_paper : mg "is_paper" = some (.ref (He.fAd K ("is_paper", none)))
  b_is_paper : Binds K d_is_paper ["value", "kind"] []
  d_is_stand_of : FuncData
  F_is_stand_of : Fun K "is_stand_of" "is_stand_of" s_is_stand_of (He.fAd K ("is_stand_of", none)) d_is_stand_of
  g_is_stand_of : mg "is_stand_of" = some (.ref (He.fAd K ("is_stand_of", none)))
  b_is_stand_of : Binds K d_is_stand_of ["town", "value"] []
  d_need_town : FuncData
  F_need_town : Fun K "need_town" "need_town" s_need_town (He.fAd K ("need_town", none)) d_need_town
  g_need_town : mg "need_town" = some (.ref (He.fAd K ("need_town", none)))
  b_need_town : Binds K d_need_town ["town"] []
  d_need_stand : FuncData
  F_need_stand : Fun K "need_stand" "need_stand" s_need_stand (He.fAd K ("need_stand", none)) d_need_stand
  g_need_stand : mg "need_stand" = some (.ref (He.fAd K ("need_stand", none)))
  b_need_stand : Binds K d_need_stand ["town", "stand"] []
  d_as_good : FuncData
  F_as_good : Fun K "as_good" "as_good" s_as_good (He.fAd K ("as_good", none)) d_as_good
  g_as_good : mg "as_good" = some (.ref (He.fAd K ("as_good", none)))
  b_as_good : Binds K d_as_good ["one", "other"] []
  d_covers_it : FuncData
  F_covers_it : Fun K "covers_it" "covers_it" s_covers_it (He.fAd K ("covers_it", none)) d_covers_it
  g_covers_it : mg "covers_it" = some (.ref (He.fAd K ("covers_it", none)))
  b_covers_it : Binds K d_covers_it ["one", "other"] []
  d_papers_of : FuncData
  F_papers_of : Fun K "papers_of" "papers_of" s_papers_of (He.fAd K ("papers_of", none)) d_papers_of
  g_papers_of : mg "papers_of" = some (.ref (He.fAd K ("papers_of", none)))
  b_papers_of : Binds K d_papers_of ["kind"] []
  d_stands_of : FuncData
  F_stands_of : Fun K "stands_of" "stands_of" s_stands_of (He.fAd K ("stands_of", none)) d_stands_of
  g_stands_of : mg "stands_of" = some (.ref (He.fAd K ("stands_of", none)))
  b_stands_of : Binds K d_stands_of ["town"] []
  d_is_stand : FuncData
  F_is_stand : Fun K "is_stand" "is_stand" s_is_stand (He.fAd K ("is_stand", none)) d_is_stand
  g_is_stand : mg "is_stand" = some (.ref (He.fAd K ("is_stand", none)))
  b_is_stand : Binds K d_is_stand ["town", "value"] []
  d_covers : FuncData
  F_covers : Fun K "covers" "covers" s_covers (He.fAd K ("covers", none)) d_covers
  g_covers : mg "covers" = some (.ref (He.fAd K ("covers", none)))
  b_covers : Binds K d_covers ["town", "one", "other"] []
  d_count_stands : FuncData
  F_count_stands : Fun K "count_stands" "count_stands" s_count_stands (He.fAd K ("count_stands", none)) d_count_stands
  g_count_stands : mg "count_stands" = some (.ref (He.fAd K ("count_stands", none)))
  b_count_stands : Binds K d_count_stands ["town"] []
  d__law_urn : FuncData
  F__law_urn : Fun K "_law_urn" "_law_urn" s__law_urn (He.fAd K ("_law_urn", none)) d__law_urn
  g__law_urn : mg "_law_urn" = some (.ref (He.fAd K ("_law_urn", none)))
  b__law_urn : Binds K d__law_urn ["cell", "salt"] []
  d__law_ball : FuncData
  F__law_ball : Fun K "_law_ball" "_law_ball" s__law_ball (He.fAd K ("_law_ball", none)) d__law_ball
  g__law_ball : mg "_law_ball" = some (.ref (He.fAd K ("_law_ball", none)))
  b__law_ball : Binds K d__law_ball ["urn", "many"] []
  d__law_any : FuncData
  F__law_any : Fun K "_law_any" "_law_any" s__law_any (He.fAd K ("_law_any", none)) d__law_any
  g__law_any : mg "_law_any" = some (.ref (He.fAd K ("_law_any", none)))
  b__law_any : Binds K d__law_any ["urn", "things"] []
  d__law_desk : FuncData
  F__law_desk : Fun K "_law_desk" "_law_desk" s__law_desk (He.fAd K ("_law_desk", none)) d__law_desk
  g__law_desk : mg "_law_desk" = some (.ref (He.fAd K ("_law_desk", none)))
  b__law_desk : Binds K d__law_desk ["urn", "week", "kinds"] []
  d__law_town : FuncData
  F__law_town : Fun K "_law_town" "_law_town" s__law_town (He.fAd K ("_law_town", none)) d__law_town
  g__law_town : mg "_law_town" = some (.ref (He.fAd K ("_law_town", none)))
  b__law_town : Binds K d__law_town ["urn", "most", "desks"] []
  d__law_had : FuncData
  F__law_had : Fun K "_law_had" "_law_had" s__law_had (He.fAd K ("_law_had", none)) d__law_had
  g__law_had : mg "_law_had" = some (.ref (He.fAd K ("_law_had", none)))
  b__law_had : Binds K d__law_had ["kind"] []
  d__law_stand : FuncData
  F__law_stand : Fun K "_law_stand" "_law_stand" s__law_stand (He.fAd K ("_law_stand", none)) d__law_stand
  g__law_stand : mg "_law_stand" = some (.ref (He.fAd K ("_law_stand", none)))
  b__law_stand : Binds K d__law_stand ["urn", "town"] []
  d__law_all : FuncData
  F__law_all : Fun K "_law_all" "_law_all" s__law_all (He.fAd K ("_law_all", none)) d__law_all
  g__law_all : mg "_law_all" = some (.ref (He.fAd K ("_law_all", none)))
  b__law_all : Binds K d__law_all ["town"] []
  d__law_int : FuncData
  F__law_int : Fun K "_law_int" "_law_int" s__law_int (He.fAd K ("_law_int", none)) d__law_int
  g__law_int : mg "_law_int" = some (.ref (He.fAd K ("_law_int", none)))
  b__law_int : Binds K d__law_int ["value", "low", "high"] []
  d__law_rising : FuncData
  F__law_rising : Fun K "_law_rising" "_law_rising" s__law_rising (He.fAd K ("_law_rising", none)) d__law_rising
  g__law_rising : mg "_law_rising" = some (.ref (He.fAd K ("_law_rising", none)))
  b__law_rising : Binds K d__law_rising ["value", "low", "high"] []
  d__law_is_desk : FuncData
  F__law_is_desk : Fun K "_law_is_desk" "_law_is_desk" s__law_is_desk (He.fAd K ("_law_is_desk", none)) d__law_is_desk
  g__law_is_desk : mg "_law_is_desk" = some (.ref (He.fAd K ("_law_is_desk", none)))
  b__law_is_desk : Binds K d__law_is_desk ["value", "week", "many"] []
  d__law_is_town : FuncData
  F__law_is_town : Fun K "_law_is_town" "_law_is_town" s__law_is_town (He.fAd K ("_law_is_town", none)) d__law_is_town
  g__law_is_town : mg "_law_is_town" = some (.ref (He.fAd K ("_law_is_town", none)))
  b__law_is_town : Binds K d__law_is_town ["value"] []
  d__law_is_stand : FuncData
  F__law_is_stand : Fun K "_law_is_stand" "_law_is_stand" s__law_is_stand (He.fAd K ("_law_is_stand", none)) d__law_is_stand
  g__law_is_stand : mg "_law_is_stand" = some (.ref (He.fAd K ("_law_is_stand", none)))
  b__law_is_stand : Binds K d__law_is_stand ["town", "value"] []
  d__law_odd : FuncData
  F__law_odd : Fun K "_law_odd" "_law_odd" s__law_odd (He.fAd K ("_law_odd", none)) d__law_odd
  g__law_odd : mg "_law_odd" = some (.ref (He.fAd K ("_law_odd", none)))
  b__law_odd : Binds K d__law_odd ["urn"] []
  d__law_bent : FuncData
  F__law_bent : Fun K "_law_bent" "_law_bent" s__law_bent (He.fAd K ("_law_bent", none)) d__law_bent
  g__law_bent : mg "_law_bent" = some (.ref (He.fAd K ("_law_bent", none)))
  b__law_bent : Binds K d__law_bent ["urn", "value"] []
  d__law_good_as : FuncData
  F__law_good_as : Fun K "_law_good_as" "_law_good_as" s__law_good_as (He.fAd K ("_law_good_as", none)) d__law_good_as
  g__law_good_as : mg "_law_good_as" = some (.ref (He.fAd K ("_law_good_as", none)))
  b__law_good_as : Binds K d__law_good_as ["one", "other"] []
  d__law_covers : FuncData
  F__law_covers : Fun K "_law_covers" "_law_covers" s__law_covers (He.fAd K ("_law_covers", none)) d__law_covers
  g__law_covers : mg "_law_covers" = some (.ref (He.fAd K ("_law_covers", none)))
  b__law_covers : Binds K d__law_covers ["one", "other"] []
  d__law_right : FuncData
  F__law_right : Fun K "_law_right" "_law_right" s__law_right (He.fAd K ("_law_right", none)) d__law_right
  g__law_right : mg "_law_right" = some (.ref (He.fAd K ("_law_right", none)))
  b__law_right : Binds K d__law_right ["town", "value"] []
  F_law : Fun K "law" "law" s_law (He.fAd K ("law", none)) d_law
  g_law : mg "law" = some (.ref (He.fAd K ("law", none)))
  b_law : Binds K d_law ["script"] []
  d__law_error : FuncData
  F__law_error : Fun K "_law_error" "_law_error" s__law_error (He.fAd K ("_law_error", none)) d__law_error
  g__law_error : mg "_law_error" = some (.ref (He.fAd K ("_law_error", none)))
  b__law_error : Binds K d__law_error ["call"] []
theorem mk_tx {K : PySem.W.Frag} {h : Heap} {mg : Str → Option Value} {w : World} (X : K.In h) (G : h.Ns mainGlobals mg) (c : He.SaysX hfa hfn [] htf hex w h K) : Nonempty (Tx K mg) := by
  have cd := c.t.d
  obtain ⟨c_MOST_KINDS, g_MOST_KINDS⟩ := He.int_ok X G (cd.fact 52 (f := .int "MOST_KINDS" 3) rfl)
  obtain ⟨c_MOST_DESKS, g_MOST_DESKS⟩ := He.int_ok X G (cd.fact 53 (f := .int "MOST_DESKS" 5) rfl)
  obtain ⟨d_is_number, F_is_number⟩ := cd.def_ 0 (d := D_is_number) rfl
  obtain ⟨d_is_rising, F_is_rising⟩ := cd.def_ 1 (d := D_is_rising) rfl
  obtain ⟨d_is_shown, F_is_shown⟩ := cd.def_ 2 (d := D_is_shown) rfl
  obtain ⟨d_is_desk, F_is_desk⟩ := cd.def_ 3 (d := D_is_desk) rfl
  obtain ⟨d_is_kind, F_is_kind⟩ := cd.def_ 4 (d := D_is_kind) rfl
  obtain ⟨d_is_town, F_is_town⟩ := cd.def_ 5 (d := D_is_town) rfl
  obtain ⟨d_is_paper, F_is_paper⟩ := cd.def_ 6 (d := D_is_paper) rfl
  obtain ⟨d_is_stand_of, F_is_stand_of⟩ := cd.def_ 7 (d := D_is_stand_of) rfl
  obtain ⟨d_need_town, F_need_town⟩ := cd.def_ 8 (d := D_need_town) rfl
  obtain ⟨d_need_stand, F_need_stand⟩ := cd.def_ 9 (d := D_need_stand) rfl
  obtain ⟨d_as_good, F_as_good⟩ := cd.def_ 10 (d := D_as_good) rfl
  obtain ⟨d_covers_it, F_covers_it⟩ := cd.def_ 11 (d := D_covers_it) rfl
  obtain ⟨d_papers_of, F_papers_of⟩ := cd.def_ 12 (d := D_papers_of) rfl
  obtain ⟨d_stands_of, F_stands_of⟩ := cd.def_ 13 (d := D_stands_of) rfl
  obtain ⟨d_is_stand, F_is_stand⟩ := cd.def_ 14 (d := D_is_stand) rfl
  obtain ⟨d_covers, F_covers⟩ := cd.def_ 15 (d := D_covers) rfl
  obtain ⟨d_count_stands, F_count_stands⟩ := cd.def_ 16 (d := D_count_stands) rfl
  obtain ⟨d__law_urn, F__law_urn⟩ := cd.def_ 17 (d := D__law_urn) rfl
  obtain ⟨d__law_ball, F__law_ball⟩ := cd.def_ 18 (d := D__law_ball) rfl
  obtain ⟨d__law_any, F__law_any⟩ := cd.def_ 19 (d := D__law_any) rfl
  obtain ⟨d__law_desk, F__law_desk⟩ := cd.def_ 20 (d := D__law_desk) rfl
  obtain ⟨d__law_town, F__law_town⟩ := cd.def_ 21 (d := D__law_town) rfl
  obtain ⟨d__law_had, F__law_had⟩ := cd.def_ 22 (d := D__law_had) rfl
  obtain ⟨d__law_stand, F__law_stand⟩ := cd.def_ 23 (d := D__law_stand) rfl
  obtain ⟨d__law_all, F__law_all⟩ := cd.def_ 24 (d := D__law_all) rfl
  obtain ⟨d__law_int, F__law_int⟩ := cd.def_ 25 (d := D__law_int) rfl
  obtain ⟨d__law_rising, F__law_rising⟩ := cd.def_ 26 (d := D__law_rising) rfl
  obtain ⟨d__law_is_desk, F__law_is_desk⟩ := cd.def_ 27 (d := D__law_is_desk) rfl
  obtain ⟨d__law_is_town, F__law_is_town⟩ := cd.def_ 28 (d := D__law_is_town) rfl
  obtain ⟨d__law_is_stand, F__law_is_stand⟩ := cd.def_ 29 (d := D__law_is_stand) rfl
  obtain ⟨d__law_odd, F__law_odd⟩ := cd.def_ 30 (d := D__law_odd) rfl
  obtain ⟨d__law_bent, F__law_bent⟩ := cd.def_ 31 (d := D__law_bent) rfl
  obtain ⟨d__law_good_as, F__law_good_as⟩ := cd.def_ 32 (d := D__law_good_as) rfl
  obtain ⟨d__law_covers, F__law_covers⟩ := cd.def_ 33 (d := D__law_covers) rfl
  obtain ⟨d__law_right, F__law_right⟩ := cd.def_ 35 (d := D__law_right) rfl
  obtain ⟨d_law, F_law⟩ := cd.def_ 36 (d := D_law) rfl
  obtain ⟨d__law_error, F__law_error⟩ := cd.def_ 34 (d := D__law_error) rfl
  exact ⟨{ nd := of_decide_eq_true (Bool.and_eq_true_iff.mp c.more).1, xm := fun y hy z hz => He.exm_ok (cd.facts (List.mem_append_right _ (exmF_mem hy hz))), ky := List.forall_mem_cons.mpr ⟨He.glo_ok X G (cd.fact 39 (f := .glo "InvalidStand") rfl), List.forall_mem_cons.mpr ⟨He.glo_ok X G (cd.fact 38 (f := .glo "InvalidTown") rfl), fun y hy => nomatch hy⟩⟩, n_all := He.free_ok X G (cd.fact 40 (f := .free "all") rfl), v_all := by decide +kernel, n_bool := He.free_ok X G (cd.fact 41 (f := .free "bool") rfl), v_bool := by decide +kernel, n_int := He.free_ok X G (cd.fact 42 (f := .free "int") rfl), v_int := by decide +kernel, n_isinstance := He.free_ok X G (cd.fact 43 (f := .free "isinstance") rfl), v_isinstance := by decide +kernel, n_len := He.free_ok X G (cd.fact 44 (f := .free "len") rfl), v_len := by decide +kernel, n_list := He.free_ok X G (cd.fact 45 (f := .free "list") rfl), v_list := by decide +kernel, n_min := He.free_ok X G (cd.fact 46 (f := .free "min") rfl), v_min := by decide +kernel, n_range := He.free_ok X G (cd.fact 47 (f := .free "range") rfl), n_set := He.free_ok X G (cd.fact 48 (f := .free "set") rfl), v_set := by decide +kernel, n_sorted := He.free_ok X G (cd.fact 49 (f := .free "sorted") rfl), v_sorted := by decide +kernel, n_tuple := He.free_ok X G (cd.fact 50 (f := .free "tuple") rfl), v_tuple := by decide +kernel, n_zip := He.free_ok X G (cd.fact 51 (f := .free "zip") rfl), c_MOST_KINDS := c_MOST_KINDS, g_MOST_KINDS := g_MOST_KINDS, c_MOST_DESKS := c_MOST_DESKS, g_MOST_DESKS := g_MOST_DESKS, g_PaperError := He.glo_ok X G (cd.fact 37 (f := .glo "PaperError") rfl), g_InvalidTown := He.glo_ok X G (cd.fact 38 (f := .glo "InvalidTown") rfl), g_InvalidStand := He.glo_ok X G (cd.fact 39 (f := .glo "InvalidStand") rfl), x_InvalidStand := (He.exc_ok (cd.fact 54 (f := .exc "InvalidStand") rfl)).1, k_InvalidStand := (He.exc_ok (cd.fact 54 (f := .exc "InvalidStand") rfl)).2.1, s_InvalidStand := (He.exc_ok (cd.fact 54 (f := .exc "InvalidStand") rfl)).2.2.1, t_InvalidStand := (He.exc_ok (cd.fact 54 (f := .exc "InvalidStand") rfl)).2.2.2, x_InvalidTown := (He.exc_ok (cd.fact 55 (f := .exc "InvalidTown") rfl)).1, k_InvalidTown := (He.exc_ok (cd.fact 55 (f := .exc "InvalidTown") rfl)).2.1, s_InvalidTown := (He.exc_ok (cd.fact 55 (f := .exc "InvalidTown") rfl)).2.2.1, t_InvalidTown := (He.exc_ok (cd.fact 55 (f := .exc "InvalidTown") rfl)).2.2.2, d_law := d_law, bl := fun s u => FunD.bindsA (ps := ["script"]) F_law (fun _ _ _ _ _ _ us hl => match us, hl with | [_], _ => rfl) s [u] rfl, d_is_number := d_is_number, F_is_number := fun_ofD F_is_number, g_is_number := He.glo_ok X G (cd.fact 0 (f := .glo "is_number") rfl), b_is_number := F_is_number.bindsN fun _ _ _ _ _ _ us hl => match us, hl with | [_, _, _], _ => rfl, d_is_rising := d_is_rising, F_is_rising := fun_ofD F_is_rising, g_is_rising := He.glo_ok X G (cd.fact 1 (f := .glo "is_rising") rfl), b_is_rising := F_is_rising.bindsN fun _ _ _ _ _ _ us hl => match us, hl with | [_, _, _], _ => rfl, d_is_shown := d_is_shown, F_is_shown := fun_ofD F_is_shown, g_is_shown := He.glo_ok X G (cd.fact 2 (f := .glo "is_shown") rfl), b_is_shown := F_is_shown.bindsN fun _ _ _ _ _ _ us hl => match us, hl with | [_, _], _ => rfl, d_is_desk := d_is_desk, F_is_desk := fun_ofD F_is_desk, g_is_desk := He.glo_ok X G (cd.fact 3 (f := .glo "is_desk") rfl), b_is_desk := F_is_desk.bindsN fun _ _ _ _ _ _ us hl => match us, hl with | [_, _, _], _ => rfl, d_is_kind := d_is_kind, F_is_kind := fun_ofD F_is_kind, g_is_kind := He.glo_ok X G (cd.fact 4 (f := .glo "is_kind") rfl), b_is_kind := F_is_kind.bindsN fun _ _ _ _ _ _ us hl => match us, hl with | [_], _ => rfl, d_is_town := d_is_town, F_is_town := fun_ofD F_is_town, g_is_town := He.glo_ok X G (cd.fact 5 (f := .glo "is_town") rfl), b_is_town := F_is_town.bindsN fun _ _ _ _ _ _ us hl => match us, hl with | [_], _ => rfl, d_is_paper := d_is_paper, F_is_paper := fun_ofD F_is_paper, g_is_paper := He.glo_ok X G (cd.fact 6 (f := .glo "is_paper") rfl), b_is_paper := F_is_paper.bindsN fun _ _ _ _ _ _ us hl => match us, hl with | [_, _], _ => rfl, d_is_stand_of := d_is_stand_of, F_is_stand_of := fun_ofD F_is_stand_of, g_is_stand_of := He.glo_ok X G (cd.fact 7 (f := .glo "is_stand_of") rfl), b_is_stand_of := F_is_stand_of.bindsN fun _ _ _ _ _ _ us hl => match us, hl with | [_, _], _ => rfl, d_need_town := d_need_town, F_need_town := fun_ofD F_need_town, g_need_town := He.glo_ok X G (cd.fact 8 (f := .glo "need_town") rfl), b_need_town := F_need_town.bindsN fun _ _ _ _ _ _ us hl => match us, hl with | [_], _ => rfl, d_need_stand := d_need_stand, F_need_stand := fun_ofD F_need_stand, g_need_stand := He.glo_ok X G (cd.fact 9 (f := .glo "need_stand") rfl), b_need_stand := F_need_stand.bindsN fun _ _ _ _ _ _ us hl => match us, hl with | [_, _], _ => rfl, d_as_good := d_as_good, F_as_good := fun_ofD F_as_good, g_as_good := He.glo_ok X G (cd.fact 10 (f := .glo "as_good") rfl), b_as_good := F_as_good.bindsN fun _ _ _ _ _ _ us hl => match us, hl with | [_, _], _ => rfl, d_covers_it := d_covers_it, F_covers_it := fun_ofD F_covers_it, g_covers_it := He.glo_ok X G (cd.fact 11 (f := .glo "covers_it") rfl), b_covers_it := F_covers_it.bindsN fun _ _ _ _ _ _ us hl => match us, hl with | [_, _], _ => rfl, d_papers_of := d_papers_of, F_papers_of := fun_ofD F_papers_of, g_papers_of := He.glo_ok X G (cd.fact 12 (f := .glo "papers_of") rfl), b_papers_of := F_papers_of.bindsN fun _ _ _ _ _ _ us hl => match us, hl with | [_], _ => rfl, d_stands_of := d_stands_of, F_stands_of := fun_ofD F_stands_of, g_stands_of := He.glo_ok X G (cd.fact 13 (f := .glo "stands_of") rfl), b_stands_of := F_stands_of.bindsN fun _ _ _ _ _ _ us hl => match us, hl with | [_], _ => rfl, d_is_stand := d_is_stand, F_is_stand := fun_ofD F_is_stand, g_is_stand := He.glo_ok X G (cd.fact 14 (f := .glo "is_stand") rfl), b_is_stand := F_is_stand.bindsN fun _ _ _ _ _ _ us hl => match us, hl with | [_, _], _ => rfl, d_covers := d_covers, F_covers := fun_ofD F_covers, g_covers := He.glo_ok X G (cd.fact 15 (f := .glo "covers") rfl), b_covers := F_covers.bindsN fun _ _ _ _ _ _ us hl => match us, hl with | [_, _, _], _ => rfl, d_count_stands := d_count_stands, F_count_stands := fun_ofD F_count_stands, g_count_stands := He.glo_ok X G (cd.fact 16 (f := .glo "count_stands") rfl), b_count_stands := F_count_stands.bindsN fun _ _ _ _ _ _ us hl => match us, hl with | [_], _ => rfl, d__law_urn := d__law_urn, F__law_urn := fun_ofD F__law_urn, g__law_urn := He.glo_ok X G (cd.fact 17 (f := .glo "_law_urn") rfl), b__law_urn := F__law_urn.bindsN fun _ _ _ _ _ _ us hl => match us, hl with | [_, _], _ => rfl, d__law_ball := d__law_ball, F__law_ball := fun_ofD F__law_ball, g__law_ball := He.glo_ok X G (cd.fact 18 (f := .glo "_law_ball") rfl), b__law_ball := F__law_ball.bindsN fun _ _ _ _ _ _ us hl => match us, hl with | [_, _], _ => rfl, d__law_any := d__law_any, F__law_any := fun_ofD F__law_any, g__law_any := He.glo_ok X G (cd.fact 19 (f := .glo "_law_any") rfl), b__law_any := F__law_any.bindsN fun _ _ _ _ _ _ us hl => match us, hl with | [_, _], _ => rfl, d__law_desk := d__law_desk, F__law_desk := fun_ofD F__law_desk, g__law_desk := He.glo_ok X G (cd.fact 20 (f := .glo "_law_desk") rfl), b__law_desk := F__law_desk.bindsN fun _ _ _ _ _ _ us hl => match us, hl with | [_, _, _], _ => rfl, d__law_town := d__law_town, F__law_town := fun_ofD F__law_town, g__law_town := He.glo_ok X G (cd.fact 21 (f := .glo "_law_town") rfl), b__law_town := F__law_town.bindsN fun _ _ _ _ _ _ us hl => match us, hl with | [_, _, _], _ => rfl, d__law_had := d__law_had, F__law_had := fun_ofD F__law_had, g__law_had := He.glo_ok X G (cd.fact 22 (f := .glo "_law_had") rfl), b__law_had := F__law_had.bindsN fun _ _ _ _ _ _ us hl => match us, hl with | [_], _ => rfl, d__law_stand := d__law_stand, F__law_stand := fun_ofD F__law_stand, g__law_stand := He.glo_ok X G (cd.fact 23 (f := .glo "_law_stand") rfl), b__law_stand := F__law_stand.bindsN fun _ _ _ _ _ _ us hl => match us, hl with | [_, _], _ => rfl, d__law_all := d__law_all, F__law_all := fun_ofD F__law_all, g__law_all := He.glo_ok X G (cd.fact 24 (f := .glo "_law_all") rfl), b__law_all := F__law_all.bindsN fun _ _ _ _ _ _ us hl => match us, hl with | [_], _ => rfl, d__law_int := d__law_int, F__law_int := fun_ofD F__law_int, g__law_int := He.glo_ok X G (cd.fact 25 (f := .glo "_law_int") rfl), b__law_int := F__law_int.bindsN fun _ _ _ _ _ _ us hl => match us, hl with | [_, _, _], _ => rfl, d__law_rising := d__law_rising, F__law_rising := fun_ofD F__law_rising, g__law_rising := He.glo_ok X G (cd.fact 26 (f := .glo "_law_rising") rfl), b__law_rising := F__law_rising.bindsN fun _ _ _ _ _ _ us hl => match us, hl with | [_, _, _], _ => rfl, d__law_is_desk := d__law_is_desk, F__law_is_desk := fun_ofD F__law_is_desk, g__law_is_desk := He.glo_ok X G (cd.fact 27 (f := .glo "_law_is_desk") rfl), b__law_is_desk := F__law_is_desk.bindsN fun _ _ _ _ _ _ us hl => match us, hl with | [_, _, _], _ => rfl, d__law_is_town := d__law_is_town, F__law_is_town := fun_ofD F__law_is_town, g__law_is_town := He.glo_ok X G (cd.fact 28 (f := .glo "_law_is_town") rfl), b__law_is_town := F__law_is_town.bindsN fun _ _ _ _ _ _ us hl => match us, hl with | [_], _ => rfl, d__law_is_stand := d__law_is_stand, F__law_is_stand := fun_ofD F__law_is_stand, g__law_is_stand := He.glo_ok X G (cd.fact 29 (f := .glo "_law_is_stand") rfl), b__law_is_stand := F__law_is_stand.bindsN fun _ _ _ _ _ _ us hl => match us, hl with | [_, _], _ => rfl, d__law_odd := d__law_odd, F__law_odd := fun_ofD F__law_odd, g__law_odd := He.glo_ok X G (cd.fact 30 (f := .glo "_law_odd") rfl), b__law_odd := F__law_odd.bindsN fun _ _ _ _ _ _ us hl => match us, hl with | [_], _ => rfl, d__law_bent := d__law_bent, F__law_bent := fun_ofD F__law_bent, g__law_bent := He.glo_ok X G (cd.fact 31 (f := .glo "_law_bent") rfl), b__law_bent := F__law_bent.bindsN fun _ _ _ _ _ _ us hl => match us, hl with | [_, _], _ => rfl, d__law_good_as := d__law_good_as, F__law_good_as := fun_ofD F__law_good_as, g__law_good_as := He.glo_ok X G (cd.fact 32 (f := .glo "_law_good_as") rfl), b__law_good_as := F__law_good_as.bindsN fun _ _ _ _ _ _ us hl => match us, hl with | [_, _], _ => rfl, d__law_covers := d__law_covers, F__law_covers := fun_ofD F__law_covers, g__law_covers := He.glo_ok X G (cd.fact 33 (f := .glo "_law_covers") rfl), b__law_covers := F__law_covers.bindsN fun _ _ _ _ _ _ us hl => match us, hl with | [_, _], _ => rfl, d__law_right := d__law_right, F__law_right := fun_ofD F__law_right, g__law_right := He.glo_ok X G (cd.fact 35 (f := .glo "_law_right") rfl), b__law_right := F__law_right.bindsN fun _ _ _ _ _ _ us hl => match us, hl with | [_, _], _ => rfl, F_law := fun_ofD F_law, g_law := He.glo_ok X G (cd.fact 36 (f := .glo "law") rfl), b_law := F_law.bindsN fun _ _ _ _ _ _ us hl => match us, hl with | [_], _ => rfl, d__law_error := d__law_error, F__law_error := fun_ofD F__law_error, g__law_error := He.glo_ok X G (cd.fact 34 (f := .glo "_law_error") rfl), b__law_error := F__law_error.bindsN fun _ _ _ _ _ _ us hl => match us, hl with | [_], _ => rfl }⟩
def TbOk (base : Heap) (mg : Str → Option Value) (K : PySem.W.Frag) : Prop := ∀ p ∈ htf, LamX.TabB base mg (He.cT K p).1 (He.cT K p).2
theorem sub_ok {K : PySem.W.Frag} {mg : Str → Option Value} (t : Tx K mg) {hs : List (Str × Str)} (h : ∀ p ∈ hs, p.1 ∈ hhandled) : ∀ y ∈ hknown, ∀ cls, mg y = some cls → ∀ p ∈ hs, PySem.W.exmOne K cls (.ref (He.ga K p.1)) = some (subT y p.1) := fun y hy cls hc p hp => by
  have e := t.ky y hy
  rw [hc] at e
  rw [Option.some.inj e]
  exact t.xm y hy p.1 (h p hp)
section
variable {P : Program} {w : World} {K : PySem.W.Frag} {mg : Str → Option Value} {base : Heap}
def b_is_number (v_value v_low v_high : D) : M (Out Unit) :=
  (do let d ← (do let x ← (do let x ← (pure v_value); isiM "int" x); let c ← asB x; if c = true then (do let x ← (do let x ← (do let x ← (pure v_value); isiM "bool" x); let c ← asB x; pure (.bool (!c))); let c ← asB x; if c = true then (do let x ← (pure v_low); let y ← (pure v_value); let z ← leM x y; let t ← asB z; if t = true then (do let u ← (pure v_high); leM y u) else pure (.bool false)) else pure (.bool false)) else pure (.bool false)); pure (.ret d))
def m_is_number : List D → M D := fun ds => fin (on3 b_is_number ds)
theorem ok_is_number (t : Tx K mg) (hT : TbOk base mg K) : FnOk P w K mg base (L2.CX P w) 1 (He.fAd K ("is_number", none)) t.d_is_number ["value", "low", "high"] (spec K w mg (tabsOf K htf) m_is_number) := by
  refine fn_den (k := 0) t.F_is_number sc_is_number (fun ds ms h => fin_bad (on3_bad h)) (fun ds _ => rfl) fun cdv A outer s H E hr ds hl => ?_
  have nd := sc_is_number.nd
  have hk := takesE (X := (cxOf (L2.CX P w) P w K mg base ["value", "low", "high"] "is_number" (defScope s_is_number) (He.fAd K ("is_number", none)) cdv A outer s H E)) rfl rfl rfl rfl
  have hx := passE (X := (cxOf (L2.CX P w) P w K mg base ["value", "low", "high"] "is_number" (defScope s_is_number) (He.fAd K ("is_number", none)) cdv A outer s H E)) rfl rfl rfl rfl
  have hp : PassesOwn (model P w) (cxOf (L2.CX P w) P w K mg base ["value", "low", "high"] "is_number" (defScope s_is_number) (He.fAd K ("is_number", none)) cdv A outer s H E).A (cxOf (L2.CX P w) P w K mg base ["value", "low", "high"] "is_number" (defScope s_is_number) (He.fAd K ("is_number", none)) cdv A outer s H E).env (cxOf (L2.CX P w) P w K mg base ["value", "low", "high"] "is_number" (defScope s_is_number) (He.fAd K ("is_number", none)) cdv A outer s H E).xe := passes_of (X := (cxOf (L2.CX P w) P w K mg base ["value", "low", "high"] "is_number" (defScope s_is_number) (He.fAd K ("is_number", none)) cdv A outer s H E)) rfl
  exact match ds, hl with
    | [v_value, v_low, v_high], _ => (db_ret (de_and (de_isi (de_var 0) (by rfl) t.n_isinstance t.v_isinstance (by rfl) t.n_int t.v_int) (de_and (de_not (de_isi (de_var 0) (by rfl) t.n_isinstance t.v_isinstance (by rfl) t.n_bool t.v_bool)) (de_one (de_chain op_le od_le op_le od_le (de_var 1) (de_var 0) (de_var 2))))))
def b_is_rising (v_value v_low v_high : D) : M (Out Unit) :=
  (do let x ← (do let x ← (do let x ← (do let x ← (do let x ← (pure v_value); isiM "tuple" x); asB x); pure (!x)); if x = true then pure true else (do let x ← (do let x ← (do let xs ← (do let x ← (do let xs ← (do let x ← (pure v_value); itemsM x); let ys ← lcM (.nm 3) (on1 fun one_1 => (pure true)) (on1 fun one_1 => (do let xs ← (do let x ← (pure one_1); let xs ← (do let x ← (pure v_low); let xs ← (do let x ← (pure v_high); let xs ← (pure []); pure (x :: xs)); pure (x :: xs)); pure (x :: xs)); m_is_number xs)) xs; lstM ys); let xs ← (pure []); pure (x :: xs)); allM xs); asB x); pure (!x))); if x = true then lift0 (do let d ← (pure (.bool false)); pure (.ret d)) else (do let d ← (do let xs ← (do let x ← (do let xs ← (do let xs ← (do let x ← (pure v_value); let xs ← (do let x ← (do let x ← (pure v_value); let l ← (do let x ← (pure (.int 1)); asI x); let h ← (pure none); slM x l h); let xs ← (pure []); pure (x :: xs)); pure (x :: xs)); zipM xs); let ys ← lcM (.tp [(.nm 3), (.nm 4)]) (on2 fun one_2 other_3 => (pure true)) (on2 fun one_2 other_3 => (do let x ← (pure one_2); let y ← (pure other_3); ltM x y)) xs; lstM ys); let xs ← (pure []); pure (x :: xs)); allM xs); pure (.ret d)))
def m_is_rising : List D → M D := fun ds => fin (on3 b_is_rising ds)
theorem ok_is_rising (t : Tx K mg) (hT : TbOk base mg K) : FnOk P w K mg base (L2.CX P w) 2 (He.fAd K ("is_rising", none)) t.d_is_rising ["value", "low", "high"] (spec K w mg (tabsOf K htf) m_is_rising) := by
  refine fn_den (k := 1) t.F_is_rising sc_is_rising (fun ds ms h => fin_bad (on3_bad h)) (fun ds _ => rfl) fun cdv A outer s H E hr ds hl => ?_
  have nd := sc_is_rising.nd
  have hk := takesE (X := (cxOf (L2.CX P w) P w K mg base ["value", "low", "high", "one", "other"] "is_rising" (defScope s_is_rising) (He.fAd K ("is_rising", none)) cdv A outer s H E)) rfl rfl rfl rfl
  have hx := passE (X := (cxOf (L2.CX P w) P w K mg base ["value", "low", "high", "one", "other"] "is_rising" (defScope s_is_rising) (He.fAd K ("is_rising", none)) cdv A outer s H E)) rfl rfl rfl rfl
  have hp : PassesOwn (model P w) (cxOf (L2.CX P w) P w K mg base ["value", "low", "high", "one", "other"] "is_rising" (defScope s_is_rising) (He.fAd K ("is_rising", none)) cdv A outer s H E).A (cxOf (L2.CX P w) P w K mg base ["value", "low", "high", "one", "other"] "is_rising" (defScope s_is_rising) (He.fAd K ("is_rising", none)) cdv A outer s H E).env (cxOf (L2.CX P w) P w K mg base ["value", "low", "high", "one", "other"] "is_rising" (defScope s_is_rising) (He.fAd K ("is_rising", none)) cdv A outer s H E).xe := passes_of (X := (cxOf (L2.CX P w) P w K mg base ["value", "low", "high", "one", "other"] "is_rising" (defScope s_is_rising) (He.fAd K ("is_rising", none)) cdv A outer s H E)) rfl
  have G_is_number := ok_is_number (P := P) (w := w) (base := base) t hT
  exact match ds, hl with
    | [v_value, v_low, v_high], _ => (db_if ((dw_or (dt_not (dt_of (de_isi (de_var 0) (by rfl) t.n_isinstance t.v_isinstance (by rfl) t.n_tuple t.v_tuple))) (dw_or1 (dt_not (dt_of (de_callB (cr_all rfl) cd_all (by rfl) t.n_all t.v_all (da_cons (de_lc (own := [("one", 3)]) rfl nd (di_seq (de_var 0)) (blkOk_by (N := ["value", "low", "high", "one", "other"]) (sc := defScope s_is_rising) (by decide +kernel)) (hown_cons rfl hown_nil) (by decide) (fun _ _ _ _ _ => (dg_name nd)) (fun ds hl => match ds, hl with | [one_1], _ => fun _ _ _ _ _ => ⟨dts_nil, (de_call G_is_number (hr.mono (by decide)) (by rfl) t.g_is_number t.F_is_number.kp t.b_is_number passL (da_cons (de_var 3) (da_cons (de_var 1) (da_cons (de_var 2) da_nil))))⟩)) da_nil))))))).pt (db_ret de_bl) (db_ret (de_callB (cr_all rfl) cd_all (by rfl) t.n_all t.v_all (da_cons (de_lc (own := [("one", 3), ("other", 4)]) rfl nd (di_zip (by rfl) t.n_zip (da_cons (de_var 0) (da_cons (de_slice (de_var 0) (do_some de_int) do_none) da_nil))) (blkOk_by (N := ["value", "low", "high", "one", "other"]) (sc := defScope s_is_rising) (by decide +kernel)) (hown_cons rfl (hown_cons rfl hown_nil)) (by decide) (fun _ _ _ _ _ => (dg_tup rfl (dgs_cons (dg_name nd) (dgs_cons (dg_name nd) dgs_nil)))) (fun ds hl => match ds, hl with | [one_2, other_3], _ => fun _ _ _ _ _ => ⟨dts_nil, (de_cmp op_lt od_lt (de_var 3) (de_var 4) (nomark _))⟩)) da_nil))))
def b_is_shown (v_value v_many : D) : M (Out Unit) :=
  (do let x ← (do let x ← (do let x ← (do let x ← (do let x ← (pure v_value); isiM "tuple" x); asB x); pure (!x)); if x = true then pure true else (do let x ← (do let x ← (do let xs ← (do let x ← (do let xs ← (do let x ← (pure v_value); itemsM x); let ys ← lcM (.nm 2) (on1 fun one_1 => (pure true)) (on1 fun one_1 => (do let x ← (do let x ← (pure one_1); isiM "tuple" x); let c ← asB x; if c = true then (do let x ← (do let xs ← (do let x ← (pure one_1); let xs ← (pure []); pure (x :: xs)); lenM xs); let y ← (pure (.int 2)); eqM x y) else pure (.bool false))) xs; lstM ys); let xs ← (pure []); pure (x :: xs)); allM xs); asB x); pure (!x))); if x = true then lift0 (do let d ← (pure (.bool false)); pure (.ret d)) else (do let d ← (do let x ← (do let xs ← (do let x ← (do let xs ← (do let x ← (do let xs ← (do let x ← (pure v_value); itemsM x); let ys ← lcM (.nm 2) (on1 fun one_2 => (pure true)) (on1 fun one_2 => (do let x ← (pure one_2); let y ← (pure (.int 0)); ixM x y)) xs; lstM ys); let xs ← (pure []); pure (x :: xs)); tupleM xs); let xs ← (do let x ← (pure (.int 0)); let xs ← (do let x ← (do let x ← (pure v_many); let y ← (pure (.int 1)); subM x y); let xs ← (pure []); pure (x :: xs)); pure (x :: xs)); pure (x :: xs)); m_is_rising xs); let c ← asB x; if c = true then (do let xs ← (do let x ← (do let xs ← (do let x ← (pure v_value); itemsM x); let ys ← lcM (.nm 2) (on1 fun one_3 => (pure true)) (on1 fun one_3 => (do let xs ← (do let x ← (do let x ← (pure one_3); let y ← (pure (.int 1)); ixM x y); let xs ← (do let x ← (pure (.int 0)); let xs ← (do let x ← (pure (.int 3)); let xs ← (pure []); pure (x :: xs)); pure (x :: xs)); pure (x :: xs)); m_is_number xs)) xs; lstM ys); let xs ← (pure []); pure (x :: xs)); allM xs) else pure (.bool false)); pure (.ret d)))
def m_is_shown : List D → M D := fun ds => fin (on2 b_is_shown ds)
theorem ok_is_shown (t : Tx K mg) (hT : TbOk base mg K) : FnOk P w K mg base (L2.CX P w) 3 (He.fAd K ("is_shown", none)) t.d_is_shown ["value", "many"] (spec K w mg (tabsOf K htf) m_is_shown) := by
  refine fn_den (k := 2) t.F_is_shown sc_is_shown (fun ds ms h => fin_bad (on2_bad h)) (fun ds _ => rfl) fun cdv A outer s H E hr ds hl => ?_
  have nd := sc_is_shown.nd
  have hk := takesE (X := (cxOf (L2.CX P w) P w K mg base ["value", "many", "one"] "is_shown" (defScope s_is_shown) (He.fAd K ("is_shown", none)) cdv A outer s H E)) rfl rfl rfl rfl
  have hx := passE (X := (cxOf (L2.CX P w) P w K mg base ["value", "many", "one"] "is_shown" (defScope s_is_shown) (He.fAd K ("is_shown", none)) cdv A outer s H E)) rfl rfl rfl rfl
  have hp : PassesOwn (model P w) (cxOf (L2.CX P w) P w K mg base ["value", "many", "one"] "is_shown" (defScope s_is_shown) (He.fAd K ("is_shown", none)) cdv A outer s H E).A (cxOf (L2.CX P w) P w K mg base ["value", "many", "one"] "is_shown" (defScope s_is_shown) (He.fAd K ("is_shown", none)) cdv A outer s H E).env (cxOf (L2.CX P w) P w K mg base ["value", "many", "one"] "is_shown" (defScope s_is_shown) (He.fAd K ("is_shown", none)) cdv A outer s H E).xe := passes_of (X := (cxOf (L2.CX P w) P w K mg base ["value", "many", "one"] "is_shown" (defScope s_is_shown) (He.fAd K ("is_shown", none)) cdv A outer s H E)) rfl
  have G_is_number := ok_is_number (P := P) (w := w) (base := base) t hT
  have G_is_rising := ok_is_rising (P := P) (w := w) (base := base) t hT
  exact match ds, hl with
    | [v_value, v_many], _ => (db_if ((dw_or (dt_not (dt_of (de_isi (de_var 0) (by rfl) t.n_isinstance t.v_isinstance (by rfl) t.n_tuple t.v_tuple))) (dw_or1 (dt_not (dt_of (de_callB (cr_all rfl) cd_all (by rfl) t.n_all t.v_all (da_cons (de_lc (own := [("one", 2)]) rfl nd (di_seq (de_var 0)) (blkOk_by (N := ["value", "many", "one"]) (sc := defScope s_is_shown) (by decide +kernel)) (hown_cons rfl hown_nil) (by decide) (fun _ _ _ _ _ => (dg_name nd)) (fun ds hl => match ds, hl with | [one_1], _ => fun _ _ _ _ _ => ⟨dts_nil, (de_and (de_isi (de_var 2) (by rfl) t.n_isinstance t.v_isinstance (by rfl) t.n_tuple t.v_tuple) (de_one (de_cmp (op_eqP hr.units) od_eq (de_callB call_len cd_len (by rfl) t.n_len t.v_len (da_cons (de_var 2) da_nil)) de_int (nomark _))))⟩)) da_nil))))))).pt (db_ret de_bl) (db_ret (de_and (de_call G_is_rising (hr.mono (by decide)) (by rfl) t.g_is_rising t.F_is_rising.kp t.b_is_rising hx (da_cons (de_callTy call_tuple_of cd_tuple (by rfl) t.n_tuple t.v_tuple (da_cons (de_lc (own := [("one", 2)]) rfl nd (di_seq (de_var 0)) (blkOk_by (N := ["value", "many", "one"]) (sc := defScope s_is_shown) (by decide +kernel)) (hown_cons rfl hown_nil) (by decide) (fun _ _ _ _ _ => (dg_name nd)) (fun ds hl => match ds, hl with | [one_2], _ => fun _ _ _ _ _ => ⟨dts_nil, (de_ix (de_var 2) de_int)⟩)) da_nil)) (da_cons de_int (da_cons (de_op op_sub od_sub (de_var 1) de_int) da_nil)))) (de_one (de_callB (cr_all rfl) cd_all (by rfl) t.n_all t.v_all (da_cons (de_lc (own := [("one", 2)]) rfl nd (di_seq (de_var 0)) (blkOk_by (N := ["value", "many", "one"]) (sc := defScope s_is_shown) (by decide +kernel)) (hown_cons rfl hown_nil) (by decide) (fun _ _ _ _ _ => (dg_name nd)) (fun ds hl => match ds, hl with | [one_3], _ => fun _ _ _ _ _ => ⟨dts_nil, (de_call G_is_number (hr.mono (by decide)) (by rfl) t.g_is_number t.F_is_number.kp t.b_is_number passL (da_cons (de_ix (de_var 2) de_int) (da_cons de_int (da_cons de_int da_nil))))⟩)) da_nil))))))
def b_is_desk (v_value v_week v_many : D) : M (Out Unit) :=
  (do let x ← (do let x ← (do let x ← (do let x ← (do let x ← (pure v_value); isiM "tuple" x); asB x); pure (!x)); if x = true then pure true else (do let x ← (do let x ← (do let xs ← (do let x ← (pure v_value); let xs ← (pure []); pure (x :: xs)); lenM xs); let y ← (pure (.int 7)); let z ← neM x y; asB z); if x = true then pure true else (do let x ← (do let x ← (do let x ← (do let xs ← (do let x ← (do let x ← (pure v_value); let y ← (pure (.int 0)); ixM x y); let xs ← (do let x ← (pure (.int 0)); let xs ← (do let x ← (do let x ← (pure v_week); let y ← (pure (.int 1)); subM x y); let xs ← (pure []); pure (x :: xs)); pure (x :: xs)); pure (x :: xs)); m_is_rising xs); asB x); pure (!x)); if x = true then pure true else (do let x ← (do let x ← (pure v_value); let y ← (pure (.int 0)); ixM x y); let y ← (do let xs ← (pure []); tupM xs); let z ← eqM x y; asB z)))); if x = true then lift0 (do let d ← (pure (.bool false)); pure (.ret d)) else (do let x ← (do let x ← (do let x ← (do let x ← (do let xs ← (do let x ← (do let x ← (pure v_value); let y ← (pure (.int 1)); ixM x y); let xs ← (do let x ← (pure v_many); let xs ← (pure []); pure (x :: xs)); pure (x :: xs)); m_is_shown xs); asB x); pure (!x)); if x = true then pure true else (do let x ← (do let x ← (do let x ← (do let xs ← (do let x ← (do let x ← (pure v_value); let y ← (pure (.int 2)); ixM x y); let xs ← (do let x ← (pure (.int 0)); let xs ← (do let x ← (do let x ← (pure v_many); let y ← (pure (.int 1)); subM x y); let xs ← (pure []); pure (x :: xs)); pure (x :: xs)); pure (x :: xs)); m_is_rising xs); asB x); pure (!x)); if x = true then pure true else (do let x ← (do let x ← (do let xs ← (do let x ← (do let x ← (pure v_value); let y ← (pure (.int 3)); ixM x y); let xs ← (do let x ← (pure (.int 0)); let xs ← (do let x ← (do let x ← (pure v_many); let y ← (pure (.int 1)); subM x y); let xs ← (pure []); pure (x :: xs)); pure (x :: xs)); pure (x :: xs)); m_is_rising xs); asB x); pure (!x)))); if x = true then lift0 (do let d ← (pure (.bool false)); pure (.ret d)) else (do let named_1 ← (do let x ← (do let x ← (do let xs ← (do let x ← (do let x ← (pure v_value); let y ← (pure (.int 1)); ixM x y); itemsM x); let ys ← lcM (.nm 4) (on1 fun one_2 => (pure true)) (on1 fun one_2 => (do let x ← (pure one_2); let y ← (pure (.int 0)); ixM x y)) xs; lstM ys); let y ← (do let xs ← (do let x ← (do let x ← (pure v_value); let y ← (pure (.int 2)); ixM x y); let xs ← (pure []); pure (x :: xs)); listM xs); addM x y); let y ← (do let xs ← (do let x ← (do let x ← (pure v_value); let y ← (pure (.int 3)); ixM x y); let xs ← (pure []); pure (x :: xs)); listM xs); addM x y); (do let x ← (do let x ← (do let xs ← (do let x ← (pure named_1); let xs ← (pure []); pure (x :: xs)); lenM xs); let y ← (do let x ← (pure named_1); lenSetM x); let z ← neM x y; asB z); if x = true then lift0 (do let d ← (pure (.bool false)); pure (.ret d)) else (do let d ← (do let x ← (do let xs ← (do let x ← (do let x ← (pure v_value); let y ← (pure (.int 4)); ixM x y); let xs ← (do let x ← (pure (.int 0)); let xs ← (do let x ← (do let x ← (pure v_many); let y ← (pure (.int 1)); subM x y); let xs ← (pure []); pure (x :: xs)); pure (x :: xs)); pure (x :: xs)); m_is_number xs); let c ← asB x; if c = true then (do let x ← (do let xs ← (do let x ← (do let x ← (pure v_value); let y ← (pure (.int 5)); ixM x y); let xs ← (do let x ← (pure (.int 0)); let xs ← (do let x ← (pure (.int 2)); let xs ← (pure []); pure (x :: xs)); pure (x :: xs)); pure (x :: xs)); m_is_number xs); let c ← asB x; if c = true then (do let xs ← (do let x ← (do let x ← (pure v_value); let y ← (pure (.int 6)); ixM x y); let xs ← (do let x ← (pure (.int 0)); let xs ← (do let x ← (pure (.int 9)); let xs ← (pure []); pure (x :: xs)); pure (x :: xs)); pure (x :: xs)); m_is_number xs) else pure (.bool false)) else pure (.bool false)); pure (.ret d))))))
def m_is_desk : List D → M D := fun ds => fin (on3 b_is_desk ds)
theorem ok_is_desk (t : Tx K mg) (hT : TbOk base mg K) : FnOk P w K mg base (L2.CX P w) 4 (He.fAd K ("is_desk", none)) t.d_is_desk ["value", "week", "many"] (spec K w mg (tabsOf K htf) m_is_desk) := by
  refine fn_den (k := 3) t.F_is_desk sc_is_desk (fun ds ms h => fin_bad (on3_bad h)) (fun ds _ => rfl) fun cdv A outer s H E hr ds hl => ?_
  have nd := sc_is_desk.nd
  have hk := takesE (X := (cxOf (L2.CX P w) P w K mg base ["value", "week", "many", "named", "one"] "is_desk" (defScope s_is_desk) (He.fAd K ("is_desk", none)) cdv A outer s H E)) rfl rfl rfl rfl
  have hx := passE (X := (cxOf (L2.CX P w) P w K mg base ["value", "week", "many", "named", "one"] "is_desk" (defScope s_is_desk) (He.fAd K ("is_desk", none)) cdv A outer s H E)) rfl rfl rfl rfl
  have hp : PassesOwn (model P w) (cxOf (L2.CX P w) P w K mg base ["value", "week", "many", "named", "one"] "is_desk" (defScope s_is_desk) (He.fAd K ("is_desk", none)) cdv A outer s H E).A (cxOf (L2.CX P w) P w K mg base ["value", "week", "many", "named", "one"] "is_desk" (defScope s_is_desk) (He.fAd K ("is_desk", none)) cdv A outer s H E).env (cxOf (L2.CX P w) P w K mg base ["value", "week", "many", "named", "one"] "is_desk" (defScope s_is_desk) (He.fAd K ("is_desk", none)) cdv A outer s H E).xe := passes_of (X := (cxOf (L2.CX P w) P w K mg base ["value", "week", "many", "named", "one"] "is_desk" (defScope s_is_desk) (He.fAd K ("is_desk", none)) cdv A outer s H E)) rfl
  have G_is_number := ok_is_number (P := P) (w := w) (base := base) t hT
  have G_is_rising := ok_is_rising (P := P) (w := w) (base := base) t hT
  have G_is_shown := ok_is_shown (P := P) (w := w) (base := base) t hT
  exact match ds, hl with
    | [v_value, v_week, v_many], _ => (db_if ((dw_or (dt_not (dt_of (de_isi (de_var 0) (by rfl) t.n_isinstance t.v_isinstance (by rfl) t.n_tuple t.v_tuple))) (dw_or (dt_cmp (op_neP hr.units) od_ne (de_callB call_len cd_len (by rfl) t.n_len t.v_len (da_cons (de_var 0) da_nil)) de_int (nomark _)) (dw_or (dt_not (dt_of (de_call G_is_rising (hr.mono (by decide)) (by rfl) t.g_is_rising t.F_is_rising.kp t.b_is_rising hx (da_cons (de_ix (de_var 0) de_int) (da_cons de_int (da_cons (de_op op_sub od_sub (de_var 1) de_int) da_nil)))))) (dw_or1 (dt_cmp (op_eqP hr.units) od_eq (de_ix (de_var 0) de_int) (de_tup da_nil) (nomark _))))))).pt (db_ret de_bl) (db_if ((dw_or (dt_not (dt_of (de_call G_is_shown (hr.mono (by decide)) (by rfl) t.g_is_shown t.F_is_shown.kp t.b_is_shown hx (da_cons (de_ix (de_var 0) de_int) (da_cons (de_var 2) da_nil))))) (dw_or (dt_not (dt_of (de_call G_is_rising (hr.mono (by decide)) (by rfl) t.g_is_rising t.F_is_rising.kp t.b_is_rising hx (da_cons (de_ix (de_var 0) de_int) (da_cons de_int (da_cons (de_op op_sub od_sub (de_var 2) de_int) da_nil)))))) (dw_or1 (dt_not (dt_of (de_call G_is_rising (hr.mono (by decide)) (by rfl) t.g_is_rising t.F_is_rising.kp t.b_is_rising hx (da_cons (de_ix (de_var 0) de_int) (da_cons de_int (da_cons (de_op op_sub od_sub (de_var 2) de_int) da_nil)))))))))).pt (db_ret de_bl) (db_set (i := 3) nd (de_op op_addP od_add (de_op op_addP od_add (de_lc (own := [("one", 4)]) rfl nd (di_seq (de_ix (de_var 0) de_int)) (blkOk_by (N := ["value", "week", "many", "named", "one"]) (sc := defScope s_is_desk) (by decide +kernel)) (hown_cons rfl hown_nil) (by decide) (fun _ _ _ _ _ => (dg_name nd)) (fun ds hl => match ds, hl with | [one_2], _ => fun _ _ _ _ _ => ⟨dts_nil, (de_ix (de_var 4) de_int)⟩)) (de_callTy call_list_of cd_list (by rfl) t.n_list t.v_list (da_cons (de_ix (de_var 0) de_int) da_nil))) (de_callTy call_list_of cd_list (by rfl) t.n_list t.v_list (da_cons (de_ix (de_var 0) de_int) da_nil))) (fun named_1 => (db_if (dt_cmp (op_neP hr.units) od_ne (de_callB call_len cd_len (by rfl) t.n_len t.v_len (da_cons (de_var 3) da_nil)) (de_lenset (by rfl) t.n_len t.v_len (by rfl) t.n_set t.v_set rfl (de_var 3)) (nomark _)) (db_ret de_bl) (db_ret (de_and (de_call G_is_number (hr.mono (by decide)) (by rfl) t.g_is_number t.F_is_number.kp t.b_is_number hx (da_cons (de_ix (de_var 0) de_int) (da_cons de_int (da_cons (de_op op_sub od_sub (de_var 2) de_int) da_nil)))) (de_and (de_call G_is_number (hr.mono (by decide)) (by rfl) t.g_is_number t.F_is_number.kp t.b_is_number hx (da_cons (de_ix (de_var 0) de_int) (da_cons de_int (da_cons de_int da_nil)))) (de_one (de_call G_is_number (hr.mono (by decide)) (by rfl) t.g_is_number t.F_is_number.kp t.b_is_number hx (da_cons (de_ix (de_var 0) de_int) (da_cons de_int (da_cons de_int da_nil)))))))))))))
def b_is_kind (v_value : D) : M (Out Unit) :=
  (do let d ← (do let x ← (do let x ← (pure v_value); isiM "tuple" x); let c ← asB x; if c = true then (do let x ← (do let x ← (do let xs ← (do let x ← (pure v_value); let xs ← (pure []); pure (x :: xs)); lenM xs); let y ← (pure (.int 2)); eqM x y); let c ← asB x; if c = true then (do let x ← (do let xs ← (do let x ← (do let x ← (pure v_value); let y ← (pure (.int 0)); ixM x y); let xs ← (do let x ← (pure (.int 1)); let xs ← (do let x ← (pure (.int 4)); let xs ← (pure []); pure (x :: xs)); pure (x :: xs)); pure (x :: xs)); m_is_number xs); let c ← asB x; if c = true then (do let xs ← (do let x ← (do let x ← (pure v_value); let y ← (pure (.int 1)); ixM x y); let xs ← (do let x ← (pure (.int 1)); let xs ← (do let x ← (pure (.int 2)); let xs ← (pure []); pure (x :: xs)); pure (x :: xs)); pure (x :: xs)); m_is_number xs) else pure (.bool false)) else pure (.bool false)) else pure (.bool false)); pure (.ret d))
def m_is_kind : List D → M D := fun ds => fin (on1 b_is_kind ds)
theorem ok_is_kind (t : Tx K mg) (hT : TbOk base mg K) : FnOk P w K mg base (L2.CX P w) 2 (He.fAd K ("is_kind", none)) t.d_is_kind ["value"] (spec K w mg (tabsOf K htf) m_is_kind) := by
  refine fn_den (k := 1) t.F_is_kind sc_is_kind (fun ds ms h => fin_bad (on1_bad h)) (fun ds _ => rfl) fun cdv A outer s H E hr ds hl => ?_
  have nd := sc_is_kind.nd
  have hk := takesE (X := (cxOf (L2.CX P w) P w K mg base ["value"] "is_kind" (defScope s_is_kind) (He.fAd K ("is_kind", none)) cdv A outer s H E)) rfl rfl rfl rfl
  have hx := passE (X := (cxOf (L2.CX P w) P w K mg base ["value"] "is_kind" (defScope s_is_kind) (He.fAd K ("is_kind", none)) cdv A outer s H E)) rfl rfl rfl rfl
  have hp : PassesOwn (model P w) (cxOf (L2.CX P w) P w K mg base ["value"] "is_kind" (defScope s_is_kind) (He.fAd K ("is_kind", none)) cdv A outer s H E).A (cxOf (L2.CX P w) P w K mg base ["value"] "is_kind" (defScope s_is_kind) (He.fAd K ("is_kind", none)) cdv A outer s H E).env (cxOf (L2.CX P w) P w K mg base ["value"] "is_kind" (defScope s_is_kind) (He.fAd K ("is_kind", none)) cdv A outer s H E).xe := passes_of (X := (cxOf (L2.CX P w) P w K mg base ["value"] "is_kind" (defScope s_is_kind) (He.fAd K ("is_kind", none)) cdv A outer s H E)) rfl
  have G_is_number := ok_is_number (P := P) (w := w) (base := base) t hT
  exact match ds, hl with
    | [v_value], _ => (db_ret (de_and (de_isi (de_var 0) (by rfl) t.n_isinstance t.v_isinstance (by rfl) t.n_tuple t.v_tuple) (de_and (de_cmp (op_eqP hr.units) od_eq (de_callB call_len cd_len (by rfl) t.n_len t.v_len (da_cons (de_var 0) da_nil)) de_int (nomark _)) (de_and (de_call G_is_number (hr.mono (by decide)) (by rfl) t.g_is_number t.F_is_number.kp t.b_is_number hx (da_cons (de_ix (de_var 0) de_int) (da_cons de_int (da_cons de_int da_nil)))) (de_one (de_call G_is_number (hr.mono (by decide)) (by rfl) t.g_is_number t.F_is_number.kp t.b_is_number hx (da_cons (de_ix (de_var 0) de_int) (da_cons de_int (da_cons de_int da_nil)))))))))
def b_is_town (v_value : D) : M (Out Unit) :=
  (do let x ← (do let x ← (do let x ← (do let x ← (do let x ← (pure v_value); isiM "tuple" x); asB x); pure (!x)); if x = true then pure true else (do let x ← (do let x ← (do let xs ← (do let x ← (pure v_value); let xs ← (pure []); pure (x :: xs)); lenM xs); let y ← (pure (.int 3)); let z ← neM x y; asB z); if x = true then pure true else (do let x ← (do let x ← (do let xs ← (do let x ← (do let x ← (pure v_value); let y ← (pure (.int 0)); ixM x y); let xs ← (do let x ← (pure (.int 1)); let xs ← (do let x ← (pure (.int 3)); let xs ← (pure []); pure (x :: xs)); pure (x :: xs)); pure (x :: xs)); m_is_number xs); asB x); pure (!x)))); if x = true then lift0 (do let d ← (pure (.bool false)); pure (.ret d)) else (do let x ← (do let x ← (do let x ← (do let x ← (do let x ← (do let x ← (pure v_value); let y ← (pure (.int 1)); ixM x y); isiM "tuple" x); asB x); pure (!x)); if x = true then pure true else (do let x ← (do let d ← (do let x ← (pure (.int 1)); let y ← (do let xs ← (do let x ← (do let x ← (pure v_value); let y ← (pure (.int 1)); ixM x y); let xs ← (pure []); pure (x :: xs)); lenM xs); let z ← leM x y; let t ← asB z; if t = true then (do let u ← (pure (.int 3)); leM y u) else pure (.bool false)); asB d); pure (!x))); if x = true then lift0 (do let d ← (pure (.bool false)); pure (.ret d)) else (do let x ← (do let x ← (do let x ← (do let x ← (do let xs ← (do let x ← (do let xs ← (do let x ← (do let x ← (pure v_value); let y ← (pure (.int 1)); ixM x y); itemsM x); let ys ← lcM (.nm 1) (on1 fun one_1 => (pure true)) (on1 fun one_1 => (do let xs ← (do let x ← (pure one_1); let xs ← (pure []); pure (x :: xs)); m_is_kind xs)) xs; lstM ys); let xs ← (pure []); pure (x :: xs)); allM xs); asB x); pure (!x)); if x = true then pure true else (do let x ← (do let x ← (do let x ← (do let x ← (do let x ← (pure v_value); let y ← (pure (.int 2)); ixM x y); isiM "tuple" x); asB x); pure (!x)); if x = true then pure true else (do let x ← (do let xs ← (do let x ← (do let x ← (pure v_value); let y ← (pure (.int 2)); ixM x y); let xs ← (pure []); pure (x :: xs)); lenM xs); let y ← (pure (.int 5)); let z ← gtM x y; asB z))); if x = true then lift0 (do let d ← (pure (.bool false)); pure (.ret d)) else (do let d ← (do let xs ← (do let x ← (do let xs ← (do let x ← (do let x ← (pure v_value); let y ← (pure (.int 2)); ixM x y); itemsM x); let ys ← lcM (.nm 1) (on1 fun one_2 => (pure true)) (on1 fun one_2 => (do let xs ← (do let x ← (pure one_2); let xs ← (do let x ← (do let x ← (pure v_value); let y ← (pure (.int 0)); ixM x y); let xs ← (do let x ← (do let xs ← (do let x ← (do let x ← (pure v_value); let y ← (pure (.int 1)); ixM x y); let xs ← (pure []); pure (x :: xs)); lenM xs); let xs ← (pure []); pure (x :: xs)); pure (x :: xs)); pure (x :: xs)); m_is_desk xs)) xs; lstM ys); let xs ← (pure []); pure (x :: xs)); allM xs); pure (.ret d)))))
def m_is_town : List D → M D := fun ds => fin (on1 b_is_town ds)
theorem ok_is_town (t : Tx K mg) (hT : TbOk base mg K) : FnOk P w K mg base (L2.CX P w) 5 (He.fAd K ("is_town", none)) t.d_is_town ["value"] (spec K w mg (tabsOf K htf) m_is_town) := by
  refine fn_den (k := 4) t.F_is_town sc_is_town (fun ds ms h => fin_bad (on1_bad h)) (fun ds _ => rfl) fun cdv A outer s H E hr ds hl => ?_
  have nd := sc_is_town.nd
  have hk := takesE (X := (cxOf (L2.CX P w) P w K mg base ["value", "one"] "is_town" (defScope s_is_town) (He.fAd K ("is_town", none)) cdv A outer s H E)) rfl rfl rfl rfl
  have hx := passE (X := (cxOf (L2.CX P w) P w K mg base ["value", "one"] "is_town" (defScope s_is_town) (He.fAd K ("is_town", none)) cdv A outer s H E)) rfl rfl rfl rfl
  have hp : PassesOwn (model P w) (cxOf (L2.CX P w) P w K mg base ["value", "one"] "is_town" (defScope s_is_town) (He.fAd K ("is_town", none)) cdv A outer s H E).A (cxOf (L2.CX P w) P w K mg base ["value", "one"] "is_town" (defScope s_is_town) (He.fAd K ("is_town", none)) cdv A outer s H E).env (cxOf (L2.CX P w) P w K mg base ["value", "one"] "is_town" (defScope s_is_town) (He.fAd K ("is_town", none)) cdv A outer s H E).xe := passes_of (X := (cxOf (L2.CX P w) P w K mg base ["value", "one"] "is_town" (defScope s_is_town) (He.fAd K ("is_town", none)) cdv A outer s H E)) rfl
  have G_is_desk := ok_is_desk (P := P) (w := w) (base := base) t hT
  have G_is_kind := ok_is_kind (P := P) (w := w) (base := base) t hT
  have G_is_number := ok_is_number (P := P) (w := w) (base := base) t hT
  exact match ds, hl with
    | [v_value], _ => (db_if ((dw_or (dt_not (dt_of (de_isi (de_var 0) (by rfl) t.n_isinstance t.v_isinstance (by rfl) t.n_tuple t.v_tuple))) (dw_or (dt_cmp (op_neP hr.units) od_ne (de_callB call_len cd_len (by rfl) t.n_len t.v_len (da_cons (de_var 0) da_nil)) de_int (nomark _)) (dw_or1 (dt_not (dt_of (de_call G_is_number (hr.mono (by decide)) (by rfl) t.g_is_number t.F_is_number.kp t.b_is_number hx (da_cons (de_ix (de_var 0) de_int) (da_cons de_int (da_cons de_int da_nil)))))))))).pt (db_ret de_bl) (db_if ((dw_or (dt_not (dt_of (de_isi (de_ix (de_var 0) de_int) (by rfl) t.n_isinstance t.v_isinstance (by rfl) t.n_tuple t.v_tuple))) (dw_or1 (dt_not (dt_chain op_le od_le op_le od_le de_int (de_callB call_len cd_len (by rfl) t.n_len t.v_len (da_cons (de_ix (de_var 0) de_int) da_nil)) (de_glob (by rfl) t.g_MOST_KINDS (show RelV (.int 3) (.int 3 _) from ⟨_, rfl⟩) (fun _ _ => .int 3))))))).pt (db_ret de_bl) (db_if ((dw_or (dt_not (dt_of (de_callB (cr_all rfl) cd_all (by rfl) t.n_all t.v_all (da_cons (de_lc (own := [("one", 1)]) rfl nd (di_seq (de_ix (de_var 0) de_int)) (blkOk_by (N := ["value", "one"]) (sc := defScope s_is_town) (by decide +kernel)) (hown_cons rfl hown_nil) (by decide) (fun _ _ _ _ _ => (dg_name nd)) (fun ds hl => match ds, hl with | [one_1], _ => fun _ _ _ _ _ => ⟨dts_nil, (de_call G_is_kind (hr.mono (by decide)) (by rfl) t.g_is_kind t.F_is_kind.kp t.b_is_kind passL (da_cons (de_var 1) da_nil))⟩)) da_nil)))) (dw_or (dt_not (dt_of (de_isi (de_ix (de_var 0) de_int) (by rfl) t.n_isinstance t.v_isinstance (by rfl) t.n_tuple t.v_tuple))) (dw_or1 (dt_cmp op_gt od_gt (de_callB call_len cd_len (by rfl) t.n_len t.v_len (da_cons (de_ix (de_var 0) de_int) da_nil)) (de_glob (by rfl) t.g_MOST_DESKS (show RelV (.int 5) (.int 5 _) from ⟨_, rfl⟩) (fun _ _ => .int 5)) (nomark _)))))).pt (db_ret de_bl) (db_ret (de_callB (cr_all rfl) cd_all (by rfl) t.n_all t.v_all (da_cons (de_lc (own := [("one", 1)]) rfl nd (di_seq (de_ix (de_var 0) de_int)) (blkOk_by (N := ["value", "one"]) (sc := defScope s_is_town) (by decide +kernel)) (hown_cons rfl hown_nil) (by decide) (fun _ _ _ _ _ => (dg_name nd)) (fun ds hl => match ds, hl with | [one_2], _ => fun _ _ _ _ _ => ⟨dts_nil, (de_call G_is_desk (hr.mono (by decide)) (by rfl) t.g_is_desk t.F_is_desk.kp t.b_is_desk passL (da_cons (de_var 1) (da_cons (de_ix (de_var 0) de_int) (da_cons (de_callB call_len cd_len (by rfl) t.n_len t.v_len (da_cons (de_ix (de_var 0) de_int) da_nil)) da_nil))))⟩)) da_nil))))))
def b_is_paper (v_value v_kind : D) : M (Out Unit) :=
  (do let x ← (do let x ← (do let x ← (do let x ← (do let x ← (pure v_value); isiM "tuple" x); asB x); pure (!x)); if x = true then pure true else (do let x ← (do let xs ← (do let x ← (pure v_value); let xs ← (pure []); pure (x :: xs)); lenM xs); let y ← (pure (.int 2)); let z ← gtM x y; asB z)); if x = true then lift0 (do let d ← (pure (.bool false)); pure (.ret d)) else (do let x ← (do let x ← (do let xs ← (do let x ← (pure v_value); let xs ← (pure []); pure (x :: xs)); lenM xs); let y ← (pure (.int 2)); let z ← eqM x y; asB z); if x = true then lift0 (do let d ← (do let x ← (do let xs ← (do let x ← (do let x ← (pure v_value); let y ← (pure (.int 0)); ixM x y); let xs ← (do let x ← (pure (.int 0)); let xs ← (do let x ← (do let x ← (do let x ← (pure v_kind); let y ← (pure (.int 0)); ixM x y); let y ← (pure (.int 1)); subM x y); let xs ← (pure []); pure (x :: xs)); pure (x :: xs)); pure (x :: xs)); m_is_number xs); let c ← asB x; if c = true then (do let xs ← (do let x ← (do let x ← (pure v_value); let y ← (pure (.int 1)); ixM x y); let xs ← (do let x ← (pure (.int 1)); let xs ← (do let x ← (do let x ← (pure v_kind); let y ← (pure (.int 1)); ixM x y); let xs ← (pure []); pure (x :: xs)); pure (x :: xs)); pure (x :: xs)); m_is_number xs) else pure (.bool false)); pure (.ret d)) else (do let d ← (do let x ← (do let x ← (pure v_value); let y ← (do let xs ← (pure []); tupM xs); eqM x y); let c ← asB x; if c = true then pure (.bool true) else (do let xs ← (do let x ← (do let x ← (pure v_value); let y ← (pure (.int 0)); ixM x y); let xs ← (do let x ← (pure (.int 1)); let xs ← (do let x ← (pure (.int 2)); let xs ← (pure []); pure (x :: xs)); pure (x :: xs)); pure (x :: xs)); m_is_number xs)); pure (.ret d))))
def m_is_paper : List D → M D := fun ds => fin (on2 b_is_paper ds)
theorem ok_is_paper (t : Tx K mg) (hT : TbOk base mg K) : FnOk P w K mg base (L2.CX P w) 2 (He.fAd K ("is_paper", none)) t.d_is_paper ["value", "kind"] (spec K w mg (tabsOf K htf) m_is_paper) := by
  refine fn_den (k := 1) t.F_is_paper sc_is_paper (fun ds ms h => fin_bad (on2_bad h)) (fun ds _ => rfl) fun cdv A outer s H E hr ds hl => ?_
  have nd := sc_is_paper.nd
  have hk := takesE (X := (cxOf (L2.CX P w) P w K mg base ["value", "kind"] "is_paper" (defScope s_is_paper) (He.fAd K ("is_paper", none)) cdv A outer s H E)) rfl rfl rfl rfl
  have hx := passE (X := (cxOf (L2.CX P w) P w K mg base ["value", "kind"] "is_paper" (defScope s_is_paper) (He.fAd K ("is_paper", none)) cdv A outer s H E)) rfl rfl rfl rfl
  have hp : PassesOwn (model P w) (cxOf (L2.CX P w) P w K mg base ["value", "kind"] "is_paper" (defScope s_is_paper) (He.fAd K ("is_paper", none)) cdv A outer s H E).A (cxOf (L2.CX P w) P w K mg base ["value", "kind"] "is_paper" (defScope s_is_paper) (He.fAd K ("is_paper", none)) cdv A outer s H E).env (cxOf (L2.CX P w) P w K mg base ["value", "kind"] "is_paper" (defScope s_is_paper) (He.fAd K ("is_paper", none)) cdv A outer s H E).xe := passes_of (X := (cxOf (L2.CX P w) P w K mg base ["value", "kind"] "is_paper" (defScope s_is_paper) (He.fAd K ("is_paper", none)) cdv A outer s H E)) rfl
  have G_is_number := ok_is_number (P := P) (w := w) (base := base) t hT
  exact match ds, hl with
    | [v_value, v_kind], _ => (db_if ((dw_or (dt_not (dt_of (de_isi (de_var 0) (by rfl) t.n_isinstance t.v_isinstance (by rfl) t.n_tuple t.v_tuple))) (dw_or1 (dt_cmp op_gt od_gt (de_callB call_len cd_len (by rfl) t.n_len t.v_len (da_cons (de_var 0) da_nil)) de_int (nomark _))))).pt (db_ret de_bl) (db_if (dt_cmp (op_eqP hr.units) od_eq (de_callB call_len cd_len (by rfl) t.n_len t.v_len (da_cons (de_var 0) da_nil)) de_int (nomark _)) (db_ret (de_and (de_call G_is_number (hr.mono (by decide)) (by rfl) t.g_is_number t.F_is_number.kp t.b_is_number hx (da_cons (de_ix (de_var 0) de_int) (da_cons de_int (da_cons (de_op op_sub od_sub (de_ix (de_var 1) de_int) de_int) da_nil)))) (de_one (de_call G_is_number (hr.mono (by decide)) (by rfl) t.g_is_number t.F_is_number.kp t.b_is_number hx (da_cons (de_ix (de_var 0) de_int) (da_cons de_int (da_cons (de_ix (de_var 1) de_int) da_nil))))))) (db_ret (de_or (de_cmp (op_eqP hr.units) od_eq (de_var 0) (de_tup da_nil) (nomark _)) (de_one (de_call G_is_number (hr.mono (by decide)) (by rfl) t.g_is_number t.F_is_number.kp t.b_is_number hx (da_cons (de_ix (de_var 0) de_int) (da_cons de_int (da_cons de_int da_nil)))))))))
def b_is_stand_of (v_town v_value : D) : M (Out Unit) :=
  (do let x ← (do let x ← (do let x ← (do let x ← (do let x ← (pure v_value); isiM "tuple" x); asB x); pure (!x)); if x = true then pure true else (do let x ← (do let x ← (do let xs ← (do let x ← (pure v_value); let xs ← (pure []); pure (x :: xs)); lenM xs); let y ← (pure (.int 2)); let z ← neM x y; asB z); if x = true then pure true else (do let x ← (do let x ← (do let xs ← (do let x ← (do let x ← (pure v_value); let y ← (pure (.int 0)); ixM x y); let xs ← (do let x ← (pure (.int 0)); let xs ← (do let x ← (do let x ← (do let x ← (pure v_town); let y ← (pure (.int 0)); ixM x y); let y ← (pure (.int 1)); subM x y); let xs ← (pure []); pure (x :: xs)); pure (x :: xs)); pure (x :: xs)); m_is_number xs); asB x); pure (!x)))); if x = true then lift0 (do let d ← (pure (.bool false)); pure (.ret d)) else (do let x ← (do let x ← (do let x ← (do let x ← (do let x ← (do let x ← (pure v_value); let y ← (pure (.int 1)); ixM x y); isiM "tuple" x); asB x); pure (!x)); if x = true then pure true else (do let x ← (do let xs ← (do let x ← (do let x ← (pure v_value); let y ← (pure (.int 1)); ixM x y); let xs ← (pure []); pure (x :: xs)); lenM xs); let y ← (do let xs ← (do let x ← (do let x ← (pure v_town); let y ← (pure (.int 1)); ixM x y); let xs ← (pure []); pure (x :: xs)); lenM xs); let z ← neM x y; asB z)); if x = true then lift0 (do let d ← (pure (.bool false)); pure (.ret d)) else (do let d ← (do let xs ← (do let x ← (do let xs ← (do let xs ← (do let x ← (do let x ← (pure v_value); let y ← (pure (.int 1)); ixM x y); let xs ← (do let x ← (do let x ← (pure v_town); let y ← (pure (.int 1)); ixM x y); let xs ← (pure []); pure (x :: xs)); pure (x :: xs)); zipM xs); let ys ← lcM (.tp [(.nm 2), (.nm 3)]) (on2 fun one_1 kind_2 => (pure true)) (on2 fun one_1 kind_2 => (do let xs ← (do let x ← (pure one_1); let xs ← (do let x ← (pure kind_2); let xs ← (pure []); pure (x :: xs)); pure (x :: xs)); m_is_paper xs)) xs; lstM ys); let xs ← (pure []); pure (x :: xs)); allM xs); pure (.ret d))))
def m_is_stand_of : List D → M D := fun ds => fin (on2 b_is_stand_of ds)
theorem ok_is_stand_of (t : Tx K mg) (hT : TbOk base mg K) : FnOk P w K mg base (L2.CX P w) 3 (He.fAd K ("is_stand_of", none)) t.d_is_stand_of ["town", "value"] (spec K w mg (tabsOf K htf) m_is_stand_of) := by
  refine fn_den (k := 2) t.F_is_stand_of sc_is_stand_of (fun ds ms h => fin_bad (on2_bad h)) (fun ds _ => rfl) fun cdv A outer s H E hr ds hl => ?_
  have nd := sc_is_stand_of.nd
  have hk := takesE (X := (cxOf (L2.CX P w) P w K mg base ["town", "value", "one", "kind"] "is_stand_of" (defScope s_is_stand_of) (He.fAd K ("is_stand_of", none)) cdv A outer s H E)) rfl rfl rfl rfl
  have hx := passE (X := (cxOf (L2.CX P w) P w K mg base ["town", "value", "one", "kind"] "is_stand_of" (defScope s_is_stand_of) (He.fAd K ("is_stand_of", none)) cdv A outer s H E)) rfl rfl rfl rfl
  have hp : PassesOwn (model P w) (cxOf (L2.CX P w) P w K mg base ["town", "value", "one", "kind"] "is_stand_of" (defScope s_is_stand_of) (He.fAd K ("is_stand_of", none)) cdv A outer s H E).A (cxOf (L2.CX P w) P w K mg base ["town", "value", "one", "kind"] "is_stand_of" (defScope s_is_stand_of) (He.fAd K ("is_stand_of", none)) cdv A outer s H E).env (cxOf (L2.CX P w) P w K mg base ["town", "value", "one", "kind"] "is_stand_of" (defScope s_is_stand_of) (He.fAd K ("is_stand_of", none)) cdv A outer s H E).xe := passes_of (X := (cxOf (L2.CX P w) P w K mg base ["town", "value", "one", "kind"] "is_stand_of" (defScope s_is_stand_of) (He.fAd K ("is_stand_of", none)) cdv A outer s H E)) rfl
  have G_is_number := ok_is_number (P := P) (w := w) (base := base) t hT
  have G_is_paper := ok_is_paper (P := P) (w := w) (base := base) t hT
  exact match ds, hl with
    | [v_town, v_value], _ => (db_if ((dw_or (dt_not (dt_of (de_isi (de_var 1) (by rfl) t.n_isinstance t.v_isinstance (by rfl) t.n_tuple t.v_tuple))) (dw_or (dt_cmp (op_neP hr.units) od_ne (de_callB call_len cd_len (by rfl) t.n_len t.v_len (da_cons (de_var 1) da_nil)) de_int (nomark _)) (dw_or1 (dt_not (dt_of (de_call G_is_number (hr.mono (by decide)) (by rfl) t.g_is_number t.F_is_number.kp t.b_is_number hx (da_cons (de_ix (de_var 1) de_int) (da_cons de_int (da_cons (de_op op_sub od_sub (de_ix (de_var 0) de_int) de_int) da_nil)))))))))).pt (db_ret de_bl) (db_if ((dw_or (dt_not (dt_of (de_isi (de_ix (de_var 1) de_int) (by rfl) t.n_isinstance t.v_isinstance (by rfl) t.n_tuple t.v_tuple))) (dw_or1 (dt_cmp (op_neP hr.units) od_ne (de_callB call_len cd_len (by rfl) t.n_len t.v_len (da_cons (de_ix (de_var 1) de_int) da_nil)) (de_callB call_len cd_len (by rfl) t.n_len t.v_len (da_cons (de_ix (de_var 0) de_int) da_nil)) (nomark _))))).pt (db_ret de_bl) (db_ret (de_callB (cr_all rfl) cd_all (by rfl) t.n_all t.v_all (da_cons (de_lc (own := [("one", 2), ("kind", 3)]) rfl nd (di_zip (by rfl) t.n_zip (da_cons (de_ix (de_var 1) de_int) (da_cons (de_ix (de_var 0) de_int) da_nil))) (blkOk_by (N := ["town", "value", "one", "kind"]) (sc := defScope s_is_stand_of) (by decide +kernel)) (hown_cons rfl (hown_cons rfl hown_nil)) (by decide) (fun _ _ _ _ _ => (dg_tup rfl (dgs_cons (dg_name nd) (dgs_cons (dg_name nd) dgs_nil)))) (fun ds hl => match ds, hl with | [one_1, kind_2], _ => fun _ _ _ _ _ => ⟨dts_nil, (de_call G_is_paper (hr.mono (by decide)) (by rfl) t.g_is_paper t.F_is_paper.kp t.b_is_paper passL (da_cons (de_var 2) (da_cons (de_var 3) da_nil)))⟩)) da_nil)))))
def b_need_town (v_town : D) : M (Out Unit) :=
  (do let x ← (do let x ← (do let x ← (do let xs ← (do let x ← (pure v_town); let xs ← (pure []); pure (x :: xs)); m_is_town xs); asB x); pure (!x)); if x = true then (M.err ⟨"InvalidTown", none⟩) else (pure (.nxt ())))
def m_need_town : List D → M D := fun ds => fin (on1 b_need_town ds)
theorem ok_need_town (t : Tx K mg) (hT : TbOk base mg K) : FnOk P w K mg base (L2.CX P w) 6 (He.fAd K ("need_town", none)) t.d_need_town ["town"] (spec K w mg (tabsOf K htf) m_need_town) := by
  refine fn_den (k := 5) t.F_need_town sc_need_town (fun ds ms h => fin_bad (on1_bad h)) (fun ds _ => rfl) fun cdv A outer s H E hr ds hl => ?_
  have nd := sc_need_town.nd
  have hk := takesE (X := (cxOf (L2.CX P w) P w K mg base ["town"] "need_town" (defScope s_need_town) (He.fAd K ("need_town", none)) cdv A outer s H E)) rfl rfl rfl rfl
  have hx := passE (X := (cxOf (L2.CX P w) P w K mg base ["town"] "need_town" (defScope s_need_town) (He.fAd K ("need_town", none)) cdv A outer s H E)) rfl rfl rfl rfl
  have hp : PassesOwn (model P w) (cxOf (L2.CX P w) P w K mg base ["town"] "need_town" (defScope s_need_town) (He.fAd K ("need_town", none)) cdv A outer s H E).A (cxOf (L2.CX P w) P w K mg base ["town"] "need_town" (defScope s_need_town) (He.fAd K ("need_town", none)) cdv A outer s H E).env (cxOf (L2.CX P w) P w K mg base ["town"] "need_town" (defScope s_need_town) (He.fAd K ("need_town", none)) cdv A outer s H E).xe := passes_of (X := (cxOf (L2.CX P w) P w K mg base ["town"] "need_town" (defScope s_need_town) (He.fAd K ("need_town", none)) cdv A outer s H E)) rfl
  have G_is_town := ok_is_town (P := P) (w := w) (base := base) t hT
  exact match ds, hl with
    | [v_town], _ => (db_if1 (dt_not (dt_of (de_call G_is_town (hr.mono (by decide)) (by rfl) t.g_is_town t.F_is_town.kp t.b_is_town hx (da_cons (de_var 0) da_nil)))) (db_raise (x := "InvalidTown") rfl hk (pmk_own PySem.F.excBase_ValueError t.x_InvalidTown t.g_InvalidTown t.k_InvalidTown (raises_own t.s_InvalidTown t.t_InvalidTown) rfl) (fun _ _ _ h => h) t.g_InvalidTown) (db_nil (Wk.all rfl)))
def b_need_stand (v_town v_stand : D) : M (Out Unit) :=
  (do let x ← (do let x ← (do let x ← (do let xs ← (do let x ← (pure v_town); let xs ← (do let x ← (pure v_stand); let xs ← (pure []); pure (x :: xs)); pure (x :: xs)); m_is_stand_of xs); asB x); pure (!x)); if x = true then (M.err ⟨"InvalidStand", none⟩) else (pure (.nxt ())))
def m_need_stand : List D → M D := fun ds => fin (on2 b_need_stand ds)
theorem ok_need_stand (t : Tx K mg) (hT : TbOk base mg K) : FnOk P w K mg base (L2.CX P w) 4 (He.fAd K ("need_stand", none)) t.d_need_stand ["town", "stand"] (spec K w mg (tabsOf K htf) m_need_stand) := by
  refine fn_den (k := 3) t.F_need_stand sc_need_stand (fun ds ms h => fin_bad (on2_bad h)) (fun ds _ => rfl) fun cdv A outer s H E hr ds hl => ?_
  have nd := sc_need_stand.nd
  have hk := takesE (X := (cxOf (L2.CX P w) P w K mg base ["town", "stand"] "need_stand" (defScope s_need_stand) (He.fAd K ("need_stand", none)) cdv A outer s H E)) rfl rfl rfl rfl
  have hx := passE (X := (cxOf (L2.CX P w) P w K mg base ["town", "stand"] "need_stand" (defScope s_need_stand) (He.fAd K ("need_stand", none)) cdv A outer s H E)) rfl rfl rfl rfl
  have hp : PassesOwn (model P w) (cxOf (L2.CX P w) P w K mg base ["town", "stand"] "need_stand" (defScope s_need_stand) (He.fAd K ("need_stand", none)) cdv A outer s H E).A (cxOf (L2.CX P w) P w K mg base ["town", "stand"] "need_stand" (defScope s_need_stand) (He.fAd K ("need_stand", none)) cdv A outer s H E).env (cxOf (L2.CX P w) P w K mg base ["town", "stand"] "need_stand" (defScope s_need_stand) (He.fAd K ("need_stand", none)) cdv A outer s H E).xe := passes_of (X := (cxOf (L2.CX P w) P w K mg base ["town", "stand"] "need_stand" (defScope s_need_stand) (He.fAd K ("need_stand", none)) cdv A outer s H E)) rfl
  have G_is_stand_of := ok_is_stand_of (P := P) (w := w) (base := base) t hT
  exact match ds, hl with
    | [v_town, v_stand], _ => (db_if1 (dt_not (dt_of (de_call G_is_stand_of (hr.mono (by decide)) (by rfl) t.g_is_stand_of t.F_is_stand_of.kp t.b_is_stand_of hx (da_cons (de_var 0) (da_cons (de_var 1) da_nil))))) (db_raise (x := "InvalidStand") rfl hk (pmk_own PySem.F.excBase_ValueError t.x_InvalidStand t.g_InvalidStand t.k_InvalidStand (raises_own t.s_InvalidStand t.t_InvalidStand) rfl) (fun _ _ _ h => h) t.g_InvalidStand) (db_nil (Wk.all rfl)))
def b_as_good (v_one v_other : D) : M (Out Unit) :=
  (do let x ← (do let x ← (pure v_other); let y ← (do let xs ← (pure []); tupM xs); let z ← eqM x y; asB z); if x = true then lift0 (do let d ← (pure (.bool true)); pure (.ret d)) else (do let x ← (do let x ← (do let xs ← (do let x ← (pure v_one); let xs ← (pure []); pure (x :: xs)); lenM xs); let y ← (do let xs ← (do let x ← (pure v_other); let xs ← (pure []); pure (x :: xs)); lenM xs); let z ← neM x y; asB z); if x = true then lift0 (do let d ← (pure (.bool false)); pure (.ret d)) else (do let d ← (do let x ← (do let x ← (do let xs ← (do let x ← (pure v_one); let xs ← (pure []); pure (x :: xs)); lenM xs); let y ← (pure (.int 1)); let z ← eqM x y; asB z); if x = true then (do let x ← (pure v_one); let y ← (pure v_other); eqM x y) else (do let x ← (do let x ← (do let x ← (pure v_one); let y ← (pure (.int 0)); ixM x y); let y ← (do let x ← (pure v_other); let y ← (pure (.int 0)); ixM x y); leM x y); let c ← asB x; if c = true then (do let x ← (do let x ← (pure v_one); let y ← (pure (.int 1)); ixM x y); let y ← (do let x ← (pure v_other); let y ← (pure (.int 1)); ixM x y); geM x y) else pure (.bool false))); pure (.ret d))))
def m_as_good : List D → M D := fun ds => fin (on2 b_as_good ds)
theorem ok_as_good (t : Tx K mg) (hT : TbOk base mg K) : FnOk P w K mg base (L2.CX P w) 1 (He.fAd K ("as_good", none)) t.d_as_good ["one", "other"] (spec K w mg (tabsOf K htf) m_as_good) := by
  refine fn_den (k := 0) t.F_as_good sc_as_good (fun ds ms h => fin_bad (on2_bad h)) (fun ds _ => rfl) fun cdv A outer s H E hr ds hl => ?_
  have nd := sc_as_good.nd
  have hk := takesE (X := (cxOf (L2.CX P w) P w K mg base ["one", "other"] "as_good" (defScope s_as_good) (He.fAd K ("as_good", none)) cdv A outer s H E)) rfl rfl rfl rfl
  have hx := passE (X := (cxOf (L2.CX P w) P w K mg base ["one", "other"] "as_good" (defScope s_as_good) (He.fAd K ("as_good", none)) cdv A outer s H E)) rfl rfl rfl rfl
  have hp : PassesOwn (model P w) (cxOf (L2.CX P w) P w K mg base ["one", "other"] "as_good" (defScope s_as_good) (He.fAd K ("as_good", none)) cdv A outer s H E).A (cxOf (L2.CX P w) P w K mg base ["one", "other"] "as_good" (defScope s_as_good) (He.fAd K ("as_good", none)) cdv A outer s H E).env (cxOf (L2.CX P w) P w K mg base ["one", "other"] "as_good" (defScope s_as_good) (He.fAd K ("as_good", none)) cdv A outer s H E).xe := passes_of (X := (cxOf (L2.CX P w) P w K mg base ["one", "other"] "as_good" (defScope s_as_good) (He.fAd K ("as_good", none)) cdv A outer s H E)) rfl
  exact match ds, hl with
    | [v_one, v_other], _ => (db_if (dt_cmp (op_eqP hr.units) od_eq (de_var 1) (de_tup da_nil) (nomark _)) (db_ret de_bl) (db_if (dt_cmp (op_neP hr.units) od_ne (de_callB call_len cd_len (by rfl) t.n_len t.v_len (da_cons (de_var 0) da_nil)) (de_callB call_len cd_len (by rfl) t.n_len t.v_len (da_cons (de_var 1) da_nil)) (nomark _)) (db_ret de_bl) (db_ret (de_if (dt_cmp (op_eqP hr.units) od_eq (de_callB call_len cd_len (by rfl) t.n_len t.v_len (da_cons (de_var 0) da_nil)) de_int (nomark _)) (de_cmp (op_eqP hr.units) od_eq (de_var 0) (de_var 1) (nomark _)) (de_and (de_cmp op_le od_le (de_ix (de_var 0) de_int) (de_ix (de_var 1) de_int) (nomark _)) (de_one (de_cmp op_ge od_ge (de_ix (de_var 0) de_int) (de_ix (de_var 1) de_int) (nomark _))))))))
def b_covers_it (v_one v_other : D) : M (Out Unit) :=
  (do let d ← (do let x ← (do let x ← (do let x ← (pure v_one); let y ← (pure (.int 0)); ixM x y); let y ← (do let x ← (pure v_other); let y ← (pure (.int 0)); ixM x y); eqM x y); let c ← asB x; if c = true then (do let xs ← (do let x ← (do let xs ← (do let xs ← (do let x ← (do let x ← (pure v_one); let y ← (pure (.int 1)); ixM x y); let xs ← (do let x ← (do let x ← (pure v_other); let y ← (pure (.int 1)); ixM x y); let xs ← (pure []); pure (x :: xs)); pure (x :: xs)); zipM xs); let ys ← lcM (.tp [(.nm 2), (.nm 3)]) (on2 fun mine_1 yours_2 => (pure true)) (on2 fun mine_1 yours_2 => (do let xs ← (do let x ← (pure mine_1); let xs ← (do let x ← (pure yours_2); let xs ← (pure []); pure (x :: xs)); pure (x :: xs)); m_as_good xs)) xs; lstM ys); let xs ← (pure []); pure (x :: xs)); allM xs) else pure (.bool false)); pure (.ret d))
def m_covers_it : List D → M D := fun ds => fin (on2 b_covers_it ds)
theorem ok_covers_it (t : Tx K mg) (hT : TbOk base mg K) : FnOk P w K mg base (L2.CX P w) 2 (He.fAd K ("covers_it", none)) t.d_covers_it ["one", "other"] (spec K w mg (tabsOf K htf) m_covers_it) := by
  refine fn_den (k := 1) t.F_covers_it sc_covers_it (fun ds ms h => fin_bad (on2_bad h)) (fun ds _ => rfl) fun cdv A outer s H E hr ds hl => ?_
  have nd := sc_covers_it.nd
  have hk := takesE (X := (cxOf (L2.CX P w) P w K mg base ["one", "other", "mine", "yours"] "covers_it" (defScope s_covers_it) (He.fAd K ("covers_it", none)) cdv A outer s H E)) rfl rfl rfl rfl
  have hx := passE (X := (cxOf (L2.CX P w) P w K mg base ["one", "other", "mine", "yours"] "covers_it" (defScope s_covers_it) (He.fAd K ("covers_it", none)) cdv A outer s H E)) rfl rfl rfl rfl
  have hp : PassesOwn (model P w) (cxOf (L2.CX P w) P w K mg base ["one", "other", "mine", "yours"] "covers_it" (defScope s_covers_it) (He.fAd K ("covers_it", none)) cdv A outer s H E).A (cxOf (L2.CX P w) P w K mg base ["one", "other", "mine", "yours"] "covers_it" (defScope s_covers_it) (He.fAd K ("covers_it", none)) cdv A outer s H E).env (cxOf (L2.CX P w) P w K mg base ["one", "other", "mine", "yours"] "covers_it" (defScope s_covers_it) (He.fAd K ("covers_it", none)) cdv A outer s H E).xe := passes_of (X := (cxOf (L2.CX P w) P w K mg base ["one", "other", "mine", "yours"] "covers_it" (defScope s_covers_it) (He.fAd K ("covers_it", none)) cdv A outer s H E)) rfl
  have G_as_good := ok_as_good (P := P) (w := w) (base := base) t hT
  exact match ds, hl with
    | [v_one, v_other], _ => (db_ret (de_and (de_cmp (op_eqP hr.units) od_eq (de_ix (de_var 0) de_int) (de_ix (de_var 1) de_int) (nomark _)) (de_one (de_callB (cr_all rfl) cd_all (by rfl) t.n_all t.v_all (da_cons (de_lc (own := [("mine", 2), ("yours", 3)]) rfl nd (di_zip (by rfl) t.n_zip (da_cons (de_ix (de_var 0) de_int) (da_cons (de_ix (de_var 1) de_int) da_nil))) (blkOk_by (N := ["one", "other", "mine", "yours"]) (sc := defScope s_covers_it) (by decide +kernel)) (hown_cons rfl (hown_cons rfl hown_nil)) (by decide) (fun _ _ _ _ _ => (dg_tup rfl (dgs_cons (dg_name nd) (dgs_cons (dg_name nd) dgs_nil)))) (fun ds hl => match ds, hl with | [mine_1, yours_2], _ => fun _ _ _ _ _ => ⟨dts_nil, (de_call G_as_good (hr.mono (by decide)) (by rfl) t.g_as_good t.F_as_good.kp t.b_as_good passL (da_cons (de_var 2) (da_cons (de_var 3) da_nil)))⟩)) da_nil)))))
def b_papers_of (v_kind : D) : M (Out Unit) :=
  (do let found_1 ← (do let x ← (do let xs ← (do let x ← (do let xs ← (pure []); tupM xs); let xs ← (do let x ← (do let xs ← (do let x ← (pure (.int 1)); let xs ← (pure []); pure (x :: xs)); tupM xs); let xs ← (do let x ← (do let xs ← (do let x ← (pure (.int 2)); let xs ← (pure []); pure (x :: xs)); tupM xs); let xs ← (pure []); pure (x :: xs)); pure (x :: xs)); pure (x :: xs)); lstM xs); let y ← (do let xs ← (do let xs ← (do let x ← (do let x ← (pure v_kind); let y ← (pure (.int 0)); ixM x y); let xs ← (pure []); pure (x :: xs)); range1M xs); let ys ← lc2M (.nm 2) (.nm 3) (on1 fun age_2 => (pure true)) (on1 fun age_2 => (do let xs ← (do let x ← (pure (.int 1)); let xs ← (do let x ← (do let x ← (do let x ← (pure v_kind); let y ← (pure (.int 1)); ixM x y); let y ← (pure (.int 1)); addM x y); let xs ← (pure []); pure (x :: xs)); pure (x :: xs)); range2M xs)) (fun ds es => on1 (fun age_2 => on1 (fun uses_3 => (pure true)) es) ds) (fun ds es => on1 (fun age_2 => on1 (fun uses_3 => (do let xs ← (do let x ← (pure age_2); let xs ← (do let x ← (pure uses_3); let xs ← (pure []); pure (x :: xs)); pure (x :: xs)); tupM xs)) es) ds) xs; lstM ys); addM x y); (do let d ← (do let xs ← (do let x ← (pure found_1); let xs ← (pure []); pure (x :: xs)); sortedM xs); pure (.ret d)))
def m_papers_of : List D → M D := fun ds => fin (on1 b_papers_of ds)
theorem ok_papers_of (t : Tx K mg) (hT : TbOk base mg K) : FnOk P w K mg base (L2.CX P w) 1 (He.fAd K ("papers_of", none)) t.d_papers_of ["kind"] (spec K w mg (tabsOf K htf) m_papers_of) := by
  refine fn_den (k := 0) t.F_papers_of sc_papers_of (fun ds ms h => fin_bad (on1_bad h)) (fun ds _ => rfl) fun cdv A outer s H E hr ds hl => ?_
  have nd := sc_papers_of.nd
  have hk := takesE (X := (cxOf (L2.CX P w) P w K mg base ["kind", "found", "age", "uses"] "papers_of" (defScope s_papers_of) (He.fAd K ("papers_of", none)) cdv A outer s H E)) rfl rfl rfl rfl
  have hx := passE (X := (cxOf (L2.CX P w) P w K mg base ["kind", "found", "age", "uses"] "papers_of" (defScope s_papers_of) (He.fAd K ("papers_of", none)) cdv A outer s H E)) rfl rfl rfl rfl
  have hp : PassesOwn (model P w) (cxOf (L2.CX P w) P w K mg base ["kind", "found", "age", "uses"] "papers_of" (defScope s_papers_of) (He.fAd K ("papers_of", none)) cdv A outer s H E).A (cxOf (L2.CX P w) P w K mg base ["kind", "found", "age", "uses"] "papers_of" (defScope s_papers_of) (He.fAd K ("papers_of", none)) cdv A outer s H E).env (cxOf (L2.CX P w) P w K mg base ["kind", "found", "age", "uses"] "papers_of" (defScope s_papers_of) (He.fAd K ("papers_of", none)) cdv A outer s H E).xe := passes_of (X := (cxOf (L2.CX P w) P w K mg base ["kind", "found", "age", "uses"] "papers_of" (defScope s_papers_of) (He.fAd K ("papers_of", none)) cdv A outer s H E)) rfl
  exact match ds, hl with
    | [v_kind], _ => (db_set (i := 1) nd (de_op op_addP od_add (de_lst (da_cons (de_tup da_nil) (da_cons (de_tup (da_cons de_int da_nil)) (da_cons (de_tup (da_cons de_int da_nil)) da_nil)))) (de_lc2 (own := [("age", 2), ("uses", 3)]) (vs1 := [3]) rfl nd (di_range1 (by rfl) t.n_range (da_cons (de_ix (de_var 0) de_int) da_nil)) (blkOk_by (N := ["kind", "found", "age", "uses"]) (sc := defScope s_papers_of) (by decide +kernel)) (by decide) (hown_cons rfl (hown_cons rfl hown_nil)) (by decide) (by decide) (fun ds hl => match ds, hl with | [age_2], _ => (hown_cons rfl hown_nil)) (fun _ _ _ _ _ => ⟨(dg_name nd), (dg_name nd)⟩) (fun ds hl => match ds, hl with | [age_2], _ => fun _ _ _ _ _ => ⟨dts_nil, (di_range2 (by rfl) t.n_range (da_cons de_int (da_cons (de_op op_addP od_add (de_ix (de_var 0) de_int) de_int) da_nil)))⟩) (fun ds hl es hl1 => match ds, hl, es, hl1 with | [age_2], _, [uses_3], _ => fun _ _ _ _ _ => ⟨dts_nil, (de_tup (da_cons (de_var 2) (da_cons (de_var 3) da_nil)))⟩))) (fun found_1 => (db_ret (de_callB (cr_sortP (hu64 hr)) cd_sorted (by rfl) t.n_sorted t.v_sorted (da_cons (de_var 1) da_nil)))))
def f_stands_of_1 : List D → (D) → M (Out (D)) :=
  fun ds (t_2 : D) => on1 (fun kind_3 => (do let found_4 ← (do let xs ← (do let x ← (pure t_2); itemsM x); let ys ← lc2M (.nm 4) (.nm 5) (on1 fun some_5 => (pure true)) (on1 fun some_5 => (do let x ← (do let xs ← (do let x ← (pure kind_3); let xs ← (pure []); pure (x :: xs)); m_papers_of xs); itemsM x)) (fun ds es => on1 (fun some_5 => on1 (fun one_6 => (pure true)) es) ds) (fun ds es => on1 (fun some_5 => on1 (fun one_6 => (do let x ← (pure some_5); let y ← (do let xs ← (do let x ← (pure one_6); let xs ← (pure []); pure (x :: xs)); tupM xs); addM x y)) es) ds) xs; lstM ys); (pure (.nxt found_4)))) ds
def b_stands_of (v_town : D) : M (Out Unit) :=
  (do let found_1 ← (do let xs ← (do let x ← (do let xs ← (pure []); tupM xs); let xs ← (pure []); pure (x :: xs)); lstM xs); (do let xs ← (do let x ← (do let x ← (pure v_town); let y ← (pure (.int 1)); ixM x y); itemsM x); joinO (forM (fun d (t_2 : D) => do let ds ← M.opt (patD (.nm 2) d); (f_stands_of_1) ds t_2) xs found_1) (fun (t_2 : D) => (do let d ← (do let xs ← (do let xs ← (do let x ← (do let x ← (pure v_town); let y ← (pure (.int 0)); ixM x y); let xs ← (pure []); pure (x :: xs)); range1M xs); let ys ← lc2M (.nm 3) (.nm 4) (on1 fun day_7 => (pure true)) (on1 fun day_7 => (do let x ← (pure t_2); itemsM x)) (fun ds es => on1 (fun day_7 => on1 (fun some_8 => (pure true)) es) ds) (fun ds es => on1 (fun day_7 => on1 (fun some_8 => (do let xs ← (do let x ← (pure day_7); let xs ← (do let x ← (pure some_8); let xs ← (pure []); pure (x :: xs)); pure (x :: xs)); tupM xs)) es) ds) xs; lstM ys); pure (.ret d)))))
def m_stands_of : List D → M D := fun ds => fin (on1 b_stands_of ds)
theorem ok_stands_of (t : Tx K mg) (hT : TbOk base mg K) : FnOk P w K mg base (L2.CX P w) 2 (He.fAd K ("stands_of", none)) t.d_stands_of ["town"] (spec K w mg (tabsOf K htf) m_stands_of) := by
  refine fn_den (k := 1) t.F_stands_of sc_stands_of (fun ds ms h => fin_bad (on1_bad h)) (fun ds _ => rfl) fun cdv A outer s H E hr ds hl => ?_
  have nd := sc_stands_of.nd
  have hk := takesE (X := (cxOf (L2.CX P w) P w K mg base ["town", "found", "kind", "day", "some", "one"] "stands_of" (defScope s_stands_of) (He.fAd K ("stands_of", none)) cdv A outer s H E)) rfl rfl rfl rfl
  have hx := passE (X := (cxOf (L2.CX P w) P w K mg base ["town", "found", "kind", "day", "some", "one"] "stands_of" (defScope s_stands_of) (He.fAd K ("stands_of", none)) cdv A outer s H E)) rfl rfl rfl rfl
  have hp : PassesOwn (model P w) (cxOf (L2.CX P w) P w K mg base ["town", "found", "kind", "day", "some", "one"] "stands_of" (defScope s_stands_of) (He.fAd K ("stands_of", none)) cdv A outer s H E).A (cxOf (L2.CX P w) P w K mg base ["town", "found", "kind", "day", "some", "one"] "stands_of" (defScope s_stands_of) (He.fAd K ("stands_of", none)) cdv A outer s H E).env (cxOf (L2.CX P w) P w K mg base ["town", "found", "kind", "day", "some", "one"] "stands_of" (defScope s_stands_of) (He.fAd K ("stands_of", none)) cdv A outer s H E).xe := passes_of (X := (cxOf (L2.CX P w) P w K mg base ["town", "found", "kind", "day", "some", "one"] "stands_of" (defScope s_stands_of) (He.fAd K ("stands_of", none)) cdv A outer s H E)) rfl
  have G_papers_of := ok_papers_of (P := P) (w := w) (base := base) t hT
  exact match ds, hl with
    | [v_town], _ => (db_set (i := 1) nd (de_lst (da_cons (de_tup da_nil) da_nil)) (fun found_1 => (db_for (envL := fun (t_2 : D) => [.sh v_town, .sh t_2, .none, .none, .none, .none]) (p := (.nm 2)) (fb := (f_stands_of_1)) (t0 := found_1) hp rfl (di_seq (de_ix (de_var 0) de_int)) (dg_name nd) (Wk.keep (Wk.keep (Wk.drop (Wk.drop (Wk.drop (Wk.drop Wk.nil)))))) (fun t_2 ds hl => match ds, hl with | [kind_3], _ => (db_set (i := 1) nd (de_lc2 (own := [("some", 4), ("one", 5)]) (vs1 := [5]) rfl nd (di_seq (de_var 1)) (blkOk_by (N := ["town", "found", "kind", "day", "some", "one"]) (sc := defScope s_stands_of) (by decide +kernel)) (by decide) (hown_cons rfl (hown_cons rfl hown_nil)) (by decide) (by decide) (fun ds hl => match ds, hl with | [some_5], _ => (hown_cons rfl hown_nil)) (fun _ _ _ _ _ => ⟨(dg_name nd), (dg_name nd)⟩) (fun ds hl => match ds, hl with | [some_5], _ => fun _ _ _ _ _ => ⟨dts_nil, (di_seq (de_call G_papers_of (hr.mono (by decide)) (by rfl) t.g_papers_of t.F_papers_of.kp t.b_papers_of passL (da_cons (de_var 2) da_nil)))⟩) (fun ds hl es hl1 => match ds, hl, es, hl1 with | [some_5], _, [one_6], _ => fun _ _ _ _ _ => ⟨dts_nil, (de_op op_addP od_add (de_var 4) (de_tup (da_cons (de_var 5) da_nil)))⟩)) (fun found_4 => (db_nil (Wk.keep (Wk.keep (Wk.drop (Wk.drop (Wk.drop (Wk.drop Wk.nil)))))))))) (fun t_2 => (db_ret (de_lc2 (own := [("day", 3), ("some", 4)]) (vs1 := [4]) rfl nd (di_range1 (by rfl) t.n_range (da_cons (de_ix (de_var 0) de_int) da_nil)) (blkOk_by (N := ["town", "found", "kind", "day", "some", "one"]) (sc := defScope s_stands_of) (by decide +kernel)) (by decide) (hown_cons rfl (hown_cons rfl hown_nil)) (by decide) (by decide) (fun ds hl => match ds, hl with | [day_7], _ => (hown_cons rfl hown_nil)) (fun _ _ _ _ _ => ⟨(dg_name nd), (dg_name nd)⟩) (fun ds hl => match ds, hl with | [day_7], _ => fun _ _ _ _ _ => ⟨dts_nil, (di_seq (de_var 1))⟩) (fun ds hl es hl1 => match ds, hl, es, hl1 with | [day_7], _, [some_8], _ => fun _ _ _ _ _ => ⟨dts_nil, (de_tup (da_cons (de_var 3) (da_cons (de_var 4) da_nil)))⟩)))))))
def b_is_stand (v_town v_value : D) : M (Out Unit) :=
  (do let _ ← (do let xs ← (do let x ← (pure v_town); let xs ← (pure []); pure (x :: xs)); m_need_town xs); (do let d ← (do let xs ← (do let x ← (pure v_town); let xs ← (do let x ← (pure v_value); let xs ← (pure []); pure (x :: xs)); pure (x :: xs)); m_is_stand_of xs); pure (.ret d)))
def m_is_stand : List D → M D := fun ds => fin (on2 b_is_stand ds)
theorem ok_is_stand (t : Tx K mg) (hT : TbOk base mg K) : FnOk P w K mg base (L2.CX P w) 7 (He.fAd K ("is_stand", none)) t.d_is_stand ["town", "value"] (spec K w mg (tabsOf K htf) m_is_stand) := by
  refine fn_den (k := 6) t.F_is_stand sc_is_stand (fun ds ms h => fin_bad (on2_bad h)) (fun ds _ => rfl) fun cdv A outer s H E hr ds hl => ?_
  have nd := sc_is_stand.nd
  have hk := takesE (X := (cxOf (L2.CX P w) P w K mg base ["town", "value"] "is_stand" (defScope s_is_stand) (He.fAd K ("is_stand", none)) cdv A outer s H E)) rfl rfl rfl rfl
  have hx := passE (X := (cxOf (L2.CX P w) P w K mg base ["town", "value"] "is_stand" (defScope s_is_stand) (He.fAd K ("is_stand", none)) cdv A outer s H E)) rfl rfl rfl rfl
  have hp : PassesOwn (model P w) (cxOf (L2.CX P w) P w K mg base ["town", "value"] "is_stand" (defScope s_is_stand) (He.fAd K ("is_stand", none)) cdv A outer s H E).A (cxOf (L2.CX P w) P w K mg base ["town", "value"] "is_stand" (defScope s_is_stand) (He.fAd K ("is_stand", none)) cdv A outer s H E).env (cxOf (L2.CX P w) P w K mg base ["town", "value"] "is_stand" (defScope s_is_stand) (He.fAd K ("is_stand", none)) cdv A outer s H E).xe := passes_of (X := (cxOf (L2.CX P w) P w K mg base ["town", "value"] "is_stand" (defScope s_is_stand) (He.fAd K ("is_stand", none)) cdv A outer s H E)) rfl
  have G_is_stand_of := ok_is_stand_of (P := P) (w := w) (base := base) t hT
  have G_need_town := ok_need_town (P := P) (w := w) (base := base) t hT
  exact match ds, hl with
    | [v_town, v_value], _ => (db_expr (de_call G_need_town (hr.mono (by decide)) (by rfl) t.g_need_town t.F_need_town.kp t.b_need_town hx (da_cons (de_var 0) da_nil)) (db_ret (de_call G_is_stand_of (hr.mono (by decide)) (by rfl) t.g_is_stand_of t.F_is_stand_of.kp t.b_is_stand_of hx (da_cons (de_var 0) (da_cons (de_var 1) da_nil)))))
def b_covers (v_town v_one v_other : D) : M (Out Unit) :=
  (do let _ ← (do let xs ← (do let x ← (pure v_town); let xs ← (pure []); pure (x :: xs)); m_need_town xs); (do let _ ← (do let xs ← (do let x ← (pure v_town); let xs ← (do let x ← (pure v_one); let xs ← (pure []); pure (x :: xs)); pure (x :: xs)); m_need_stand xs); (do let _ ← (do let xs ← (do let x ← (pure v_town); let xs ← (do let x ← (pure v_other); let xs ← (pure []); pure (x :: xs)); pure (x :: xs)); m_need_stand xs); (do let d ← (do let xs ← (do let x ← (pure v_one); let xs ← (do let x ← (pure v_other); let xs ← (pure []); pure (x :: xs)); pure (x :: xs)); m_covers_it xs); pure (.ret d)))))
def m_covers : List D → M D := fun ds => fin (on3 b_covers ds)
theorem ok_covers (t : Tx K mg) (hT : TbOk base mg K) : FnOk P w K mg base (L2.CX P w) 7 (He.fAd K ("covers", none)) t.d_covers ["town", "one", "other"] (spec K w mg (tabsOf K htf) m_covers) := by
  refine fn_den (k := 6) t.F_covers sc_covers (fun ds ms h => fin_bad (on3_bad h)) (fun ds _ => rfl) fun cdv A outer s H E hr ds hl => ?_
  have nd := sc_covers.nd
  have hk := takesE (X := (cxOf (L2.CX P w) P w K mg base ["town", "one", "other"] "covers" (defScope s_covers) (He.fAd K ("covers", none)) cdv A outer s H E)) rfl rfl rfl rfl
  have hx := passE (X := (cxOf (L2.CX P w) P w K mg base ["town", "one", "other"] "covers" (defScope s_covers) (He.fAd K ("covers", none)) cdv A outer s H E)) rfl rfl rfl rfl
  have hp : PassesOwn (model P w) (cxOf (L2.CX P w) P w K mg base ["town", "one", "other"] "covers" (defScope s_covers) (He.fAd K ("covers", none)) cdv A outer s H E).A (cxOf (L2.CX P w) P w K mg base ["town", "one", "other"] "covers" (defScope s_covers) (He.fAd K ("covers", none)) cdv A outer s H E).env (cxOf (L2.CX P w) P w K mg base ["town", "one", "other"] "covers" (defScope s_covers) (He.fAd K ("covers", none)) cdv A outer s H E).xe := passes_of (X := (cxOf (L2.CX P w) P w K mg base ["town", "one", "other"] "covers" (defScope s_covers) (He.fAd K ("covers", none)) cdv A outer s H E)) rfl
  have G_covers_it := ok_covers_it (P := P) (w := w) (base := base) t hT
  have G_need_stand := ok_need_stand (P := P) (w := w) (base := base) t hT
  have G_need_town := ok_need_town (P := P) (w := w) (base := base) t hT
  exact match ds, hl with
    | [v_town, v_one, v_other], _ => (db_expr (de_call G_need_town (hr.mono (by decide)) (by rfl) t.g_need_town t.F_need_town.kp t.b_need_town hx (da_cons (de_var 0) da_nil)) (db_expr (de_call G_need_stand (hr.mono (by decide)) (by rfl) t.g_need_stand t.F_need_stand.kp t.b_need_stand hx (da_cons (de_var 0) (da_cons (de_var 1) da_nil))) (db_expr (de_call G_need_stand (hr.mono (by decide)) (by rfl) t.g_need_stand t.F_need_stand.kp t.b_need_stand hx (da_cons (de_var 0) (da_cons (de_var 2) da_nil))) (db_ret (de_call G_covers_it (hr.mono (by decide)) (by rfl) t.g_covers_it t.F_covers_it.kp t.b_covers_it hx (da_cons (de_var 1) (da_cons (de_var 2) da_nil)))))))
def b_count_stands (v_town : D) : M (Out Unit) :=
  (do let _ ← (do let xs ← (do let x ← (pure v_town); let xs ← (pure []); pure (x :: xs)); m_need_town xs); (do let d ← (do let xs ← (do let x ← (do let xs ← (do let x ← (pure v_town); let xs ← (pure []); pure (x :: xs)); m_stands_of xs); let xs ← (pure []); pure (x :: xs)); lenM xs); pure (.ret d)))
def m_count_stands : List D → M D := fun ds => fin (on1 b_count_stands ds)
theorem ok_count_stands (t : Tx K mg) (hT : TbOk base mg K) : FnOk P w K mg base (L2.CX P w) 7 (He.fAd K ("count_stands", none)) t.d_count_stands ["town"] (spec K w mg (tabsOf K htf) m_count_stands) := by
  refine fn_den (k := 6) t.F_count_stands sc_count_stands (fun ds ms h => fin_bad (on1_bad h)) (fun ds _ => rfl) fun cdv A outer s H E hr ds hl => ?_
  have nd := sc_count_stands.nd
  have hk := takesE (X := (cxOf (L2.CX P w) P w K mg base ["town"] "count_stands" (defScope s_count_stands) (He.fAd K ("count_stands", none)) cdv A outer s H E)) rfl rfl rfl rfl
  have hx := passE (X := (cxOf (L2.CX P w) P w K mg base ["town"] "count_stands" (defScope s_count_stands) (He.fAd K ("count_stands", none)) cdv A outer s H E)) rfl rfl rfl rfl
  have hp : PassesOwn (model P w) (cxOf (L2.CX P w) P w K mg base ["town"] "count_stands" (defScope s_count_stands) (He.fAd K ("count_stands", none)) cdv A outer s H E).A (cxOf (L2.CX P w) P w K mg base ["town"] "count_stands" (defScope s_count_stands) (He.fAd K ("count_stands", none)) cdv A outer s H E).env (cxOf (L2.CX P w) P w K mg base ["town"] "count_stands" (defScope s_count_stands) (He.fAd K ("count_stands", none)) cdv A outer s H E).xe := passes_of (X := (cxOf (L2.CX P w) P w K mg base ["town"] "count_stands" (defScope s_count_stands) (He.fAd K ("count_stands", none)) cdv A outer s H E)) rfl
  have G_need_town := ok_need_town (P := P) (w := w) (base := base) t hT
  have G_stands_of := ok_stands_of (P := P) (w := w) (base := base) t hT
  exact match ds, hl with
    | [v_town], _ => (db_expr (de_call G_need_town (hr.mono (by decide)) (by rfl) t.g_need_town t.F_need_town.kp t.b_need_town hx (da_cons (de_var 0) da_nil)) (db_ret (de_callB call_len cd_len (by rfl) t.n_len t.v_len (da_cons (de_call G_stands_of (hr.mono (by decide)) (by rfl) t.g_stands_of t.F_stands_of.kp t.b_stands_of hx (da_cons (de_var 0) da_nil)) da_nil))))
def b__law_urn (v_cell v_salt : D) : M (Out Unit) :=
  (do let great_1 ← (do let x ← (do let x ← (pure v_cell); let y ← (do let x ← (pure (.int 10)); let y ← (pure (.int 18)); powM x y); let z ← geM x y; asB z); if x = true then (do let x ← (do let x ← (pure v_cell); let y ← (pure (.int 6)); fdivM x y); let y ← (do let x ← (pure (.int 11)); let y ← (pure v_salt); mulM x y); addM x y) else (pure (.int 0))); (do let d ← (do let xs ← (do let x ← (pure great_1); let xs ← (do let x ← (do let x ← (do let x ← (do let xs ← (do let x ← (do let x ← (do let x ← (pure v_cell); let y ← (pure (.int 37)); mulM x y); let y ← (do let x ← (pure (.int 4001)); let y ← (pure v_salt); mulM x y); addM x y); let xs ← (pure []); pure (x :: xs)); intM xs); let y ← (pure (.int 1844674403)); modM x y); let y ← (pure (.int 13)); addM x y); let xs ← (pure []); pure (x :: xs)); pure (x :: xs)); newO xs); pure (.ret d)))
def m__law_urn : List D → M D := fun ds => fin (on2 b__law_urn ds)
theorem ok__law_urn (t : Tx K mg) (hT : TbOk base mg K) : FnOk P w K mg base (L2.CX P w) 1 (He.fAd K ("_law_urn", none)) t.d__law_urn ["cell", "salt"] (spec K w mg (tabsOf K htf) m__law_urn) := by
  refine fn_den (k := 0) t.F__law_urn sc__law_urn (fun ds ms h => fin_bad (on2_bad h)) (fun ds _ => rfl) fun cdv A outer s H E hr ds hl => ?_
  have nd := sc__law_urn.nd
  have hk := takesE (X := (cxOf (L2.CX P w) P w K mg base ["cell", "salt", "great"] "_law_urn" (defScope s__law_urn) (He.fAd K ("_law_urn", none)) cdv A outer s H E)) rfl rfl rfl rfl
  have hx := passE (X := (cxOf (L2.CX P w) P w K mg base ["cell", "salt", "great"] "_law_urn" (defScope s__law_urn) (He.fAd K ("_law_urn", none)) cdv A outer s H E)) rfl rfl rfl rfl
  have hp : PassesOwn (model P w) (cxOf (L2.CX P w) P w K mg base ["cell", "salt", "great"] "_law_urn" (defScope s__law_urn) (He.fAd K ("_law_urn", none)) cdv A outer s H E).A (cxOf (L2.CX P w) P w K mg base ["cell", "salt", "great"] "_law_urn" (defScope s__law_urn) (He.fAd K ("_law_urn", none)) cdv A outer s H E).env (cxOf (L2.CX P w) P w K mg base ["cell", "salt", "great"] "_law_urn" (defScope s__law_urn) (He.fAd K ("_law_urn", none)) cdv A outer s H E).xe := passes_of (X := (cxOf (L2.CX P w) P w K mg base ["cell", "salt", "great"] "_law_urn" (defScope s__law_urn) (He.fAd K ("_law_urn", none)) cdv A outer s H E)) rfl
  exact match ds, hl with
    | [v_cell, v_salt], _ => (db_set (i := 2) nd (de_if (dt_cmp op_ge od_ge (de_var 0) (de_op op_pow od_pow de_int de_int) (nomark _)) (de_op op_addP od_add (de_op op_fdiv od_fdiv (de_var 0) de_int) (de_op op_mulP od_mul de_int (de_var 1))) de_int) (fun great_1 => (db_ret (de_newO (da_cons (de_var 2) (da_cons (de_op op_addP od_add (de_op op_mod od_mod (de_callTy call_int1 cd_int (by rfl) t.n_int t.v_int (da_cons (de_op op_addP od_add (de_op op_mulP od_mul (de_var 0) de_int) (de_op op_mulP od_mul de_int (de_var 1))) da_nil)) de_int) de_int) da_nil))))))
def b__law_ball (v_urn v_many : D) : M (Out Unit) :=
  (do let x ← (do let x ← (do let x ← (pure v_urn); let y ← (pure (.int 0)); ixO x y); let y ← (pure (.int 0)); let z ← gtM x y; asB z); if x = true then lift0 (do let found_1 ← (do let x ← (do let xs ← (do let x ← (do let x ← (pure v_urn); let y ← (pure (.int 0)); ixO x y); let xs ← (pure []); pure (x :: xs)); intM xs); let y ← (pure v_many); modM x y); (do let v ← (do let x ← (do let x ← (pure v_urn); let y ← (pure (.int 0)); ixO x y); let y ← (pure v_many); fdivM x y); let x ← (pure v_urn); let y ← (pure (.int 0)); setO x y v; (do let d ← (pure found_1); pure (.ret d)))) else (do let v ← (do let x ← (do let xs ← (do let x ← (do let x ← (do let x ← (do let x ← (pure v_urn); let y ← (pure (.int 1)); ixO x y); let y ← (pure (.int 48271)); mulM x y); let y ← (pure (.int 5077)); addM x y); let xs ← (pure []); pure (x :: xs)); intM xs); let y ← (pure (.int 2147483549)); modM x y); let x ← (pure v_urn); let y ← (pure (.int 1)); setO x y v; (do let deep_2 ← (do let x ← (do let xs ← (do let x ← (do let x ← (do let x ← (pure v_urn); let y ← (pure (.int 1)); ixO x y); let y ← (do let x ← (do let x ← (pure v_urn); let y ← (pure (.int 1)); ixO x y); let y ← (pure (.int 41)); addM x y); mulM x y); let xs ← (pure []); pure (x :: xs)); intM xs); let y ← (pure (.int 2147483563)); modM x y); (do let d ← (do let x ← (do let xs ← (do let x ← (do let x ← (pure deep_2); let y ← (pure (.int 467)); fdivM x y); let xs ← (pure []); pure (x :: xs)); intM xs); let y ← (pure v_many); modM x y); pure (.ret d)))))
def m__law_ball : List D → M D := fun ds => fin (on2 b__law_ball ds)
theorem ok__law_ball (t : Tx K mg) (hT : TbOk base mg K) : FnOk P w K mg base (L2.CX P w) 1 (He.fAd K ("_law_ball", none)) t.d__law_ball ["urn", "many"] (spec K w mg (tabsOf K htf) m__law_ball) := by
  refine fn_den (k := 0) t.F__law_ball sc__law_ball (fun ds ms h => fin_bad (on2_bad h)) (fun ds _ => rfl) fun cdv A outer s H E hr ds hl => ?_
  have nd := sc__law_ball.nd
  have hk := takesE (X := (cxOf (L2.CX P w) P w K mg base ["urn", "many", "found", "deep"] "_law_ball" (defScope s__law_ball) (He.fAd K ("_law_ball", none)) cdv A outer s H E)) rfl rfl rfl rfl
  have hx := passE (X := (cxOf (L2.CX P w) P w K mg base ["urn", "many", "found", "deep"] "_law_ball" (defScope s__law_ball) (He.fAd K ("_law_ball", none)) cdv A outer s H E)) rfl rfl rfl rfl
  have hp : PassesOwn (model P w) (cxOf (L2.CX P w) P w K mg base ["urn", "many", "found", "deep"] "_law_ball" (defScope s__law_ball) (He.fAd K ("_law_ball", none)) cdv A outer s H E).A (cxOf (L2.CX P w) P w K mg base ["urn", "many", "found", "deep"] "_law_ball" (defScope s__law_ball) (He.fAd K ("_law_ball", none)) cdv A outer s H E).env (cxOf (L2.CX P w) P w K mg base ["urn", "many", "found", "deep"] "_law_ball" (defScope s__law_ball) (He.fAd K ("_law_ball", none)) cdv A outer s H E).xe := passes_of (X := (cxOf (L2.CX P w) P w K mg base ["urn", "many", "found", "deep"] "_law_ball" (defScope s__law_ball) (He.fAd K ("_law_ball", none)) cdv A outer s H E)) rfl
  exact match ds, hl with
    | [v_urn, v_many], _ => (db_if (dt_cmp op_gt od_gt (de_ixO (de_var 0) de_int) de_int (nomark _)) (db_set (i := 2) nd (de_op op_mod od_mod (de_callTy call_int1 cd_int (by rfl) t.n_int t.v_int (da_cons (de_ixO (de_var 0) de_int) da_nil)) (de_var 1)) (fun found_1 => (db_setO (de_op op_fdiv od_fdiv (de_ixO (de_var 0) de_int) (de_var 1)) (de_var 0) de_int (db_ret (de_var 2))))) (db_setO (de_op op_mod od_mod (de_callTy call_int1 cd_int (by rfl) t.n_int t.v_int (da_cons (de_op op_addP od_add (de_op op_mulP od_mul (de_ixO (de_var 0) de_int) de_int) de_int) da_nil)) de_int) (de_var 0) de_int (db_set (i := 3) nd (de_op op_mod od_mod (de_callTy call_int1 cd_int (by rfl) t.n_int t.v_int (da_cons (de_op op_mulP od_mul (de_ixO (de_var 0) de_int) (de_op op_addP od_add (de_ixO (de_var 0) de_int) de_int)) da_nil)) de_int) (fun deep_2 => (db_ret (de_op op_mod od_mod (de_callTy call_int1 cd_int (by rfl) t.n_int t.v_int (da_cons (de_op op_fdiv od_fdiv (de_var 3) de_int) da_nil)) (de_var 1)))))))
def b__law_any (v_urn v_things : D) : M (Out Unit) :=
  (do let d ← (do let x ← (pure v_things); let y ← (do let xs ← (do let x ← (pure v_urn); let xs ← (do let x ← (do let xs ← (do let x ← (pure v_things); let xs ← (pure []); pure (x :: xs)); lenM xs); let xs ← (pure []); pure (x :: xs)); pure (x :: xs)); m__law_ball xs); ixM x y); pure (.ret d))
def m__law_any : List D → M D := fun ds => fin (on2 b__law_any ds)
theorem ok__law_any (t : Tx K mg) (hT : TbOk base mg K) : FnOk P w K mg base (L2.CX P w) 2 (He.fAd K ("_law_any", none)) t.d__law_any ["urn", "things"] (spec K w mg (tabsOf K htf) m__law_any) := by
  refine fn_den (k := 1) t.F__law_any sc__law_any (fun ds ms h => fin_bad (on2_bad h)) (fun ds _ => rfl) fun cdv A outer s H E hr ds hl => ?_
  have nd := sc__law_any.nd
  have hk := takesE (X := (cxOf (L2.CX P w) P w K mg base ["urn", "things"] "_law_any" (defScope s__law_any) (He.fAd K ("_law_any", none)) cdv A outer s H E)) rfl rfl rfl rfl
  have hx := passE (X := (cxOf (L2.CX P w) P w K mg base ["urn", "things"] "_law_any" (defScope s__law_any) (He.fAd K ("_law_any", none)) cdv A outer s H E)) rfl rfl rfl rfl
  have hp : PassesOwn (model P w) (cxOf (L2.CX P w) P w K mg base ["urn", "things"] "_law_any" (defScope s__law_any) (He.fAd K ("_law_any", none)) cdv A outer s H E).A (cxOf (L2.CX P w) P w K mg base ["urn", "things"] "_law_any" (defScope s__law_any) (He.fAd K ("_law_any", none)) cdv A outer s H E).env (cxOf (L2.CX P w) P w K mg base ["urn", "things"] "_law_any" (defScope s__law_any) (He.fAd K ("_law_any", none)) cdv A outer s H E).xe := passes_of (X := (cxOf (L2.CX P w) P w K mg base ["urn", "things"] "_law_any" (defScope s__law_any) (He.fAd K ("_law_any", none)) cdv A outer s H E)) rfl
  have G__law_ball := ok__law_ball (P := P) (w := w) (base := base) t hT
  exact match ds, hl with
    | [v_urn, v_things], _ => (db_ret (de_ix (de_var 1) (de_call G__law_ball (hr.mono (by decide)) (by rfl) t.g__law_ball t.F__law_ball.kp t.b__law_ball hx (da_cons (de_var 0) (da_cons (de_callB call_len cd_len (by rfl) t.n_len t.v_len (da_cons (de_var 1) da_nil)) da_nil)))))
def f__law_desk_1 (v_urn : D) : List D → (D × D × D) → M (Out (D × D × D)) :=
  fun ds (t_6 : D × D × D) => on1 (fun kind_7 => (do let way_8 ← (do let xs ← (do let x ← (pure v_urn); let xs ← (do let x ← (pure (.int 8)); let xs ← (pure []); pure (x :: xs)); pure (x :: xs)); m__law_ball xs); (do let x ← (do let x ← (pure way_8); let y ← (pure (.int 0)); let z ← eqM x y; asB z); joinO (if x = true then (do let shown_10 ← (do let x ← (pure t_6.1); let y ← (do let xs ← (do let x ← (do let xs ← (do let x ← (pure kind_7); let xs ← (do let x ← (do let xs ← (do let x ← (pure (.int 3)); let xs ← (do let x ← (do let xs ← (do let x ← (pure v_urn); let xs ← (do let x ← (pure (.int 5)); let xs ← (pure []); pure (x :: xs)); pure (x :: xs)); m__law_ball xs); let xs ← (pure []); pure (x :: xs)); pure (x :: xs)); min2M xs); let xs ← (pure []); pure (x :: xs)); pure (x :: xs)); tupM xs); let xs ← (pure []); pure (x :: xs)); tupM xs); addM x y); (pure (.nxt shown_10))) else (pure (.nxt t_6.1))) (fun (t_9 : D) => (do let x ← (do let x ← (pure way_8); let y ← (pure (.int 1)); let z ← eqM x y; asB z); joinO (if x = true then (do let given_up_12 ← (do let x ← (pure t_6.2.1); let y ← (do let xs ← (do let x ← (pure kind_7); let xs ← (pure []); pure (x :: xs)); tupM xs); addM x y); (pure (.nxt given_up_12))) else (pure (.nxt t_6.2.1))) (fun (t_11 : D) => (do let x ← (do let x ← (pure way_8); let y ← (pure (.int 2)); let z ← eqM x y; asB z); if x = true then (do let barred_13 ← (do let x ← (pure t_6.2.2); let y ← (do let xs ← (do let x ← (pure kind_7); let xs ← (pure []); pure (x :: xs)); tupM xs); addM x y); (pure (.nxt (t_9, t_11, barred_13)))) else (pure (.nxt (t_9, t_11, t_6.2.2)))))))))) ds
def b__law_desk (v_urn v_week v_kinds : D) : M (Out Unit) :=
  (do let opened_1 ← (do let xs ← (do let x ← (do let xs ← (do let xs ← (do let x ← (pure v_week); let xs ← (pure []); pure (x :: xs)); range1M xs); let ys ← lcM (.nm 11) (on1 fun day_2 => (do let x ← (do let xs ← (do let x ← (pure v_urn); let xs ← (do let x ← (pure (.int 3)); let xs ← (pure []); pure (x :: xs)); pure (x :: xs)); m__law_ball xs); let y ← (pure (.int 0)); let z ← gtM x y; asB z)) (on1 fun day_2 => (pure day_2)) xs; lstM ys); let xs ← (pure []); pure (x :: xs)); tupleM xs); (do let d ← (do let xs ← (do let x ← (do let xs ← (pure []); tupM xs); let xs ← (do let x ← (do let xs ← (pure []); tupM xs); let xs ← (do let x ← (do let xs ← (pure []); tupM xs); let xs ← (pure []); pure (x :: xs)); pure (x :: xs)); pure (x :: xs)); tupM xs); let ds ← M.opt (patD (.tp [(.nm 4), (.nm 5), (.nm 6)]) d); on3 (fun shown_3 given_up_4 barred_5 => (do let xs ← (do let xs ← (do let x ← (do let xs ← (do let x ← (pure v_kinds); let xs ← (pure []); pure (x :: xs)); lenM xs); let xs ← (pure []); pure (x :: xs)); range1M xs); joinO (forM (fun d (t_6 : D × D × D) => do let ds ← M.opt (patD (.nm 7) d); (f__law_desk_1 v_urn) ds t_6) xs (shown_3, given_up_4, barred_5)) (fun (t_6 : D × D × D) => (do let ds ← (do let x ← (do let xs ← (do let x ← (pure v_urn); let xs ← (do let x ← (do let xs ← (do let x ← (pure v_kinds); let xs ← (pure []); pure (x :: xs)); lenM xs); let xs ← (pure []); pure (x :: xs)); pure (x :: xs)); m__law_ball xs); let xs ← (do let x ← (do let xs ← (do let x ← (pure v_urn); let xs ← (do let x ← (do let xs ← (do let x ← (pure (.int 0)); let xs ← (do let x ← (pure (.int 0)); let xs ← (do let x ← (pure (.int 1)); let xs ← (do let x ← (pure (.int 2)); let xs ← (pure []); pure (x :: xs)); pure (x :: xs)); pure (x :: xs)); pure (x :: xs)); lstM xs); let xs ← (pure []); pure (x :: xs)); pure (x :: xs)); m__law_any xs); let xs ← (pure []); pure (x :: xs)); pure (x :: xs)); on2 (fun gives_14 pause_15 => (do let opened_16 ← (do let x ← (do let x ← (pure opened_1); let y ← (do let xs ← (pure []); tupM xs); let z ← neM x y; asB z); if x = true then (pure opened_1) else (do let xs ← (do let x ← (do let xs ← (do let x ← (pure v_urn); let xs ← (do let x ← (pure v_week); let xs ← (pure []); pure (x :: xs)); pure (x :: xs)); m__law_ball xs); let xs ← (pure []); pure (x :: xs)); tupM xs)); (do let d ← (do let xs ← (do let x ← (pure opened_16); let xs ← (do let x ← (pure t_6.1); let xs ← (do let x ← (pure t_6.2.1); let xs ← (do let x ← (pure t_6.2.2); let xs ← (do let x ← (pure gives_14); let xs ← (do let x ← (pure pause_15); let xs ← (do let x ← (do let xs ← (do let x ← (pure v_urn); let xs ← (do let x ← (do let xs ← (do let x ← (pure (.int 0)); let xs ← (do let x ← (pure (.int 1)); let xs ← (do let x ← (pure (.int 1)); let xs ← (do let x ← (pure (.int 2)); let xs ← (do let x ← (pure (.int 3)); let xs ← (do let x ← (pure (.int 5)); let xs ← (do let x ← (pure (.int 9)); let xs ← (pure []); pure (x :: xs)); pure (x :: xs)); pure (x :: xs)); pure (x :: xs)); pure (x :: xs)); pure (x :: xs)); pure (x :: xs)); lstM xs); let xs ← (pure []); pure (x :: xs)); pure (x :: xs)); m__law_any xs); let xs ← (pure []); pure (x :: xs)); pure (x :: xs)); pure (x :: xs)); pure (x :: xs)); pure (x :: xs)); pure (x :: xs)); pure (x :: xs)); tupM xs); pure (.ret d)))) ds)))) ds))
def m__law_desk : List D → M D := fun ds => fin (on3 b__law_desk ds)
theorem ok__law_desk (t : Tx K mg) (hT : TbOk base mg K) : FnOk P w K mg base (L2.CX P w) 3 (He.fAd K ("_law_desk", none)) t.d__law_desk ["urn", "week", "kinds"] (spec K w mg (tabsOf K htf) m__law_desk) := by
  refine fn_den (k := 2) t.F__law_desk sc__law_desk (fun ds ms h => fin_bad (on3_bad h)) (fun ds _ => rfl) fun cdv A outer s H E hr ds hl => ?_
  have nd := sc__law_desk.nd
  have hk := takesE (X := (cxOf (L2.CX P w) P w K mg base ["urn", "week", "kinds", "opened", "shown", "given_up", "barred", "kind", "way", "gives", "pause", "day"] "_law_desk" (defScope s__law_desk) (He.fAd K ("_law_desk", none)) cdv A outer s H E)) rfl rfl rfl rfl
  have hx := passE (X := (cxOf (L2.CX P w) P w K mg base ["urn", "week", "kinds", "opened", "shown", "given_up", "barred", "kind", "way", "gives", "pause", "day"] "_law_desk" (defScope s__law_desk) (He.fAd K ("_law_desk", none)) cdv A outer s H E)) rfl rfl rfl rfl
  have hp : PassesOwn (model P w) (cxOf (L2.CX P w) P w K mg base ["urn", "week", "kinds", "opened", "shown", "given_up", "barred", "kind", "way", "gives", "pause", "day"] "_law_desk" (defScope s__law_desk) (He.fAd K ("_law_desk", none)) cdv A outer s H E).A (cxOf (L2.CX P w) P w K mg base ["urn", "week", "kinds", "opened", "shown", "given_up", "barred", "kind", "way", "gives", "pause", "day"] "_law_desk" (defScope s__law_desk) (He.fAd K ("_law_desk", none)) cdv A outer s H E).env (cxOf (L2.CX P w) P w K mg base ["urn", "week", "kinds", "opened", "shown", "given_up", "barred", "kind", "way", "gives", "pause", "day"] "_law_desk" (defScope s__law_desk) (He.fAd K ("_law_desk", none)) cdv A outer s H E).xe := passes_of (X := (cxOf (L2.CX P w) P w K mg base ["urn", "week", "kinds", "opened", "shown", "given_up", "barred", "kind", "way", "gives", "pause", "day"] "_law_desk" (defScope s__law_desk) (He.fAd K ("_law_desk", none)) cdv A outer s H E)) rfl
  have G__law_any := ok__law_any (P := P) (w := w) (base := base) t hT
  have G__law_ball := ok__law_ball (P := P) (w := w) (base := base) t hT
  exact match ds, hl with
    | [v_urn, v_week, v_kinds], _ => (db_set (i := 3) nd (de_callTy call_tuple_of cd_tuple (by rfl) t.n_tuple t.v_tuple (da_cons (de_lc (own := [("day", 11)]) rfl nd (di_range1 (by rfl) t.n_range (da_cons (de_var 1) da_nil)) (blkOk_by (N := ["urn", "week", "kinds", "opened", "shown", "given_up", "barred", "kind", "way", "gives", "pause", "day"]) (sc := defScope s__law_desk) (by decide +kernel)) (hown_cons rfl hown_nil) (by decide) (fun _ _ _ _ _ => (dg_name nd)) (fun ds hl => match ds, hl with | [day_2], _ => fun _ _ _ _ _ => ⟨(dts_one (dt_cmp op_gt od_gt (de_call G__law_ball (hr.mono (by decide)) (by rfl) t.g__law_ball t.F__law_ball.kp t.b__law_ball passL (da_cons (de_var 0) (da_cons de_int da_nil))) de_int (nomark _))), (de_var 11)⟩)) da_nil)) (fun opened_1 => (db_asg (p := (.tp [(.nm 4), (.nm 5), (.nm 6)])) (de_tup (da_cons (de_tup da_nil) (da_cons (de_tup da_nil) (da_cons (de_tup da_nil) da_nil)))) (dg_tup rfl (dgs_cons (dg_name nd) (dgs_cons (dg_name nd) (dgs_cons (dg_name nd) dgs_nil)))) (fun ds hl => match ds, hl with | [shown_3, given_up_4, barred_5], _ => (db_for (envL := fun (t_6 : D × D × D) => [.sh v_urn, .sh v_week, .sh v_kinds, .sh opened_1, .sh t_6.1, .sh t_6.2.1, .sh t_6.2.2, .none, .none, .none, .none, .none]) (p := (.nm 7)) (fb := (f__law_desk_1 v_urn)) (t0 := (shown_3, given_up_4, barred_5)) hp rfl (di_range1 (by rfl) t.n_range (da_cons (de_callB call_len cd_len (by rfl) t.n_len t.v_len (da_cons (de_var 2) da_nil)) da_nil)) (dg_name nd) (Wk.keep (Wk.keep (Wk.keep (Wk.keep (Wk.keep (Wk.keep (Wk.keep (Wk.drop (Wk.drop (Wk.drop (Wk.drop (Wk.drop Wk.nil)))))))))))) (fun t_6 ds hl => match ds, hl with | [kind_7], _ => (db_set (i := 8) nd (de_call G__law_ball (hr.mono (by decide)) (by rfl) t.g__law_ball t.F__law_ball.kp t.b__law_ball hx (da_cons (de_var 0) (da_cons de_int da_nil))) (fun way_8 => (db_ifj (env' := fun (t_9 : D) => [.sh v_urn, .sh v_week, .sh v_kinds, .sh opened_1, .sh t_9, .sh t_6.2.1, .sh t_6.2.2, .sh kind_7, .sh way_8, .none, .none, .none]) (dt_cmp (op_eqP hr.units) od_eq (de_var 8) de_int (nomark _)) (db_set (i := 4) nd (de_op op_addP od_add (de_var 4) (de_tup (da_cons (de_tup (da_cons (de_var 7) (da_cons (de_callB (call_min2 rfl) cd_min2 (by rfl) t.n_min t.v_min (da_cons de_int (da_cons (de_call G__law_ball (hr.mono (by decide)) (by rfl) t.g__law_ball t.F__law_ball.kp t.b__law_ball hx (da_cons (de_var 0) (da_cons de_int da_nil))) da_nil))) da_nil))) da_nil))) (fun shown_10 => (db_nil (Wk.keep (Wk.keep (Wk.keep (Wk.keep (Wk.keep (Wk.keep (Wk.keep (Wk.keep (Wk.keep (Wk.drop (Wk.drop (Wk.drop Wk.nil))))))))))))))) (db_nil (Wk.keep (Wk.keep (Wk.keep (Wk.keep (Wk.keep (Wk.keep (Wk.keep (Wk.keep (Wk.keep (Wk.drop (Wk.drop (Wk.drop Wk.nil))))))))))))) (fun t_9 => (db_ifj (env' := fun (t_11 : D) => [.sh v_urn, .sh v_week, .sh v_kinds, .sh opened_1, .sh t_9, .sh t_11, .sh t_6.2.2, .sh kind_7, .sh way_8, .none, .none, .none]) (dt_cmp (op_eqP hr.units) od_eq (de_var 8) de_int (nomark _)) (db_set (i := 5) nd (de_op op_addP od_add (de_var 5) (de_tup (da_cons (de_var 7) da_nil))) (fun given_up_12 => (db_nil (Wk.keep (Wk.keep (Wk.keep (Wk.keep (Wk.keep (Wk.keep (Wk.keep (Wk.keep (Wk.keep (Wk.drop (Wk.drop (Wk.drop Wk.nil))))))))))))))) (db_nil (Wk.keep (Wk.keep (Wk.keep (Wk.keep (Wk.keep (Wk.keep (Wk.keep (Wk.keep (Wk.keep (Wk.drop (Wk.drop (Wk.drop Wk.nil))))))))))))) (fun t_11 => (db_if1 (dt_cmp (op_eqP hr.units) od_eq (de_var 8) de_int (nomark _)) (db_set (i := 6) nd (de_op op_addP od_add (de_var 6) (de_tup (da_cons (de_var 7) da_nil))) (fun barred_13 => (db_nil (Wk.keep (Wk.keep (Wk.keep (Wk.keep (Wk.keep (Wk.keep (Wk.keep (Wk.drop (Wk.drop (Wk.drop (Wk.drop (Wk.drop Wk.nil))))))))))))))) (db_nil (Wk.keep (Wk.keep (Wk.keep (Wk.keep (Wk.keep (Wk.keep (Wk.keep (Wk.drop (Wk.drop (Wk.drop (Wk.drop (Wk.drop Wk.nil))))))))))))))) (by walk_at "nb") (by walk_at "nb"))) (by walk_at "nb") (by walk_at "nb"))))) (fun t_6 => (db_par2 (i := 9) (j := 10) nd (da_cons (de_call G__law_ball (hr.mono (by decide)) (by rfl) t.g__law_ball t.F__law_ball.kp t.b__law_ball hx (da_cons (de_var 0) (da_cons (de_callB call_len cd_len (by rfl) t.n_len t.v_len (da_cons (de_var 2) da_nil)) da_nil))) (da_cons (de_call G__law_any (hr.mono (by decide)) (by rfl) t.g__law_any t.F__law_any.kp t.b__law_any hx (da_cons (de_var 0) (da_cons (de_lst (da_cons de_int (da_cons de_int (da_cons de_int (da_cons de_int da_nil))))) da_nil))) da_nil)) (fun gives_14 pause_15 => (db_set (i := 3) nd (de_if (dt_cmp (op_neP hr.units) od_ne (de_var 3) (de_tup da_nil) (nomark _)) (de_var 3) (de_tup (da_cons (de_call G__law_ball (hr.mono (by decide)) (by rfl) t.g__law_ball t.F__law_ball.kp t.b__law_ball hx (da_cons (de_var 0) (da_cons (de_var 1) da_nil))) da_nil))) (fun opened_16 => (db_ret (de_tup (da_cons (de_var 3) (da_cons (de_var 4) (da_cons (de_var 5) (da_cons (de_var 6) (da_cons (de_var 9) (da_cons (de_var 10) (da_cons (de_call G__law_any (hr.mono (by decide)) (by rfl) t.g__law_any t.F__law_any.kp t.b__law_any hx (da_cons (de_var 0) (da_cons (de_lst (da_cons de_int (da_cons de_int (da_cons de_int (da_cons de_int (da_cons de_int (da_cons de_int (da_cons de_int da_nil)))))))) da_nil))) da_nil)))))))))))))))))))
def f__law_town_1 (v_urn : D) : List D → (D) → M (Out (D)) :=
  fun ds (t_4 : D) => on1 (fun turn_5 => (do let kinds_6 ← (do let x ← (pure t_4); let y ← (do let xs ← (do let x ← (do let xs ← (do let x ← (do let xs ← (do let x ← (pure v_urn); let xs ← (do let x ← (do let xs ← (do let x ← (pure (.int 1)); let xs ← (do let x ← (pure (.int 2)); let xs ← (do let x ← (pure (.int 3)); let xs ← (do let x ← (pure (.int 3)); let xs ← (do let x ← (pure (.int 4)); let xs ← (do let x ← (pure (.int 4)); let xs ← (pure []); pure (x :: xs)); pure (x :: xs)); pure (x :: xs)); pure (x :: xs)); pure (x :: xs)); pure (x :: xs)); lstM xs); let xs ← (pure []); pure (x :: xs)); pure (x :: xs)); m__law_any xs); let xs ← (do let x ← (do let x ← (pure (.int 1)); let y ← (do let xs ← (do let x ← (pure v_urn); let xs ← (do let x ← (pure (.int 2)); let xs ← (pure []); pure (x :: xs)); pure (x :: xs)); m__law_ball xs); addM x y); let xs ← (pure []); pure (x :: xs)); pure (x :: xs)); tupM xs); let xs ← (pure []); pure (x :: xs)); tupM xs); addM x y); (pure (.nxt kinds_6)))) ds
def f__law_town_2 (v_urn : D) (week_1 : D) (t_4 : D) : List D → (D) → M (Out (D)) :=
  fun ds (t_7 : D) => on1 (fun turn_8 => (do let found_9 ← (do let x ← (pure t_7); let y ← (do let xs ← (do let x ← (do let xs ← (do let x ← (pure v_urn); let xs ← (do let x ← (pure week_1); let xs ← (do let x ← (pure t_4); let xs ← (pure []); pure (x :: xs)); pure (x :: xs)); pure (x :: xs)); m__law_desk xs); let xs ← (pure []); pure (x :: xs)); tupM xs); addM x y); (pure (.nxt found_9)))) ds
def b__law_town (v_urn v_most v_desks : D) : M (Out Unit) :=
  (do let ds ← (do let x ← (do let x ← (pure (.int 1)); let y ← (do let xs ← (do let x ← (pure v_urn); let xs ← (do let x ← (pure (.int 3)); let xs ← (pure []); pure (x :: xs)); pure (x :: xs)); m__law_ball xs); addM x y); let xs ← (do let x ← (do let xs ← (pure []); tupM xs); let xs ← (do let x ← (do let xs ← (pure []); tupM xs); let xs ← (pure []); pure (x :: xs)); pure (x :: xs)); pure (x :: xs)); on3 (fun week_1 kinds_2 found_3 => (do let xs ← (do let xs ← (do let x ← (do let x ← (pure (.int 1)); let y ← (do let xs ← (do let x ← (pure v_urn); let xs ← (do let x ← (pure v_most); let xs ← (pure []); pure (x :: xs)); pure (x :: xs)); m__law_ball xs); addM x y); let xs ← (pure []); pure (x :: xs)); range1M xs); joinO (forM (fun d (t_4 : D) => do let ds ← M.opt (patD (.nm 6) d); (f__law_town_1 v_urn) ds t_4) xs kinds_2) (fun (t_4 : D) => (do let xs ← (do let xs ← (do let x ← (do let x ← (do let xs ← (do let x ← (pure v_urn); let xs ← (do let x ← (pure v_desks); let xs ← (pure []); pure (x :: xs)); pure (x :: xs)); m__law_ball xs); let y ← (do let xs ← (do let x ← (pure v_urn); let xs ← (do let x ← (pure (.int 2)); let xs ← (pure []); pure (x :: xs)); pure (x :: xs)); m__law_ball xs); addM x y); let xs ← (pure []); pure (x :: xs)); range1M xs); joinO (forM (fun d (t_7 : D) => do let ds ← M.opt (patD (.nm 6) d); (f__law_town_2 v_urn week_1 t_4) ds t_7) xs found_3) (fun (t_7 : D) => (do let d ← (do let xs ← (do let x ← (pure week_1); let xs ← (do let x ← (pure t_4); let xs ← (do let x ← (pure t_7); let xs ← (pure []); pure (x :: xs)); pure (x :: xs)); pure (x :: xs)); tupM xs); pure (.ret d))))))) ds)
def m__law_town : List D → M D := fun ds => fin (on3 b__law_town ds)
theorem ok__law_town (t : Tx K mg) (hT : TbOk base mg K) : FnOk P w K mg base (L2.CX P w) 4 (He.fAd K ("_law_town", none)) t.d__law_town ["urn", "most", "desks"] (spec K w mg (tabsOf K htf) m__law_town) := by
  refine fn_den (k := 3) t.F__law_town sc__law_town (fun ds ms h => fin_bad (on3_bad h)) (fun ds _ => rfl) fun cdv A outer s H E hr ds hl => ?_
  have nd := sc__law_town.nd
  have hk := takesE (X := (cxOf (L2.CX P w) P w K mg base ["urn", "most", "desks", "week", "kinds", "found", "turn"] "_law_town" (defScope s__law_town) (He.fAd K ("_law_town", none)) cdv A outer s H E)) rfl rfl rfl rfl
  have hx := passE (X := (cxOf (L2.CX P w) P w K mg base ["urn", "most", "desks", "week", "kinds", "found", "turn"] "_law_town" (defScope s__law_town) (He.fAd K ("_law_town", none)) cdv A outer s H E)) rfl rfl rfl rfl
  have hp : PassesOwn (model P w) (cxOf (L2.CX P w) P w K mg base ["urn", "most", "desks", "week", "kinds", "found", "turn"] "_law_town" (defScope s__law_town) (He.fAd K ("_law_town", none)) cdv A outer s H E).A (cxOf (L2.CX P w) P w K mg base ["urn", "most", "desks", "week", "kinds", "found", "turn"] "_law_town" (defScope s__law_town) (He.fAd K ("_law_town", none)) cdv A outer s H E).env (cxOf (L2.CX P w) P w K mg base ["urn", "most", "desks", "week", "kinds", "found", "turn"] "_law_town" (defScope s__law_town) (He.fAd K ("_law_town", none)) cdv A outer s H E).xe := passes_of (X := (cxOf (L2.CX P w) P w K mg base ["urn", "most", "desks", "week", "kinds", "found", "turn"] "_law_town" (defScope s__law_town) (He.fAd K ("_law_town", none)) cdv A outer s H E)) rfl
  have G__law_any := ok__law_any (P := P) (w := w) (base := base) t hT
  have G__law_ball := ok__law_ball (P := P) (w := w) (base := base) t hT
  have G__law_desk := ok__law_desk (P := P) (w := w) (base := base) t hT
  exact match ds, hl with
    | [v_urn, v_most, v_desks], _ => (db_par3 (i := 3) (j := 4) (l := 5) nd (da_cons (de_op op_addP od_add de_int (de_call G__law_ball (hr.mono (by decide)) (by rfl) t.g__law_ball t.F__law_ball.kp t.b__law_ball hx (da_cons (de_var 0) (da_cons de_int da_nil)))) (da_cons (de_tup da_nil) (da_cons (de_tup da_nil) da_nil))) (fun week_1 kinds_2 found_3 => (db_for (envL := fun (t_4 : D) => [.sh v_urn, .sh v_most, .sh v_desks, .sh week_1, .sh t_4, .sh found_3, .none]) (p := (.nm 6)) (fb := (f__law_town_1 v_urn)) (t0 := kinds_2) hp rfl (di_range1 (by rfl) t.n_range (da_cons (de_op op_addP od_add de_int (de_call G__law_ball (hr.mono (by decide)) (by rfl) t.g__law_ball t.F__law_ball.kp t.b__law_ball hx (da_cons (de_var 0) (da_cons (de_var 1) da_nil)))) da_nil)) (dg_name nd) (Wk.keep (Wk.keep (Wk.keep (Wk.keep (Wk.keep (Wk.keep (Wk.drop Wk.nil))))))) (fun t_4 ds hl => match ds, hl with | [turn_5], _ => (db_set (i := 4) nd (de_op op_addP od_add (de_var 4) (de_tup (da_cons (de_tup (da_cons (de_call G__law_any (hr.mono (by decide)) (by rfl) t.g__law_any t.F__law_any.kp t.b__law_any hx (da_cons (de_var 0) (da_cons (de_lst (da_cons de_int (da_cons de_int (da_cons de_int (da_cons de_int (da_cons de_int (da_cons de_int da_nil))))))) da_nil))) (da_cons (de_op op_addP od_add de_int (de_call G__law_ball (hr.mono (by decide)) (by rfl) t.g__law_ball t.F__law_ball.kp t.b__law_ball hx (da_cons (de_var 0) (da_cons de_int da_nil)))) da_nil))) da_nil))) (fun kinds_6 => (db_nil (Wk.keep (Wk.keep (Wk.keep (Wk.keep (Wk.keep (Wk.keep (Wk.drop Wk.nil))))))))))) (fun t_4 => (db_for (envL := fun (t_7 : D) => [.sh v_urn, .sh v_most, .sh v_desks, .sh week_1, .sh t_4, .sh t_7, .none]) (p := (.nm 6)) (fb := (f__law_town_2 v_urn week_1 t_4)) (t0 := found_3) hp rfl (di_range1 (by rfl) t.n_range (da_cons (de_op op_addP od_add (de_call G__law_ball (hr.mono (by decide)) (by rfl) t.g__law_ball t.F__law_ball.kp t.b__law_ball hx (da_cons (de_var 0) (da_cons (de_var 2) da_nil))) (de_call G__law_ball (hr.mono (by decide)) (by rfl) t.g__law_ball t.F__law_ball.kp t.b__law_ball hx (da_cons (de_var 0) (da_cons de_int da_nil)))) da_nil)) (dg_name nd) (Wk.keep (Wk.keep (Wk.keep (Wk.keep (Wk.keep (Wk.keep (Wk.drop Wk.nil))))))) (fun t_7 ds hl => match ds, hl with | [turn_8], _ => (db_set (i := 5) nd (de_op op_addP od_add (de_var 5) (de_tup (da_cons (de_call G__law_desk (hr.mono (by decide)) (by rfl) t.g__law_desk t.F__law_desk.kp t.b__law_desk hx (da_cons (de_var 0) (da_cons (de_var 3) (da_cons (de_var 4) da_nil)))) da_nil))) (fun found_9 => (db_nil (Wk.keep (Wk.keep (Wk.keep (Wk.keep (Wk.keep (Wk.keep (Wk.drop Wk.nil))))))))))) (fun t_7 => (db_ret (de_tup (da_cons (de_var 3) (da_cons (de_var 4) (da_cons (de_var 5) da_nil)))))))))))
def f__law_had_1 (v_kind : D) : List D → (D) → M (Out (D)) :=
  fun ds (t_2 : D) => on1 (fun age_3 => (do let found_4 ← (do let x ← (pure t_2); let y ← (do let xs ← (do let xs ← (do let x ← (pure (.int 1)); let xs ← (do let x ← (do let x ← (do let x ← (pure v_kind); let y ← (pure (.int 1)); ixM x y); let y ← (pure (.int 1)); addM x y); let xs ← (pure []); pure (x :: xs)); pure (x :: xs)); range2M xs); let ys ← lcM (.nm 3) (on1 fun many_5 => (pure true)) (on1 fun many_5 => (do let xs ← (do let x ← (pure age_3); let xs ← (do let x ← (pure many_5); let xs ← (pure []); pure (x :: xs)); pure (x :: xs)); tupM xs)) xs; lstM ys); addM x y); (pure (.nxt found_4)))) ds
def b__law_had (v_kind : D) : M (Out Unit) :=
  (do let found_1 ← (do let xs ← (do let x ← (do let xs ← (pure []); tupM xs); let xs ← (do let x ← (do let xs ← (do let x ← (pure (.int 1)); let xs ← (pure []); pure (x :: xs)); tupM xs); let xs ← (do let x ← (do let xs ← (do let x ← (pure (.int 2)); let xs ← (pure []); pure (x :: xs)); tupM xs); let xs ← (pure []); pure (x :: xs)); pure (x :: xs)); pure (x :: xs)); lstM xs); (do let xs ← (do let xs ← (do let x ← (do let x ← (pure v_kind); let y ← (pure (.int 0)); ixM x y); let xs ← (pure []); pure (x :: xs)); range1M xs); joinO (forM (fun d (t_2 : D) => do let ds ← M.opt (patD (.nm 2) d); (f__law_had_1 v_kind) ds t_2) xs found_1) (fun (t_2 : D) => (do let d ← (do let xs ← (do let x ← (pure t_2); let xs ← (pure []); pure (x :: xs)); sortedM xs); pure (.ret d)))))
def m__law_had : List D → M D := fun ds => fin (on1 b__law_had ds)
theorem ok__law_had (t : Tx K mg) (hT : TbOk base mg K) : FnOk P w K mg base (L2.CX P w) 1 (He.fAd K ("_law_had", none)) t.d__law_had ["kind"] (spec K w mg (tabsOf K htf) m__law_had) := by
  refine fn_den (k := 0) t.F__law_had sc__law_had (fun ds ms h => fin_bad (on1_bad h)) (fun ds _ => rfl) fun cdv A outer s H E hr ds hl => ?_
  have nd := sc__law_had.nd
  have hk := takesE (X := (cxOf (L2.CX P w) P w K mg base ["kind", "found", "age", "many"] "_law_had" (defScope s__law_had) (He.fAd K ("_law_had", none)) cdv A outer s H E)) rfl rfl rfl rfl
  have hx := passE (X := (cxOf (L2.CX P w) P w K mg base ["kind", "found", "age", "many"] "_law_had" (defScope s__law_had) (He.fAd K ("_law_had", none)) cdv A outer s H E)) rfl rfl rfl rfl
  have hp : PassesOwn (model P w) (cxOf (L2.CX P w) P w K mg base ["kind", "found", "age", "many"] "_law_had" (defScope s__law_had) (He.fAd K ("_law_had", none)) cdv A outer s H E).A (cxOf (L2.CX P w) P w K mg base ["kind", "found", "age", "many"] "_law_had" (defScope s__law_had) (He.fAd K ("_law_had", none)) cdv A outer s H E).env (cxOf (L2.CX P w) P w K mg base ["kind", "found", "age", "many"] "_law_had" (defScope s__law_had) (He.fAd K ("_law_had", none)) cdv A outer s H E).xe := passes_of (X := (cxOf (L2.CX P w) P w K mg base ["kind", "found", "age", "many"] "_law_had" (defScope s__law_had) (He.fAd K ("_law_had", none)) cdv A outer s H E)) rfl
  exact match ds, hl with
    | [v_kind], _ => (db_set (i := 1) nd (de_lst (da_cons (de_tup da_nil) (da_cons (de_tup (da_cons de_int da_nil)) (da_cons (de_tup (da_cons de_int da_nil)) da_nil)))) (fun found_1 => (db_for (envL := fun (t_2 : D) => [.sh v_kind, .sh t_2, .none, .none]) (p := (.nm 2)) (fb := (f__law_had_1 v_kind)) (t0 := found_1) hp rfl (di_range1 (by rfl) t.n_range (da_cons (de_ix (de_var 0) de_int) da_nil)) (dg_name nd) (Wk.keep (Wk.keep (Wk.drop (Wk.drop Wk.nil)))) (fun t_2 ds hl => match ds, hl with | [age_3], _ => (db_set (i := 1) nd (de_op op_addP od_add (de_var 1) (de_lc (own := [("many", 3)]) rfl nd (di_range2 (by rfl) t.n_range (da_cons de_int (da_cons (de_op op_addP od_add (de_ix (de_var 0) de_int) de_int) da_nil))) (blkOk_by (N := ["kind", "found", "age", "many"]) (sc := defScope s__law_had) (by decide +kernel)) (hown_cons rfl hown_nil) (by decide) (fun _ _ _ _ _ => (dg_name nd)) (fun ds hl => match ds, hl with | [many_5], _ => fun _ _ _ _ _ => ⟨dts_nil, (de_tup (da_cons (de_var 2) (da_cons (de_var 3) da_nil)))⟩))) (fun found_4 => (db_nil (Wk.keep (Wk.keep (Wk.drop (Wk.drop Wk.nil)))))))) (fun t_2 => (db_ret (de_callB (cr_sortP (hu64 hr)) cd_sorted (by rfl) t.n_sorted t.v_sorted (da_cons (de_var 1) da_nil)))))))
def b__law_stand (v_urn v_town : D) : M (Out Unit) :=
  (do let papers_1 ← (do let xs ← (do let x ← (do let xs ← (do let x ← (do let x ← (pure v_town); let y ← (pure (.int 1)); ixM x y); itemsM x); let ys ← lcM (.nm 3) (on1 fun kind_2 => (pure true)) (on1 fun kind_2 => (do let xs ← (do let x ← (pure v_urn); let xs ← (do let x ← (do let x ← (do let x ← (do let xs ← (do let x ← (do let xs ← (pure []); tupM xs); let xs ← (pure []); pure (x :: xs)); lstM xs); let y ← (pure (.int 3)); mulM x y); let y ← (do let xs ← (do let x ← (pure kind_2); let xs ← (pure []); pure (x :: xs)); m__law_had xs); addM x y); let xs ← (pure []); pure (x :: xs)); pure (x :: xs)); m__law_any xs)) xs; lstM ys); let xs ← (pure []); pure (x :: xs)); tupleM xs); (do let d ← (do let xs ← (do let x ← (do let xs ← (do let x ← (pure v_urn); let xs ← (do let x ← (do let x ← (pure v_town); let y ← (pure (.int 0)); ixM x y); let xs ← (pure []); pure (x :: xs)); pure (x :: xs)); m__law_ball xs); let xs ← (do let x ← (pure papers_1); let xs ← (pure []); pure (x :: xs)); pure (x :: xs)); tupM xs); pure (.ret d)))
def m__law_stand : List D → M D := fun ds => fin (on2 b__law_stand ds)
theorem ok__law_stand (t : Tx K mg) (hT : TbOk base mg K) : FnOk P w K mg base (L2.CX P w) 3 (He.fAd K ("_law_stand", none)) t.d__law_stand ["urn", "town"] (spec K w mg (tabsOf K htf) m__law_stand) := by
  refine fn_den (k := 2) t.F__law_stand sc__law_stand (fun ds ms h => fin_bad (on2_bad h)) (fun ds _ => rfl) fun cdv A outer s H E hr ds hl => ?_
  have nd := sc__law_stand.nd
  have hk := takesE (X := (cxOf (L2.CX P w) P w K mg base ["urn", "town", "papers", "kind"] "_law_stand" (defScope s__law_stand) (He.fAd K ("_law_stand", none)) cdv A outer s H E)) rfl rfl rfl rfl
  have hx := passE (X := (cxOf (L2.CX P w) P w K mg base ["urn", "town", "papers", "kind"] "_law_stand" (defScope s__law_stand) (He.fAd K ("_law_stand", none)) cdv A outer s H E)) rfl rfl rfl rfl
  have hp : PassesOwn (model P w) (cxOf (L2.CX P w) P w K mg base ["urn", "town", "papers", "kind"] "_law_stand" (defScope s__law_stand) (He.fAd K ("_law_stand", none)) cdv A outer s H E).A (cxOf (L2.CX P w) P w K mg base ["urn", "town", "papers", "kind"] "_law_stand" (defScope s__law_stand) (He.fAd K ("_law_stand", none)) cdv A outer s H E).env (cxOf (L2.CX P w) P w K mg base ["urn", "town", "papers", "kind"] "_law_stand" (defScope s__law_stand) (He.fAd K ("_law_stand", none)) cdv A outer s H E).xe := passes_of (X := (cxOf (L2.CX P w) P w K mg base ["urn", "town", "papers", "kind"] "_law_stand" (defScope s__law_stand) (He.fAd K ("_law_stand", none)) cdv A outer s H E)) rfl
  have G__law_any := ok__law_any (P := P) (w := w) (base := base) t hT
  have G__law_ball := ok__law_ball (P := P) (w := w) (base := base) t hT
  have G__law_had := ok__law_had (P := P) (w := w) (base := base) t hT
  exact match ds, hl with
    | [v_urn, v_town], _ => (db_set (i := 2) nd (de_callTy call_tuple_of cd_tuple (by rfl) t.n_tuple t.v_tuple (da_cons (de_lc (own := [("kind", 3)]) rfl nd (di_seq (de_ix (de_var 1) de_int)) (blkOk_by (N := ["urn", "town", "papers", "kind"]) (sc := defScope s__law_stand) (by decide +kernel)) (hown_cons rfl hown_nil) (by decide) (fun _ _ _ _ _ => (dg_name nd)) (fun ds hl => match ds, hl with | [kind_2], _ => fun _ _ _ _ _ => ⟨dts_nil, (de_call G__law_any (hr.mono (by decide)) (by rfl) t.g__law_any t.F__law_any.kp t.b__law_any passL (da_cons (de_var 0) (da_cons (de_op op_addP od_add (de_op op_mulP od_mul (de_lst (da_cons (de_tup da_nil) da_nil)) de_int) (de_call G__law_had (hr.mono (by decide)) (by rfl) t.g__law_had t.F__law_had.kp t.b__law_had passL (da_cons (de_var 3) da_nil))) da_nil)))⟩)) da_nil)) (fun papers_1 => (db_ret (de_tup (da_cons (de_call G__law_ball (hr.mono (by decide)) (by rfl) t.g__law_ball t.F__law_ball.kp t.b__law_ball hx (da_cons (de_var 0) (da_cons (de_ix (de_var 1) de_int) da_nil))) (da_cons (de_var 2) da_nil))))))
def f__law_all_1 (kind_3 : D) : List D → (D) → M (Out (D)) :=
  fun ds (t_5 : D) => on1 (fun papers_6 => (do let longer_7 ← (do let x ← (pure t_5); let y ← (do let xs ← (do let x ← (do let xs ← (do let x ← (pure kind_3); let xs ← (pure []); pure (x :: xs)); m__law_had xs); itemsM x); let ys ← lcM (.nm 7) (on1 fun one_8 => (pure true)) (on1 fun one_8 => (do let x ← (pure papers_6); let y ← (do let xs ← (do let x ← (pure one_8); let xs ← (pure []); pure (x :: xs)); tupM xs); addM x y)) xs; lstM ys); addM x y); (pure (.nxt longer_7)))) ds
def f__law_all_2 : List D → (D) → M (Out (D)) :=
  fun ds (t_2 : D) => on1 (fun kind_3 => (do let longer_4 ← (do let xs ← (pure []); lstM xs); (do let xs ← (do let x ← (pure t_2); itemsM x); joinO (forM (fun d (t_5 : D) => do let ds ← M.opt (patD (.nm 4) d); (f__law_all_1 kind_3) ds t_5) xs longer_4) (fun (t_5 : D) => (do let found_9 ← (pure t_5); (pure (.nxt found_9))))))) ds
def f__law_all_3 (t_2 : D) : List D → (D) → M (Out (D)) :=
  fun ds (t_11 : D) => on1 (fun day_12 => (do let stands_13 ← (do let x ← (pure t_11); let y ← (do let xs ← (do let x ← (pure t_2); itemsM x); let ys ← lcM (.nm 4) (on1 fun papers_14 => (pure true)) (on1 fun papers_14 => (do let xs ← (do let x ← (pure day_12); let xs ← (do let x ← (pure papers_14); let xs ← (pure []); pure (x :: xs)); pure (x :: xs)); tupM xs)) xs; lstM ys); addM x y); (pure (.nxt stands_13)))) ds
def b__law_all (v_town : D) : M (Out Unit) :=
  (do let found_1 ← (do let xs ← (do let x ← (do let xs ← (pure []); tupM xs); let xs ← (pure []); pure (x :: xs)); lstM xs); (do let xs ← (do let x ← (do let x ← (pure v_town); let y ← (pure (.int 1)); ixM x y); itemsM x); joinO (forM (fun d (t_2 : D) => do let ds ← M.opt (patD (.nm 2) d); (f__law_all_2) ds t_2) xs found_1) (fun (t_2 : D) => (do let stands_10 ← (do let xs ← (pure []); lstM xs); (do let xs ← (do let xs ← (do let x ← (do let x ← (pure v_town); let y ← (pure (.int 0)); ixM x y); let xs ← (pure []); pure (x :: xs)); range1M xs); joinO (forM (fun d (t_11 : D) => do let ds ← M.opt (patD (.nm 6) d); (f__law_all_3 t_2) ds t_11) xs stands_10) (fun (t_11 : D) => (do let d ← (pure t_11); pure (.ret d))))))))
def m__law_all : List D → M D := fun ds => fin (on1 b__law_all ds)
theorem ok__law_all (t : Tx K mg) (hT : TbOk base mg K) : FnOk P w K mg base (L2.CX P w) 2 (He.fAd K ("_law_all", none)) t.d__law_all ["town"] (spec K w mg (tabsOf K htf) m__law_all) := by
  refine fn_den (k := 1) t.F__law_all sc__law_all (fun ds ms h => fin_bad (on1_bad h)) (fun ds _ => rfl) fun cdv A outer s H E hr ds hl => ?_
  have nd := sc__law_all.nd
  have hk := takesE (X := (cxOf (L2.CX P w) P w K mg base ["town", "found", "kind", "longer", "papers", "stands", "day", "one"] "_law_all" (defScope s__law_all) (He.fAd K ("_law_all", none)) cdv A outer s H E)) rfl rfl rfl rfl
  have hx := passE (X := (cxOf (L2.CX P w) P w K mg base ["town", "found", "kind", "longer", "papers", "stands", "day", "one"] "_law_all" (defScope s__law_all) (He.fAd K ("_law_all", none)) cdv A outer s H E)) rfl rfl rfl rfl
  have hp : PassesOwn (model P w) (cxOf (L2.CX P w) P w K mg base ["town", "found", "kind", "longer", "papers", "stands", "day", "one"] "_law_all" (defScope s__law_all) (He.fAd K ("_law_all", none)) cdv A outer s H E).A (cxOf (L2.CX P w) P w K mg base ["town", "found", "kind", "longer", "papers", "stands", "day", "one"] "_law_all" (defScope s__law_all) (He.fAd K ("_law_all", none)) cdv A outer s H E).env (cxOf (L2.CX P w) P w K mg base ["town", "found", "kind", "longer", "papers", "stands", "day", "one"] "_law_all" (defScope s__law_all) (He.fAd K ("_law_all", none)) cdv A outer s H E).xe := passes_of (X := (cxOf (L2.CX P w) P w K mg base ["town", "found", "kind", "longer", "papers", "stands", "day", "one"] "_law_all" (defScope s__law_all) (He.fAd K ("_law_all", none)) cdv A outer s H E)) rfl
  have G__law_had := ok__law_had (P := P) (w := w) (base := base) t hT
  exact match ds, hl with
    | [v_town], _ => (db_set (i := 1) nd (de_lst (da_cons (de_tup da_nil) da_nil)) (fun found_1 => (db_for (envL := fun (t_2 : D) => [.sh v_town, .sh t_2, .none, .none, .none, .none, .none, .none]) (p := (.nm 2)) (fb := (f__law_all_2)) (t0 := found_1) hp rfl (di_seq (de_ix (de_var 0) de_int)) (dg_name nd) (Wk.keep (Wk.keep (Wk.drop (Wk.drop (Wk.drop (Wk.drop (Wk.drop (Wk.drop Wk.nil)))))))) (fun t_2 ds hl => match ds, hl with | [kind_3], _ => (db_set (i := 3) nd (de_lst da_nil) (fun longer_4 => (db_for (envL := fun (t_5 : D) => [.sh v_town, .sh t_2, .sh kind_3, .sh t_5, .none, .none, .none, .none]) (p := (.nm 4)) (fb := (f__law_all_1 kind_3)) (t0 := longer_4) hp rfl (di_seq (de_var 1)) (dg_name nd) (Wk.keep (Wk.keep (Wk.keep (Wk.keep (Wk.drop (Wk.drop (Wk.drop (Wk.drop Wk.nil)))))))) (fun t_5 ds hl => match ds, hl with | [papers_6], _ => (db_set (i := 3) nd (de_op op_addP od_add (de_var 3) (de_lc (own := [("one", 7)]) rfl nd (di_seq (de_call G__law_had (hr.mono (by decide)) (by rfl) t.g__law_had t.F__law_had.kp t.b__law_had hx (da_cons (de_var 2) da_nil))) (blkOk_by (N := ["town", "found", "kind", "longer", "papers", "stands", "day", "one"]) (sc := defScope s__law_all) (by decide +kernel)) (hown_cons rfl hown_nil) (by decide) (fun _ _ _ _ _ => (dg_name nd)) (fun ds hl => match ds, hl with | [one_8], _ => fun _ _ _ _ _ => ⟨dts_nil, (de_op op_addP od_add (de_var 4) (de_tup (da_cons (de_var 7) da_nil)))⟩))) (fun longer_7 => (db_nil (Wk.keep (Wk.keep (Wk.keep (Wk.keep (Wk.drop (Wk.drop (Wk.drop (Wk.drop Wk.nil)))))))))))) (fun t_5 => (db_set (i := 1) nd (de_var 3) (fun found_9 => (db_nil (Wk.keep (Wk.keep (Wk.drop (Wk.drop (Wk.drop (Wk.drop (Wk.drop (Wk.drop Wk.nil)))))))))))))))) (fun t_2 => (db_set (i := 5) nd (de_lst da_nil) (fun stands_10 => (db_for (envL := fun (t_11 : D) => [.sh v_town, .sh t_2, .none, .none, .none, .sh t_11, .none, .none]) (p := (.nm 6)) (fb := (f__law_all_3 t_2)) (t0 := stands_10) hp rfl (di_range1 (by rfl) t.n_range (da_cons (de_ix (de_var 0) de_int) da_nil)) (dg_name nd) (Wk.keep (Wk.keep (Wk.drop (Wk.drop (Wk.drop (Wk.keep (Wk.drop (Wk.drop Wk.nil)))))))) (fun t_11 ds hl => match ds, hl with | [day_12], _ => (db_set (i := 5) nd (de_op op_addP od_add (de_var 5) (de_lc (own := [("papers", 4)]) rfl nd (di_seq (de_var 1)) (blkOk_by (N := ["town", "found", "kind", "longer", "papers", "stands", "day", "one"]) (sc := defScope s__law_all) (by decide +kernel)) (hown_cons rfl hown_nil) (by decide) (fun _ _ _ _ _ => (dg_name nd)) (fun ds hl => match ds, hl with | [papers_14], _ => fun _ _ _ _ _ => ⟨dts_nil, (de_tup (da_cons (de_var 6) (da_cons (de_var 4) da_nil)))⟩))) (fun stands_13 => (db_nil (Wk.keep (Wk.keep (Wk.drop (Wk.drop (Wk.drop (Wk.keep (Wk.drop (Wk.drop Wk.nil)))))))))))) (fun t_11 => (db_ret (de_var 5))))))))))
def b__law_int (v_value v_low v_high : D) : M (Out Unit) :=
  (do let d ← (do let x ← (do let x ← (pure v_value); isiM "int" x); let c ← asB x; if c = true then (do let x ← (do let x ← (do let x ← (pure v_value); isiM "bool" x); let c ← asB x; pure (.bool (!c))); let c ← asB x; if c = true then (do let x ← (pure v_low); let y ← (pure v_value); let z ← leM x y; let t ← asB z; if t = true then (do let u ← (pure v_high); leM y u) else pure (.bool false)) else pure (.bool false)) else pure (.bool false)); pure (.ret d))
def m__law_int : List D → M D := fun ds => fin (on3 b__law_int ds)
theorem ok__law_int (t : Tx K mg) (hT : TbOk base mg K) : FnOk P w K mg base (L2.CX P w) 1 (He.fAd K ("_law_int", none)) t.d__law_int ["value", "low", "high"] (spec K w mg (tabsOf K htf) m__law_int) := by
  refine fn_den (k := 0) t.F__law_int sc__law_int (fun ds ms h => fin_bad (on3_bad h)) (fun ds _ => rfl) fun cdv A outer s H E hr ds hl => ?_
  have nd := sc__law_int.nd
  have hk := takesE (X := (cxOf (L2.CX P w) P w K mg base ["value", "low", "high"] "_law_int" (defScope s__law_int) (He.fAd K ("_law_int", none)) cdv A outer s H E)) rfl rfl rfl rfl
  have hx := passE (X := (cxOf (L2.CX P w) P w K mg base ["value", "low", "high"] "_law_int" (defScope s__law_int) (He.fAd K ("_law_int", none)) cdv A outer s H E)) rfl rfl rfl rfl
  have hp : PassesOwn (model P w) (cxOf (L2.CX P w) P w K mg base ["value", "low", "high"] "_law_int" (defScope s__law_int) (He.fAd K ("_law_int", none)) cdv A outer s H E).A (cxOf (L2.CX P w) P w K mg base ["value", "low", "high"] "_law_int" (defScope s__law_int) (He.fAd K ("_law_int", none)) cdv A outer s H E).env (cxOf (L2.CX P w) P w K mg base ["value", "low", "high"] "_law_int" (defScope s__law_int) (He.fAd K ("_law_int", none)) cdv A outer s H E).xe := passes_of (X := (cxOf (L2.CX P w) P w K mg base ["value", "low", "high"] "_law_int" (defScope s__law_int) (He.fAd K ("_law_int", none)) cdv A outer s H E)) rfl
  exact match ds, hl with
    | [v_value, v_low, v_high], _ => (db_ret (de_and (de_isi (de_var 0) (by rfl) t.n_isinstance t.v_isinstance (by rfl) t.n_int t.v_int) (de_and (de_not (de_isi (de_var 0) (by rfl) t.n_isinstance t.v_isinstance (by rfl) t.n_bool t.v_bool)) (de_one (de_chain op_le od_le op_le od_le (de_var 1) (de_var 0) (de_var 2))))))
def b__law_rising (v_value v_low v_high : D) : M (Out Unit) :=
  (do let x ← (do let x ← (do let x ← (do let x ← (do let x ← (pure v_value); isiM "tuple" x); asB x); pure (!x)); if x = true then pure true else (do let x ← (do let xs ← (do let x ← (pure v_value); itemsM x); let ys ← lcM (.nm 3) (on1 fun one_1 => (do let x ← (do let x ← (do let xs ← (do let x ← (pure one_1); let xs ← (do let x ← (pure v_low); let xs ← (do let x ← (pure v_high); let xs ← (pure []); pure (x :: xs)); pure (x :: xs)); pure (x :: xs)); m__law_int xs); asB x); pure (!x))) (on1 fun one_1 => (pure one_1)) xs; lstM ys); let y ← (do let xs ← (pure []); lstM xs); let z ← neM x y; asB z)); if x = true then lift0 (do let d ← (pure (.bool false)); pure (.ret d)) else (do let d ← (do let x ← (do let xs ← (do let x ← (pure v_value); let xs ← (pure []); pure (x :: xs)); listM xs); let y ← (do let x ← (pure v_value); sortSetM x); eqM x y); pure (.ret d)))
def m__law_rising : List D → M D := fun ds => fin (on3 b__law_rising ds)
theorem ok__law_rising (t : Tx K mg) (hT : TbOk base mg K) : FnOk P w K mg base (L2.CX P w) 2 (He.fAd K ("_law_rising", none)) t.d__law_rising ["value", "low", "high"] (spec K w mg (tabsOf K htf) m__law_rising) := by
  refine fn_den (k := 1) t.F__law_rising sc__law_rising (fun ds ms h => fin_bad (on3_bad h)) (fun ds _ => rfl) fun cdv A outer s H E hr ds hl => ?_
  have nd := sc__law_rising.nd
  have hk := takesE (X := (cxOf (L2.CX P w) P w K mg base ["value", "low", "high", "one"] "_law_rising" (defScope s__law_rising) (He.fAd K ("_law_rising", none)) cdv A outer s H E)) rfl rfl rfl rfl
  have hx := passE (X := (cxOf (L2.CX P w) P w K mg base ["value", "low", "high", "one"] "_law_rising" (defScope s__law_rising) (He.fAd K ("_law_rising", none)) cdv A outer s H E)) rfl rfl rfl rfl
  have hp : PassesOwn (model P w) (cxOf (L2.CX P w) P w K mg base ["value", "low", "high", "one"] "_law_rising" (defScope s__law_rising) (He.fAd K ("_law_rising", none)) cdv A outer s H E).A (cxOf (L2.CX P w) P w K mg base ["value", "low", "high", "one"] "_law_rising" (defScope s__law_rising) (He.fAd K ("_law_rising", none)) cdv A outer s H E).env (cxOf (L2.CX P w) P w K mg base ["value", "low", "high", "one"] "_law_rising" (defScope s__law_rising) (He.fAd K ("_law_rising", none)) cdv A outer s H E).xe := passes_of (X := (cxOf (L2.CX P w) P w K mg base ["value", "low", "high", "one"] "_law_rising" (defScope s__law_rising) (He.fAd K ("_law_rising", none)) cdv A outer s H E)) rfl
  have G__law_int := ok__law_int (P := P) (w := w) (base := base) t hT
  exact match ds, hl with
    | [v_value, v_low, v_high], _ => (db_if ((dw_or (dt_not (dt_of (de_isi (de_var 0) (by rfl) t.n_isinstance t.v_isinstance (by rfl) t.n_tuple t.v_tuple))) (dw_or1 (dt_cmp (op_neP hr.units) od_ne (de_lc (own := [("one", 3)]) rfl nd (di_seq (de_var 0)) (blkOk_by (N := ["value", "low", "high", "one"]) (sc := defScope s__law_rising) (by decide +kernel)) (hown_cons rfl hown_nil) (by decide) (fun _ _ _ _ _ => (dg_name nd)) (fun ds hl => match ds, hl with | [one_1], _ => fun _ _ _ _ _ => ⟨(dts_one (dt_not (dt_of (de_call G__law_int (hr.mono (by decide)) (by rfl) t.g__law_int t.F__law_int.kp t.b__law_int passL (da_cons (de_var 3) (da_cons (de_var 1) (da_cons (de_var 2) da_nil))))))), (de_var 3)⟩)) (de_lst da_nil) (nomark _))))).pt (db_ret de_bl) (db_ret (de_cmp (op_eqP hr.units) od_eq (de_callTy call_list_of cd_list (by rfl) t.n_list t.v_list (da_cons (de_var 0) da_nil)) (de_sortset (by rfl) t.n_sorted t.v_sorted (by rfl) t.n_set t.v_set rfl (de_var 0)) (nomark _))))
def f__law_is_desk_1 : List D → Unit → M (Out (Unit)) :=
  fun ds (t_1 : Unit) => on1 (fun one_2 => (do let x ← (do let x ← (do let x ← (do let x ← (do let x ← (pure one_2); isiM "tuple" x); asB x); pure (!x)); if x = true then pure true else (do let x ← (do let x ← (do let xs ← (do let x ← (pure one_2); let xs ← (pure []); pure (x :: xs)); lenM xs); let y ← (pure (.int 2)); let z ← neM x y; asB z); if x = true then pure true else (do let x ← (do let x ← (do let xs ← (do let x ← (do let x ← (pure one_2); let y ← (pure (.int 1)); ixM x y); let xs ← (do let x ← (pure (.int 0)); let xs ← (do let x ← (pure (.int 3)); let xs ← (pure []); pure (x :: xs)); pure (x :: xs)); pure (x :: xs)); m__law_int xs); asB x); pure (!x)))); if x = true then (do let d ← (pure (.bool false)); pure (.ret d)) else (pure (.nxt ())))) ds
def f__law_is_desk_2 (v_many : D) : List D → Unit → M (Out (Unit)) :=
  fun ds (t_5 : Unit) => on1 (fun some_6 => (do let x ← (do let x ← (do let x ← (do let xs ← (do let x ← (pure some_6); let xs ← (do let x ← (pure (.int 0)); let xs ← (do let x ← (do let x ← (pure v_many); let y ← (pure (.int 1)); subM x y); let xs ← (pure []); pure (x :: xs)); pure (x :: xs)); pure (x :: xs)); m__law_rising xs); asB x); pure (!x)); if x = true then (do let d ← (pure (.bool false)); pure (.ret d)) else (pure (.nxt ())))) ds
def b__law_is_desk (v_value v_week v_many : D) : M (Out Unit) :=
  (do let x ← (do let x ← (do let x ← (do let x ← (do let x ← (pure v_value); isiM "tuple" x); asB x); pure (!x)); if x = true then pure true else (do let x ← (do let x ← (do let xs ← (do let x ← (pure v_value); let xs ← (pure []); pure (x :: xs)); lenM xs); let y ← (pure (.int 7)); let z ← neM x y; asB z); if x = true then pure true else (do let x ← (do let x ← (do let xs ← (do let x ← (do let x ← (pure v_value); let y ← (pure (.int 0)); ixM x y); let xs ← (do let x ← (pure (.int 0)); let xs ← (do let x ← (do let x ← (pure v_week); let y ← (pure (.int 1)); subM x y); let xs ← (pure []); pure (x :: xs)); pure (x :: xs)); pure (x :: xs)); m__law_rising xs); asB x); pure (!x)))); if x = true then lift0 (do let d ← (pure (.bool false)); pure (.ret d)) else (do let x ← (do let x ← (do let x ← (do let x ← (pure v_value); let y ← (pure (.int 0)); ixM x y); let y ← (do let xs ← (pure []); tupM xs); let z ← eqM x y; asB z); if x = true then pure true else (do let x ← (do let x ← (do let x ← (do let x ← (pure v_value); let y ← (pure (.int 1)); ixM x y); isiM "tuple" x); asB x); pure (!x))); if x = true then lift0 (do let d ← (pure (.bool false)); pure (.ret d)) else (do let xs ← (do let x ← (do let x ← (pure v_value); let y ← (pure (.int 1)); ixM x y); itemsM x); joinO (forM (fun d (t_1 : Unit) => do let ds ← M.opt (patD (.nm 3) d); (f__law_is_desk_1) ds t_1) xs ()) (fun (t_1 : Unit) => (do let kinds_3 ← (do let xs ← (do let x ← (do let xs ← (do let x ← (do let x ← (pure v_value); let y ← (pure (.int 1)); ixM x y); itemsM x); let ys ← lcM (.nm 3) (on1 fun one_4 => (pure true)) (on1 fun one_4 => (do let x ← (pure one_4); let y ← (pure (.int 0)); ixM x y)) xs; lstM ys); let xs ← (pure []); pure (x :: xs)); tupleM xs); (do let xs ← (do let x ← (do let xs ← (do let x ← (pure kinds_3); let xs ← (do let x ← (do let x ← (pure v_value); let y ← (pure (.int 2)); ixM x y); let xs ← (do let x ← (do let x ← (pure v_value); let y ← (pure (.int 3)); ixM x y); let xs ← (pure []); pure (x :: xs)); pure (x :: xs)); pure (x :: xs)); tupM xs); itemsM x); joinO (forM (fun d (t_5 : Unit) => do let ds ← M.opt (patD (.nm 5) d); (f__law_is_desk_2 v_many) ds t_5) xs ()) (fun (t_5 : Unit) => (do let named_7 ← (do let x ← (do let x ← (do let xs ← (do let x ← (pure kinds_3); let xs ← (pure []); pure (x :: xs)); listM xs); let y ← (do let xs ← (do let x ← (do let x ← (pure v_value); let y ← (pure (.int 2)); ixM x y); let xs ← (pure []); pure (x :: xs)); listM xs); addM x y); let y ← (do let xs ← (do let x ← (do let x ← (pure v_value); let y ← (pure (.int 3)); ixM x y); let xs ← (pure []); pure (x :: xs)); listM xs); addM x y); (do let x ← (do let x ← (do let xs ← (do let x ← (do let x ← (pure named_7); sortSetM x); let xs ← (pure []); pure (x :: xs)); lenM xs); let y ← (do let xs ← (do let x ← (pure named_7); let xs ← (pure []); pure (x :: xs)); lenM xs); let z ← neM x y; asB z); if x = true then lift0 (do let d ← (pure (.bool false)); pure (.ret d)) else (do let d ← (do let x ← (do let xs ← (do let x ← (do let x ← (pure v_value); let y ← (pure (.int 4)); ixM x y); let xs ← (do let x ← (pure (.int 0)); let xs ← (do let x ← (do let x ← (pure v_many); let y ← (pure (.int 1)); subM x y); let xs ← (pure []); pure (x :: xs)); pure (x :: xs)); pure (x :: xs)); m__law_int xs); let c ← asB x; if c = true then (do let x ← (do let xs ← (do let x ← (do let x ← (pure v_value); let y ← (pure (.int 5)); ixM x y); let xs ← (do let x ← (pure (.int 0)); let xs ← (do let x ← (pure (.int 2)); let xs ← (pure []); pure (x :: xs)); pure (x :: xs)); pure (x :: xs)); m__law_int xs); let c ← asB x; if c = true then (do let xs ← (do let x ← (do let x ← (pure v_value); let y ← (pure (.int 6)); ixM x y); let xs ← (do let x ← (pure (.int 0)); let xs ← (do let x ← (pure (.int 9)); let xs ← (pure []); pure (x :: xs)); pure (x :: xs)); pure (x :: xs)); m__law_int xs) else pure (.bool false)) else pure (.bool false)); pure (.ret d)))))))))))
def m__law_is_desk : List D → M D := fun ds => fin (on3 b__law_is_desk ds)
theorem ok__law_is_desk (t : Tx K mg) (hT : TbOk base mg K) : FnOk P w K mg base (L2.CX P w) 3 (He.fAd K ("_law_is_desk", none)) t.d__law_is_desk ["value", "week", "many"] (spec K w mg (tabsOf K htf) m__law_is_desk) := by
  refine fn_den (k := 2) t.F__law_is_desk sc__law_is_desk (fun ds ms h => fin_bad (on3_bad h)) (fun ds _ => rfl) fun cdv A outer s H E hr ds hl => ?_
  have nd := sc__law_is_desk.nd
  have hk := takesE (X := (cxOf (L2.CX P w) P w K mg base ["value", "week", "many", "one", "kinds", "some", "named"] "_law_is_desk" (defScope s__law_is_desk) (He.fAd K ("_law_is_desk", none)) cdv A outer s H E)) rfl rfl rfl rfl
  have hx := passE (X := (cxOf (L2.CX P w) P w K mg base ["value", "week", "many", "one", "kinds", "some", "named"] "_law_is_desk" (defScope s__law_is_desk) (He.fAd K ("_law_is_desk", none)) cdv A outer s H E)) rfl rfl rfl rfl
  have hp : PassesOwn (model P w) (cxOf (L2.CX P w) P w K mg base ["value", "week", "many", "one", "kinds", "some", "named"] "_law_is_desk" (defScope s__law_is_desk) (He.fAd K ("_law_is_desk", none)) cdv A outer s H E).A (cxOf (L2.CX P w) P w K mg base ["value", "week", "many", "one", "kinds", "some", "named"] "_law_is_desk" (defScope s__law_is_desk) (He.fAd K ("_law_is_desk", none)) cdv A outer s H E).env (cxOf (L2.CX P w) P w K mg base ["value", "week", "many", "one", "kinds", "some", "named"] "_law_is_desk" (defScope s__law_is_desk) (He.fAd K ("_law_is_desk", none)) cdv A outer s H E).xe := passes_of (X := (cxOf (L2.CX P w) P w K mg base ["value", "week", "many", "one", "kinds", "some", "named"] "_law_is_desk" (defScope s__law_is_desk) (He.fAd K ("_law_is_desk", none)) cdv A outer s H E)) rfl
  have G__law_int := ok__law_int (P := P) (w := w) (base := base) t hT
  have G__law_rising := ok__law_rising (P := P) (w := w) (base := base) t hT
  exact match ds, hl with
    | [v_value, v_week, v_many], _ => (db_if ((dw_or (dt_not (dt_of (de_isi (de_var 0) (by rfl) t.n_isinstance t.v_isinstance (by rfl) t.n_tuple t.v_tuple))) (dw_or (dt_cmp (op_neP hr.units) od_ne (de_callB call_len cd_len (by rfl) t.n_len t.v_len (da_cons (de_var 0) da_nil)) de_int (nomark _)) (dw_or1 (dt_not (dt_of (de_call G__law_rising (hr.mono (by decide)) (by rfl) t.g__law_rising t.F__law_rising.kp t.b__law_rising hx (da_cons (de_ix (de_var 0) de_int) (da_cons de_int (da_cons (de_op op_sub od_sub (de_var 1) de_int) da_nil)))))))))).pt (db_ret de_bl) (db_if ((dw_or (dt_cmp (op_eqP hr.units) od_eq (de_ix (de_var 0) de_int) (de_tup da_nil) (nomark _)) (dw_or1 (dt_not (dt_of (de_isi (de_ix (de_var 0) de_int) (by rfl) t.n_isinstance t.v_isinstance (by rfl) t.n_tuple t.v_tuple)))))).pt (db_ret de_bl) (db_for (envL := fun (t_1 : Unit) => [.sh v_value, .sh v_week, .sh v_many, .none, .none, .none, .none]) (p := (.nm 3)) (fb := (f__law_is_desk_1)) (t0 := ()) hp rfl (di_seq (de_ix (de_var 0) de_int)) (dg_name nd) (Wk.keep (Wk.keep (Wk.keep (Wk.drop (Wk.drop (Wk.drop (Wk.drop Wk.nil))))))) (fun t_1 ds hl => match ds, hl with | [one_2], _ => (db_if1 ((dw_or (dt_not (dt_of (de_isi (de_var 3) (by rfl) t.n_isinstance t.v_isinstance (by rfl) t.n_tuple t.v_tuple))) (dw_or (dt_cmp (op_neP hr.units) od_ne (de_callB call_len cd_len (by rfl) t.n_len t.v_len (da_cons (de_var 3) da_nil)) de_int (nomark _)) (dw_or1 (dt_not (dt_of (de_call G__law_int (hr.mono (by decide)) (by rfl) t.g__law_int t.F__law_int.kp t.b__law_int hx (da_cons (de_ix (de_var 3) de_int) (da_cons de_int (da_cons de_int da_nil)))))))))).pt (db_ret de_bl) (db_nil (Wk.keep (Wk.keep (Wk.keep (Wk.drop (Wk.drop (Wk.drop (Wk.drop Wk.nil)))))))))) (fun t_1 => (db_set (i := 4) nd (de_callTy call_tuple_of cd_tuple (by rfl) t.n_tuple t.v_tuple (da_cons (de_lc (own := [("one", 3)]) rfl nd (di_seq (de_ix (de_var 0) de_int)) (blkOk_by (N := ["value", "week", "many", "one", "kinds", "some", "named"]) (sc := defScope s__law_is_desk) (by decide +kernel)) (hown_cons rfl hown_nil) (by decide) (fun _ _ _ _ _ => (dg_name nd)) (fun ds hl => match ds, hl with | [one_4], _ => fun _ _ _ _ _ => ⟨dts_nil, (de_ix (de_var 3) de_int)⟩)) da_nil)) (fun kinds_3 => (db_for (envL := fun (t_5 : Unit) => [.sh v_value, .sh v_week, .sh v_many, .none, .sh kinds_3, .none, .none]) (p := (.nm 5)) (fb := (f__law_is_desk_2 v_many)) (t0 := ()) hp rfl (di_seq (de_tup (da_cons (de_var 4) (da_cons (de_ix (de_var 0) de_int) (da_cons (de_ix (de_var 0) de_int) da_nil))))) (dg_name nd) (Wk.keep (Wk.keep (Wk.keep (Wk.drop (Wk.keep (Wk.drop (Wk.drop Wk.nil))))))) (fun t_5 ds hl => match ds, hl with | [some_6], _ => (db_if1 (dt_not (dt_of (de_call G__law_rising (hr.mono (by decide)) (by rfl) t.g__law_rising t.F__law_rising.kp t.b__law_rising hx (da_cons (de_var 5) (da_cons de_int (da_cons (de_op op_sub od_sub (de_var 2) de_int) da_nil)))))) (db_ret de_bl) (db_nil (Wk.keep (Wk.keep (Wk.keep (Wk.drop (Wk.keep (Wk.drop (Wk.drop Wk.nil)))))))))) (fun t_5 => (db_set (i := 6) nd (de_op op_addP od_add (de_op op_addP od_add (de_callTy call_list_of cd_list (by rfl) t.n_list t.v_list (da_cons (de_var 4) da_nil)) (de_callTy call_list_of cd_list (by rfl) t.n_list t.v_list (da_cons (de_ix (de_var 0) de_int) da_nil))) (de_callTy call_list_of cd_list (by rfl) t.n_list t.v_list (da_cons (de_ix (de_var 0) de_int) da_nil))) (fun named_7 => (db_if (dt_cmp (op_neP hr.units) od_ne (de_callB call_len cd_len (by rfl) t.n_len t.v_len (da_cons (de_sortset (by rfl) t.n_sorted t.v_sorted (by rfl) t.n_set t.v_set rfl (de_var 6)) da_nil)) (de_callB call_len cd_len (by rfl) t.n_len t.v_len (da_cons (de_var 6) da_nil)) (nomark _)) (db_ret de_bl) (db_ret (de_and (de_call G__law_int (hr.mono (by decide)) (by rfl) t.g__law_int t.F__law_int.kp t.b__law_int hx (da_cons (de_ix (de_var 0) de_int) (da_cons de_int (da_cons (de_op op_sub od_sub (de_var 2) de_int) da_nil)))) (de_and (de_call G__law_int (hr.mono (by decide)) (by rfl) t.g__law_int t.F__law_int.kp t.b__law_int hx (da_cons (de_ix (de_var 0) de_int) (da_cons de_int (da_cons de_int da_nil)))) (de_one (de_call G__law_int (hr.mono (by decide)) (by rfl) t.g__law_int t.F__law_int.kp t.b__law_int hx (da_cons (de_ix (de_var 0) de_int) (da_cons de_int (da_cons de_int da_nil)))))))))))))))))))
def f__law_is_town_1 : List D → Unit → M (Out (Unit)) :=
  fun ds (t_1 : Unit) => on1 (fun some_2 => (do let x ← (do let x ← (do let x ← (do let x ← (pure some_2); isiM "tuple" x); asB x); pure (!x)); if x = true then (do let d ← (pure (.bool false)); pure (.ret d)) else (pure (.nxt ())))) ds
def f__law_is_town_2 : List D → Unit → M (Out (Unit)) :=
  fun ds (t_3 : Unit) => on1 (fun kind_4 => (do let x ← (do let x ← (do let x ← (do let x ← (do let x ← (pure kind_4); isiM "tuple" x); asB x); pure (!x)); if x = true then pure true else (do let x ← (do let xs ← (do let x ← (pure kind_4); let xs ← (pure []); pure (x :: xs)); lenM xs); let y ← (pure (.int 2)); let z ← neM x y; asB z)); if x = true then lift0 (do let d ← (pure (.bool false)); pure (.ret d)) else (do let x ← (do let x ← (do let x ← (do let x ← (do let xs ← (do let x ← (do let x ← (pure kind_4); let y ← (pure (.int 0)); ixM x y); let xs ← (do let x ← (pure (.int 1)); let xs ← (do let x ← (pure (.int 4)); let xs ← (pure []); pure (x :: xs)); pure (x :: xs)); pure (x :: xs)); m__law_int xs); asB x); pure (!x)); if x = true then pure true else (do let x ← (do let x ← (do let xs ← (do let x ← (do let x ← (pure kind_4); let y ← (pure (.int 1)); ixM x y); let xs ← (do let x ← (pure (.int 1)); let xs ← (do let x ← (pure (.int 2)); let xs ← (pure []); pure (x :: xs)); pure (x :: xs)); pure (x :: xs)); m__law_int xs); asB x); pure (!x))); if x = true then (do let d ← (pure (.bool false)); pure (.ret d)) else (pure (.nxt ()))))) ds
def b__law_is_town (v_value : D) : M (Out Unit) :=
  (do let x ← (do let x ← (do let x ← (do let x ← (do let x ← (pure v_value); isiM "tuple" x); asB x); pure (!x)); if x = true then pure true else (do let x ← (do let x ← (do let xs ← (do let x ← (pure v_value); let xs ← (pure []); pure (x :: xs)); lenM xs); let y ← (pure (.int 3)); let z ← neM x y; asB z); if x = true then pure true else (do let x ← (do let x ← (do let xs ← (do let x ← (do let x ← (pure v_value); let y ← (pure (.int 0)); ixM x y); let xs ← (do let x ← (pure (.int 1)); let xs ← (do let x ← (pure (.int 3)); let xs ← (pure []); pure (x :: xs)); pure (x :: xs)); pure (x :: xs)); m__law_int xs); asB x); pure (!x)))); if x = true then lift0 (do let d ← (pure (.bool false)); pure (.ret d)) else (do let xs ← (do let x ← (do let x ← (pure v_value); let l ← (do let x ← (pure (.int 1)); asI x); let h ← (pure none); slM x l h); itemsM x); joinO (forM (fun d (t_1 : Unit) => do let ds ← M.opt (patD (.nm 1) d); (f__law_is_town_1) ds t_1) xs ()) (fun (t_1 : Unit) => (do let x ← (do let x ← (do let x ← (do let d ← (do let x ← (pure (.int 1)); let y ← (do let xs ← (do let x ← (do let x ← (pure v_value); let y ← (pure (.int 1)); ixM x y); let xs ← (pure []); pure (x :: xs)); lenM xs); let z ← leM x y; let t ← asB z; if t = true then (do let u ← (pure (.int 3)); leM y u) else pure (.bool false)); asB d); pure (!x)); if x = true then pure true else (do let x ← (do let xs ← (do let x ← (do let x ← (pure v_value); let y ← (pure (.int 2)); ixM x y); let xs ← (pure []); pure (x :: xs)); lenM xs); let y ← (pure (.int 5)); let z ← gtM x y; asB z)); if x = true then lift0 (do let d ← (pure (.bool false)); pure (.ret d)) else (do let xs ← (do let x ← (do let x ← (pure v_value); let y ← (pure (.int 1)); ixM x y); itemsM x); joinO (forM (fun d (t_3 : Unit) => do let ds ← M.opt (patD (.nm 2) d); (f__law_is_town_2) ds t_3) xs ()) (fun (t_3 : Unit) => (do let d ← (do let x ← (do let xs ← (do let x ← (do let x ← (pure v_value); let y ← (pure (.int 2)); ixM x y); itemsM x); let ys ← lcM (.nm 3) (on1 fun desk_5 => (do let x ← (do let x ← (do let xs ← (do let x ← (pure desk_5); let xs ← (do let x ← (do let x ← (pure v_value); let y ← (pure (.int 0)); ixM x y); let xs ← (do let x ← (do let xs ← (do let x ← (do let x ← (pure v_value); let y ← (pure (.int 1)); ixM x y); let xs ← (pure []); pure (x :: xs)); lenM xs); let xs ← (pure []); pure (x :: xs)); pure (x :: xs)); pure (x :: xs)); m__law_is_desk xs); asB x); pure (!x))) (on1 fun desk_5 => (pure desk_5)) xs; lstM ys); let y ← (do let xs ← (pure []); lstM xs); eqM x y); pure (.ret d))))))))
def m__law_is_town : List D → M D := fun ds => fin (on1 b__law_is_town ds)
theorem ok__law_is_town (t : Tx K mg) (hT : TbOk base mg K) : FnOk P w K mg base (L2.CX P w) 4 (He.fAd K ("_law_is_town", none)) t.d__law_is_town ["value"] (spec K w mg (tabsOf K htf) m__law_is_town) := by
  refine fn_den (k := 3) t.F__law_is_town sc__law_is_town (fun ds ms h => fin_bad (on1_bad h)) (fun ds _ => rfl) fun cdv A outer s H E hr ds hl => ?_
  have nd := sc__law_is_town.nd
  have hk := takesE (X := (cxOf (L2.CX P w) P w K mg base ["value", "some", "kind", "desk"] "_law_is_town" (defScope s__law_is_town) (He.fAd K ("_law_is_town", none)) cdv A outer s H E)) rfl rfl rfl rfl
  have hx := passE (X := (cxOf (L2.CX P w) P w K mg base ["value", "some", "kind", "desk"] "_law_is_town" (defScope s__law_is_town) (He.fAd K ("_law_is_town", none)) cdv A outer s H E)) rfl rfl rfl rfl
  have hp : PassesOwn (model P w) (cxOf (L2.CX P w) P w K mg base ["value", "some", "kind", "desk"] "_law_is_town" (defScope s__law_is_town) (He.fAd K ("_law_is_town", none)) cdv A outer s H E).A (cxOf (L2.CX P w) P w K mg base ["value", "some", "kind", "desk"] "_law_is_town" (defScope s__law_is_town) (He.fAd K ("_law_is_town", none)) cdv A outer s H E).env (cxOf (L2.CX P w) P w K mg base ["value", "some", "kind", "desk"] "_law_is_town" (defScope s__law_is_town) (He.fAd K ("_law_is_town", none)) cdv A outer s H E).xe := passes_of (X := (cxOf (L2.CX P w) P w K mg base ["value", "some", "kind", "desk"] "_law_is_town" (defScope s__law_is_town) (He.fAd K ("_law_is_town", none)) cdv A outer s H E)) rfl
  have G__law_int := ok__law_int (P := P) (w := w) (base := base) t hT
  have G__law_is_desk := ok__law_is_desk (P := P) (w := w) (base := base) t hT
  exact match ds, hl with
    | [v_value], _ => (db_if ((dw_or (dt_not (dt_of (de_isi (de_var 0) (by rfl) t.n_isinstance t.v_isinstance (by rfl) t.n_tuple t.v_tuple))) (dw_or (dt_cmp (op_neP hr.units) od_ne (de_callB call_len cd_len (by rfl) t.n_len t.v_len (da_cons (de_var 0) da_nil)) de_int (nomark _)) (dw_or1 (dt_not (dt_of (de_call G__law_int (hr.mono (by decide)) (by rfl) t.g__law_int t.F__law_int.kp t.b__law_int hx (da_cons (de_ix (de_var 0) de_int) (da_cons de_int (da_cons de_int da_nil)))))))))).pt (db_ret de_bl) (db_for (envL := fun (t_1 : Unit) => [.sh v_value, .none, .none, .none]) (p := (.nm 1)) (fb := (f__law_is_town_1)) (t0 := ()) hp rfl (di_seq (de_slice (de_var 0) (do_some de_int) do_none)) (dg_name nd) (Wk.keep (Wk.drop (Wk.drop (Wk.drop Wk.nil)))) (fun t_1 ds hl => match ds, hl with | [some_2], _ => (db_if1 (dt_not (dt_of (de_isi (de_var 1) (by rfl) t.n_isinstance t.v_isinstance (by rfl) t.n_tuple t.v_tuple))) (db_ret de_bl) (db_nil (Wk.keep (Wk.drop (Wk.drop (Wk.drop Wk.nil))))))) (fun t_1 => (db_if ((dw_or (dt_not (dt_chain op_le od_le op_le od_le de_int (de_callB call_len cd_len (by rfl) t.n_len t.v_len (da_cons (de_ix (de_var 0) de_int) da_nil)) de_int)) (dw_or1 (dt_cmp op_gt od_gt (de_callB call_len cd_len (by rfl) t.n_len t.v_len (da_cons (de_ix (de_var 0) de_int) da_nil)) de_int (nomark _))))).pt (db_ret de_bl) (db_for (envL := fun (t_3 : Unit) => [.sh v_value, .none, .none, .none]) (p := (.nm 2)) (fb := (f__law_is_town_2)) (t0 := ()) hp rfl (di_seq (de_ix (de_var 0) de_int)) (dg_name nd) (Wk.keep (Wk.drop (Wk.drop (Wk.drop Wk.nil)))) (fun t_3 ds hl => match ds, hl with | [kind_4], _ => (db_if ((dw_or (dt_not (dt_of (de_isi (de_var 2) (by rfl) t.n_isinstance t.v_isinstance (by rfl) t.n_tuple t.v_tuple))) (dw_or1 (dt_cmp (op_neP hr.units) od_ne (de_callB call_len cd_len (by rfl) t.n_len t.v_len (da_cons (de_var 2) da_nil)) de_int (nomark _))))).pt (db_ret de_bl) (db_if1 ((dw_or (dt_not (dt_of (de_call G__law_int (hr.mono (by decide)) (by rfl) t.g__law_int t.F__law_int.kp t.b__law_int hx (da_cons (de_ix (de_var 2) de_int) (da_cons de_int (da_cons de_int da_nil)))))) (dw_or1 (dt_not (dt_of (de_call G__law_int (hr.mono (by decide)) (by rfl) t.g__law_int t.F__law_int.kp t.b__law_int hx (da_cons (de_ix (de_var 2) de_int) (da_cons de_int (da_cons de_int da_nil))))))))).pt (db_ret de_bl) (db_nil (Wk.keep (Wk.drop (Wk.drop (Wk.drop Wk.nil)))))))) (fun t_3 => (db_ret (de_cmp (op_eqP hr.units) od_eq (de_lc (own := [("desk", 3)]) rfl nd (di_seq (de_ix (de_var 0) de_int)) (blkOk_by (N := ["value", "some", "kind", "desk"]) (sc := defScope s__law_is_town) (by decide +kernel)) (hown_cons rfl hown_nil) (by decide) (fun _ _ _ _ _ => (dg_name nd)) (fun ds hl => match ds, hl with | [desk_5], _ => fun _ _ _ _ _ => ⟨(dts_one (dt_not (dt_of (de_call G__law_is_desk (hr.mono (by decide)) (by rfl) t.g__law_is_desk t.F__law_is_desk.kp t.b__law_is_desk passL (da_cons (de_var 3) (da_cons (de_ix (de_var 0) de_int) (da_cons (de_callB call_len cd_len (by rfl) t.n_len t.v_len (da_cons (de_ix (de_var 0) de_int) da_nil)) da_nil))))))), (de_var 3)⟩)) (de_lst da_nil) (nomark _)))))))))
def f__law_is_stand_1 : List D → Unit → M (Out (Unit)) :=
  fun ds (t_1 : Unit) => on3 (fun one_2 life_3 many_4 => (do let x ← (do let x ← (do let x ← (do let x ← (do let x ← (pure one_2); isiM "tuple" x); asB x); pure (!x)); if x = true then pure true else (do let x ← (do let xs ← (do let x ← (pure one_2); let xs ← (pure []); pure (x :: xs)); lenM xs); let y ← (pure (.int 2)); let z ← gtM x y; asB z)); if x = true then lift0 (do let d ← (pure (.bool false)); pure (.ret d)) else (do let x ← (do let x ← (do let x ← (do let xs ← (do let x ← (pure one_2); let xs ← (pure []); pure (x :: xs)); lenM xs); let y ← (pure (.int 1)); let z ← eqM x y; asB z); if x = true then (do let x ← (do let x ← (do let xs ← (do let x ← (do let x ← (pure one_2); let y ← (pure (.int 0)); ixM x y); let xs ← (do let x ← (pure (.int 1)); let xs ← (do let x ← (pure (.int 2)); let xs ← (pure []); pure (x :: xs)); pure (x :: xs)); pure (x :: xs)); m__law_int xs); asB x); pure (!x)) else pure false); if x = true then lift0 (do let d ← (pure (.bool false)); pure (.ret d)) else (do let x ← (do let x ← (do let x ← (do let xs ← (do let x ← (pure one_2); let xs ← (pure []); pure (x :: xs)); lenM xs); let y ← (pure (.int 2)); let z ← eqM x y; asB z); if x = true then (do let x ← (do let x ← (do let x ← (do let xs ← (do let x ← (do let x ← (pure one_2); let y ← (pure (.int 0)); ixM x y); let xs ← (do let x ← (pure (.int 0)); let xs ← (do let x ← (do let x ← (pure life_3); let y ← (pure (.int 1)); subM x y); let xs ← (pure []); pure (x :: xs)); pure (x :: xs)); pure (x :: xs)); m__law_int xs); asB x); if x = true then (do let x ← (do let xs ← (do let x ← (do let x ← (pure one_2); let y ← (pure (.int 1)); ixM x y); let xs ← (do let x ← (pure (.int 1)); let xs ← (do let x ← (pure many_4); let xs ← (pure []); pure (x :: xs)); pure (x :: xs)); pure (x :: xs)); m__law_int xs); asB x) else pure false); pure (!x)) else pure false); if x = true then (do let d ← (pure (.bool false)); pure (.ret d)) else (pure (.nxt ())))))) ds
def b__law_is_stand (v_town v_value : D) : M (Out Unit) :=
  (do let x ← (do let x ← (do let x ← (do let x ← (do let x ← (pure v_value); isiM "tuple" x); asB x); pure (!x)); if x = true then pure true else (do let x ← (do let x ← (do let xs ← (do let x ← (pure v_value); let xs ← (pure []); pure (x :: xs)); lenM xs); let y ← (pure (.int 2)); let z ← neM x y; asB z); if x = true then pure true else (do let x ← (do let x ← (do let xs ← (do let x ← (do let x ← (pure v_value); let y ← (pure (.int 0)); ixM x y); let xs ← (do let x ← (pure (.int 0)); let xs ← (do let x ← (do let x ← (do let x ← (pure v_town); let y ← (pure (.int 0)); ixM x y); let y ← (pure (.int 1)); subM x y); let xs ← (pure []); pure (x :: xs)); pure (x :: xs)); pure (x :: xs)); m__law_int xs); asB x); pure (!x)))); if x = true then lift0 (do let d ← (pure (.bool false)); pure (.ret d)) else (do let x ← (do let x ← (do let x ← (do let x ← (do let x ← (do let x ← (pure v_value); let y ← (pure (.int 1)); ixM x y); isiM "tuple" x); asB x); pure (!x)); if x = true then pure true else (do let x ← (do let xs ← (do let x ← (do let x ← (pure v_value); let y ← (pure (.int 1)); ixM x y); let xs ← (pure []); pure (x :: xs)); lenM xs); let y ← (do let xs ← (do let x ← (do let x ← (pure v_town); let y ← (pure (.int 1)); ixM x y); let xs ← (pure []); pure (x :: xs)); lenM xs); let z ← neM x y; asB z)); if x = true then lift0 (do let d ← (pure (.bool false)); pure (.ret d)) else (do let xs ← (do let xs ← (do let x ← (do let x ← (pure v_value); let y ← (pure (.int 1)); ixM x y); let xs ← (do let x ← (do let x ← (pure v_town); let y ← (pure (.int 1)); ixM x y); let xs ← (pure []); pure (x :: xs)); pure (x :: xs)); zipM xs); joinO (forM (fun d (t_1 : Unit) => do let ds ← M.opt (patD (.tp [(.nm 2), (.tp [(.nm 3), (.nm 4)])]) d); (f__law_is_stand_1) ds t_1) xs ()) (fun (t_1 : Unit) => (do let d ← (pure (.bool true)); pure (.ret d))))))
def m__law_is_stand : List D → M D := fun ds => fin (on2 b__law_is_stand ds)
theorem ok__law_is_stand (t : Tx K mg) (hT : TbOk base mg K) : FnOk P w K mg base (L2.CX P w) 2 (He.fAd K ("_law_is_stand", none)) t.d__law_is_stand ["town", "value"] (spec K w mg (tabsOf K htf) m__law_is_stand) := by
  refine fn_den (k := 1) t.F__law_is_stand sc__law_is_stand (fun ds ms h => fin_bad (on2_bad h)) (fun ds _ => rfl) fun cdv A outer s H E hr ds hl => ?_
  have nd := sc__law_is_stand.nd
  have hk := takesE (X := (cxOf (L2.CX P w) P w K mg base ["town", "value", "one", "life", "many"] "_law_is_stand" (defScope s__law_is_stand) (He.fAd K ("_law_is_stand", none)) cdv A outer s H E)) rfl rfl rfl rfl
  have hx := passE (X := (cxOf (L2.CX P w) P w K mg base ["town", "value", "one", "life", "many"] "_law_is_stand" (defScope s__law_is_stand) (He.fAd K ("_law_is_stand", none)) cdv A outer s H E)) rfl rfl rfl rfl
  have hp : PassesOwn (model P w) (cxOf (L2.CX P w) P w K mg base ["town", "value", "one", "life", "many"] "_law_is_stand" (defScope s__law_is_stand) (He.fAd K ("_law_is_stand", none)) cdv A outer s H E).A (cxOf (L2.CX P w) P w K mg base ["town", "value", "one", "life", "many"] "_law_is_stand" (defScope s__law_is_stand) (He.fAd K ("_law_is_stand", none)) cdv A outer s H E).env (cxOf (L2.CX P w) P w K mg base ["town", "value", "one", "life", "many"] "_law_is_stand" (defScope s__law_is_stand) (He.fAd K ("_law_is_stand", none)) cdv A outer s H E).xe := passes_of (X := (cxOf (L2.CX P w) P w K mg base ["town", "value", "one", "life", "many"] "_law_is_stand" (defScope s__law_is_stand) (He.fAd K ("_law_is_stand", none)) cdv A outer s H E)) rfl
  have G__law_int := ok__law_int (P := P) (w := w) (base := base) t hT
  exact match ds, hl with
    | [v_town, v_value], _ => (db_if ((dw_or (dt_not (dt_of (de_isi (de_var 1) (by rfl) t.n_isinstance t.v_isinstance (by rfl) t.n_tuple t.v_tuple))) (dw_or (dt_cmp (op_neP hr.units) od_ne (de_callB call_len cd_len (by rfl) t.n_len t.v_len (da_cons (de_var 1) da_nil)) de_int (nomark _)) (dw_or1 (dt_not (dt_of (de_call G__law_int (hr.mono (by decide)) (by rfl) t.g__law_int t.F__law_int.kp t.b__law_int hx (da_cons (de_ix (de_var 1) de_int) (da_cons de_int (da_cons (de_op op_sub od_sub (de_ix (de_var 0) de_int) de_int) da_nil)))))))))).pt (db_ret de_bl) (db_if ((dw_or (dt_not (dt_of (de_isi (de_ix (de_var 1) de_int) (by rfl) t.n_isinstance t.v_isinstance (by rfl) t.n_tuple t.v_tuple))) (dw_or1 (dt_cmp (op_neP hr.units) od_ne (de_callB call_len cd_len (by rfl) t.n_len t.v_len (da_cons (de_ix (de_var 1) de_int) da_nil)) (de_callB call_len cd_len (by rfl) t.n_len t.v_len (da_cons (de_ix (de_var 0) de_int) da_nil)) (nomark _))))).pt (db_ret de_bl) (db_for (envL := fun (t_1 : Unit) => [.sh v_town, .sh v_value, .none, .none, .none]) (p := (.tp [(.nm 2), (.tp [(.nm 3), (.nm 4)])])) (fb := (f__law_is_stand_1)) (t0 := ()) hp rfl (di_zip (by rfl) t.n_zip (da_cons (de_ix (de_var 1) de_int) (da_cons (de_ix (de_var 0) de_int) da_nil))) (dg_tup rfl (dgs_cons (dg_name nd) (dgs_cons (dg_tup rfl (dgs_cons (dg_name nd) (dgs_cons (dg_name nd) dgs_nil))) dgs_nil))) (Wk.keep (Wk.keep (Wk.drop (Wk.drop (Wk.drop Wk.nil))))) (fun t_1 ds hl => match ds, hl with | [one_2, life_3, many_4], _ => (db_if ((dw_or (dt_not (dt_of (de_isi (de_var 2) (by rfl) t.n_isinstance t.v_isinstance (by rfl) t.n_tuple t.v_tuple))) (dw_or1 (dt_cmp op_gt od_gt (de_callB call_len cd_len (by rfl) t.n_len t.v_len (da_cons (de_var 2) da_nil)) de_int (nomark _))))).pt (db_ret de_bl) (db_if ((dw_and (dt_cmp (op_eqP hr.units) od_eq (de_callB call_len cd_len (by rfl) t.n_len t.v_len (da_cons (de_var 2) da_nil)) de_int (nomark _)) (dw_and1 (dt_not (dt_of (de_call G__law_int (hr.mono (by decide)) (by rfl) t.g__law_int t.F__law_int.kp t.b__law_int hx (da_cons (de_ix (de_var 2) de_int) (da_cons de_int (da_cons de_int da_nil))))))))).pt (db_ret de_bl) (db_if1 ((dw_and (dt_cmp (op_eqP hr.units) od_eq (de_callB call_len cd_len (by rfl) t.n_len t.v_len (da_cons (de_var 2) da_nil)) de_int (nomark _)) (dw_and1 (dt_not ((dw_and (dt_of (de_call G__law_int (hr.mono (by decide)) (by rfl) t.g__law_int t.F__law_int.kp t.b__law_int hx (da_cons (de_ix (de_var 2) de_int) (da_cons de_int (da_cons (de_op op_sub od_sub (de_var 3) de_int) da_nil))))) (dw_and1 (dt_of (de_call G__law_int (hr.mono (by decide)) (by rfl) t.g__law_int t.F__law_int.kp t.b__law_int hx (da_cons (de_ix (de_var 2) de_int) (da_cons de_int (da_cons (de_var 4) da_nil)))))))).pt)))).pt (db_ret de_bl) (db_nil (Wk.keep (Wk.keep (Wk.drop (Wk.drop (Wk.drop Wk.nil)))))))))) (fun t_1 => (db_ret de_bl)))))
def b__law_odd (v_urn : D) : M (Out Unit) :=
  (do let some_1 ← (do let xs ← (do let x ← (pure .none); let xs ← (do let x ← (pure (.bool true)); let xs ← (do let x ← (pure (.bool false)); let xs ← (do let x ← (pure (.int 0)); let xs ← (do let x ← (pure (.int 1)); let xs ← (do let x ← (pure (.int 2)); let xs ← (do let x ← (pure (.int 3)); let xs ← (do let x ← (pure (.int 4)); let xs ← (do let x ← (do let x ← (pure (.int 1)); negM x); let xs ← (do let x ← (do let x ← (pure (.int 10)); let y ← (pure (.int 30)); powM x y); let xs ← (do let x ← (pure (.str "")); let xs ← (do let x ← (pure (.str "days")); let xs ← (do let x ← (pure (.str "fees")); let xs ← (do let x ← (pure (.str "desk")); let xs ← (do let x ← (do let xs ← (pure []); tupM xs); let xs ← (do let x ← (do let xs ← (pure []); lstM xs); let xs ← (do let x ← (do let xs ← (do let x ← (pure (.int 0)); let xs ← (pure []); pure (x :: xs)); tupM xs); let xs ← (do let x ← (do let xs ← (do let x ← (pure (.int 1)); let xs ← (pure []); pure (x :: xs)); tupM xs); let xs ← (do let x ← (do let xs ← (do let x ← (pure (.int 2)); let xs ← (pure []); pure (x :: xs)); tupM xs); let xs ← (pure []); pure (x :: xs)); pure (x :: xs)); pure (x :: xs)); pure (x :: xs)); pure (x :: xs)); pure (x :: xs)); pure (x :: xs)); pure (x :: xs)); pure (x :: xs)); pure (x :: xs)); pure (x :: xs)); pure (x :: xs)); pure (x :: xs)); pure (x :: xs)); pure (x :: xs)); pure (x :: xs)); pure (x :: xs)); pure (x :: xs)); pure (x :: xs)); lstM xs); (do let d ← (do let xs ← (do let x ← (pure v_urn); let xs ← (do let x ← (do let x ← (pure some_1); let y ← (do let xs ← (do let x ← (do let xs ← (do let x ← (pure (.int 0)); let xs ← (do let x ← (pure (.int 1)); let xs ← (pure []); pure (x :: xs)); pure (x :: xs)); tupM xs); let xs ← (do let x ← (do let xs ← (do let x ← (pure (.int 1)); let xs ← (do let x ← (pure (.int 0)); let xs ← (pure []); pure (x :: xs)); pure (x :: xs)); tupM xs); let xs ← (do let x ← (do let xs ← (do let x ← (pure (.int 0)); let xs ← (do let x ← (pure (.int 0)); let xs ← (pure []); pure (x :: xs)); pure (x :: xs)); tupM xs); let xs ← (do let x ← (do let xs ← (do let x ← (do let x ← (pure (.int 1)); negM x); let xs ← (do let x ← (do let xs ← (pure []); tupM xs); let xs ← (pure []); pure (x :: xs)); pure (x :: xs)); tupM xs); let xs ← (do let x ← (do let xs ← (do let x ← (pure (.int 3)); let xs ← (do let x ← (pure (.int 2)); let xs ← (pure []); pure (x :: xs)); pure (x :: xs)); tupM xs); let xs ← (do let x ← (do let xs ← (do let x ← (do let xs ← (pure []); tupM xs); let xs ← (do let x ← (do let xs ← (pure []); tupM xs); let xs ← (pure []); pure (x :: xs)); pure (x :: xs)); tupM xs); let xs ← (do let x ← (do let xs ← (do let x ← (do let xs ← (do let x ← (pure (.int 0)); let xs ← (do let x ← (pure (.int 1)); let xs ← (pure []); pure (x :: xs)); pure (x :: xs)); tupM xs); let xs ← (pure []); pure (x :: xs)); tupM xs); let xs ← (do let x ← (pure (.str "days ")); let xs ← (pure []); pure (x :: xs)); pure (x :: xs)); pure (x :: xs)); pure (x :: xs)); pure (x :: xs)); pure (x :: xs)); pure (x :: xs)); pure (x :: xs)); lstM xs); addM x y); let xs ← (pure []); pure (x :: xs)); pure (x :: xs)); m__law_any xs); pure (.ret d)))
def m__law_odd : List D → M D := fun ds => fin (on1 b__law_odd ds)
theorem ok__law_odd (t : Tx K mg) (hT : TbOk base mg K) : FnOk P w K mg base (L2.CX P w) 3 (He.fAd K ("_law_odd", none)) t.d__law_odd ["urn"] (spec K w mg (tabsOf K htf) m__law_odd) := by
  refine fn_den (k := 2) t.F__law_odd sc__law_odd (fun ds ms h => fin_bad (on1_bad h)) (fun ds _ => rfl) fun cdv A outer s H E hr ds hl => ?_
  have nd := sc__law_odd.nd
  have hk := takesE (X := (cxOf (L2.CX P w) P w K mg base ["urn", "some"] "_law_odd" (defScope s__law_odd) (He.fAd K ("_law_odd", none)) cdv A outer s H E)) rfl rfl rfl rfl
  have hx := passE (X := (cxOf (L2.CX P w) P w K mg base ["urn", "some"] "_law_odd" (defScope s__law_odd) (He.fAd K ("_law_odd", none)) cdv A outer s H E)) rfl rfl rfl rfl
  have hp : PassesOwn (model P w) (cxOf (L2.CX P w) P w K mg base ["urn", "some"] "_law_odd" (defScope s__law_odd) (He.fAd K ("_law_odd", none)) cdv A outer s H E).A (cxOf (L2.CX P w) P w K mg base ["urn", "some"] "_law_odd" (defScope s__law_odd) (He.fAd K ("_law_odd", none)) cdv A outer s H E).env (cxOf (L2.CX P w) P w K mg base ["urn", "some"] "_law_odd" (defScope s__law_odd) (He.fAd K ("_law_odd", none)) cdv A outer s H E).xe := passes_of (X := (cxOf (L2.CX P w) P w K mg base ["urn", "some"] "_law_odd" (defScope s__law_odd) (He.fAd K ("_law_odd", none)) cdv A outer s H E)) rfl
  have G__law_any := ok__law_any (P := P) (w := w) (base := base) t hT
  exact match ds, hl with
    | [v_urn], _ => (db_set (i := 1) nd (de_lst (da_cons de_non (da_cons de_bl (da_cons de_bl (da_cons de_int (da_cons de_int (da_cons de_int (da_cons de_int (da_cons de_int (da_cons (de_neg de_int) (da_cons (de_op op_pow od_pow de_int de_int) (da_cons de_str (da_cons de_str (da_cons de_str (da_cons de_str (da_cons (de_tup da_nil) (da_cons (de_lst da_nil) (da_cons (de_tup (da_cons de_int da_nil)) (da_cons (de_tup (da_cons de_int da_nil)) (da_cons (de_tup (da_cons de_int da_nil)) da_nil)))))))))))))))))))) (fun some_1 => (db_ret (de_call G__law_any (hr.mono (by decide)) (by rfl) t.g__law_any t.F__law_any.kp t.b__law_any hx (da_cons (de_var 0) (da_cons (de_op op_addP od_add (de_var 1) (de_lst (da_cons (de_tup (da_cons de_int (da_cons de_int da_nil))) (da_cons (de_tup (da_cons de_int (da_cons de_int da_nil))) (da_cons (de_tup (da_cons de_int (da_cons de_int da_nil))) (da_cons (de_tup (da_cons (de_neg de_int) (da_cons (de_tup da_nil) da_nil))) (da_cons (de_tup (da_cons de_int (da_cons de_int da_nil))) (da_cons (de_tup (da_cons (de_tup da_nil) (da_cons (de_tup da_nil) da_nil))) (da_cons (de_tup (da_cons (de_tup (da_cons de_int (da_cons de_int da_nil))) da_nil)) (da_cons de_str da_nil)))))))))) da_nil))))))
def b__law_bent (rec : List D → M D) (v_urn v_value : D) : M (Out Unit) :=
  (do let x ← (do let x ← (do let x ← (do let x ← (do let x ← (pure v_value); isiM "tuple" x); asB x); pure (!x)); if x = true then pure true else (do let x ← (do let x ← (pure v_value); let y ← (do let xs ← (pure []); tupM xs); let z ← eqM x y; asB z); if x = true then pure true else (do let x ← (do let xs ← (do let x ← (pure v_urn); let xs ← (do let x ← (pure (.int 7)); let xs ← (pure []); pure (x :: xs)); pure (x :: xs)); m__law_ball xs); let y ← (pure (.int 0)); let z ← eqM x y; asB z))); if x = true then lift0 (do let d ← (do let x ← (do let x ← (do let x ← (do let xs ← (do let x ← (pure v_urn); let xs ← (do let x ← (pure (.int 3)); let xs ← (pure []); pure (x :: xs)); pure (x :: xs)); m__law_ball xs); let y ← (pure (.int 0)); let z ← eqM x y; asB z); if x = true then (do let x ← (do let x ← (pure v_value); isiM "int" x); asB x) else pure false); if x = true then (do let x ← (pure v_value); let y ← (pure (.int 1)); addM x y) else (do let xs ← (do let x ← (pure v_urn); let xs ← (pure []); pure (x :: xs)); m__law_odd xs)); pure (.ret d)) else (do let ds ← (do let x ← (do let xs ← (do let x ← (pure v_urn); let xs ← (do let x ← (do let xs ← (do let x ← (pure v_value); let xs ← (pure []); pure (x :: xs)); lenM xs); let xs ← (pure []); pure (x :: xs)); pure (x :: xs)); m__law_ball xs); let xs ← (do let x ← (do let xs ← (do let x ← (pure v_urn); let xs ← (do let x ← (pure (.int 11)); let xs ← (pure []); pure (x :: xs)); pure (x :: xs)); m__law_ball xs); let xs ← (pure []); pure (x :: xs)); pure (x :: xs)); on2 (fun at_1 way_2 => (do let x ← (do let x ← (pure way_2); let y ← (pure (.int 0)); let z ← eqM x y; asB z); if x = true then lift0 (do let d ← (do let x ← (do let x ← (pure v_value); let l ← (pure none); let h ← (do let x ← (pure at_1); asI x); slM x l h); let y ← (do let x ← (pure v_value); let l ← (do let x ← (do let x ← (pure at_1); let y ← (pure (.int 1)); addM x y); asI x); let h ← (pure none); slM x l h); addM x y); pure (.ret d)) else (do let x ← (do let x ← (pure way_2); let y ← (pure (.int 1)); let z ← eqM x y; asB z); if x = true then lift0 (do let d ← (do let x ← (do let x ← (pure v_value); let l ← (pure none); let h ← (do let x ← (do let x ← (pure at_1); let y ← (pure (.int 1)); addM x y); asI x); slM x l h); let y ← (do let x ← (pure v_value); let l ← (do let x ← (pure at_1); asI x); let h ← (pure none); slM x l h); addM x y); pure (.ret d)) else (do let x ← (do let x ← (pure way_2); let y ← (pure (.int 2)); let z ← eqM x y; asB z); if x = true then lift0 (do let d ← (do let x ← (do let x ← (do let x ← (pure v_value); let l ← (pure none); let h ← (do let x ← (pure at_1); asI x); slM x l h); let y ← (do let xs ← (do let x ← (do let xs ← (do let x ← (pure v_urn); let xs ← (pure []); pure (x :: xs)); m__law_odd xs); let xs ← (pure []); pure (x :: xs)); tupM xs); addM x y); let y ← (do let x ← (pure v_value); let l ← (do let x ← (pure at_1); asI x); let h ← (pure none); slM x l h); addM x y); pure (.ret d)) else (do let x ← (do let x ← (pure way_2); let y ← (pure (.int 3)); let z ← eqM x y; asB z); if x = true then lift0 (do let d ← (do let xs ← (do let x ← (pure v_value); let xs ← (pure []); pure (x :: xs)); listM xs); pure (.ret d)) else (do let d ← (do let x ← (do let x ← (do let x ← (pure v_value); let l ← (pure none); let h ← (do let x ← (pure at_1); asI x); slM x l h); let y ← (do let xs ← (do let x ← (do let xs ← (do let x ← (pure v_urn); let xs ← (do let x ← (do let x ← (pure v_value); let y ← (pure at_1); ixM x y); let xs ← (pure []); pure (x :: xs)); pure (x :: xs)); rec xs); let xs ← (pure []); pure (x :: xs)); tupM xs); addM x y); let y ← (do let x ← (pure v_value); let l ← (do let x ← (do let x ← (pure at_1); let y ← (pure (.int 1)); addM x y); asI x); let h ← (pure none); slM x l h); addM x y); pure (.ret d))))))) ds))
def m__law_bent : Nat → List D → M D
  | 0 => fun _ => M.bad
  | n + 1 => fun ds => fin (on2 (b__law_bent (m__law_bent n)) ds)
theorem ok__law_bent (n : Nat) (t : Tx K mg) (hT : TbOk base mg K) : FnOk P w K mg base (L2.CX P w) (4 + n) (He.fAd K ("_law_bent", none)) t.d__law_bent ["urn", "value"] (spec K w mg (tabsOf K htf) (m__law_bent n)) := by
  induction n with
  | zero => exact fn_bad (k := 3) t.F__law_bent sc__law_bent
  | succ n ih =>
    refine fn_den (mb := on2 (b__law_bent (m__law_bent n))) (k := 4 + n) t.F__law_bent sc__law_bent (fun ds ms h => fin_bad (on2_bad h)) (fun ds _ => rfl) fun cdv A outer s H E hr ds hl => ?_
    have nd := sc__law_bent.nd
    have hk := takesE (X := (cxOf (L2.CX P w) P w K mg base ["urn", "value", "at", "way"] "_law_bent" (defScope s__law_bent) (He.fAd K ("_law_bent", none)) cdv A outer s H E)) rfl rfl rfl rfl
    have hx := passE (X := (cxOf (L2.CX P w) P w K mg base ["urn", "value", "at", "way"] "_law_bent" (defScope s__law_bent) (He.fAd K ("_law_bent", none)) cdv A outer s H E)) rfl rfl rfl rfl
    have hp : PassesOwn (model P w) (cxOf (L2.CX P w) P w K mg base ["urn", "value", "at", "way"] "_law_bent" (defScope s__law_bent) (He.fAd K ("_law_bent", none)) cdv A outer s H E).A (cxOf (L2.CX P w) P w K mg base ["urn", "value", "at", "way"] "_law_bent" (defScope s__law_bent) (He.fAd K ("_law_bent", none)) cdv A outer s H E).env (cxOf (L2.CX P w) P w K mg base ["urn", "value", "at", "way"] "_law_bent" (defScope s__law_bent) (He.fAd K ("_law_bent", none)) cdv A outer s H E).xe := passes_of (X := (cxOf (L2.CX P w) P w K mg base ["urn", "value", "at", "way"] "_law_bent" (defScope s__law_bent) (He.fAd K ("_law_bent", none)) cdv A outer s H E)) rfl
    have G__law_ball := ok__law_ball (P := P) (w := w) (base := base) t hT
    have G__law_odd := ok__law_odd (P := P) (w := w) (base := base) t hT
    exact match ds, hl with
      | [v_urn, v_value], _ => (db_if ((dw_or (dt_not (dt_of (de_isi (de_var 1) (by rfl) t.n_isinstance t.v_isinstance (by rfl) t.n_tuple t.v_tuple))) (dw_or (dt_cmp (op_eqP hr.units) od_eq (de_var 1) (de_tup da_nil) (nomark _)) (dw_or1 (dt_cmp (op_eqP hr.units) od_eq (de_call G__law_ball (hr.mono (by omega)) (by rfl) t.g__law_ball t.F__law_ball.kp t.b__law_ball hx (da_cons (de_var 0) (da_cons de_int da_nil))) de_int (nomark _)))))).pt (db_ret (de_if ((dw_and (dt_cmp (op_eqP hr.units) od_eq (de_call G__law_ball (hr.mono (by omega)) (by rfl) t.g__law_ball t.F__law_ball.kp t.b__law_ball hx (da_cons (de_var 0) (da_cons de_int da_nil))) de_int (nomark _)) (dw_and1 (dt_of (de_isi (de_var 1) (by rfl) t.n_isinstance t.v_isinstance (by rfl) t.n_int t.v_int))))).pt (de_op op_addP od_add (de_var 1) de_int) (de_call G__law_odd (hr.mono (by omega)) (by rfl) t.g__law_odd t.F__law_odd.kp t.b__law_odd hx (da_cons (de_var 0) da_nil)))) (db_par2 (i := 2) (j := 3) nd (da_cons (de_call G__law_ball (hr.mono (by omega)) (by rfl) t.g__law_ball t.F__law_ball.kp t.b__law_ball hx (da_cons (de_var 0) (da_cons (de_callB call_len cd_len (by rfl) t.n_len t.v_len (da_cons (de_var 1) da_nil)) da_nil))) (da_cons (de_call G__law_ball (hr.mono (by omega)) (by rfl) t.g__law_ball t.F__law_ball.kp t.b__law_ball hx (da_cons (de_var 0) (da_cons de_int da_nil))) da_nil)) (fun at_1 way_2 => (db_if (dt_cmp (op_eqP hr.units) od_eq (de_var 3) de_int (nomark _)) (db_ret (de_op op_addP od_add (de_slice (de_var 1) do_none (do_some (de_var 2))) (de_slice (de_var 1) (do_some (de_op op_addP od_add (de_var 2) de_int)) do_none))) (db_if (dt_cmp (op_eqP hr.units) od_eq (de_var 3) de_int (nomark _)) (db_ret (de_op op_addP od_add (de_slice (de_var 1) do_none (do_some (de_op op_addP od_add (de_var 2) de_int))) (de_slice (de_var 1) (do_some (de_var 2)) do_none))) (db_if (dt_cmp (op_eqP hr.units) od_eq (de_var 3) de_int (nomark _)) (db_ret (de_op op_addP od_add (de_op op_addP od_add (de_slice (de_var 1) do_none (do_some (de_var 2))) (de_tup (da_cons (de_call G__law_odd (hr.mono (by omega)) (by rfl) t.g__law_odd t.F__law_odd.kp t.b__law_odd hx (da_cons (de_var 0) da_nil)) da_nil))) (de_slice (de_var 1) (do_some (de_var 2)) do_none))) (db_if (dt_cmp (op_eqP hr.units) od_eq (de_var 3) de_int (nomark _)) (db_ret (de_callTy call_list_of cd_list (by rfl) t.n_list t.v_list (da_cons (de_var 1) da_nil))) (db_ret (de_op op_addP od_add (de_op op_addP od_add (de_slice (de_var 1) do_none (do_some (de_var 2))) (de_tup (da_cons (de_call ih (hr.mono (by omega)) (by rfl) t.g__law_bent t.F__law_bent.kp t.b__law_bent hx (da_cons (de_var 0) (da_cons (de_ix (de_var 1) (de_var 2)) da_nil))) da_nil))) (de_slice (de_var 1) (do_some (de_op op_addP od_add (de_var 2) de_int)) do_none))))))))))
def b__law_good_as (v_one v_other : D) : M (Out Unit) :=
  (do let x ← (do let x ← (do let x ← (pure v_other); let y ← (do let xs ← (pure []); tupM xs); let z ← eqM x y; asB z); if x = true then pure true else (do let x ← (pure v_one); let y ← (pure v_other); let z ← eqM x y; asB z)); if x = true then lift0 (do let d ← (pure (.bool true)); pure (.ret d)) else (do let d ← (do let x ← (do let x ← (do let xs ← (do let x ← (pure v_one); let xs ← (pure []); pure (x :: xs)); lenM xs); let y ← (pure (.int 2)); eqM x y); let c ← asB x; if c = true then (do let x ← (do let x ← (do let xs ← (do let x ← (pure v_other); let xs ← (pure []); pure (x :: xs)); lenM xs); let y ← (pure (.int 2)); eqM x y); let c ← asB x; if c = true then (do let x ← (do let x ← (do let x ← (pure v_one); let y ← (pure (.int 0)); ixM x y); let y ← (do let x ← (pure v_other); let y ← (pure (.int 0)); ixM x y); leM x y); let c ← asB x; if c = true then (do let x ← (do let x ← (pure v_one); let y ← (pure (.int 1)); ixM x y); let y ← (do let x ← (pure v_other); let y ← (pure (.int 1)); ixM x y); geM x y) else pure (.bool false)) else pure (.bool false)) else pure (.bool false)); pure (.ret d)))
def m__law_good_as : List D → M D := fun ds => fin (on2 b__law_good_as ds)
theorem ok__law_good_as (t : Tx K mg) (hT : TbOk base mg K) : FnOk P w K mg base (L2.CX P w) 1 (He.fAd K ("_law_good_as", none)) t.d__law_good_as ["one", "other"] (spec K w mg (tabsOf K htf) m__law_good_as) := by
  refine fn_den (k := 0) t.F__law_good_as sc__law_good_as (fun ds ms h => fin_bad (on2_bad h)) (fun ds _ => rfl) fun cdv A outer s H E hr ds hl => ?_
  have nd := sc__law_good_as.nd
  have hk := takesE (X := (cxOf (L2.CX P w) P w K mg base ["one", "other"] "_law_good_as" (defScope s__law_good_as) (He.fAd K ("_law_good_as", none)) cdv A outer s H E)) rfl rfl rfl rfl
  have hx := passE (X := (cxOf (L2.CX P w) P w K mg base ["one", "other"] "_law_good_as" (defScope s__law_good_as) (He.fAd K ("_law_good_as", none)) cdv A outer s H E)) rfl rfl rfl rfl
  have hp : PassesOwn (model P w) (cxOf (L2.CX P w) P w K mg base ["one", "other"] "_law_good_as" (defScope s__law_good_as) (He.fAd K ("_law_good_as", none)) cdv A outer s H E).A (cxOf (L2.CX P w) P w K mg base ["one", "other"] "_law_good_as" (defScope s__law_good_as) (He.fAd K ("_law_good_as", none)) cdv A outer s H E).env (cxOf (L2.CX P w) P w K mg base ["one", "other"] "_law_good_as" (defScope s__law_good_as) (He.fAd K ("_law_good_as", none)) cdv A outer s H E).xe := passes_of (X := (cxOf (L2.CX P w) P w K mg base ["one", "other"] "_law_good_as" (defScope s__law_good_as) (He.fAd K ("_law_good_as", none)) cdv A outer s H E)) rfl
  exact match ds, hl with
    | [v_one, v_other], _ => (db_if ((dw_or (dt_cmp (op_eqP hr.units) od_eq (de_var 1) (de_tup da_nil) (nomark _)) (dw_or1 (dt_cmp (op_eqP hr.units) od_eq (de_var 0) (de_var 1) (nomark _))))).pt (db_ret de_bl) (db_ret (de_and (de_cmp (op_eqP hr.units) od_eq (de_callB call_len cd_len (by rfl) t.n_len t.v_len (da_cons (de_var 0) da_nil)) de_int (nomark _)) (de_and (de_cmp (op_eqP hr.units) od_eq (de_callB call_len cd_len (by rfl) t.n_len t.v_len (da_cons (de_var 1) da_nil)) de_int (nomark _)) (de_and (de_cmp op_le od_le (de_ix (de_var 0) de_int) (de_ix (de_var 1) de_int) (nomark _)) (de_one (de_cmp op_ge od_ge (de_ix (de_var 0) de_int) (de_ix (de_var 1) de_int) (nomark _))))))))
def b__law_covers (v_one v_other : D) : M (Out Unit) :=
  (do let x ← (do let x ← (do let x ← (pure v_one); let y ← (pure (.int 0)); ixM x y); let y ← (do let x ← (pure v_other); let y ← (pure (.int 0)); ixM x y); let z ← neM x y; asB z); if x = true then lift0 (do let d ← (pure (.bool false)); pure (.ret d)) else (do let d ← (do let x ← (do let xs ← (do let xs ← (do let x ← (do let xs ← (do let x ← (do let x ← (pure v_one); let y ← (pure (.int 1)); ixM x y); let xs ← (pure []); pure (x :: xs)); lenM xs); let xs ← (pure []); pure (x :: xs)); range1M xs); let ys ← lcM (.nm 2) (on1 fun kind_1 => (do let x ← (do let x ← (do let xs ← (do let x ← (do let x ← (do let x ← (pure v_one); let y ← (pure (.int 1)); ixM x y); let y ← (pure kind_1); ixM x y); let xs ← (do let x ← (do let x ← (do let x ← (pure v_other); let y ← (pure (.int 1)); ixM x y); let y ← (pure kind_1); ixM x y); let xs ← (pure []); pure (x :: xs)); pure (x :: xs)); m__law_good_as xs); asB x); pure (!x))) (on1 fun kind_1 => (pure kind_1)) xs; lstM ys); let y ← (do let xs ← (pure []); lstM xs); eqM x y); pure (.ret d)))
def m__law_covers : List D → M D := fun ds => fin (on2 b__law_covers ds)
theorem ok__law_covers (t : Tx K mg) (hT : TbOk base mg K) : FnOk P w K mg base (L2.CX P w) 2 (He.fAd K ("_law_covers", none)) t.d__law_covers ["one", "other"] (spec K w mg (tabsOf K htf) m__law_covers) := by
  refine fn_den (k := 1) t.F__law_covers sc__law_covers (fun ds ms h => fin_bad (on2_bad h)) (fun ds _ => rfl) fun cdv A outer s H E hr ds hl => ?_
  have nd := sc__law_covers.nd
  have hk := takesE (X := (cxOf (L2.CX P w) P w K mg base ["one", "other", "kind"] "_law_covers" (defScope s__law_covers) (He.fAd K ("_law_covers", none)) cdv A outer s H E)) rfl rfl rfl rfl
  have hx := passE (X := (cxOf (L2.CX P w) P w K mg base ["one", "other", "kind"] "_law_covers" (defScope s__law_covers) (He.fAd K ("_law_covers", none)) cdv A outer s H E)) rfl rfl rfl rfl
  have hp : PassesOwn (model P w) (cxOf (L2.CX P w) P w K mg base ["one", "other", "kind"] "_law_covers" (defScope s__law_covers) (He.fAd K ("_law_covers", none)) cdv A outer s H E).A (cxOf (L2.CX P w) P w K mg base ["one", "other", "kind"] "_law_covers" (defScope s__law_covers) (He.fAd K ("_law_covers", none)) cdv A outer s H E).env (cxOf (L2.CX P w) P w K mg base ["one", "other", "kind"] "_law_covers" (defScope s__law_covers) (He.fAd K ("_law_covers", none)) cdv A outer s H E).xe := passes_of (X := (cxOf (L2.CX P w) P w K mg base ["one", "other", "kind"] "_law_covers" (defScope s__law_covers) (He.fAd K ("_law_covers", none)) cdv A outer s H E)) rfl
  have G__law_good_as := ok__law_good_as (P := P) (w := w) (base := base) t hT
  exact match ds, hl with
    | [v_one, v_other], _ => (db_if (dt_cmp (op_neP hr.units) od_ne (de_ix (de_var 0) de_int) (de_ix (de_var 1) de_int) (nomark _)) (db_ret de_bl) (db_ret (de_cmp (op_eqP hr.units) od_eq (de_lc (own := [("kind", 2)]) rfl nd (di_range1 (by rfl) t.n_range (da_cons (de_callB call_len cd_len (by rfl) t.n_len t.v_len (da_cons (de_ix (de_var 0) de_int) da_nil)) da_nil)) (blkOk_by (N := ["one", "other", "kind"]) (sc := defScope s__law_covers) (by decide +kernel)) (hown_cons rfl hown_nil) (by decide) (fun _ _ _ _ _ => (dg_name nd)) (fun ds hl => match ds, hl with | [kind_1], _ => fun _ _ _ _ _ => ⟨(dts_one (dt_not (dt_of (de_call G__law_good_as (hr.mono (by decide)) (by rfl) t.g__law_good_as t.F__law_good_as.kp t.b__law_good_as passL (da_cons (de_ix (de_ix (de_var 0) de_int) (de_var 2)) (da_cons (de_ix (de_ix (de_var 1) de_int) (de_var 2)) da_nil)))))), (de_var 2)⟩)) (de_lst da_nil) (nomark _))))
def b__law_right (v_town v_value : D) : M (Out Unit) :=
  (do let found_1 ← (do let xs ← (do let x ← (do let xs ← (do let x ← (pure v_value); let xs ← (pure []); pure (x :: xs)); m_is_town xs); let xs ← (do let x ← (do let xs ← (do let x ← (pure v_town); let xs ← (do let x ← (pure v_value); let xs ← (pure []); pure (x :: xs)); pure (x :: xs)); m_is_stand xs); let xs ← (pure []); pure (x :: xs)); pure (x :: xs)); lstM xs); (do let x ← (do let x ← (do let xs ← (do let x ← (pure found_1); itemsM x); let ys ← lcM (.nm 4) (on1 fun one_2 => (do let x ← (do let x ← (do let x ← (pure one_2); isiM "bool" x); asB x); pure (!x))) (on1 fun one_2 => (pure one_2)) xs; lstM ys); let y ← (do let xs ← (pure []); lstM xs); let z ← neM x y; asB z); if x = true then lift0 (do let d ← (pure (.bool false)); pure (.ret d)) else (do let x ← (do let x ← (pure found_1); let y ← (do let xs ← (do let x ← (do let xs ← (do let x ← (pure v_value); let xs ← (pure []); pure (x :: xs)); m__law_is_town xs); let xs ← (do let x ← (do let xs ← (do let x ← (pure v_town); let xs ← (do let x ← (pure v_value); let xs ← (pure []); pure (x :: xs)); pure (x :: xs)); m__law_is_stand xs); let xs ← (pure []); pure (x :: xs)); pure (x :: xs)); lstM xs); let z ← neM x y; asB z); if x = true then lift0 (do let d ← (pure (.bool false)); pure (.ret d)) else (do let x ← (do let x ← (do let x ← (do let x ← (do let x ← (pure found_1); let y ← (pure (.int 0)); ixM x y); asB x); pure (!x)); if x = true then (do let x ← (catchS subT hknown [("InvalidTown", "town"), ("InvalidStand", "stand"), ("PaperError", "else")] "none" (do let xs ← (do let x ← (pure v_value); let xs ← (pure []); pure (x :: xs)); m_count_stands xs)); let y ← (pure (.str "town")); let z ← neM x y; asB z) else pure false); if x = true then lift0 (do let d ← (pure (.bool false)); pure (.ret d)) else (do let stand_3 ← (do let xs ← (do let x ← (pure (.int 0)); let xs ← (do let x ← (do let x ← (do let xs ← (do let x ← (do let xs ← (pure []); tupM xs); let xs ← (pure []); pure (x :: xs)); tupM xs); let y ← (do let xs ← (do let x ← (do let x ← (pure v_town); let y ← (pure (.int 1)); ixM x y); let xs ← (pure []); pure (x :: xs)); lenM xs); mulM x y); let xs ← (pure []); pure (x :: xs)); pure (x :: xs)); tupM xs); (do let d ← (do let x ← (do let x ← (pure found_1); let y ← (pure (.int 1)); ixM x y); let c ← asB x; if c = true then pure (.bool true) else (do let x ← (catchS subT hknown [("InvalidTown", "town"), ("InvalidStand", "stand"), ("PaperError", "else")] "none" (do let xs ← (do let x ← (pure v_town); let xs ← (do let x ← (pure stand_3); let xs ← (do let x ← (pure v_value); let xs ← (pure []); pure (x :: xs)); pure (x :: xs)); pure (x :: xs)); m_covers xs)); let y ← (pure (.str "stand")); eqM x y)); pure (.ret d)))))))
def m__law_right : List D → M D := fun ds => fin (on2 b__law_right ds)
theorem L__law_right : (("_law_right", none) : He.Defn) ∈ htf := by unfold htf; repeat (first | exact List.Mem.head _ | apply List.Mem.tail)
theorem ok__law_right (t : Tx K mg) (hT : TbOk base mg K) : FnOk P w K mg base (L2.CX P w) 10 (He.fAd K ("_law_right", none)) t.d__law_right ["town", "value"] (spec K w mg (tabsOf K htf) m__law_right) := by
  refine fn_denC (k := 9) t.F__law_right sc__law_right (fun ds ms h => fin_bad (on2_bad h)) (fun ds _ => rfl) fun A outer s H E hr ds hl => ?_
  have nd := sc__law_right.nd
  have hk := takesE (X := (cxOf (L2.CX P w) P w K mg base ["town", "value", "found", "stand", "one"] "_law_right" (defScope s__law_right) (He.fAd K ("_law_right", none)) (.ref (He.cT K ("_law_right", none)).1) A outer s H E)) rfl rfl rfl rfl
  have hx := passE (X := (cxOf (L2.CX P w) P w K mg base ["town", "value", "found", "stand", "one"] "_law_right" (defScope s__law_right) (He.fAd K ("_law_right", none)) (.ref (He.cT K ("_law_right", none)).1) A outer s H E)) rfl rfl rfl rfl
  have hp : PassesOwn (model P w) (cxOf (L2.CX P w) P w K mg base ["town", "value", "found", "stand", "one"] "_law_right" (defScope s__law_right) (He.fAd K ("_law_right", none)) (.ref (He.cT K ("_law_right", none)).1) A outer s H E).A (cxOf (L2.CX P w) P w K mg base ["town", "value", "found", "stand", "one"] "_law_right" (defScope s__law_right) (He.fAd K ("_law_right", none)) (.ref (He.cT K ("_law_right", none)).1) A outer s H E).env (cxOf (L2.CX P w) P w K mg base ["town", "value", "found", "stand", "one"] "_law_right" (defScope s__law_right) (He.fAd K ("_law_right", none)) (.ref (He.cT K ("_law_right", none)).1) A outer s H E).xe := passes_of (X := (cxOf (L2.CX P w) P w K mg base ["town", "value", "found", "stand", "one"] "_law_right" (defScope s__law_right) (He.fAd K ("_law_right", none)) (.ref (He.cT K ("_law_right", none)).1) A outer s H E)) rfl
  have G__law_is_stand := ok__law_is_stand (P := P) (w := w) (base := base) t hT
  have G__law_is_town := ok__law_is_town (P := P) (w := w) (base := base) t hT
  have G_count_stands := ok_count_stands (P := P) (w := w) (base := base) t hT
  have G_covers := ok_covers (P := P) (w := w) (base := base) t hT
  have G_is_stand := ok_is_stand (P := P) (w := w) (base := base) t hT
  have G_is_town := ok_is_town (P := P) (w := w) (base := base) t hT
  exact match ds, hl with
    | [v_town, v_value], _ => (db_set (i := 2) nd (de_lst (da_cons (de_call G_is_town (hr.mono (by decide)) (by rfl) t.g_is_town t.F_is_town.kp t.b_is_town hx (da_cons (de_var 1) da_nil)) (da_cons (de_call G_is_stand (hr.mono (by decide)) (by rfl) t.g_is_stand t.F_is_stand.kp t.b_is_stand hx (da_cons (de_var 0) (da_cons (de_var 1) da_nil))) da_nil))) (fun found_1 => (db_if (dt_cmp (op_neP hr.units) od_ne (de_lc (own := [("one", 4)]) rfl nd (di_seq (de_var 2)) (blkOk_by (N := ["town", "value", "found", "stand", "one"]) (sc := defScope s__law_right) (by decide +kernel)) (hown_cons rfl hown_nil) (by decide) (fun _ _ _ _ _ => (dg_name nd)) (fun ds hl => match ds, hl with | [one_2], _ => fun _ _ _ _ _ => ⟨(dts_one (dt_not (dt_of (de_isi (de_var 4) (by rfl) t.n_isinstance t.v_isinstance (by rfl) t.n_bool t.v_bool)))), (de_var 4)⟩)) (de_lst da_nil) (nomark _)) (db_ret de_bl) (db_if (dt_cmp (op_neP hr.units) od_ne (de_var 2) (de_lst (da_cons (de_call G__law_is_town (hr.mono (by decide)) (by rfl) t.g__law_is_town t.F__law_is_town.kp t.b__law_is_town hx (da_cons (de_var 1) da_nil)) (da_cons (de_call G__law_is_stand (hr.mono (by decide)) (by rfl) t.g__law_is_stand t.F__law_is_stand.kp t.b__law_is_stand hx (da_cons (de_var 0) (da_cons (de_var 1) da_nil))) da_nil))) (nomark _)) (db_ret de_bl) (db_if ((dw_and (dt_not (dt_of (de_ix (de_var 2) de_int))) (dw_and1 (dt_cmp (op_neP hr.units) od_ne (de_lamc (X := (cxOf (L2.CX P w) P w K mg base ["town", "value", "found", "stand", "one"] "_law_right" (defScope s__law_right) (He.fAd K ("_law_right", none)) (.ref (He.cT K ("_law_right", none)).1) A outer s H E)) (C := ⟨K, w, mg, tabsOf K htf, E⟩) (x0 := "_law_right") (tf := htf) (k := 7) (cl := fun x => .ref (He.ga K x)) (hs := [("InvalidTown", "town"), ("InvalidStand", "stand"), ("PaperError", "else")]) (known := hknown) (sub := subT) rfl rfl (by rfl) t.g__law_error t.F__law_error t.b__law_error rfl sc__law_error rfl (.inl rfl) (fun _ => rfl) (.cons rfl t.g_InvalidTown rfl (.cons rfl t.g_InvalidStand rfl (.cons rfl t.g_PaperError rfl .nil))) (sub_ok t (by decide)) hT rfl (by dsimp only [cxOf, envOfC]) rfl L__law_right t.nd (hr.mono (by decide)) (LamX.lamS_by (sc := defScope s__law_right) (by decide +kernel)) rfl (fun _ _ _ _ _ => rfl) (fun A outer s H E f c' hr => (de_call G_count_stands (hr.mono (by decide)) (by rfl) t.g_count_stands t.F_count_stands.kp t.b_count_stands (passE rfl rfl rfl rfl) (da_cons (de_var 1) da_nil)))) de_str (nomark _))))).pt (db_ret de_bl) (db_set (i := 3) nd (de_tup (da_cons de_int (da_cons (de_op op_mulP od_mul (de_tup (da_cons (de_tup da_nil) da_nil)) (de_callB call_len cd_len (by rfl) t.n_len t.v_len (da_cons (de_ix (de_var 0) de_int) da_nil))) da_nil))) (fun stand_3 => (db_ret (de_or (de_ix (de_var 2) de_int) (de_one (de_cmp (op_eqP hr.units) od_eq (de_lamc (X := (cxOf (L2.CX P w) P w K mg base ["town", "value", "found", "stand", "one"] "_law_right" (defScope s__law_right) (He.fAd K ("_law_right", none)) (.ref (He.cT K ("_law_right", none)).1) A outer s H E)) (C := ⟨K, w, mg, tabsOf K htf, E⟩) (x0 := "_law_right") (tf := htf) (k := 7) (cl := fun x => .ref (He.ga K x)) (hs := [("InvalidTown", "town"), ("InvalidStand", "stand"), ("PaperError", "else")]) (known := hknown) (sub := subT) rfl rfl (by rfl) t.g__law_error t.F__law_error t.b__law_error rfl sc__law_error rfl (.inl rfl) (fun _ => rfl) (.cons rfl t.g_InvalidTown rfl (.cons rfl t.g_InvalidStand rfl (.cons rfl t.g_PaperError rfl .nil))) (sub_ok t (by decide)) hT rfl (by dsimp only [cxOf, envOfC]) rfl L__law_right t.nd (hr.mono (by decide)) (LamX.lamS_by (sc := defScope s__law_right) (by decide +kernel)) rfl (fun _ _ _ _ _ => rfl) (fun A outer s H E f c' hr => (de_call G_covers (hr.mono (by decide)) (by rfl) t.g_covers t.F_covers.kp t.b_covers (passE rfl rfl rfl rfl) (da_cons (de_var 0) (da_cons (de_var 3) (da_cons (de_var 1) da_nil)))))) de_str (nomark _))))))))))))
def f_law_1 (urn_3 : D) (town_4 : D) : List D → (D) → M (Out (D)) :=
  fun ds (t_8 : D) => on1 (fun again_9 => (do let x ← (do let x ← (do let x ← (do let xs ← (do let x ← (pure town_4); let xs ← (do let x ← (pure t_8); let xs ← (pure []); pure (x :: xs)); pure (x :: xs)); m__law_right xs); asB x); pure (!x)); if x = true then lift0 (do let d ← (pure (.bool false)); pure (.ret d)) else (do let value_10 ← (do let xs ← (do let x ← (pure urn_3); let xs ← (do let x ← (pure t_8); let xs ← (pure []); pure (x :: xs)); pure (x :: xs)); m__law_bent RF xs); (pure (.nxt value_10))))) ds
def f_law_2 (urn_3 : D) (town_4 : D) : List D → Unit → M (Out (Unit)) :=
  fun ds (t_5 : Unit) => on1 (fun turn_6 => (do let value_7 ← (do let xs ← (do let x ← (pure urn_3); let xs ← (do let x ← (do let xs ← (do let x ← (pure town_4); let xs ← (do let x ← (pure town_4); let xs ← (do let x ← (do let xs ← (do let x ← (pure urn_3); let xs ← (do let x ← (pure town_4); let xs ← (pure []); pure (x :: xs)); pure (x :: xs)); m__law_stand xs); let xs ← (pure []); pure (x :: xs)); pure (x :: xs)); pure (x :: xs)); lstM xs); let xs ← (pure []); pure (x :: xs)); pure (x :: xs)); m__law_any xs); (do let xs ← (do let xs ← (do let x ← (pure (.int 3)); let xs ← (pure []); pure (x :: xs)); range1M xs); joinO (forM (fun d (t_8 : D) => do let ds ← M.opt (patD (.nm 6) d); (f_law_1 urn_3 town_4) ds t_8) xs value_7) (fun (t_8 : D) => (pure (.nxt ())))))) ds
def f_law_3 (urn_3 : D) (town_4 : D) : List D → Unit → M (Out (Unit)) :=
  fun ds (t_11 : Unit) => on1 (fun turn_12 => (do let ds ← (do let x ← (do let xs ← (do let x ← (pure urn_3); let xs ← (do let x ← (pure town_4); let xs ← (pure []); pure (x :: xs)); pure (x :: xs)); m__law_stand xs); let xs ← (do let x ← (do let xs ← (do let x ← (pure urn_3); let xs ← (do let x ← (pure town_4); let xs ← (pure []); pure (x :: xs)); pure (x :: xs)); m__law_stand xs); let xs ← (pure []); pure (x :: xs)); pure (x :: xs)); on2 (fun one_13 other_14 => (do let other_15 ← (do let xs ← (do let x ← (do let xs ← (do let x ← (pure urn_3); let xs ← (do let x ← (do let xs ← (do let x ← (do let x ← (pure one_13); let y ← (pure (.int 0)); ixM x y); let xs ← (do let x ← (do let x ← (pure other_14); let y ← (pure (.int 0)); ixM x y); let xs ← (pure []); pure (x :: xs)); pure (x :: xs)); lstM xs); let xs ← (pure []); pure (x :: xs)); pure (x :: xs)); m__law_any xs); let xs ← (do let x ← (do let x ← (pure other_14); let y ← (pure (.int 1)); ixM x y); let xs ← (pure []); pure (x :: xs)); pure (x :: xs)); tupM xs); (do let x ← (do let x ← (do let x ← (do let xs ← (do let x ← (pure town_4); let xs ← (do let x ← (pure one_13); let xs ← (do let x ← (pure other_15); let xs ← (pure []); pure (x :: xs)); pure (x :: xs)); pure (x :: xs)); m_covers xs); let y ← (do let xs ← (do let x ← (pure one_13); let xs ← (do let x ← (pure other_15); let xs ← (pure []); pure (x :: xs)); pure (x :: xs)); m__law_covers xs); let z ← neM x y; asB z); if x = true then pure true else (do let x ← (do let x ← (do let xs ← (do let x ← (pure town_4); let xs ← (do let x ← (pure one_13); let xs ← (do let x ← (pure one_13); let xs ← (pure []); pure (x :: xs)); pure (x :: xs)); pure (x :: xs)); m_covers xs); asB x); pure (!x))); if x = true then (do let d ← (pure (.bool false)); pure (.ret d)) else (pure (.nxt ()))))) ds)) ds
def f_law_4 : List D → Unit → M (Out (Unit)) :=
  fun ds (t_1 : Unit) => on1 (fun cell_2 => (do let urn_3 ← (do let xs ← (do let x ← (pure cell_2); let xs ← (do let x ← (pure (.int 3)); let xs ← (pure []); pure (x :: xs)); pure (x :: xs)); m__law_urn xs); (do let town_4 ← (do let xs ← (do let x ← (pure urn_3); let xs ← (do let x ← (pure (.int 3)); let xs ← (do let x ← (pure (.int 5)); let xs ← (pure []); pure (x :: xs)); pure (x :: xs)); pure (x :: xs)); m__law_town xs); (do let x ← (do let x ← (do let x ← (do let x ← (do let xs ← (do let x ← (pure town_4); let xs ← (pure []); pure (x :: xs)); m_is_town xs); asB x); pure (!x)); if x = true then pure true else (do let x ← (do let xs ← (do let x ← (pure town_4); let xs ← (pure []); pure (x :: xs)); m_count_stands xs); let y ← (do let xs ← (do let x ← (do let xs ← (do let x ← (pure town_4); let xs ← (pure []); pure (x :: xs)); m__law_all xs); let xs ← (pure []); pure (x :: xs)); lenM xs); let z ← neM x y; asB z)); if x = true then lift0 (do let d ← (pure (.bool false)); pure (.ret d)) else (do let xs ← (do let xs ← (do let x ← (pure (.int 10)); let xs ← (pure []); pure (x :: xs)); range1M xs); joinO (forM (fun d (t_5 : Unit) => do let ds ← M.opt (patD (.nm 4) d); (f_law_2 urn_3 town_4) ds t_5) xs ()) (fun (t_5 : Unit) => (do let x ← (do let x ← (do let x ← (do let xs ← (do let x ← (pure town_4); let xs ← (do let x ← (do let xs ← (do let x ← (pure urn_3); let xs ← (pure []); pure (x :: xs)); m__law_odd xs); let xs ← (pure []); pure (x :: xs)); pure (x :: xs)); m__law_right xs); asB x); pure (!x)); if x = true then lift0 (do let d ← (pure (.bool false)); pure (.ret d)) else (do let xs ← (do let xs ← (do let x ← (pure (.int 20)); let xs ← (pure []); pure (x :: xs)); range1M xs); joinO (forM (fun d (t_11 : Unit) => do let ds ← M.opt (patD (.nm 4) d); (f_law_3 urn_3 town_4) ds t_11) xs ()) (fun (t_11 : Unit) => (pure (.nxt ()))))))))))) ds
def b_law (v_script : D) : M (Out Unit) :=
  (do let xs ← (do let x ← (do let x ← (do let x ← (do let xs ← (do let x ← (pure (.int 0)); let xs ← (pure []); pure (x :: xs)); lstM xs); let y ← (pure v_script); addM x y); let l ← (pure none); let h ← (do let x ← (pure (.int 10)); asI x); slM x l h); itemsM x); joinO (forM (fun d (t_1 : Unit) => do let ds ← M.opt (patD (.nm 1) d); (f_law_4) ds t_1) xs ()) (fun (t_1 : Unit) => (do let kinds_16 ← (do let xs ← (do let x ← (do let xs ← (do let x ← (pure (.int 2)); let xs ← (do let x ← (pure (.int 1)); let xs ← (pure []); pure (x :: xs)); pure (x :: xs)); tupM xs); let xs ← (do let x ← (do let xs ← (do let x ← (pure (.int 4)); let xs ← (do let x ← (pure (.int 2)); let xs ← (pure []); pure (x :: xs)); pure (x :: xs)); tupM xs); let xs ← (pure []); pure (x :: xs)); pure (x :: xs)); tupM xs); (do let desk_17 ← (do let xs ← (do let x ← (do let xs ← (do let x ← (pure (.int 0)); let xs ← (pure []); pure (x :: xs)); tupM xs); let xs ← (do let x ← (do let xs ← (do let x ← (do let xs ← (do let x ← (pure (.int 0)); let xs ← (do let x ← (pure (.int 3)); let xs ← (pure []); pure (x :: xs)); pure (x :: xs)); tupM xs); let xs ← (pure []); pure (x :: xs)); tupM xs); let xs ← (do let x ← (do let xs ← (do let x ← (pure (.int 1)); let xs ← (pure []); pure (x :: xs)); tupM xs); let xs ← (do let x ← (do let xs ← (pure []); tupM xs); let xs ← (do let x ← (pure (.int 1)); let xs ← (do let x ← (pure (.int 2)); let xs ← (do let x ← (pure (.int 9)); let xs ← (pure []); pure (x :: xs)); pure (x :: xs)); pure (x :: xs)); pure (x :: xs)); pure (x :: xs)); pure (x :: xs)); pure (x :: xs)); tupM xs); (do let bad_18 ← (do let xs ← (do let x ← (do let xs ← (do let x ← (pure (.int 0)); let xs ← (do let x ← (do let xs ← (pure []); tupM xs); let xs ← (pure []); pure (x :: xs)); pure (x :: xs)); tupM xs); let xs ← (do let x ← (do let xs ← (do let x ← (pure (.int 0)); let xs ← (do let x ← (do let xs ← (do let x ← (pure (.int 2)); let xs ← (pure []); pure (x :: xs)); tupM xs); let xs ← (pure []); pure (x :: xs)); pure (x :: xs)); tupM xs); let xs ← (do let x ← (do let xs ← (do let x ← (pure (.int 1)); let xs ← (do let x ← (do let xs ← (do let x ← (do let xs ← (do let x ← (pure (.int 0)); let xs ← (do let x ← (pure (.int 4)); let xs ← (pure []); pure (x :: xs)); pure (x :: xs)); tupM xs); let xs ← (pure []); pure (x :: xs)); tupM xs); let xs ← (pure []); pure (x :: xs)); pure (x :: xs)); tupM xs); let xs ← (do let x ← (do let xs ← (do let x ← (pure (.int 1)); let xs ← (do let x ← (do let xs ← (do let x ← (do let xs ← (do let x ← (pure (.int 0)); let xs ← (do let x ← (pure (.int 1)); let xs ← (pure []); pure (x :: xs)); pure (x :: xs)); tupM xs); let xs ← (do let x ← (do let xs ← (do let x ← (pure (.int 0)); let xs ← (do let x ← (pure (.int 2)); let xs ← (pure []); pure (x :: xs)); pure (x :: xs)); tupM xs); let xs ← (pure []); pure (x :: xs)); pure (x :: xs)); tupM xs); let xs ← (pure []); pure (x :: xs)); pure (x :: xs)); tupM xs); let xs ← (do let x ← (do let xs ← (do let x ← (pure (.int 2)); let xs ← (do let x ← (do let xs ← (do let x ← (pure (.int 0)); let xs ← (pure []); pure (x :: xs)); tupM xs); let xs ← (pure []); pure (x :: xs)); pure (x :: xs)); tupM xs); let xs ← (do let x ← (do let xs ← (do let x ← (pure (.int 3)); let xs ← (do let x ← (do let xs ← (do let x ← (pure (.int 1)); let xs ← (pure []); pure (x :: xs)); tupM xs); let xs ← (pure []); pure (x :: xs)); pure (x :: xs)); tupM xs); let xs ← (do let x ← (do let xs ← (do let x ← (pure (.int 4)); let xs ← (do let x ← (pure (.int 2)); let xs ← (pure []); pure (x :: xs)); pure (x :: xs)); tupM xs); let xs ← (do let x ← (do let xs ← (do let x ← (pure (.int 5)); let xs ← (do let x ← (pure (.int 3)); let xs ← (pure []); pure (x :: xs)); pure (x :: xs)); tupM xs); let xs ← (do let x ← (do let xs ← (do let x ← (pure (.int 6)); let xs ← (do let x ← (pure (.int 10)); let xs ← (pure []); pure (x :: xs)); pure (x :: xs)); tupM xs); let xs ← (pure []); pure (x :: xs)); pure (x :: xs)); pure (x :: xs)); pure (x :: xs)); pure (x :: xs)); pure (x :: xs)); pure (x :: xs)); pure (x :: xs)); pure (x :: xs)); lstM xs); (do let rows_19 ← (do let xs ← (do let x ← (pure bad_18); itemsM x); let ys ← lcM (.tp [(.nm 13), (.nm 14)]) (on2 fun at_20 odd_21 => (pure true)) (on2 fun at_20 odd_21 => (do let xs ← (do let x ← (pure (.int 2)); let xs ← (do let x ← (pure kinds_16); let xs ← (do let x ← (do let xs ← (do let x ← (do let x ← (do let x ← (do let x ← (pure desk_17); let l ← (pure none); let h ← (do let x ← (pure at_20); asI x); slM x l h); let y ← (do let xs ← (do let x ← (pure odd_21); let xs ← (pure []); pure (x :: xs)); tupM xs); addM x y); let y ← (do let x ← (pure desk_17); let l ← (do let x ← (do let x ← (pure at_20); let y ← (pure (.int 1)); addM x y); asI x); let h ← (pure none); slM x l h); addM x y); let xs ← (pure []); pure (x :: xs)); tupM xs); let xs ← (pure []); pure (x :: xs)); pure (x :: xs)); pure (x :: xs)); tupM xs)) xs; lstM ys); (do let rows_22 ← (do let x ← (pure rows_19); let y ← (do let xs ← (do let x ← (do let xs ← (do let x ← (pure (.int 2)); let xs ← (do let x ← (pure kinds_16); let xs ← (do let x ← (do let x ← (do let xs ← (do let x ← (pure desk_17); let xs ← (pure []); pure (x :: xs)); tupM xs); let y ← (pure (.int 5)); mulM x y); let xs ← (pure []); pure (x :: xs)); pure (x :: xs)); pure (x :: xs)); tupM xs); let xs ← (do let x ← (do let xs ← (do let x ← (pure (.int 2)); let xs ← (do let x ← (pure kinds_16); let xs ← (do let x ← (do let x ← (do let xs ← (do let x ← (pure desk_17); let xs ← (pure []); pure (x :: xs)); tupM xs); let y ← (pure (.int 6)); mulM x y); let xs ← (pure []); pure (x :: xs)); pure (x :: xs)); pure (x :: xs)); tupM xs); let xs ← (do let x ← (do let xs ← (do let x ← (pure (.int 4)); let xs ← (do let x ← (pure kinds_16); let xs ← (do let x ← (do let xs ← (pure []); tupM xs); let xs ← (pure []); pure (x :: xs)); pure (x :: xs)); pure (x :: xs)); tupM xs); let xs ← (do let x ← (do let xs ← (do let x ← (pure (.int 2)); let xs ← (do let x ← (do let xs ← (pure []); tupM xs); let xs ← (do let x ← (do let xs ← (pure []); tupM xs); let xs ← (pure []); pure (x :: xs)); pure (x :: xs)); pure (x :: xs)); tupM xs); let xs ← (do let x ← (do let xs ← (do let x ← (pure (.int 2)); let xs ← (do let x ← (do let x ← (pure kinds_16); let y ← (pure (.int 2)); mulM x y); let xs ← (do let x ← (do let xs ← (pure []); tupM xs); let xs ← (pure []); pure (x :: xs)); pure (x :: xs)); pure (x :: xs)); tupM xs); let xs ← (pure []); pure (x :: xs)); pure (x :: xs)); pure (x :: xs)); pure (x :: xs)); pure (x :: xs)); lstM xs); addM x y); (do let x ← (pure rows_22); let y ← (do let xs ← (do let x ← (do let xs ← (do let x ← (pure (.int 1)); let xs ← (do let x ← (do let xs ← (do let x ← (do let xs ← (do let x ← (pure (.int 5)); let xs ← (do let x ← (pure (.int 1)); let xs ← (pure []); pure (x :: xs)); pure (x :: xs)); tupM xs); let xs ← (pure []); pure (x :: xs)); tupM xs); let xs ← (do let x ← (do let xs ← (pure []); tupM xs); let xs ← (pure []); pure (x :: xs)); pure (x :: xs)); pure (x :: xs)); tupM xs); let xs ← (do let x ← (do let xs ← (do let x ← (pure (.int 1)); let xs ← (do let x ← (do let xs ← (do let x ← (do let xs ← (do let x ← (pure (.int 1)); let xs ← (do let x ← (pure (.int 3)); let xs ← (pure []); pure (x :: xs)); pure (x :: xs)); tupM xs); let xs ← (pure []); pure (x :: xs)); tupM xs); let xs ← (do let x ← (do let xs ← (pure []); tupM xs); let xs ← (pure []); pure (x :: xs)); pure (x :: xs)); pure (x :: xs)); tupM xs); let xs ← (do let x ← (do let xs ← (do let x ← (pure (.int 1)); let xs ← (do let x ← (do let xs ← (do let x ← (do let xs ← (do let x ← (pure (.int 1)); let xs ← (do let x ← (pure (.int 1)); let xs ← (pure []); pure (x :: xs)); pure (x :: xs)); tupM xs); let xs ← (pure []); pure (x :: xs)); tupM xs); let xs ← (do let x ← (do let xs ← (pure []); tupM xs); let xs ← (pure []); pure (x :: xs)); pure (x :: xs)); pure (x :: xs)); tupM xs); let xs ← (do let x ← (do let xs ← (do let x ← (pure (.int 2)); let xs ← (do let x ← (pure kinds_16); let xs ← (do let x ← (do let xs ← (do let x ← (do let x ← (pure desk_17); let l ← (pure none); let h ← (do let x ← (pure (.int 6)); asI x); slM x l h); let xs ← (pure []); pure (x :: xs)); tupM xs); let xs ← (pure []); pure (x :: xs)); pure (x :: xs)); pure (x :: xs)); tupM xs); let xs ← (pure []); pure (x :: xs)); pure (x :: xs)); pure (x :: xs)); pure (x :: xs)); lstM xs); ownAddK x y (fun rows_23 => (do let d_24 ← (do let xs ← (do let x ← (pure (.bool true)); let xs ← (do let x ← (pure kinds_16); let xs ← (do let x ← (do let xs ← (pure []); tupM xs); let xs ← (pure []); pure (x :: xs)); pure (x :: xs)); pure (x :: xs)); tupM xs); appK rows_23 d_24 (fun r_25 => (do let town_26 ← (do let xs ← (do let x ← (pure (.int 2)); let xs ← (do let x ← (pure kinds_16); let xs ← (do let x ← (do let xs ← (do let x ← (pure desk_17); let xs ← (pure []); pure (x :: xs)); tupM xs); let xs ← (pure []); pure (x :: xs)); pure (x :: xs)); pure (x :: xs)); tupM xs); (do let rows_27 ← (do let x ← (pure (.list r_25)); let y ← (do let xs ← (do let x ← (do let xs ← (do let x ← (pure (.int 0)); let xs ← (do let x ← (do let xs ← (do let x ← (do let xs ← (do let x ← (pure (.int 1)); let xs ← (do let x ← (pure (.int 1)); let xs ← (pure []); pure (x :: xs)); pure (x :: xs)); tupM xs); let xs ← (do let x ← (do let xs ← (do let x ← (pure (.int 3)); let xs ← (do let x ← (pure (.int 2)); let xs ← (pure []); pure (x :: xs)); pure (x :: xs)); tupM xs); let xs ← (pure []); pure (x :: xs)); pure (x :: xs)); tupM xs); let xs ← (pure []); pure (x :: xs)); pure (x :: xs)); tupM xs); let xs ← (do let x ← (do let xs ← (do let x ← (pure (.int 0)); let xs ← (do let x ← (do let xs ← (do let x ← (do let xs ← (do let x ← (pure (.int 2)); let xs ← (do let x ← (pure (.int 1)); let xs ← (pure []); pure (x :: xs)); pure (x :: xs)); tupM xs); let xs ← (do let x ← (do let xs ← (pure []); tupM xs); let xs ← (pure []); pure (x :: xs)); pure (x :: xs)); tupM xs); let xs ← (pure []); pure (x :: xs)); pure (x :: xs)); tupM xs); let xs ← (do let x ← (do let xs ← (do let x ← (pure (.int 0)); let xs ← (do let x ← (do let xs ← (do let x ← (do let xs ← (do let x ← (pure (.int 0)); let xs ← (do let x ← (pure (.int 2)); let xs ← (pure []); pure (x :: xs)); pure (x :: xs)); tupM xs); let xs ← (do let x ← (do let xs ← (pure []); tupM xs); let xs ← (pure []); pure (x :: xs)); pure (x :: xs)); tupM xs); let xs ← (pure []); pure (x :: xs)); pure (x :: xs)); tupM xs); let xs ← (do let x ← (do let xs ← (do let x ← (pure (.int 0)); let xs ← (do let x ← (do let xs ← (do let x ← (do let xs ← (pure []); tupM xs); let xs ← (do let x ← (do let xs ← (do let x ← (pure (.int 3)); let xs ← (pure []); pure (x :: xs)); tupM xs); let xs ← (pure []); pure (x :: xs)); pure (x :: xs)); tupM xs); let xs ← (pure []); pure (x :: xs)); pure (x :: xs)); tupM xs); let xs ← (pure []); pure (x :: xs)); pure (x :: xs)); pure (x :: xs)); pure (x :: xs)); lstM xs); addM x y); (do let rows_28 ← (do let x ← (pure rows_27); let y ← (do let xs ← (do let x ← (do let xs ← (do let x ← (pure (.int 2)); let xs ← (do let x ← (do let xs ← (do let x ← (do let xs ← (pure []); tupM xs); let xs ← (do let x ← (do let xs ← (pure []); tupM xs); let xs ← (pure []); pure (x :: xs)); pure (x :: xs)); tupM xs); let xs ← (pure []); pure (x :: xs)); pure (x :: xs)); tupM xs); let xs ← (do let x ← (do let xs ← (do let x ← (pure (.int 0)); let xs ← (do let x ← (do let xs ← (do let x ← (do let xs ← (pure []); tupM xs); let xs ← (pure []); pure (x :: xs)); tupM xs); let xs ← (pure []); pure (x :: xs)); pure (x :: xs)); tupM xs); let xs ← (pure []); pure (x :: xs)); pure (x :: xs)); lstM xs); addM x y); (do let d ← (do let x ← (do let xs ← (do let x ← (pure rows_28); itemsM x); let ys ← lcM (.nm 5) (on1 fun value_29 => (do let x ← (do let x ← (do let xs ← (do let x ← (pure town_26); let xs ← (do let x ← (pure value_29); let xs ← (pure []); pure (x :: xs)); pure (x :: xs)); m__law_right xs); asB x); pure (!x))) (on1 fun value_29 => (pure value_29)) xs; lstM ys); let y ← (do let xs ← (pure []); lstM xs); eqM x y); pure (.ret d))))))))))))))))
def m_law : List D → M D := fun ds => fin (on1 b_law ds)
theorem ok_law (t : Tx K mg) (hT : TbOk base mg K) : FnOk P w K mg base (L2.CX P w) 45 (He.fAd K ("law", none)) t.d_law ["script"] (spec K w mg (tabsOf K htf) m_law) := by
  refine fn_den (k := 44) t.F_law sc_law (fun ds ms h => fin_bad (on1_bad h)) (fun ds _ => rfl) fun cdv A outer s H E hr ds hl => ?_
  have nd := sc_law.nd
  have hk := takesE (X := (cxOf (L2.CX P w) P w K mg base ["script", "cell", "urn", "town", "turn", "value", "again", "one", "other", "kinds", "desk", "bad", "rows", "at", "odd"] "law" (defScope s_law) (He.fAd K ("law", none)) cdv A outer s H E)) rfl rfl rfl rfl
  have hx := passE (X := (cxOf (L2.CX P w) P w K mg base ["script", "cell", "urn", "town", "turn", "value", "again", "one", "other", "kinds", "desk", "bad", "rows", "at", "odd"] "law" (defScope s_law) (He.fAd K ("law", none)) cdv A outer s H E)) rfl rfl rfl rfl
  have hp : PassesOwn (model P w) (cxOf (L2.CX P w) P w K mg base ["script", "cell", "urn", "town", "turn", "value", "again", "one", "other", "kinds", "desk", "bad", "rows", "at", "odd"] "law" (defScope s_law) (He.fAd K ("law", none)) cdv A outer s H E).A (cxOf (L2.CX P w) P w K mg base ["script", "cell", "urn", "town", "turn", "value", "again", "one", "other", "kinds", "desk", "bad", "rows", "at", "odd"] "law" (defScope s_law) (He.fAd K ("law", none)) cdv A outer s H E).env (cxOf (L2.CX P w) P w K mg base ["script", "cell", "urn", "town", "turn", "value", "again", "one", "other", "kinds", "desk", "bad", "rows", "at", "odd"] "law" (defScope s_law) (He.fAd K ("law", none)) cdv A outer s H E).xe := passes_of (X := (cxOf (L2.CX P w) P w K mg base ["script", "cell", "urn", "town", "turn", "value", "again", "one", "other", "kinds", "desk", "bad", "rows", "at", "odd"] "law" (defScope s_law) (He.fAd K ("law", none)) cdv A outer s H E)) rfl
  have G__law_all := ok__law_all (P := P) (w := w) (base := base) t hT
  have G__law_any := ok__law_any (P := P) (w := w) (base := base) t hT
  have G__law_bent := ok__law_bent (P := P) (w := w) (base := base) RF t hT
  have G__law_covers := ok__law_covers (P := P) (w := w) (base := base) t hT
  have G__law_odd := ok__law_odd (P := P) (w := w) (base := base) t hT
  have G__law_right := ok__law_right (P := P) (w := w) (base := base) t hT
  have G__law_stand := ok__law_stand (P := P) (w := w) (base := base) t hT
  have G__law_town := ok__law_town (P := P) (w := w) (base := base) t hT
  have G__law_urn := ok__law_urn (P := P) (w := w) (base := base) t hT
  have G_count_stands := ok_count_stands (P := P) (w := w) (base := base) t hT
  have G_covers := ok_covers (P := P) (w := w) (base := base) t hT
  have G_is_town := ok_is_town (P := P) (w := w) (base := base) t hT
  exact match ds, hl with
    | [v_script], _ => (db_for (envL := fun (t_1 : Unit) => [.sh v_script, .none, .none, .none, .none, .none, .none, .none, .none, .none, .none, .none, .none, .none, .none]) (p := (.nm 1)) (fb := (f_law_4)) (t0 := ()) hp rfl (di_seq (de_slice (de_op op_addP od_add (de_lst (da_cons de_int da_nil)) (de_var 0)) do_none (do_some de_int))) (dg_name nd) (Wk.keep (Wk.drop (Wk.drop (Wk.drop (Wk.drop (Wk.drop (Wk.drop (Wk.drop (Wk.drop (Wk.drop (Wk.drop (Wk.drop (Wk.drop (Wk.drop (Wk.drop Wk.nil))))))))))))))) (fun t_1 ds hl => match ds, hl with | [cell_2], _ => (db_set (i := 2) nd (de_call G__law_urn (hr.mono (by decide)) (by rfl) t.g__law_urn t.F__law_urn.kp t.b__law_urn hx (da_cons (de_var 1) (da_cons de_int da_nil))) (fun urn_3 => (db_set (i := 3) nd (de_call G__law_town (hr.mono (by decide)) (by rfl) t.g__law_town t.F__law_town.kp t.b__law_town hx (da_cons (de_var 2) (da_cons de_int (da_cons de_int da_nil)))) (fun town_4 => (db_if ((dw_or (dt_not (dt_of (de_call G_is_town (hr.mono (by decide)) (by rfl) t.g_is_town t.F_is_town.kp t.b_is_town hx (da_cons (de_var 3) da_nil)))) (dw_or1 (dt_cmp (op_neP hr.units) od_ne (de_call G_count_stands (hr.mono (by decide)) (by rfl) t.g_count_stands t.F_count_stands.kp t.b_count_stands hx (da_cons (de_var 3) da_nil)) (de_callB call_len cd_len (by rfl) t.n_len t.v_len (da_cons (de_call G__law_all (hr.mono (by decide)) (by rfl) t.g__law_all t.F__law_all.kp t.b__law_all hx (da_cons (de_var 3) da_nil)) da_nil)) (nomark _))))).pt (db_ret de_bl) (db_for (envL := fun (t_5 : Unit) => [.sh v_script, .sh cell_2, .sh urn_3, .sh town_4, .none, .none, .none, .none, .none, .none, .none, .none, .none, .none, .none]) (p := (.nm 4)) (fb := (f_law_2 urn_3 town_4)) (t0 := ()) hp rfl (di_range1 (by rfl) t.n_range (da_cons de_int da_nil)) (dg_name nd) (Wk.keep (Wk.keep (Wk.keep (Wk.keep (Wk.drop (Wk.drop (Wk.drop (Wk.drop (Wk.drop (Wk.drop (Wk.drop (Wk.drop (Wk.drop (Wk.drop (Wk.drop Wk.nil))))))))))))))) (fun t_5 ds hl => match ds, hl with | [turn_6], _ => (db_set (i := 5) nd (de_call G__law_any (hr.mono (by decide)) (by rfl) t.g__law_any t.F__law_any.kp t.b__law_any hx (da_cons (de_var 2) (da_cons (de_lst (da_cons (de_var 3) (da_cons (de_var 3) (da_cons (de_call G__law_stand (hr.mono (by decide)) (by rfl) t.g__law_stand t.F__law_stand.kp t.b__law_stand hx (da_cons (de_var 2) (da_cons (de_var 3) da_nil))) da_nil)))) da_nil))) (fun value_7 => (db_for (envL := fun (t_8 : D) => [.sh v_script, .sh cell_2, .sh urn_3, .sh town_4, .sh turn_6, .sh t_8, .none, .none, .none, .none, .none, .none, .none, .none, .none]) (p := (.nm 6)) (fb := (f_law_1 urn_3 town_4)) (t0 := value_7) hp rfl (di_range1 (by rfl) t.n_range (da_cons de_int da_nil)) (dg_name nd) (Wk.keep (Wk.keep (Wk.keep (Wk.keep (Wk.keep (Wk.keep (Wk.drop (Wk.drop (Wk.drop (Wk.drop (Wk.drop (Wk.drop (Wk.drop (Wk.drop (Wk.drop Wk.nil))))))))))))))) (fun t_8 ds hl => match ds, hl with | [again_9], _ => (db_if (dt_not (dt_of (de_call G__law_right (hr.mono (by decide)) (by rfl) t.g__law_right t.F__law_right.kp t.b__law_right hx (da_cons (de_var 3) (da_cons (de_var 5) da_nil))))) (db_ret de_bl) (db_set (i := 5) nd (de_call G__law_bent (hr.mono (by decide)) (by rfl) t.g__law_bent t.F__law_bent.kp t.b__law_bent hx (da_cons (de_var 2) (da_cons (de_var 5) da_nil))) (fun value_10 => (db_nil (Wk.keep (Wk.keep (Wk.keep (Wk.keep (Wk.keep (Wk.keep (Wk.drop (Wk.drop (Wk.drop (Wk.drop (Wk.drop (Wk.drop (Wk.drop (Wk.drop (Wk.drop Wk.nil)))))))))))))))))))) (fun t_8 => (db_nil (Wk.keep (Wk.keep (Wk.keep (Wk.keep (Wk.drop (Wk.drop (Wk.drop (Wk.drop (Wk.drop (Wk.drop (Wk.drop (Wk.drop (Wk.drop (Wk.drop (Wk.drop Wk.nil))))))))))))))))))))) (fun t_5 => (db_if (dt_not (dt_of (de_call G__law_right (hr.mono (by decide)) (by rfl) t.g__law_right t.F__law_right.kp t.b__law_right hx (da_cons (de_var 3) (da_cons (de_call G__law_odd (hr.mono (by decide)) (by rfl) t.g__law_odd t.F__law_odd.kp t.b__law_odd hx (da_cons (de_var 2) da_nil)) da_nil))))) (db_ret de_bl) (db_for (envL := fun (t_11 : Unit) => [.sh v_script, .sh cell_2, .sh urn_3, .sh town_4, .none, .none, .none, .none, .none, .none, .none, .none, .none, .none, .none]) (p := (.nm 4)) (fb := (f_law_3 urn_3 town_4)) (t0 := ()) hp rfl (di_range1 (by rfl) t.n_range (da_cons de_int da_nil)) (dg_name nd) (Wk.keep (Wk.keep (Wk.keep (Wk.keep (Wk.drop (Wk.drop (Wk.drop (Wk.drop (Wk.drop (Wk.drop (Wk.drop (Wk.drop (Wk.drop (Wk.drop (Wk.drop Wk.nil))))))))))))))) (fun t_11 ds hl => match ds, hl with | [turn_12], _ => (db_par2 (i := 7) (j := 8) nd (da_cons (de_call G__law_stand (hr.mono (by decide)) (by rfl) t.g__law_stand t.F__law_stand.kp t.b__law_stand hx (da_cons (de_var 2) (da_cons (de_var 3) da_nil))) (da_cons (de_call G__law_stand (hr.mono (by decide)) (by rfl) t.g__law_stand t.F__law_stand.kp t.b__law_stand hx (da_cons (de_var 2) (da_cons (de_var 3) da_nil))) da_nil)) (fun one_13 other_14 => (db_set (i := 8) nd (de_tup (da_cons (de_call G__law_any (hr.mono (by decide)) (by rfl) t.g__law_any t.F__law_any.kp t.b__law_any hx (da_cons (de_var 2) (da_cons (de_lst (da_cons (de_ix (de_var 7) de_int) (da_cons (de_ix (de_var 8) de_int) da_nil))) da_nil))) (da_cons (de_ix (de_var 8) de_int) da_nil))) (fun other_15 => (db_if1 ((dw_or (dt_cmp (op_neP hr.units) od_ne (de_call G_covers (hr.mono (by decide)) (by rfl) t.g_covers t.F_covers.kp t.b_covers hx (da_cons (de_var 3) (da_cons (de_var 7) (da_cons (de_var 8) da_nil)))) (de_call G__law_covers (hr.mono (by decide)) (by rfl) t.g__law_covers t.F__law_covers.kp t.b__law_covers hx (da_cons (de_var 7) (da_cons (de_var 8) da_nil))) (nomark _)) (dw_or1 (dt_not (dt_of (de_call G_covers (hr.mono (by decide)) (by rfl) t.g_covers t.F_covers.kp t.b_covers hx (da_cons (de_var 3) (da_cons (de_var 7) (da_cons (de_var 7) da_nil))))))))).pt (db_ret de_bl) (db_nil (Wk.keep (Wk.keep (Wk.keep (Wk.keep (Wk.drop (Wk.drop (Wk.drop (Wk.drop (Wk.drop (Wk.drop (Wk.drop (Wk.drop (Wk.drop (Wk.drop (Wk.drop Wk.nil)))))))))))))))))))))) (fun t_11 => (db_nil (Wk.keep (Wk.drop (Wk.drop (Wk.drop (Wk.drop (Wk.drop (Wk.drop (Wk.drop (Wk.drop (Wk.drop (Wk.drop (Wk.drop (Wk.drop (Wk.drop (Wk.drop Wk.nil))))))))))))))))))))))))))) (fun t_1 => (db_set (i := 9) nd (de_tup (da_cons (de_tup (da_cons de_int (da_cons de_int da_nil))) (da_cons (de_tup (da_cons de_int (da_cons de_int da_nil))) da_nil))) (fun kinds_16 => (db_set (i := 10) nd (de_tup (da_cons (de_tup (da_cons de_int da_nil)) (da_cons (de_tup (da_cons (de_tup (da_cons de_int (da_cons de_int da_nil))) da_nil)) (da_cons (de_tup (da_cons de_int da_nil)) (da_cons (de_tup da_nil) (da_cons de_int (da_cons de_int (da_cons de_int da_nil)))))))) (fun desk_17 => (db_set (i := 11) nd (de_lst (da_cons (de_tup (da_cons de_int (da_cons (de_tup da_nil) da_nil))) (da_cons (de_tup (da_cons de_int (da_cons (de_tup (da_cons de_int da_nil)) da_nil))) (da_cons (de_tup (da_cons de_int (da_cons (de_tup (da_cons (de_tup (da_cons de_int (da_cons de_int da_nil))) da_nil)) da_nil))) (da_cons (de_tup (da_cons de_int (da_cons (de_tup (da_cons (de_tup (da_cons de_int (da_cons de_int da_nil))) (da_cons (de_tup (da_cons de_int (da_cons de_int da_nil))) da_nil))) da_nil))) (da_cons (de_tup (da_cons de_int (da_cons (de_tup (da_cons de_int da_nil)) da_nil))) (da_cons (de_tup (da_cons de_int (da_cons (de_tup (da_cons de_int da_nil)) da_nil))) (da_cons (de_tup (da_cons de_int (da_cons de_int da_nil))) (da_cons (de_tup (da_cons de_int (da_cons de_int da_nil))) (da_cons (de_tup (da_cons de_int (da_cons de_int da_nil))) da_nil)))))))))) (fun bad_18 => (db_setLc (i := 12) (own := [("at", 13), ("odd", 14)]) rfl nd (di_seq (de_var 11)) (blkOk_by (N := ["script", "cell", "urn", "town", "turn", "value", "again", "one", "other", "kinds", "desk", "bad", "rows", "at", "odd"]) (sc := defScope s_law) (by decide +kernel)) (hown_cons rfl (hown_cons rfl hown_nil)) (by decide) (fun _ _ _ _ _ => (dg_tup rfl (dgs_cons (dg_name nd) (dgs_cons (dg_name nd) dgs_nil)))) (fun ds hl => match ds, hl with | [at_20, odd_21], _ => fun _ _ _ _ _ => ⟨dts_nil, (de_tup (da_cons de_int (da_cons (de_var 9) (da_cons (de_tup (da_cons (de_op op_addP od_add (de_op op_addP od_add (de_slice (de_var 10) do_none (do_some (de_var 13))) (de_tup (da_cons (de_var 14) da_nil))) (de_slice (de_var 10) (do_some (de_op op_addP od_add (de_var 13) de_int)) do_none)) da_nil)) da_nil))))⟩) (fun rows_19 => (db_set (i := 12) nd (de_op op_addP od_add (de_var 12) (de_lst (da_cons (de_tup (da_cons de_int (da_cons (de_var 9) (da_cons (de_op op_mulP od_mul (de_tup (da_cons (de_var 10) da_nil)) de_int) da_nil)))) (da_cons (de_tup (da_cons de_int (da_cons (de_var 9) (da_cons (de_op op_mulP od_mul (de_tup (da_cons (de_var 10) da_nil)) de_int) da_nil)))) (da_cons (de_tup (da_cons de_int (da_cons (de_var 9) (da_cons (de_tup da_nil) da_nil)))) (da_cons (de_tup (da_cons de_int (da_cons (de_tup da_nil) (da_cons (de_tup da_nil) da_nil)))) (da_cons (de_tup (da_cons de_int (da_cons (de_op op_mulP od_mul (de_var 9) de_int) (da_cons (de_tup da_nil) da_nil)))) da_nil))))))) (fun rows_22 => (db_ownAdd' (i := 12) nd (de_var 12) (de_lst (da_cons (de_tup (da_cons de_int (da_cons (de_tup (da_cons (de_tup (da_cons de_int (da_cons de_int da_nil))) da_nil)) (da_cons (de_tup da_nil) da_nil)))) (da_cons (de_tup (da_cons de_int (da_cons (de_tup (da_cons (de_tup (da_cons de_int (da_cons de_int da_nil))) da_nil)) (da_cons (de_tup da_nil) da_nil)))) (da_cons (de_tup (da_cons de_int (da_cons (de_tup (da_cons (de_tup (da_cons de_int (da_cons de_int da_nil))) da_nil)) (da_cons (de_tup da_nil) da_nil)))) (da_cons (de_tup (da_cons de_int (da_cons (de_var 9) (da_cons (de_tup (da_cons (de_slice (de_var 10) do_none (do_some de_int)) da_nil)) da_nil)))) da_nil))))) (fun rows_23 => (db_append' (i := 12) (ds := rows_23) rfl (de_tup (da_cons de_bl (da_cons (de_var 9) (da_cons (de_tup da_nil) da_nil)))) (fun r_25 => (db_set (i := 3) nd (de_tup (da_cons de_int (da_cons (de_var 9) (da_cons (de_tup (da_cons (de_var 10) da_nil)) da_nil)))) (fun town_26 => (db_give (i := 12) rfl (db_set (i := 12) nd (de_op op_addP od_add (de_var 12) (de_lst (da_cons (de_tup (da_cons de_int (da_cons (de_tup (da_cons (de_tup (da_cons de_int (da_cons de_int da_nil))) (da_cons (de_tup (da_cons de_int (da_cons de_int da_nil))) da_nil))) da_nil))) (da_cons (de_tup (da_cons de_int (da_cons (de_tup (da_cons (de_tup (da_cons de_int (da_cons de_int da_nil))) (da_cons (de_tup da_nil) da_nil))) da_nil))) (da_cons (de_tup (da_cons de_int (da_cons (de_tup (da_cons (de_tup (da_cons de_int (da_cons de_int da_nil))) (da_cons (de_tup da_nil) da_nil))) da_nil))) (da_cons (de_tup (da_cons de_int (da_cons (de_tup (da_cons (de_tup da_nil) (da_cons (de_tup (da_cons de_int da_nil)) da_nil))) da_nil))) da_nil)))))) (fun rows_27 => (db_set (i := 12) nd (de_op op_addP od_add (de_var 12) (de_lst (da_cons (de_tup (da_cons de_int (da_cons (de_tup (da_cons (de_tup da_nil) (da_cons (de_tup da_nil) da_nil))) da_nil))) (da_cons (de_tup (da_cons de_int (da_cons (de_tup (da_cons (de_tup da_nil) da_nil)) da_nil))) da_nil)))) (fun rows_28 => (db_ret (de_cmp (op_eqP hr.units) od_eq (de_lc (own := [("value", 5)]) rfl nd (di_seq (de_var 12)) (blkOk_by (N := ["script", "cell", "urn", "town", "turn", "value", "again", "one", "other", "kinds", "desk", "bad", "rows", "at", "odd"]) (sc := defScope s_law) (by decide +kernel)) (hown_cons rfl hown_nil) (by decide) (fun _ _ _ _ _ => (dg_name nd)) (fun ds hl => match ds, hl with | [value_29], _ => fun _ _ _ _ _ => ⟨(dts_one (dt_not (dt_of (de_call G__law_right (hr.mono (by decide)) (by rfl) t.g__law_right t.F__law_right.kp t.b__law_right passL (da_cons (de_var 3) (da_cons (de_var 5) da_nil)))))), (de_var 5)⟩)) (de_lst da_nil) (nomark _))))))))))))))))))))))))))
end
end Pf
set_option Elab.async false
set_option linter.all false
set_option maxRecDepth 100000
set_option maxHeartbeats 1000000
namespace Pf
open PySem PySem.Spec PyProof.Rows L2
section
variable {α β γ : Type}
theorem bp (a : α) (f : α → M β) : ((pure a : M α) >>= f) = f a := rfl
theorem ba (m : M α) (f : α → M β) (g : β → M γ) : ((m >>= f) >>= g) = (m >>= fun a => f a >>= g) := M.bind_assoc m f g
theorem asB_b (b : Bool) : asB (.bool b) = pure b := rfl
/-- no dict stands in it at the top -/
def nd : D → Bool
  | .dict _ => false
  | _ => true
def isInt : D → Bool
  | .int _ => true
  | .bool _ => true
  | _ => false
def isBl : D → Bool
  | .bool _ => true
  | _ => false
def isTup : D → Bool
  | .tuple _ => true
  | _ => false
theorem isi_int : ∀ {v : D}, nd v = true → isiM "int" v = pure (.bool (isInt v))
  | .none, _ => rfl
  | .bool _, _ => rfl
  | .int _, _ => rfl
  | .str _, _ => rfl
  | .list _, _ => rfl
  | .tuple _, _ => rfl
theorem isi_bool : ∀ {v : D}, nd v = true → isiM "bool" v = pure (.bool (isBl v))
  | .none, _ => rfl
  | .bool _, _ => rfl
  | .int _, _ => rfl
  | .str _, _ => rfl
  | .list _, _ => rfl
  | .tuple _, _ => rfl
theorem isi_tuple : ∀ {v : D}, nd v = true → isiM "tuple" v = pure (.bool (isTup v))
  | .none, _ => rfl
  | .bool _, _ => rfl
  | .int _, _ => rfl
  | .str _, _ => rfl
  | .list _, _ => rfl
  | .tuple _, _ => rfl
/-- a whole number between two others, no bool -/
def isNum (v : D) (lo hi : Int) : Bool := match v with
  | .int i => decide (lo ≤ i) && decide (i ≤ hi)
  | _ => false
theorem num_spec {v : D} {lo hi : Int} (h : nd v = true) : m_is_number [v, .int lo, .int hi] = pure (.bool (isNum v lo hi)) := by
  unfold m_is_number b_is_number
  simp only [on3, fin, bp, ba, isi_int h, isi_bool h, asB_b]
  cases v with
  | int i =>
    simp only [isInt, isBl, isNum, if_true, Bool.not_false, leM, bp, ba, asB_b]
    by_cases e : lo ≤ i
    · simp only [e, decide_true, if_true, bp, Bool.true_and]; rfl
    · simp only [e, decide_false, if_false, bp, Bool.false_and]; rfl
  | dict _ => cases h
  | _ => simp only [isInt, isBl, isNum, if_true, Bool.not_true, Bool.false_eq_true, if_false, bp, ba, asB_b]; rfl
theorem lnum_spec {v : D} {lo hi : Int} (h : nd v = true) : m__law_int [v, .int lo, .int hi] = pure (.bool (isNum v lo hi)) := by
  unfold m__law_int b__law_int
  simp only [on3, fin, bp, ba, isi_int h, isi_bool h, asB_b]
  cases v with
  | int i =>
    simp only [isInt, isBl, isNum, if_true, Bool.not_false, leM, bp, ba, asB_b]
    by_cases e : lo ≤ i
    · simp only [e, decide_true, if_true, bp, Bool.true_and]; rfl
    · simp only [e, decide_false, if_false, bp, Bool.false_and]; rfl
  | dict _ => cases h
  | _ => simp only [isInt, isBl, isNum, if_true, Bool.not_true, Bool.false_eq_true, if_false, bp, ba, asB_b]; rfl
/-! ### comprehensions of what is plain -/
theorem lc_pure {i : Nat} {mt : D → M Bool} {me : D → M D} {t : D → Bool} {e : D → D} : ∀ {xs : List D}, (∀ d ∈ xs, mt d = pure (t d)) → (∀ d ∈ xs, t d = true → me d = pure (e d)) → lcM (.nm i) (on1 mt) (on1 me) xs = pure ((xs.filter t).map e)
  | [], _, _ => rfl
  | d :: r, h1, h2 => by
    have ih := lc_pure (i := i) (xs := r) (fun x hx => h1 x (List.mem_cons_of_mem _ hx)) (fun x hx => h2 x (List.mem_cons_of_mem _ hx))
    unfold lcM
    show (M.noerr (mt d) >>= fun b => _) = _
    rw [h1 d List.mem_cons_self]
    show (if t d = true then _ else _) = _
    cases e0 : t d with
    | false => simp only [Bool.false_eq_true, if_false, List.filter_cons, e0]; exact ih
    | true =>
      simp only [if_true, List.filter_cons, e0]
      show (M.noerr (me d) >>= fun y => _) = _
      rw [h2 d List.mem_cons_self e0, ih]
      rfl
theorem boolsD_map {f : D → Bool} : ∀ (xs : List D), boolsD (xs.map fun d => .bool (f d)) = some (xs.map f)
  | [] => rfl
  | x :: r => by simp only [List.map_cons, boolsD, boolsD_map r]; rfl
theorem allM_map {f : D → Bool} (xs : List D) : allM [.list (xs.map fun d => .bool (f d))] = pure (.bool (xs.all f)) := by
  unfold allM
  simp only [boolsD_map, M.optF]
  rw [List.all_map]; rfl
/-- the list is not too long -/
def short (xs : List D) : Bool := decide (xs.length ≤ 100)
theorem lst_short {xs : List D} (h : xs.length ≤ 5000) : lstM xs = pure (.list xs) := by
  unfold lstM
  rw [if_pos]
  exact Nat.le_trans h (by decide)
theorem tup_short {xs : List D} (h : xs.length ≤ 5000) : tupM xs = pure (.tuple xs) := by
  unfold tupM
  rw [if_pos]
  exact Nat.le_trans h (by decide)
end
end Pf
set_option Elab.async false
set_option linter.all false
set_option maxRecDepth 100000
set_option maxHeartbeats 1000000
namespace Pf
open PySem PySem.Spec PyProof.Rows L2
/-- a value of bounded depth and width, no dict in it -/
def okD : Nat → Nat → D → Bool
  | 0, _, _ => false
  | n + 1, l, v => match v with
    | .tuple xs => decide (xs.length ≤ l) && xs.all (okD n l)
    | .list xs => decide (xs.length ≤ l) && xs.all (okD n l)
    | .str s => PyData.canLay0 (.str s)
    | .dict _ => false
    | _ => true
theorem okD.nd {n l : Nat} {v : D} (h : okD n l v = true) : nd v = true := by
  cases n with
  | zero => cases h
  | succ n => cases v <;> first | rfl | cases h
theorem okD.tup {n l : Nat} {xs : List D} (h : okD n l (.tuple xs) = true) : xs.length ≤ l ∧ ∀ x ∈ xs, okD (n - 1) l x = true := by
  cases n with
  | zero => cases h
  | succ n =>
    obtain ⟨h1, h2⟩ := Bool.and_eq_true_iff.mp (show (decide (xs.length ≤ l) && xs.all (okD n l)) = true from h)
    exact ⟨of_decide_eq_true h1, List.all_eq_true.mp h2⟩
theorem okD.mono : ∀ {n m l k : Nat} {v : D}, n ≤ m → l ≤ k → okD n l v = true → okD m k v = true
  | 0, _, _, _, _, _, _, h => by cases h
  | n + 1, 0, _, _, _, h1, _, _ => by omega
  | n + 1, m + 1, l, k, v, h1, h2, h => by
    have go : ∀ xs : List D, (decide (xs.length ≤ l) && xs.all (okD n l)) = true → (decide (xs.length ≤ k) && xs.all (okD m k)) = true := fun xs q => by
      obtain ⟨q1, q2⟩ := Bool.and_eq_true_iff.mp q
      exact Bool.and_eq_true_iff.mpr ⟨decide_eq_true (Nat.le_trans (of_decide_eq_true q1) h2), List.all_eq_true.mpr fun x hx => okD.mono (Nat.le_of_succ_le_succ h1) h2 (List.all_eq_true.mp q2 x hx)⟩
    cases v with
    | tuple xs => exact go xs h
    | list xs => exact go xs h
    | dict _ => cases h
    | _ => exact h
theorem layAll {xs : List D} (h : ∀ x ∈ xs, PyData.canLay0 x = true) : PyData.canLayAll0 xs = true := by
  induction xs with
  | nil => rfl
  | cons x r ih => rw [PyData.canLayAll0, h x List.mem_cons_self, ih fun y hy => h y (List.mem_cons_of_mem _ hy)]; rfl
theorem depAll {xs : List D} {n : Nat} (h : ∀ x ∈ xs, PyData.depth x ≤ n) : PyData.depthAll xs ≤ n := by
  induction xs with
  | nil => exact Nat.zero_le _
  | cons x r ih =>
    have h1 := h x List.mem_cons_self
    have h2 := ih fun y hy => h y (List.mem_cons_of_mem _ hy)
    rw [PyData.depthAll]
    omega
theorem okD.lay : ∀ {n l : Nat} {v : D}, okD n l v = true → PyData.canLay0 v = true ∧ PyData.depth v ≤ n
  | 0, _, _, h => by cases h
  | n + 1, l, v, h => by
    have go : ∀ xs : List D, (decide (xs.length ≤ l) && xs.all (okD n l)) = true → PyData.canLayAll0 xs = true ∧ PyData.depthAll xs ≤ n := fun xs q => by
      obtain ⟨_, q2⟩ := Bool.and_eq_true_iff.mp q
      have := fun x hx => okD.lay (List.all_eq_true.mp q2 x hx)
      exact ⟨layAll fun x hx => (this x hx).1, depAll fun x hx => (this x hx).2⟩
    cases v with
    | tuple xs => obtain ⟨a, b⟩ := go xs h; exact ⟨by rw [PyData.canLay0]; exact a, by rw [PyData.depth]; omega⟩
    | list xs => obtain ⟨a, b⟩ := go xs h; exact ⟨by rw [PyData.canLay0]; exact a, by rw [PyData.depth]; omega⟩
    | dict _ => cases h
    | str s => exact ⟨h, by rw [PyData.depth]; omega⟩
    | _ => exact ⟨rfl, by rw [PyData.depth]; omega⟩
theorem eqM_ok {x y : D} (h : eqOk x y) : eqM x y = pure (.bool (PyData.eqv x y)) := if_pos h
theorem neM_ok {x y : D} (h : eqOk x y) : neM x y = pure (.bool (!PyData.eqv x y)) := if_pos h
/-- = () -/
def isNil : D → Bool
  | .tuple [] => true
  | _ => false
theorem eqv_nil : ∀ {v : D}, nd v = true → PyData.eqv v (.tuple []) = isNil v
  | .none, _ => rfl
  | .bool _, _ => rfl
  | .int _, _ => rfl
  | .str _, _ => rfl
  | .list _, _ => rfl
  | .tuple [], _ => rfl
  | .tuple (_ :: _), _ => rfl
theorem eq_nil {n l : Nat} {v : D} (h : okD n l v = true) : eqM v (.tuple []) = pure (.bool (isNil v)) := by
  rw [eqM_ok, eqv_nil (okD.nd h)]
  exact ⟨(okD.lay h).1, rfl, Nat.le_trans (Nat.min_le_right _ _) (by decide)⟩
theorem ne_nil {n l : Nat} {v : D} (h : okD n l v = true) : neM v (.tuple []) = pure (.bool (!isNil v)) := by
  rw [neM_ok, eqv_nil (okD.nd h)]
  exact ⟨(okD.lay h).1, rfl, Nat.le_trans (Nat.min_le_right _ _) (by decide)⟩
/-! ### comprehensions -/
theorem lc_gen {p : Pat} {mt : List D → M Bool} {me : List D → M D} {t : D → Bool} {e : D → D} : ∀ {xs : List D}, (∀ d ∈ xs, ∃ ds, patD p d = some ds ∧ mt ds = pure (t d) ∧ (t d = true → me ds = pure (e d))) → lcM p mt me xs = pure ((xs.filter t).map e)
  | [], _ => rfl
  | d :: r, h => by
    have ih := lc_gen (xs := r) fun x hx => h x (List.mem_cons_of_mem _ hx)
    obtain ⟨ds, h1, h2, h3⟩ := h d List.mem_cons_self
    unfold lcM
    rw [h1]
    show (M.noerr (mt ds) >>= fun b => _) = _
    rw [h2]
    show (if t d = true then _ else _) = _
    cases e0 : t d with
    | false => simp only [Bool.false_eq_true, if_false, List.filter_cons, e0]; exact ih
    | true =>
      simp only [if_true, List.filter_cons, e0]
      show (M.noerr (me ds) >>= fun y => _) = _
      rw [h3 e0, ih]
      rfl
theorem lc_map {p : Pat} {mt : List D → M Bool} {me : List D → M D} {e : D → D} {xs : List D} (h : ∀ d ∈ xs, ∃ ds, patD p d = some ds ∧ mt ds = pure true ∧ me ds = pure (e d)) : lcM p mt me xs = pure (xs.map e) := by
  rw [lc_gen (t := fun _ => true) (e := e) fun d hd => let ⟨ds, a, b, c⟩ := h d hd; ⟨ds, a, b, fun _ => c⟩, List.filter_eq_self.mpr fun _ _ => rfl]
/-! ### rising -/
def asc : List D → Bool
  | .int a :: .int b :: r => decide (a < b) && asc (.int b :: r)
  | _ => true
def isRis (v : D) (lo hi : Int) : Bool := match v with
  | .tuple xs => xs.all (fun x => isNum x lo hi) && asc xs
  | _ => false
theorem ints_of {lo hi : Int} : ∀ {xs : List D}, xs.all (fun x => isNum x lo hi) = true → ∃ ns : List Int, xs = ns.map .int ∧ ∀ n ∈ ns, lo ≤ n ∧ n ≤ hi
  | [], _ => ⟨[], rfl, fun _ h => by cases h⟩
  | x :: r, h => by
    obtain ⟨h1, h2⟩ := Bool.and_eq_true_iff.mp (show (isNum x lo hi && r.all _) = true from h)
    obtain ⟨ns, e, q⟩ := ints_of h2
    cases x with
    | int i =>
      obtain ⟨a, b⟩ := Bool.and_eq_true_iff.mp (show (decide (lo ≤ i) && decide (i ≤ hi)) = true from h1)
      refine ⟨i :: ns, by rw [e]; rfl, fun n hn => ?_⟩
      rcases List.mem_cons.mp hn with rfl | hn
      · exact ⟨of_decide_eq_true a, of_decide_eq_true b⟩
      · exact q n hn
    | _ => cases h1
theorem cut_from {α : Type} (xs : List α) (k : Nat) : cutL xs (some (k : Int)) none = xs.drop k := by
  unfold cutL
  rw [HT.sIx_nat, HT.sIx_none, List.take_of_length_le (by rw [List.length_drop]; exact Nat.le_refl _)]
  by_cases h : k ≤ xs.length
  · rw [Nat.min_eq_left h]
  · rw [Nat.min_eq_right (by omega), List.drop_length, List.drop_eq_nil_of_le (by omega)]
theorem cut_to {α : Type} (xs : List α) (k : Nat) : cutL xs none (some (k : Int)) = xs.take k := by
  unfold cutL
  rw [HT.sIx_nat, HT.sIx_none, List.drop_zero, Nat.sub_zero]
  by_cases h : k ≤ xs.length
  · rw [Nat.min_eq_left h]
  · rw [Nat.min_eq_right (by omega), List.take_length, List.take_of_length_le (by omega)]
theorem cut1 {α : Type} (xs : List α) : cutL xs (some 1) none = xs.drop 1 := cut_from xs 1
end Pf
set_option Elab.async false
set_option linter.all false
set_option maxRecDepth 100000
set_option maxHeartbeats 1000000
namespace Pf
open PySem PySem.Spec PyProof.Rows L2
def ltD (a b : D) : Bool := match a, b with
  | .int i, .int j => decide (i < j)
  | _, _ => false
theorem zip_all : ∀ (ns : List Int), (zipD (ns.map PyData.int) ((ns.map PyData.int).drop 1)).all (fun d => match d with | .tuple [a, b] => ltD a b | _ => false) = asc (ns.map PyData.int)
  | [] => rfl
  | [_] => rfl
  | a :: b :: r => by
    have ih := zip_all (b :: r)
    simp only [List.map_cons, List.drop_succ_cons, List.drop_zero, zipD, List.zip_cons_cons, List.all_cons, asc, ltD] at ih ⊢
    rw [← ih]
theorem zip_ints {ns : List Int} {d : D} (h : d ∈ zipD (ns.map PyData.int) ((ns.map PyData.int).drop 1)) : ∃ a b, d = .tuple [.int a, .int b] := by
  unfold zipD at h
  obtain ⟨p, hp, rfl⟩ := List.mem_map.mp h
  obtain ⟨h1, h2⟩ := List.of_mem_zip (a := p.1) (b := p.2) hp
  obtain ⟨a, _, ea⟩ := List.mem_map.mp h1
  obtain ⟨b, _, eb⟩ := List.mem_map.mp (List.mem_of_mem_drop h2)
  exact ⟨a, b, by rw [ea, eb]⟩
theorem asI_int (k : Int) : asI (.int k) = pure (some k) := rfl
theorem is_rising_spec {v : D} {lo hi : Int} {n l : Nat} (h : okD n l v = true) (hl : l ≤ 60) : m_is_rising [v, .int lo, .int hi] = pure (.bool (isRis v lo hi)) := by
  unfold m_is_rising b_is_rising
  simp only [on3, fin, bp, ba, isi_tuple (okD.nd h), asB_b]
  cases v with
  | tuple xs =>
    obtain ⟨h1, h2⟩ := okD.tup h
    have hn : ∀ d ∈ xs, Pf.nd d = true := fun d hd => okD.nd (h2 d hd)
    have e1 : lcM (.nm 3) (on1 fun one_1 => (pure true)) (on1 fun one_1 => m_is_number [one_1, .int lo, .int hi]) xs = pure (xs.map fun d => .bool (isNum d lo hi)) := lc_map fun d hd => ⟨[d], rfl, rfl, num_spec (hn d hd)⟩
    simp only [isTup, Bool.not_true, Bool.false_eq_true, if_false, itemsM, bp, ba, e1]
    rw [lst_short (by rw [List.length_map]; omega)]
    simp only [bp, allM_map, asB_b]
    cases ha : xs.all (fun d => isNum d lo hi) with
    | false => simp only [Bool.not_false, if_true, isRis, ha, Bool.false_and]; rfl
    | true =>
      simp only [Bool.not_true, Bool.false_eq_true, if_false, isRis, ha, Bool.true_and]
      obtain ⟨ns, rfl, hb⟩ := ints_of ha
      have e2 : lcM (.tp [.nm 3, .nm 4]) (on2 fun one_2 other_3 => pure true) (on2 fun one_2 other_3 => ltM one_2 other_3) (zipD (ns.map PyData.int) ((ns.map PyData.int).drop 1))
          = pure ((zipD (ns.map PyData.int) ((ns.map PyData.int).drop 1)).map fun d => .bool (match d with | .tuple [a, b] => ltD a b | _ => false)) := lc_map fun d hd => by
        obtain ⟨a, b, rfl⟩ := zip_ints hd
        exact ⟨[.int a, .int b], rfl, rfl, rfl⟩
      have hz : ((zipD (ns.map PyData.int) ((ns.map PyData.int).drop 1)).map fun d => PyData.bool (match d with | .tuple [a, b] => ltD a b | _ => false)).length ≤ 5000 := by
        rw [List.length_map]; unfold zipD; rw [List.length_map, List.length_zip]; have : (ns.map PyData.int).length ≤ l := h1; omega
      simp only [asI_int, bp, slM, cut1, zipM, e2]
      rw [lst_short hz]
      simp only [bp, allM_map, zip_all]
      rfl
  | dict _ => cases okD.nd h
  | _ => simp only [isTup, Bool.not_false, if_true, isRis, bp]; rfl
/-! ### the law's rising -/
theorem asc_usort : ∀ {ns : List Int}, asc (ns.map PyData.int) = true → usort ns = ns
  | [], _ => rfl
  | [_], _ => rfl
  | a :: b :: r, h => by
    obtain ⟨h1, h2⟩ := Bool.and_eq_true_iff.mp (show (decide (a < b) && asc ((b :: r).map PyData.int)) = true from h)
    show uins a (usort (b :: r)) = _
    rw [asc_usort h2]
    unfold uins
    rw [if_pos (of_decide_eq_true h1)]
theorem up_asc : ∀ {ns : List Int}, ns.Pairwise (· < ·) → asc (ns.map PyData.int) = true
  | [], _ => rfl
  | [_], _ => rfl
  | a :: b :: r, h => by
    cases h with
    | cons h1 h2 =>
      show (decide (a < b) && asc ((b :: r).map PyData.int)) = true
      rw [up_asc h2, decide_eq_true (h1 b List.mem_cons_self)]; rfl
theorem eqv_ints : ∀ (ns ms : List Int), PyData.eqvAll (ns.map .int) (ms.map .int) = decide (ns = ms)
  | [], [] => rfl
  | [], _ :: _ => rfl
  | _ :: _, [] => rfl
  | a :: r, b :: q => by
    show (PyData.eqv (.int a) (.int b) && PyData.eqvAll (r.map .int) (q.map .int)) = _
    rw [eqv_ints r q]
    show ((a == b) && decide (r = q)) = _
    by_cases h : a = b
    · subst h; simp
    · simp [h]
theorem usort_asc {ns : List Int} : decide (ns = usort ns) = asc (ns.map PyData.int) := by
  cases h : asc (ns.map PyData.int) with
  | true => rw [asc_usort h]; simp
  | false =>
    refine decide_eq_false fun z => ?_
    have := up_asc (usort_up ns)
    rw [← z] at this
    rw [this] at h; cases h
theorem lay_ints (ns : List Int) : PyData.canLayAll0 (ns.map .int) = true := layAll fun x hx => by obtain ⟨a, _, rfl⟩ := List.mem_map.mp hx; rfl
theorem dep_ints (ns : List Int) : PyData.depthAll (ns.map .int) ≤ 1 := depAll fun x hx => by obtain ⟨a, _, rfl⟩ := List.mem_map.mp hx; show PyData.depth (.int a) ≤ 1; rw [PyData.depth]; exact Nat.zero_le _
theorem intsD_map : ∀ (ns : List Int), intsD (ns.map .int) = some ns
  | [] => rfl
  | x :: r => by simp only [List.map_cons, intsD, intsD_map r]; rfl
theorem usort_len {ns : List Int} : (usort ns).length ≤ ns.length := by
  have : ∀ (x : Int) (l : List Int), (uins x l).length ≤ l.length + 1 := fun x l => by
    induction l with
    | nil => simp [uins]
    | cons y r ih => unfold uins; split; · simp
                     split; · simp
                     simp only [List.length_cons]; omega
  induction ns with
  | nil => exact Nat.zero_le _
  | cons x r ih => show (uins x (usort r)).length ≤ _; have := this x (usort r); simp only [List.length_cons]; omega
theorem eqv_lnil (xs : List D) : PyData.eqv (.list xs) (.list []) = xs.isEmpty := by cases xs <;> rfl
theorem law_rising_spec {v : D} {lo hi : Int} {n l : Nat} (h : okD n l v = true) (hl : l ≤ 60) : m__law_rising [v, .int lo, .int hi] = pure (.bool (isRis v lo hi)) := by
  unfold m__law_rising b__law_rising
  simp only [on3, fin, bp, ba, isi_tuple (okD.nd h), asB_b]
  cases v with
  | tuple xs =>
    obtain ⟨h1, h2⟩ := okD.tup h
    have hn : ∀ d ∈ xs, Pf.nd d = true := fun d hd => okD.nd (h2 d hd)
    have e1 : lcM (.nm 3) (on1 fun one_1 => (m__law_int [one_1, .int lo, .int hi] >>= fun x => asB x >>= fun x => pure (!x))) (on1 fun one_1 => pure one_1) xs = pure ((xs.filter fun d => !isNum d lo hi).map id) := lc_gen fun d hd => ⟨[d], rfl, (by show (m__law_int [d, .int lo, .int hi] >>= _) = _; rw [lnum_spec (hn d hd)]; rfl), fun _ => rfl⟩
    simp only [isTup, Bool.not_true, Bool.false_eq_true, if_false, itemsM, bp, ba, e1]
    have hf : ((xs.filter fun d => !isNum d lo hi).map id).length ≤ 5000 := by
      rw [List.length_map]; have := List.length_filter_le (fun d => !isNum d lo hi) xs; omega
    rw [lst_short hf]
    have ha := okD.lay h
    have hlay : PyData.canLayAll0 ((xs.filter fun d => !isNum d lo hi).map id) = true := layAll fun x hx => by
      obtain ⟨y, hy, rfl⟩ := List.mem_map.mp hx
      exact (okD.lay (h2 y (List.mem_filter.mp hy).1)).1
    have e2 : neM (.list ((xs.filter fun d => !isNum d lo hi).map id)) (.list []) = pure (.bool (!xs.all fun d => isNum d lo hi)) := by
      rw [neM_ok ⟨by rw [PyData.canLay0]; exact hlay, rfl, Nat.le_trans (Nat.min_le_right _ _) (by decide)⟩, eqv_lnil]
      congr 2
      cases hx : xs.all fun d => isNum d lo hi with
      | true =>
        have : (xs.filter fun d => !isNum d lo hi) = [] := List.filter_eq_nil_iff.mpr fun x hm => by have := List.all_eq_true.mp hx x hm; simp [this]
        rw [this]; rfl
      | false =>
        cases hz : (xs.filter fun d => !isNum d lo hi) with
        | cons y r => rfl
        | nil =>
          have h3 : xs.all (fun d => isNum d lo hi) = true := List.all_eq_true.mpr fun x hm => by
            have := List.filter_eq_nil_iff.mp hz x hm
            simpa using this
          rw [h3] at hx; cases hx
    rw [bp, lst_short (xs := []) (by decide)]
    simp only [bp, e2, asB_b]
    cases hx : xs.all fun d => isNum d lo hi with
    | false => simp only [Bool.not_false, if_true, isRis, hx, Bool.false_and]; rfl
    | true =>
      simp only [Bool.not_true, Bool.false_eq_true, if_false, isRis, hx, Bool.true_and]
      obtain ⟨ns, rfl, hb⟩ := ints_of hx
      have hlen : ns.length ≤ 60 := by rw [List.length_map] at h1; omega
      have e3 : sortSetM (.tuple (ns.map PyData.int)) = pure (.list ((usort ns).map .int)) := by
        unfold sortSetM seqI
        simp only [intsD_map, Option.getD_some, M.optF]
        rw [if_pos (by omega)]; rfl
      have e4 : eqM (.list (ns.map PyData.int)) (.list ((usort ns).map .int)) = pure (.bool (decide (ns = usort ns))) := by
        rw [eqM_ok ⟨by rw [PyData.canLay0]; exact lay_ints _, by rw [PyData.canLay0]; exact lay_ints _, by
          refine Nat.le_trans (Nat.min_le_left _ _) ?_
          rw [PyData.depth]; have := dep_ints ns; omega⟩]
        congr 2
        exact eqv_ints _ _
      simp only [listM, bp, e3, e4, usort_asc]
      rfl
  | dict _ => cases okD.nd h
  | _ => simp only [isTup, Bool.not_false, if_true, isRis, bp]; rfl
end Pf
set_option Elab.async false
set_option linter.all false
set_option maxRecDepth 100000
set_option maxHeartbeats 1000000
namespace Pf
open PySem PySem.Spec PyProof.Rows L2
theorem eq_int (i j : Int) : eqM (.int i) (.int j) = pure (.bool (decide (i = j))) := by
  rw [eqM_ok ⟨rfl, rfl, by show min 0 0 ≤ 60; decide⟩]
  congr 2
theorem ne_int (i j : Int) : neM (.int i) (.int j) = pure (.bool (!decide (i = j))) := by
  rw [neM_ok ⟨rfl, rfl, by show min 0 0 ≤ 60; decide⟩]
  congr 2
theorem len_tup (xs : List D) : lenM [.tuple xs] = pure (.int xs.length) := rfl
theorem len_lst (xs : List D) : lenM [.list xs] = pure (.int xs.length) := rfl
theorem sub_int (i j : Int) : subM (.int i) (.int j) = pure (.int (i - j)) := rfl
theorem items_tup (xs : List D) : itemsM (.tuple xs) = pure xs := rfl
theorem items_lst (xs : List D) : itemsM (.list xs) = pure xs := rfl
theorem ix_at {xs : List D} {k : Int} {d : D} (h : L2.atI xs k = some d) : ixM (.tuple xs) (.int k) = pure d := by show M.optF id (L2.atI xs k) = _; rw [h]; rfl
def isPair : D → Bool
  | .tuple [_, _] => true
  | _ => false
def fstD : D → D
  | .tuple [a, _] => a
  | _ => .none
def sndD : D → D
  | .tuple [_, b] => b
  | _ => .none
theorem pair_of : ∀ {d : D}, isPair d = true → ∃ a b, d = .tuple [a, b]
  | .tuple [a, b], _ => ⟨a, b, rfl⟩
  | .tuple [], h => by cases h
  | .tuple [_], h => by cases h
  | .tuple (_ :: _ :: _ :: _), h => by cases h
  | .none, h => by cases h
  | .bool _, h => by cases h
  | .int _, h => by cases h
  | .str _, h => by cases h
  | .list _, h => by cases h
  | .dict _, h => by cases h
theorem pair_len (xs : List D) : isPair (.tuple xs) = decide ((xs.length : Int) = 2) := by
  match xs with
  | [] => rfl
  | [_] => rfl
  | [_, _] => rfl
  | _ :: _ :: _ :: r =>
    refine (decide_eq_false ?_).symm
    simp only [List.length_cons]; omega
def isShown (v : D) (many : Int) : Bool := match v with
  | .tuple xs => xs.all isPair && (isRis (.tuple (xs.map fstD)) 0 (many - 1) && xs.all fun d => isNum (sndD d) 0 3)
  | _ => false
/-- a test that tuple-ness and length two -/
theorem pair_test {d : D} (h : nd d = true) : ((isiM "tuple" d >>= fun x => asB x >>= fun c => if c = true then (lenM [d] >>= fun x => eqM x (.int 2)) else pure (.bool false)) : M D) = pure (.bool (isPair d)) := by
  rw [isi_tuple h]
  cases d with
  | tuple xs =>
    simp only [bp, asB_b, isTup, if_true, len_tup, eq_int, pair_len]
  | dict _ => cases h
  | _ => rfl
theorem okD_map {n l : Nat} {f : D → D} {xs : List D} (hl : xs.length ≤ l) (h : ∀ x ∈ xs, okD n l (f x) = true) : okD (n + 1) l (.tuple (xs.map f)) = true := by
  show (decide ((xs.map f).length ≤ l) && (xs.map f).all (okD n l)) = true
  rw [Bool.and_eq_true_iff]
  refine ⟨decide_eq_true (by rw [List.length_map]; exact hl), List.all_eq_true.mpr fun y hy => ?_⟩
  obtain ⟨x, hx, rfl⟩ := List.mem_map.mp hy
  exact h x hx
theorem is_shown_spec {v : D} {many : Int} {n l : Nat} (h : okD n l v = true) (hl : l ≤ 60) : m_is_shown [v, .int many] = pure (.bool (isShown v many)) := by
  unfold m_is_shown b_is_shown
  simp only [on2, fin, bp, ba, isi_tuple (okD.nd h), asB_b]
  cases v with
  | tuple xs =>
    obtain ⟨h1, h2⟩ := okD.tup h
    have hn : ∀ d ∈ xs, Pf.nd d = true := fun d hd => okD.nd (h2 d hd)
    have e1 : lcM (.nm 2) (on1 fun one_1 => (pure true)) (on1 fun one_1 => (isiM "tuple" one_1 >>= fun x => asB x >>= fun c => if c = true then (lenM [one_1] >>= fun x => eqM x (.int 2)) else pure (.bool false))) xs = pure (xs.map fun d => .bool (isPair d)) := lc_map fun d hd => ⟨[d], rfl, rfl, pair_test (hn d hd)⟩
    simp only [isTup, Bool.not_true, Bool.false_eq_true, if_false, items_tup, bp, ba, e1]
    rw [lst_short (by rw [List.length_map]; omega)]
    simp only [bp, allM_map, asB_b]
    cases ha : xs.all isPair with
    | false => simp only [Bool.not_false, if_true, isShown, ha, Bool.false_and]; rfl
    | true =>
      have hp : ∀ d ∈ xs, ∃ a b, d = .tuple [a, b] := fun d hd => pair_of (List.all_eq_true.mp ha d hd)
      have e2 : lcM (.nm 2) (on1 fun one_2 => (pure true)) (on1 fun one_2 => ixM one_2 (.int 0)) xs = pure (xs.map fstD) := lc_map fun d hd => by
        obtain ⟨a, b, rfl⟩ := hp d hd
        exact ⟨_, rfl, rfl, rfl⟩
      have e3 : lcM (.nm 2) (on1 fun one_3 => (pure true)) (on1 fun one_3 => (ixM one_3 (.int 1) >>= fun x => m_is_number [x, .int 0, .int 3])) xs = pure (xs.map fun d => .bool (isNum (sndD d) 0 3)) := lc_map fun d hd => by
        obtain ⟨a, b, rfl⟩ := hp d hd
        refine ⟨_, rfl, rfl, ?_⟩
        show (m_is_number [b, .int 0, .int 3]) = _
        exact num_spec (okD.nd ((okD.tup (h2 _ hd)).2 b (by simp)))
      have hk : okD n l (.tuple (xs.map fstD)) = true := okD.mono (n := n - 1 - 1 + 1) (by cases n with | zero => cases h | succ n => cases n with | zero => (cases xs with | nil => simp | cons x r => have := h2 x List.mem_cons_self; cases this) | succ n => omega) (Nat.le_refl l) (okD_map h1 fun d hd => by
        obtain ⟨a, b, rfl⟩ := hp d hd
        exact (okD.tup (h2 _ hd)).2 a (by simp [fstD]))
      simp only [Bool.not_true, Bool.false_eq_true, if_false, isShown, ha, Bool.true_and, e2]
      have q1 : lstM (xs.map fstD) = pure (.list (xs.map fstD)) := lst_short (by rw [List.length_map]; omega)
      have q2 : lstM (xs.map fun d => PyData.bool (isNum (sndD d) 0 3)) = pure (.list (xs.map fun d => PyData.bool (isNum (sndD d) 0 3))) := lst_short (by rw [List.length_map]; omega)
      simp only [bp, q1]
      simp only [bp, tupleM, sub_int, is_rising_spec hk hl, asB_b]
      cases isRis (.tuple (xs.map fstD)) 0 (many - 1) with
      | false => rfl
      | true =>
        simp only [if_true, e3, bp, Bool.true_and, q2, allM_map]
        rfl
  | dict _ => cases okD.nd h
  | _ => simp only [isTup, Bool.not_false, if_true, isShown, bp]; rfl
end Pf
set_option Elab.async false
set_option linter.all false
set_option maxRecDepth 100000
set_option maxHeartbeats 2000000
namespace Pf
open PySem PySem.Spec PyProof.Rows L2
theorem forM_all {f : D → Unit → M (Out Unit)} {t : D → Bool} : ∀ {xs : List D}, (∀ d ∈ xs, f d () = if t d = true then pure (.nxt ()) else pure (.ret (.bool false))) → forM f xs () = if xs.all t = true then pure (.nxt ()) else pure (.ret (.bool false))
  | [], _ => rfl
  | d :: r, h => by
    have ih := forM_all (xs := r) fun x hx => h x (List.mem_cons_of_mem _ hx)
    unfold forM
    rw [h d List.mem_cons_self]
    cases e : t d with
    | false => simp only [Bool.false_eq_true, if_false, List.all_cons, e, Bool.false_and]; rfl
    | true =>
      simp only [if_true, List.all_cons, e, Bool.true_and, bp]
      exact ih
theorem join_nxt {τ τ' : Type} (t : τ') (k : τ' → M (Out τ)) : joinO (pure (.nxt t)) k = k t := rfl
theorem join_ret {τ τ' : Type} (d : D) (k : τ' → M (Out τ)) : joinO (pure (.ret d)) k = pure (.ret d) := rfl
theorem fin_ret {τ : Type} (d : D) : ((pure (.ret d) : M (Out τ)) >>= finK) = pure d := rfl
theorem lift_ret {τ : Type} (d : D) : (lift0 (pure (.ret d)) : M (Out τ)) = pure (.ret d) := rfl
theorem ite_pure {α : Type} (b c : Bool) : ((if b = true then pure true else pure c) : M Bool) = pure (b || c) := by cases b <;> rfl
theorem add_lst {xs ys : List D} (h : xs.length + ys.length ≤ 5000) : addM (.list xs) (.list ys) = pure (.list (xs ++ ys)) := by
  show (if xs.length + ys.length ≤ sizeLine then pure _ else M.bad) = _
  rw [if_pos (Nat.le_trans h (by decide))]
theorem lenSet_ints {ns : List Int} (h : ns.length ≤ 4000) : lenSetM (.list (ns.map .int)) = pure (.int (usort ns).length) := by
  unfold lenSetM seqI
  simp only [intsD_map, Option.getD_some, M.optF]
  rw [if_pos h]; rfl
theorem sortSet_ints {ns : List Int} (h : ns.length < 64) : sortSetM (.list (ns.map .int)) = pure (.list ((usort ns).map .int)) := by
  unfold sortSetM seqI
  simp only [intsD_map, Option.getD_some, M.optF]
  rw [if_pos h]; rfl
section
variable (a b c d e f g : D)
theorem x0 : ixM (.tuple [a, b, c, d, e, f, g]) (.int 0) = pure a := rfl
theorem x1 : ixM (.tuple [a, b, c, d, e, f, g]) (.int 1) = pure b := rfl
theorem x2 : ixM (.tuple [a, b, c, d, e, f, g]) (.int 2) = pure c := rfl
theorem x3 : ixM (.tuple [a, b, c, d, e, f, g]) (.int 3) = pure d := rfl
theorem x4 : ixM (.tuple [a, b, c, d, e, f, g]) (.int 4) = pure e := rfl
theorem x5 : ixM (.tuple [a, b, c, d, e, f, g]) (.int 5) = pure f := rfl
theorem x6 : ixM (.tuple [a, b, c, d, e, f, g]) (.int 6) = pure g := rfl
end
def itms : D → List D
  | .tuple xs => xs
  | _ => []
def named (a1 a2 a3 : D) : List D := (itms a1).map fstD ++ itms a2 ++ itms a3
def once (xs : List D) : Bool := decide ((usort ((intsD xs).getD [])).length = ((intsD xs).getD []).length)
def isDesk (v : D) (week many : Int) : Bool := match v with
  | .tuple [a0, a1, a2, a3, a4, a5, a6] => isRis a0 0 (week - 1) && !isNil a0 && (isShown a1 many && isRis a2 0 (many - 1) && isRis a3 0 (many - 1)) && once (named a1 a2 a3) && (isNum a4 0 (many - 1) && (isNum a5 0 2 && isNum a6 0 9))
  | _ => false
theorem ris_ints {v : D} {lo hi : Int} (h : isRis v lo hi = true) : ∃ ns : List Int, v = .tuple (ns.map .int) := by
  cases v with
  | tuple xs =>
    obtain ⟨ns, e, _⟩ := ints_of (Bool.and_eq_true_iff.mp (show (xs.all _ && asc xs) = true from h)).1
    exact ⟨ns, by rw [e]⟩
  | _ => cases h
theorem seven : ∀ {xs : List D}, xs.length = 7 → ∃ a b c d e f g, xs = [a, b, c, d, e, f, g]
  | [a, b, c, d, e, f, g], _ => ⟨a, b, c, d, e, f, g, rfl⟩
  | [], h => by cases h
  | [_], h => by cases h
  | [_, _], h => by cases h
  | [_, _, _], h => by cases h
  | [_, _, _, _], h => by cases h
  | [_, _, _, _, _], h => by cases h
  | [_, _, _, _, _, _], h => by cases h
  | _ :: _ :: _ :: _ :: _ :: _ :: _ :: _ :: _, h => by simp only [List.length_cons] at h; omega
theorem not_seven {xs : List D} {week many : Int} (h : xs.length ≠ 7) : isDesk (.tuple xs) week many = false := by
  unfold isDesk
  split
  · rename_i e
    cases e
    exact absurd rfl h
  · rfl
theorem okD.tup' {n l : Nat} {v : D} (h : okD n l v = true) : ∀ xs, v = .tuple xs → xs.length ≤ l := fun xs e => by subst e; exact (okD.tup h).1
/-- what is shown: its kinds -/
theorem shown_parts {v : D} {many : Int} {l : Nat} (h : isShown v many = true) (hl : ∀ xs, v = .tuple xs → xs.length ≤ l) : ∃ ks : List Int,
    (∀ i, lcM (.nm i) (on1 fun one_2 => (pure true)) (on1 fun x => ixM x (.int 0)) (itms v) = pure (ks.map PyData.int)) ∧ itemsM v = pure (itms v) ∧ (itms v).map fstD = ks.map PyData.int ∧ ks.length ≤ l := by
  cases v with
  | tuple xs =>
    obtain ⟨h1, h2⟩ := Bool.and_eq_true_iff.mp (show (xs.all isPair && (isRis (.tuple (xs.map fstD)) 0 (many - 1) && xs.all fun d => isNum (sndD d) 0 3)) = true from h)
    obtain ⟨h3, h4⟩ := Bool.and_eq_true_iff.mp h2
    obtain ⟨ks, e⟩ := ris_ints h3
    have e := PyData.tuple.inj e
    refine ⟨ks, fun i => ?_, rfl, e, ?_⟩
    · rw [← e]
      exact lc_map fun d hd => by
        obtain ⟨a, b, rfl⟩ := pair_of (List.all_eq_true.mp h1 d hd)
        exact ⟨_, rfl, rfl, rfl⟩
    · have := congrArg List.length e
      rw [List.length_map, List.length_map] at this
      rw [← this]; exact hl _ rfl
  | _ => cases h
theorem is_desk_spec {v : D} {week many : Int} {n l : Nat} (h : okD n l v = true) (hl : l ≤ 60) : m_is_desk [v, .int week, .int many] = pure (.bool (isDesk v week many)) := by
  unfold m_is_desk b_is_desk
  simp only [on3, fin, bp, ba, isi_tuple (okD.nd h), asB_b]
  cases v with
  | tuple xs =>
    obtain ⟨h1, h2⟩ := okD.tup h
    simp only [isTup, Bool.not_true, Bool.false_eq_true, if_false, len_tup, bp, ne_int, asB_b]
    by_cases h7 : xs.length = 7
    · obtain ⟨a0, a1, a2, a3, a4, a5, a6, rfl⟩ := seven h7
      have k0 := h2 a0 (by simp)
      have k1 := h2 a1 (by simp)
      have k2 := h2 a2 (by simp)
      have k3 := h2 a3 (by simp)
      have k4 := h2 a4 (by simp)
      have k5 := h2 a5 (by simp)
      have k6 := h2 a6 (by simp)
      have e7 : decide ((([a0, a1, a2, a3, a4, a5, a6] : List D).length : Int) = 7) = true := rfl
      have en : tupM [] = pure (.tuple []) := rfl
      simp only [e7, Bool.not_true, Bool.false_eq_true, if_false, x0, x1, x2, x3, x4, x5, x6, bp, ba, sub_int, is_rising_spec k0 hl, is_rising_spec k2 hl, is_rising_spec k3 hl, is_shown_spec k1 hl, asB_b, en, eq_nil k0, ite_pure, num_spec (okD.nd k4), num_spec (okD.nd k5), num_spec (okD.nd k6), isDesk]
      cases isRis a0 0 (week - 1) with
      | false => rfl
      | true =>
        cases isNil a0 with
        | true => rfl
        | false =>
          simp only [Bool.not_true, Bool.not_false, Bool.false_or, Bool.false_eq_true, if_false, Bool.true_and]
          cases e1 : isShown a1 many with
          | false => rfl
          | true =>
            cases e2 : isRis a2 0 (many - 1) with
            | false => rfl
            | true =>
              cases e3 : isRis a3 0 (many - 1) with
              | false => rfl
              | true =>
                simp only [Bool.not_true, Bool.false_or, Bool.false_eq_true, if_false, Bool.true_and]
                obtain ⟨ks, q, p1, p2, p3⟩ := shown_parts e1 (okD.tup' k1)
                obtain ⟨n2, rfl⟩ := ris_ints e2
                obtain ⟨n3, rfl⟩ := ris_ints e3
                have l2 := (okD.tup k2).1
                have l3 := (okD.tup k3).1
                rw [List.length_map] at l2 l3
                have m1 : lstM (ks.map PyData.int) = pure (.list (ks.map PyData.int)) := lst_short (by rw [List.length_map]; omega)
                have m2 : addM (.list (ks.map PyData.int)) (.list (n2.map PyData.int)) = pure (.list ((ks ++ n2).map PyData.int)) := by rw [add_lst (by simp only [List.length_map]; omega), List.map_append]
                have m3 : addM (.list ((ks ++ n2).map PyData.int)) (.list (n3.map PyData.int)) = pure (.list ((ks ++ n2 ++ n3).map PyData.int)) := by rw [add_lst (by simp only [List.length_map, List.length_append]; omega), List.map_append (l₁ := ks ++ n2)]
                have m4 : lenSetM (.list ((ks ++ n2 ++ n3).map PyData.int)) = pure (.int (usort (ks ++ n2 ++ n3)).length) := lenSet_ints (by simp only [List.length_append]; omega)
                have m5 : named a1 (.tuple (n2.map PyData.int)) (.tuple (n3.map PyData.int)) = (ks ++ n2 ++ n3).map PyData.int := by unfold named; rw [p2]; simp only [itms, List.map_append]
                have hl1 : ∀ xs : List D, listM [.tuple xs] = pure (.list xs) := fun _ => rfl
                have m6 : decide ((((ks ++ n2 ++ n3).map PyData.int).length : Int) = ((usort (ks ++ n2 ++ n3)).length : Int)) = once (named a1 (.tuple (n2.map PyData.int)) (.tuple (n3.map PyData.int))) := by
                  unfold once; rw [m5, intsD_map, Option.getD_some, List.length_map]
                  by_cases hz : (usort (ks ++ n2 ++ n3)).length = (ks ++ n2 ++ n3).length
                  · rw [decide_eq_true hz]; exact decide_eq_true (by rw [hz])
                  · rw [decide_eq_false hz]; exact decide_eq_false (by omega)
                simp only [bp, Bool.false_eq_true, if_false, p1, q, m1, hl1, m2, m3, len_lst, m4, ne_int, m6, asB_b]
                cases once (named a1 (.tuple (n2.map PyData.int)) (.tuple (n3.map PyData.int))) with
                | false => rfl
                | true =>
                  simp only [Bool.not_true, Bool.false_eq_true, if_false, Bool.true_and]
                  cases isNum a4 0 (many - 1) <;> cases isNum a5 0 2 <;> rfl
    · have e7 : decide ((xs.length : Int) = 7) = false := decide_eq_false (by omega)
      simp only [e7, Bool.not_false, if_true, bp, not_seven h7, lift_ret]
      rfl
  | dict _ => cases okD.nd h
  | _ => simp only [isTup, Bool.not_false, if_true, isDesk, bp]; rfl
end Pf
set_option Elab.async false
set_option linter.all false
set_option maxRecDepth 100000
set_option maxHeartbeats 2000000
namespace Pf
open PySem PySem.Spec PyProof.Rows L2
/-- a pair with a number from 0 to 3 behind -/
def shOk (d : D) : Bool := isPair d && isNum (sndD d) 0 3
theorem fdesk1 {d : D} {n l : Nat} (h : okD n l d = true) : f__law_is_desk_1 [d] () = if shOk d = true then pure (.nxt ()) else pure (.ret (.bool false)) := by
  unfold f__law_is_desk_1 shOk
  simp only [on1, bp, ba, isi_tuple (okD.nd h), asB_b]
  cases d with
  | tuple xs =>
    simp only [isTup, Bool.not_true, Bool.false_eq_true, if_false, len_tup, bp, ne_int, asB_b, pair_len]
    cases e : decide ((xs.length : Int) = 2) with
    | false => rfl
    | true =>
      obtain ⟨a, b, e2⟩ := pair_of (d := .tuple xs) (by rw [pair_len, e])
      cases e2
      have k := (okD.tup h).2 b (by simp)
      have x : ixM (.tuple [a, b]) (.int 1) = pure b := rfl
      simp only [Bool.not_true, Bool.false_eq_true, if_false, bp, ba, x, lnum_spec (okD.nd k), asB_b, Bool.true_and, sndD]
      cases isNum b 0 3 <;> rfl
  | dict _ => cases okD.nd h
  | _ => rfl
theorem fdesk2 {v : D} {many : Int} {n l : Nat} (h : okD n l v = true) (hl : l ≤ 60) : f__law_is_desk_2 (.int many) [v] () = if isRis v 0 (many - 1) = true then pure (.nxt ()) else pure (.ret (.bool false)) := by
  unfold f__law_is_desk_2
  simp only [on1, bp, ba, sub_int, law_rising_spec h hl, asB_b]
  cases isRis v 0 (many - 1) <;> rfl
theorem all_and {α : Type} {f g : α → Bool} : ∀ (xs : List α), (xs.all fun x => f x && g x) = (xs.all f && xs.all g)
  | [] => rfl
  | x :: r => by
    simp only [List.all_cons, all_and r]
    cases f x <;> cases g x <;> cases r.all f <;> rfl
theorem law_is_desk_spec {v : D} {week many : Int} {n l : Nat} (h : okD n l v = true) (hl : l ≤ 20) : m__law_is_desk [v, .int week, .int many] = pure (.bool (isDesk v week many)) := by
  have hl6 : l ≤ 60 := by omega
  unfold m__law_is_desk b__law_is_desk
  simp only [on3, fin, bp, ba, isi_tuple (okD.nd h), asB_b]
  cases v with
  | tuple xs =>
    obtain ⟨h1, h2⟩ := okD.tup h
    simp only [isTup, Bool.not_true, Bool.false_eq_true, if_false, len_tup, bp, ne_int, asB_b]
    by_cases h7 : xs.length = 7
    · obtain ⟨a0, a1, a2, a3, a4, a5, a6, rfl⟩ := seven h7
      have k0 := h2 a0 (by simp)
      have k1 := h2 a1 (by simp)
      have k2 := h2 a2 (by simp)
      have k3 := h2 a3 (by simp)
      have k4 := h2 a4 (by simp)
      have k5 := h2 a5 (by simp)
      have k6 := h2 a6 (by simp)
      have e7 : decide ((([a0, a1, a2, a3, a4, a5, a6] : List D).length : Int) = 7) = true := rfl
      have en : tupM [] = pure (.tuple []) := rfl
      simp only [e7, Bool.not_true, Bool.false_eq_true, if_false, x0, x1, x2, x3, x4, x5, x6, bp, ba, sub_int, law_rising_spec k0 hl6, asB_b, en, eq_nil k0, ite_pure, isi_tuple (okD.nd k1), lnum_spec (okD.nd k4), lnum_spec (okD.nd k5), lnum_spec (okD.nd k6), isDesk]
      cases isRis a0 0 (week - 1) with
      | false => rfl
      | true =>
        cases isNil a0 with
        | true => rfl
        | false =>
          simp only [Bool.not_true, Bool.not_false, Bool.false_or, Bool.false_eq_true, if_false, Bool.true_and]
          cases a1 with
          | tuple ys =>
            obtain ⟨j1, j2⟩ := okD.tup k1
            have b1 : forM (fun d t_1 => M.opt (patD (.nm 3) d) >>= fun ds => f__law_is_desk_1 ds t_1) ys () = if ys.all shOk = true then pure (.nxt ()) else pure (.ret (.bool false)) := forM_all fun d hd => fdesk1 (j2 d hd)
            simp only [isTup, Bool.not_true, Bool.false_eq_true, if_false, items_tup, bp, b1]
            cases hs : ys.all shOk with
            | false =>
              have e1 : isShown (.tuple ys) many = false := by
                have e0 : (ys.all isPair && ys.all fun d => isNum (sndD d) 0 3) = false := by rw [← all_and]; exact hs
                show (ys.all isPair && (isRis (.tuple (ys.map fstD)) 0 (many - 1) && ys.all fun d => isNum (sndD d) 0 3)) = false
                revert e0
                generalize ys.all isPair = u
                generalize (ys.all fun d => isNum (sndD d) 0 3) = v
                generalize isRis (.tuple (ys.map fstD)) 0 (many - 1) = r
                cases u <;> cases v <;> cases r <;> simp
              simp only [e1, Bool.false_eq_true, if_false, Bool.false_and]
              rfl
            | true =>
              have hh : ys.all isPair = true ∧ (ys.all fun d => isNum (sndD d) 0 3) = true := by
                have : (ys.all isPair && ys.all fun d => isNum (sndD d) 0 3) = true := by rw [← all_and]; exact hs
                exact Bool.and_eq_true_iff.mp this
              have e1 : isShown (.tuple ys) many = isRis (.tuple (ys.map fstD)) 0 (many - 1) := by
                show (ys.all isPair && (isRis (.tuple (ys.map fstD)) 0 (many - 1) && ys.all fun d => isNum (sndD d) 0 3)) = _
                simp only [hh.1, hh.2, Bool.true_and, Bool.and_true]
              have e2 : lcM (.nm 3) (on1 fun one_4 => (pure true)) (on1 fun one_4 => ixM one_4 (.int 0)) ys = pure (ys.map fstD) := lc_map fun d hd => by
                obtain ⟨a, b, rfl⟩ := pair_of (List.all_eq_true.mp hh.1 d hd)
                exact ⟨_, rfl, rfl, rfl⟩
              have q1 : lstM (ys.map fstD) = pure (.list (ys.map fstD)) := lst_short (by rw [List.length_map]; omega)
              have q2 : tupleM [.list (ys.map fstD)] = pure (.tuple (ys.map fstD)) := rfl
              have q3 : tupM [.tuple (ys.map fstD), a2, a3] = pure (.tuple [.tuple (ys.map fstD), a2, a3]) := tup_short (by show 3 ≤ 5000; decide)
              have hk : okD (n - 1) l (.tuple (ys.map fstD)) = true := okD.mono (n := n - 1 - 1 - 1 + 1) (by
                have : n - 1 ≠ 0 := fun z => by rw [z] at k1; cases k1
                omega) (Nat.le_refl l) (okD_map j1 fun d hd => by
                obtain ⟨a, b, rfl⟩ := pair_of (List.all_eq_true.mp hh.1 d hd)
                exact (okD.tup (j2 _ hd)).2 a (by simp [fstD]))
              have b2 : forM (fun d t_5 => M.opt (patD (.nm 5) d) >>= fun ds => f__law_is_desk_2 (.int many) ds t_5) [.tuple (ys.map fstD), a2, a3] () = if ([.tuple (ys.map fstD), a2, a3] : List D).all (fun v => isRis v 0 (many - 1)) = true then pure (.nxt ()) else pure (.ret (.bool false)) := forM_all fun d hd => by
                have : okD (n - 1) l d = true := by
                  rcases List.mem_cons.mp hd with rfl | hd
                  · exact hk
                  · rcases List.mem_cons.mp hd with rfl | hd
                    · exact k2
                    · rw [List.mem_singleton.mp hd]; exact k3
                exact fdesk2 this hl6
              have b3 : ([.tuple (ys.map fstD), a2, a3] : List D).all (fun v => isRis v 0 (many - 1)) = (isRis (.tuple (ys.map fstD)) 0 (many - 1) && isRis a2 0 (many - 1) && isRis a3 0 (many - 1)) := by
                simp only [List.all_cons, List.all_nil, Bool.and_true, Bool.and_assoc]
              simp only [if_true, join_nxt, e2, bp, q1, q2, q3, items_tup, b2, b3, e1]
              cases r1 : isRis (.tuple (ys.map fstD)) 0 (many - 1) with
              | false => rfl
              | true =>
                cases r2 : isRis a2 0 (many - 1) with
                | false => rfl
                | true =>
                  cases r3 : isRis a3 0 (many - 1) with
                  | false => rfl
                  | true =>
                    obtain ⟨ks, ek⟩ := ris_ints r1
                    have ek := PyData.tuple.inj ek
                    obtain ⟨n2, rfl⟩ := ris_ints r2
                    obtain ⟨n3, rfl⟩ := ris_ints r3
                    have l2 := (okD.tup k2).1
                    have l3 := (okD.tup k3).1
                    have lk : ks.length ≤ l := by have := congrArg List.length ek; rw [List.length_map, List.length_map] at this; omega
                    rw [List.length_map] at l2 l3
                    have m2 : addM (.list (ks.map PyData.int)) (.list (n2.map PyData.int)) = pure (.list ((ks ++ n2).map PyData.int)) := by rw [add_lst (by simp only [List.length_map]; omega), List.map_append]
                    have m3 : addM (.list ((ks ++ n2).map PyData.int)) (.list (n3.map PyData.int)) = pure (.list ((ks ++ n2 ++ n3).map PyData.int)) := by rw [add_lst (by simp only [List.length_map, List.length_append]; omega), List.map_append (l₁ := ks ++ n2)]
                    have m4 : sortSetM (.list ((ks ++ n2 ++ n3).map PyData.int)) = pure (.list ((usort (ks ++ n2 ++ n3)).map PyData.int)) := sortSet_ints (by simp only [List.length_append]; omega)
                    have m5 : named (.tuple ys) (.tuple (n2.map PyData.int)) (.tuple (n3.map PyData.int)) = (ks ++ n2 ++ n3).map PyData.int := by unfold named; simp only [itms, ek, List.map_append]
                    have hl1 : ∀ xs : List D, listM [.tuple xs] = pure (.list xs) := fun _ => rfl
                    have m6 : decide ((((usort (ks ++ n2 ++ n3)).map PyData.int).length : Int) = (((ks ++ n2 ++ n3).map PyData.int).length : Int)) = once (named (.tuple ys) (.tuple (n2.map PyData.int)) (.tuple (n3.map PyData.int))) := by
                      unfold once; rw [m5, intsD_map, Option.getD_some, List.length_map, List.length_map]
                      by_cases hz : (usort (ks ++ n2 ++ n3)).length = (ks ++ n2 ++ n3).length
                      · rw [decide_eq_true hz]; exact decide_eq_true (by rw [hz])
                      · rw [decide_eq_false hz]; exact decide_eq_false (by omega)
                    simp only [Bool.and_true, if_true, join_nxt, ek, bp, hl1, m2, m3, m4, len_lst, ne_int, m6, asB_b]
                    cases once (named (.tuple ys) (.tuple (n2.map PyData.int)) (.tuple (n3.map PyData.int))) with
                    | false => rfl
                    | true =>
                      simp only [Bool.not_true, Bool.false_eq_true, if_false, Bool.true_and]
                      cases isNum a4 0 (many - 1) <;> cases isNum a5 0 2 <;> rfl
          | dict _ => cases okD.nd k1
          | _ => rfl
    · have e7 : decide ((xs.length : Int) = 7) = false := decide_eq_false (by omega)
      simp only [e7, Bool.not_false, if_true, bp, not_seven h7, lift_ret]
      rfl
  | dict _ => cases okD.nd h
  | _ => simp only [isTup, Bool.not_false, if_true, isDesk, bp]; rfl
end Pf
set_option Elab.async false
set_option linter.all false
set_option maxRecDepth 100000
set_option maxHeartbeats 2000000
namespace Pf
open PySem PySem.Spec PyProof.Rows L2
def isKind (d : D) : Bool := isPair d && (isNum (fstD d) 1 4 && isNum (sndD d) 1 2)
theorem is_kind_spec {d : D} {n l : Nat} (h : okD n l d = true) : m_is_kind [d] = pure (.bool (isKind d)) := by
  unfold m_is_kind b_is_kind isKind
  simp only [on1, fin, bp, ba, isi_tuple (okD.nd h), asB_b]
  cases d with
  | tuple xs =>
    simp only [isTup, if_true, len_tup, bp, ba, eq_int, asB_b, pair_len]
    cases e : decide ((xs.length : Int) = 2) with
    | false => rfl
    | true =>
      obtain ⟨a, b, e2⟩ := pair_of (d := .tuple xs) (by rw [pair_len, e])
      cases e2
      have k0 := (okD.tup h).2 a (by simp)
      have k1 := (okD.tup h).2 b (by simp)
      have y0 : ixM (.tuple [a, b]) (.int 0) = pure a := rfl
      have y1 : ixM (.tuple [a, b]) (.int 1) = pure b := rfl
      simp only [if_true, bp, ba, y0, y1, num_spec (okD.nd k0), num_spec (okD.nd k1), asB_b, fstD, sndD]
      cases isNum a 1 4 <;> cases isNum b 1 2 <;> rfl
  | dict _ => cases okD.nd h
  | _ => rfl
theorem fkind {d : D} {n l : Nat} (h : okD n l d = true) : f__law_is_town_2 [d] () = if isKind d = true then pure (.nxt ()) else pure (.ret (.bool false)) := by
  unfold f__law_is_town_2 isKind
  simp only [on1, bp, ba, isi_tuple (okD.nd h), asB_b]
  cases d with
  | tuple xs =>
    simp only [isTup, Bool.not_true, Bool.false_eq_true, if_false, len_tup, bp, ba, ne_int, asB_b, pair_len]
    cases e : decide ((xs.length : Int) = 2) with
    | false => rfl
    | true =>
      obtain ⟨a, b, e2⟩ := pair_of (d := .tuple xs) (by rw [pair_len, e])
      cases e2
      have k0 := (okD.tup h).2 a (by simp)
      have k1 := (okD.tup h).2 b (by simp)
      have y0 : ixM (.tuple [a, b]) (.int 0) = pure a := rfl
      have y1 : ixM (.tuple [a, b]) (.int 1) = pure b := rfl
      simp only [Bool.not_true, Bool.false_eq_true, if_false, bp, ba, y0, y1, lnum_spec (okD.nd k0), lnum_spec (okD.nd k1), asB_b, fstD, sndD, ite_pure, Bool.true_and]
      cases isNum a 1 4 <;> cases isNum b 1 2 <;> rfl
  | dict _ => cases okD.nd h
  | _ => rfl
theorem ftup {d : D} {n l : Nat} (h : okD n l d = true) : f__law_is_town_1 [d] () = if isTup d = true then pure (.nxt ()) else pure (.ret (.bool false)) := by
  unfold f__law_is_town_1
  simp only [on1, bp, ba, isi_tuple (okD.nd h), asB_b]
  cases isTup d <;> rfl
def numI : D → Int
  | .int i => i
  | _ => 0
def lenI (v : D) : Int := (itms v).length
def isTown (v : D) : Bool := match v with
  | .tuple [w, ks, ds] => isNum w 1 3 && (isTup ks && isTup ds && (decide (1 ≤ lenI ks) && decide (lenI ks ≤ 3)) && !decide (5 < lenI ds) && ((itms ks).all isKind && (itms ds).all fun d => isDesk d (numI w) (lenI ks)))
  | _ => false
theorem three : ∀ {xs : List D}, xs.length = 3 → ∃ a b c, xs = [a, b, c]
  | [a, b, c], _ => ⟨a, b, c, rfl⟩
  | [], h => by cases h
  | [_], h => by cases h
  | [_, _], h => by cases h
  | _ :: _ :: _ :: _ :: _, h => by simp only [List.length_cons] at h; omega
theorem not_three {xs : List D} (h : xs.length ≠ 3) : isTown (.tuple xs) = false := by
  unfold isTown
  split
  · rename_i e
    cases e
    exact absurd rfl h
  · rfl
theorem num_int {v : D} {lo hi : Int} (h : isNum v lo hi = true) : v = .int (numI v) := by cases v <;> first | rfl | cases h
theorem le_int (i j : Int) : leM (.int i) (.int j) = pure (.bool (decide (i ≤ j))) := rfl
theorem gt_int (i j : Int) : gtM (.int i) (.int j) = pure (.bool (decide (j < i))) := rfl
section
variable (a b c : D)
theorem z0 : ixM (.tuple [a, b, c]) (.int 0) = pure a := rfl
theorem z1 : ixM (.tuple [a, b, c]) (.int 1) = pure b := rfl
theorem z2 : ixM (.tuple [a, b, c]) (.int 2) = pure c := rfl
end
theorem tup_of {v : D} (h : isTup v = true) : v = .tuple (itms v) := by cases v <;> first | rfl | cases h
theorem is_town_spec {v : D} {n l : Nat} (h : okD n l v = true) (hl : l ≤ 20) : m_is_town [v] = pure (.bool (isTown v)) := by
  have hl6 : l ≤ 60 := by omega
  unfold m_is_town b_is_town
  simp only [on1, fin, bp, ba, isi_tuple (okD.nd h), asB_b]
  cases v with
  | tuple xs =>
    obtain ⟨h1, h2⟩ := okD.tup h
    simp only [isTup, Bool.not_true, Bool.false_eq_true, if_false, len_tup, bp, ne_int, asB_b]
    by_cases h7 : xs.length = 3
    · obtain ⟨w, ks, ds, rfl⟩ := three h7
      have k0 := h2 w (by simp)
      have k1 := h2 ks (by simp)
      have k2 := h2 ds (by simp)
      have e7 : decide ((([w, ks, ds] : List D).length : Int) = 3) = true := rfl
      simp only [e7, Bool.not_true, Bool.false_eq_true, if_false, z0, z1, z2, bp, ba, num_spec (okD.nd k0), asB_b, isi_tuple (okD.nd k1), isi_tuple (okD.nd k2), ite_pure, Bool.false_or]
      show _ = (pure (PyData.bool (isNum w 1 3 && (isTup ks && isTup ds && (decide (1 ≤ lenI ks) && decide (lenI ks ≤ 3)) && !decide (5 < lenI ds) && ((itms ks).all isKind && (itms ds).all fun d => isDesk d (numI w) (lenI ks))))) : M D)
      cases hw : isNum w 1 3 with
      | false => rfl
      | true =>
        have ew := num_int hw
        cases hk : isTup ks with
        | false => rfl
        | true =>
          have ek := tup_of hk
          generalize hys : itms ks = ys at ek ⊢
          subst ek
          obtain ⟨j1, j2⟩ := okD.tup k1
          have elk : lenI (.tuple ys) = (ys.length : Int) := rfl
          have a1 : lcM (.nm 1) (on1 fun one_1 => (pure true)) (on1 fun one_1 => m_is_kind [one_1]) ys = pure (ys.map fun d => .bool (isKind d)) := lc_map fun d hd => ⟨_, rfl, rfl, is_kind_spec (j2 d hd)⟩
          have a2 : lstM (ys.map fun d => PyData.bool (isKind d)) = pure (.list (ys.map fun d => PyData.bool (isKind d))) := lst_short (by rw [List.length_map]; omega)
          simp only [Bool.not_true, Bool.false_eq_true, if_false, bp, len_tup, le_int, asB_b, elk, items_tup, a1, a2, allM_map, Bool.true_and]
          cases hc1 : decide ((1 : Int) ≤ (ys.length : Int)) with
          | false => cases isTup ds <;> rfl
          | true =>
            simp only [if_true, bp, asB_b, Bool.true_and]
            cases hc2 : decide ((ys.length : Int) ≤ 3) with
            | false => cases isTup ds <;> rfl
            | true =>
              simp only [Bool.not_true, Bool.false_eq_true, if_false, bp, Bool.and_true]
              cases hd : isTup ds with
              | false => cases ys.all isKind <;> rfl
              | true =>
                have ed := tup_of hd
                generalize hzs : itms ds = zs at ed ⊢
                subst ed
                obtain ⟨i1, i2⟩ := okD.tup k2
                have eld : lenI (.tuple zs) = (zs.length : Int) := rfl
                have b1 : lcM (.nm 1) (on1 fun one_2 => (pure true)) (on1 fun one_2 => m_is_desk [one_2, w, .int (ys.length : Int)]) zs = pure (zs.map fun d => .bool (isDesk d (numI w) (ys.length : Int))) := lc_map fun d hd => ⟨_, rfl, rfl, by
                  show m_is_desk [d, w, .int (ys.length : Int)] = _
                  rw [ew]
                  exact is_desk_spec (i2 d hd) hl6⟩
                have b2 : lstM (zs.map fun d => PyData.bool (isDesk d (numI w) (ys.length : Int))) = pure (.list (zs.map fun d => PyData.bool (isDesk d (numI w) (ys.length : Int)))) := lst_short (by rw [List.length_map]; omega)
                simp only [Bool.not_true, Bool.false_eq_true, if_false, bp, len_tup, gt_int, asB_b, eld, items_tup, b1, b2, allM_map, Bool.true_and, ite_pure, Bool.false_or]
                cases ys.all isKind with
                | false => cases decide ((5 : Int) < (zs.length : Int)) <;> rfl
                | true =>
                  cases decide ((5 : Int) < (zs.length : Int)) with
                  | true => rfl
                  | false => simp only [Bool.not_true, Bool.not_false, Bool.false_or, Bool.false_eq_true, if_false, bp, Bool.true_and]; rfl
    · have e7 : decide ((xs.length : Int) = 3) = false := decide_eq_false (by omega)
      simp only [e7, Bool.not_false, if_true, bp, not_three h7, lift_ret]
      rfl
  | dict _ => cases okD.nd h
  | _ => simp only [isTup, Bool.not_false, if_true, isTown, bp]; rfl
end Pf
set_option Elab.async false
set_option linter.all false
set_option maxRecDepth 100000
set_option maxHeartbeats 2000000
namespace Pf
open PySem PySem.Spec PyProof.Rows L2
theorem filter_not_all {f : D → Bool} (xs : List D) : (xs.filter fun d => !f d).isEmpty = xs.all f := by
  cases hx : xs.all f with
  | true =>
    have : (xs.filter fun d => !f d) = [] := List.filter_eq_nil_iff.mpr fun x hm => by have := List.all_eq_true.mp hx x hm; simp [this]
    rw [this]; rfl
  | false =>
    cases hz : (xs.filter fun d => !f d) with
    | cons y r => rfl
    | nil =>
      have h3 : xs.all f = true := List.all_eq_true.mpr fun x hm => by
        have := List.filter_eq_nil_iff.mp hz x hm
        simpa using this
      rw [h3] at hx; cases hx
/-- [one for one in xs if not ..] == [] -/
theorem none_left {f : D → Bool} {xs : List D} {n l : Nat} (h : ∀ x ∈ xs, okD n l x = true) (hl : xs.length ≤ 5000) : (lstM ((xs.filter fun d => !f d).map id) >>= fun x => lstM [] >>= fun y => eqM x y) = pure (.bool (xs.all f)) := by
  have hlay : PyData.canLayAll0 ((xs.filter fun d => !f d).map id) = true := layAll fun x hx => by
    obtain ⟨y, hy, rfl⟩ := List.mem_map.mp hx
    exact (okD.lay (h y (List.mem_filter.mp hy).1)).1
  rw [lst_short (xs := (xs.filter fun d => !f d).map id) (by rw [List.length_map]; have := List.length_filter_le (fun d => !f d) xs; omega), lst_short (xs := []) (by decide)]
  show eqM _ _ = _
  rw [eqM_ok ⟨by rw [PyData.canLay0]; exact hlay, rfl, Nat.le_trans (Nat.min_le_right _ _) (by decide)⟩, eqv_lnil, List.map_id, filter_not_all]
theorem law_is_town_spec {v : D} {n l : Nat} (h : okD n l v = true) (hl : l ≤ 20) : m__law_is_town [v] = pure (.bool (isTown v)) := by
  have hl6 : l ≤ 60 := by omega
  unfold m__law_is_town b__law_is_town
  simp only [on1, fin, bp, ba, isi_tuple (okD.nd h), asB_b]
  cases v with
  | tuple xs =>
    obtain ⟨h1, h2⟩ := okD.tup h
    simp only [isTup, Bool.not_true, Bool.false_eq_true, if_false, len_tup, bp, ne_int, asB_b]
    by_cases h7 : xs.length = 3
    · obtain ⟨w, ks, ds, rfl⟩ := three h7
      have k0 := h2 w (by simp)
      have k1 := h2 ks (by simp)
      have k2 := h2 ds (by simp)
      have e7 : decide ((([w, ks, ds] : List D).length : Int) = 3) = true := rfl
      have c1 : slM (.tuple [w, ks, ds]) (some 1) none = pure (.tuple [ks, ds]) := by show pure (PyData.tuple (cutL [w, ks, ds] (some 1) none)) = _; rw [cut1]; rfl
      have c2 : forM (fun d t_1 => M.opt (patD (.nm 1) d) >>= fun ds => f__law_is_town_1 ds t_1) [ks, ds] () = if ([ks, ds] : List D).all isTup = true then pure (.nxt ()) else pure (.ret (.bool false)) := forM_all fun d hd => by
        rcases List.mem_cons.mp hd with rfl | hd
        · exact ftup k1
        · rw [List.mem_singleton.mp hd]; exact ftup k2
      simp only [e7, Bool.not_true, Bool.false_eq_true, if_false, z0, z1, z2, bp, ba, lnum_spec (okD.nd k0), asB_b, asI_int, c1, items_tup, c2]
      show _ = (pure (PyData.bool (isNum w 1 3 && (isTup ks && isTup ds && (decide (1 ≤ lenI ks) && decide (lenI ks ≤ 3)) && !decide (5 < lenI ds) && ((itms ks).all isKind && (itms ds).all fun d => isDesk d (numI w) (lenI ks))))) : M D)
      cases hw : isNum w 1 3 with
      | false => rfl
      | true =>
        have ew := num_int hw
        have ca : ([ks, ds] : List D).all isTup = (isTup ks && isTup ds) := by simp only [List.all_cons, List.all_nil, Bool.and_true]
        rw [ca]
        cases hk : isTup ks with
        | false => rfl
        | true =>
          cases hd : isTup ds with
          | false => rfl
          | true =>
            have ek := tup_of hk
            generalize hys : itms ks = ys at ek ⊢
            subst ek
            have ed := tup_of hd
            generalize hzs : itms ds = zs at ed ⊢
            subst ed
            obtain ⟨j1, j2⟩ := okD.tup k1
            obtain ⟨i1, i2⟩ := okD.tup k2
            have elk : lenI (.tuple ys) = (ys.length : Int) := rfl
            have eld : lenI (.tuple zs) = (zs.length : Int) := rfl
            have a1 : forM (fun d t_3 => M.opt (patD (.nm 2) d) >>= fun ds => f__law_is_town_2 ds t_3) ys () = if ys.all isKind = true then pure (.nxt ()) else pure (.ret (.bool false)) := forM_all fun d hd => fkind (j2 d hd)
            have b1 : lcM (.nm 3) (on1 fun desk_5 => (m__law_is_desk [desk_5, w, .int (ys.length : Int)] >>= fun x => asB x >>= fun x => pure (!x))) (on1 fun desk_5 => (pure desk_5)) zs = pure ((zs.filter fun d => !isDesk d (numI w) (ys.length : Int)).map id) := lc_gen fun d hd => ⟨_, rfl, by
              show (m__law_is_desk [d, w, .int (ys.length : Int)] >>= _) = _
              rw [ew, law_is_desk_spec (i2 d hd) hl]; rfl, fun _ => rfl⟩
            have b2 := none_left (f := fun d => isDesk d (numI w) (ys.length : Int)) (xs := zs) i2 (by omega)
            simp only [Bool.not_true, Bool.false_eq_true, if_false, bp, ba, len_tup, le_int, asB_b, elk, eld, items_tup, a1, b1, gt_int, Bool.true_and, if_true, join_nxt]
            cases hc1 : decide ((1 : Int) ≤ (ys.length : Int)) with
            | false => rfl
            | true =>
              simp only [if_true, bp, asB_b, Bool.true_and]
              cases hc2 : decide ((ys.length : Int) ≤ 3) with
              | false => rfl
              | true =>
                simp only [Bool.not_true, Bool.false_eq_true, if_false, bp]
                cases decide ((5 : Int) < (zs.length : Int)) with
                | true => rfl
                | false =>
                  simp only [Bool.not_false, Bool.false_eq_true, if_false, Bool.true_and]
                  cases ys.all isKind with
                  | false => rfl
                  | true =>
                    simp only [if_true, join_nxt, Bool.true_and, ba]
                    rw [← b2]
                    have bpp : ∀ m : M D, (m >>= fun a => (finK (Out.ret a : Out Unit) : M D)) = m := fun m => M.bind_pure m
                    simp only [ba, bp, bpp]
    · have e7 : decide ((xs.length : Int) = 3) = false := decide_eq_false (by omega)
      simp only [e7, Bool.not_false, if_true, bp, not_three h7, lift_ret]
      rfl
  | dict _ => cases okD.nd h
  | _ => simp only [isTup, Bool.not_false, if_true, isTown, bp]; rfl
end Pf
set_option Elab.async false
set_option linter.all false
set_option maxRecDepth 100000
set_option maxHeartbeats 2000000
namespace Pf
open PySem PySem.Spec PyProof.Rows L2
/-- what can be had of a kind (life, many) -/
def isPap (v : D) (life many : Int) : Bool := match v with
  | .tuple [] => true
  | .tuple [a] => isNum a 1 2
  | .tuple [a, b] => isNum a 0 (life - 1) && isNum b 1 many
  | _ => false
theorem pap_long {xs : List D} {life many : Int} (h : 2 < xs.length) : isPap (.tuple xs) life many = false := by
  match xs, h with
  | _ :: _ :: _ :: _, _ => rfl
section
variable (a b : D)
theorem w0 : ixM (.tuple [a, b]) (.int 0) = pure a := rfl
theorem w1 : ixM (.tuple [a, b]) (.int 1) = pure b := rfl
theorem u0 : ixM (.tuple [a]) (.int 0) = pure a := rfl
end
theorem is_paper_spec {v : D} {life many : Int} {n l : Nat} (h : okD n l v = true) : m_is_paper [v, .tuple [.int life, .int many]] = pure (.bool (isPap v life many)) := by
  unfold m_is_paper b_is_paper
  simp only [on2, fin, bp, ba, isi_tuple (okD.nd h), asB_b]
  cases v with
  | tuple xs =>
    have en : tupM [] = pure (.tuple []) := rfl
    simp only [isTup, Bool.not_true, Bool.false_eq_true, if_false, len_tup, bp, ba, gt_int, eq_int, asB_b, en, eq_nil h]
    match xs, h with
    | [], _ => rfl
    | [a], h =>
      have k0 := (okD.tup h).2 a (by simp)
      have d1 : decide ((2 : Int) < (([a] : List D).length : Int)) = false := rfl
      have d2 : decide ((([a] : List D).length : Int) = 2) = false := rfl
      simp only [d1, d2, Bool.false_eq_true, if_false, isNil, u0, bp, num_spec (okD.nd k0), isPap]
      rfl
    | [a, b], h =>
      have k0 := (okD.tup h).2 a (by simp)
      have k1 := (okD.tup h).2 b (by simp)
      have d1 : decide ((2 : Int) < (([a, b] : List D).length : Int)) = false := rfl
      have d2 : decide ((([a, b] : List D).length : Int) = 2) = true := rfl
      simp only [d1, d2, Bool.false_eq_true, if_false, if_true, w0, w1, bp, sub_int, num_spec (okD.nd k0), num_spec (okD.nd k1), asB_b, isPap]
      cases isNum a 0 (life - 1) <;> cases isNum b 1 many <;> rfl
    | a :: b :: c :: r, h =>
      have d1 : decide ((2 : Int) < ((a :: b :: c :: r : List D).length : Int)) = true := decide_eq_true (by simp only [List.length_cons]; omega)
      simp only [d1, if_true, bp, isPap]
      rfl
  | dict _ => cases okD.nd h
  | _ => simp only [isTup, Bool.not_false, if_true, isPap, bp]; rfl
theorem fpap {v : D} {life many : Int} {n l : Nat} (h : okD n l v = true) : f__law_is_stand_1 [v, .int life, .int many] () = if isPap v life many = true then pure (.nxt ()) else pure (.ret (.bool false)) := by
  unfold f__law_is_stand_1
  simp only [on3, bp, ba, isi_tuple (okD.nd h), asB_b]
  cases v with
  | tuple xs =>
    simp only [isTup, Bool.not_true, Bool.false_eq_true, if_false, len_tup, bp, ba, gt_int, eq_int, asB_b]
    match xs, h with
    | [], _ => rfl
    | [a], h =>
      have k0 := (okD.tup h).2 a (by simp)
      have d1 : decide ((2 : Int) < (([a] : List D).length : Int)) = false := rfl
      have d2 : decide ((([a] : List D).length : Int) = 2) = false := rfl
      have d3 : decide ((([a] : List D).length : Int) = 1) = true := rfl
      simp only [d1, d2, d3, Bool.false_eq_true, if_false, if_true, u0, bp, ba, lnum_spec (okD.nd k0), asB_b, isPap]
      rcases Bool.eq_false_or_eq_true (isNum a 1 2) with e | e <;> simp only [e, Bool.not_true, Bool.not_false, if_true, Bool.false_eq_true, if_false] <;> rfl
    | [a, b], h =>
      have k0 := (okD.tup h).2 a (by simp)
      have k1 := (okD.tup h).2 b (by simp)
      have d1 : decide ((2 : Int) < (([a, b] : List D).length : Int)) = false := rfl
      have d2 : decide ((([a, b] : List D).length : Int) = 2) = true := rfl
      have d3 : decide ((([a, b] : List D).length : Int) = 1) = false := rfl
      simp only [d1, d2, d3, Bool.false_eq_true, if_false, if_true, w0, w1, bp, ba, sub_int, lnum_spec (okD.nd k0), lnum_spec (okD.nd k1), asB_b, isPap]
      rcases Bool.eq_false_or_eq_true (isNum a 0 (life - 1)) with e | e <;> rcases Bool.eq_false_or_eq_true (isNum b 1 many) with e' | e' <;> simp only [e, e', Bool.not_true, Bool.not_false, if_true, Bool.false_eq_true, if_false, bp, Bool.true_and, Bool.false_and] <;> rfl
    | a :: b :: c :: r, h =>
      have d1 : decide ((2 : Int) < ((a :: b :: c :: r : List D).length : Int)) = true := decide_eq_true (by simp only [List.length_cons]; omega)
      simp only [d1, if_true, bp, isPap]
      rfl
  | dict _ => cases okD.nd h
  | _ => simp only [isTup, Bool.not_false, if_true, isPap, bp]; rfl
/-! ### stands -/
def kindsD (ks : List (Int × Int)) : List D := ks.map fun k => .tuple [.int k.1, .int k.2]
/-- each thing with its kind -/
def papAll : List D → List (Int × Int) → Bool
  | x :: xs, k :: ks => isPap x k.1 k.2 && papAll xs ks
  | _, _ => true
def isStand (week : Int) (ks : List (Int × Int)) (v : D) : Bool := match v with
  | .tuple [d, p] => isNum d 0 (week - 1) && (isTup p && decide (lenI p = (ks.length : Int)) && papAll (itms p) ks)
  | _ => false
theorem not_two {xs : List D} {week : Int} {ks : List (Int × Int)} (h : xs.length ≠ 2) : isStand week ks (.tuple xs) = false := by
  unfold isStand
  split
  · rename_i e
    cases e
    exact absurd rfl h
  · rfl
theorem zip_mem {xs : List D} {ks : List (Int × Int)} {d : D} (h : d ∈ zipD xs (kindsD ks)) : ∃ x, ∃ k : Int × Int, x ∈ xs ∧ d = .tuple [x, .tuple [.int k.1, .int k.2]] := by
  unfold zipD at h
  obtain ⟨p, hp, rfl⟩ := List.mem_map.mp h
  obtain ⟨h1, h2⟩ := List.of_mem_zip (a := p.1) (b := p.2) hp
  obtain ⟨k, _, ek⟩ := List.mem_map.mp h2
  exact ⟨p.1, k, h1, by rw [← ek]⟩
def papD (d : D) : Bool := match d with
  | .tuple [x, .tuple [.int a, .int b]] => isPap x a b
  | _ => false
theorem pap_all : ∀ (xs : List D) (ks : List (Int × Int)), (zipD xs (kindsD ks)).all papD = papAll xs ks
  | [], [] => rfl
  | [], _ :: _ => rfl
  | _ :: _, [] => rfl
  | x :: xs, k :: ks => by
    show (papD (.tuple [x, .tuple [.int k.1, .int k.2]]) && (zipD xs (kindsD ks)).all papD) = (isPap x k.1 k.2 && papAll xs ks)
    rw [pap_all xs ks]; rfl
theorem is_stand_of_spec {week : Int} {ks : List (Int × Int)} {ds v : D} {n l : Nat} (h : okD n l v = true) (hl : l ≤ 60) : m_is_stand_of [.tuple [.int week, .tuple (kindsD ks), ds], v] = pure (.bool (isStand week ks v)) := by
  unfold m_is_stand_of b_is_stand_of
  simp only [on2, fin, bp, ba, isi_tuple (okD.nd h), asB_b, z0, z1, sub_int]
  cases v with
  | tuple xs =>
    obtain ⟨h1, h2⟩ := okD.tup h
    simp only [isTup, Bool.not_true, Bool.false_eq_true, if_false, len_tup, bp, ne_int, asB_b]
    by_cases h7 : xs.length = 2
    · match xs, h7, h, h1, h2 with
      | [d, p], h7, h, h1, h2 =>
        have k0 := h2 d (by simp)
        have k1 := h2 p (by simp)
        have e7 : decide ((([d, p] : List D).length : Int) = 2) = true := rfl
        simp only [e7, Bool.not_true, Bool.false_eq_true, if_false, w0, w1, bp, ba, num_spec (okD.nd k0), asB_b, isi_tuple (okD.nd k1)]
        show _ = (pure (PyData.bool (isNum d 0 (week - 1) && (isTup p && decide (lenI p = (ks.length : Int)) && papAll (itms p) ks))) : M D)
        cases hw : isNum d 0 (week - 1) with
        | false => rfl
        | true =>
          cases hk : isTup p with
          | false => rfl
          | true =>
            have ek := tup_of hk
            generalize hys : itms p = ys at ek ⊢
            subst ek
            obtain ⟨j1, j2⟩ := okD.tup k1
            have elk : lenI (.tuple ys) = (ys.length : Int) := rfl
            have ekl : ((kindsD ks).length : Int) = (ks.length : Int) := by unfold kindsD; rw [List.length_map]
            have ez : zipM [.tuple ys, .tuple (kindsD ks)] = pure (zipD ys (kindsD ks)) := rfl
            have a1 : lcM (.tp [(.nm 2), (.nm 3)]) (on2 fun one_1 kind_2 => (pure true)) (on2 fun one_1 kind_2 => m_is_paper [one_1, kind_2]) (zipD ys (kindsD ks)) = pure ((zipD ys (kindsD ks)).map fun d => .bool (papD d)) := lc_map fun d hd => by
              obtain ⟨x, k, hx, rfl⟩ := zip_mem hd
              exact ⟨_, rfl, rfl, is_paper_spec (j2 x hx)⟩
            have a2 : lstM ((zipD ys (kindsD ks)).map fun d => PyData.bool (papD d)) = pure (.list ((zipD ys (kindsD ks)).map fun d => PyData.bool (papD d))) := lst_short (by rw [List.length_map]; unfold zipD; rw [List.length_map, List.length_zip]; omega)
            simp only [Bool.not_true, Bool.false_eq_true, if_false, bp, len_tup, ne_int, asB_b, elk, ekl, ez, a1, a2, allM_map, pap_all, Bool.true_and]
            cases decide ((ys.length : Int) = (ks.length : Int)) <;> rfl
    · have e7 : decide ((xs.length : Int) = 2) = false := decide_eq_false (by omega)
      simp only [e7, Bool.not_false, if_true, bp, not_two h7, lift_ret]
      rfl
  | dict _ => cases okD.nd h
  | _ => simp only [isTup, Bool.not_false, if_true, isStand, bp]; rfl
theorem law_is_stand_spec {week : Int} {ks : List (Int × Int)} {ds v : D} {n l : Nat} (h : okD n l v = true) (hl : l ≤ 60) : m__law_is_stand [.tuple [.int week, .tuple (kindsD ks), ds], v] = pure (.bool (isStand week ks v)) := by
  unfold m__law_is_stand b__law_is_stand
  simp only [on2, fin, bp, ba, isi_tuple (okD.nd h), asB_b, z0, z1, sub_int]
  cases v with
  | tuple xs =>
    obtain ⟨h1, h2⟩ := okD.tup h
    simp only [isTup, Bool.not_true, Bool.false_eq_true, if_false, len_tup, bp, ne_int, asB_b]
    by_cases h7 : xs.length = 2
    · match xs, h7, h, h1, h2 with
      | [d, p], h7, h, h1, h2 =>
        have k0 := h2 d (by simp)
        have k1 := h2 p (by simp)
        have e7 : decide ((([d, p] : List D).length : Int) = 2) = true := rfl
        simp only [e7, Bool.not_true, Bool.false_eq_true, if_false, w0, w1, bp, ba, lnum_spec (okD.nd k0), asB_b, isi_tuple (okD.nd k1)]
        show _ = (pure (PyData.bool (isNum d 0 (week - 1) && (isTup p && decide (lenI p = (ks.length : Int)) && papAll (itms p) ks))) : M D)
        cases hw : isNum d 0 (week - 1) with
        | false => rfl
        | true =>
          cases hk : isTup p with
          | false => rfl
          | true =>
            have ek := tup_of hk
            generalize hys : itms p = ys at ek ⊢
            subst ek
            obtain ⟨j1, j2⟩ := okD.tup k1
            have elk : lenI (.tuple ys) = (ys.length : Int) := rfl
            have ekl : ((kindsD ks).length : Int) = (ks.length : Int) := by unfold kindsD; rw [List.length_map]
            have ez : zipM [.tuple ys, .tuple (kindsD ks)] = pure (zipD ys (kindsD ks)) := rfl
            have a1 : forM (fun d t_1 => M.opt (patD (.tp [(.nm 2), (.tp [(.nm 3), (.nm 4)])]) d) >>= fun ds => f__law_is_stand_1 ds t_1) (zipD ys (kindsD ks)) () = if (zipD ys (kindsD ks)).all papD = true then pure (.nxt ()) else pure (.ret (.bool false)) := forM_all fun d hd => by
              obtain ⟨x, k, hx, rfl⟩ := zip_mem hd
              exact fpap (j2 x hx)
            simp only [Bool.not_true, Bool.false_eq_true, if_false, bp, len_tup, ne_int, asB_b, elk, ekl, ez, a1, pap_all, Bool.true_and]
            cases decide ((ys.length : Int) = (ks.length : Int)) with
            | false => rfl
            | true => cases papAll ys ks <;> rfl
    · have e7 : decide ((xs.length : Int) = 2) = false := decide_eq_false (by omega)
      simp only [e7, Bool.not_false, if_true, bp, not_two h7, lift_ret]
      rfl
  | dict _ => cases okD.nd h
  | _ => simp only [isTup, Bool.not_false, if_true, isStand, bp]; rfl
end Pf
set_option Elab.async false
set_option linter.all false
set_option maxRecDepth 100000
set_option maxHeartbeats 2000000
namespace Pf
open PySem PySem.Spec PyProof.Rows L2
theorem need_town_spec {v : D} {n l : Nat} (h : okD n l v = true) (hl : l ≤ 20) : m_need_town [v] = if isTown v = true then pure .none else M.err ⟨"InvalidTown", none⟩ := by
  unfold m_need_town b_need_town
  simp only [on1, fin, bp, ba, is_town_spec h hl, asB_b]
  rcases Bool.eq_false_or_eq_true (isTown v) with e | e <;> simp only [e, Bool.not_true, Bool.not_false, if_true, Bool.false_eq_true, if_false] <;> rfl
/-- a town as the law makes them -/
def townD (week : Int) (ks : List (Int × Int)) (ds : List D) : D := .tuple [.int week, .tuple (kindsD ks), .tuple ds]
theorem need_stand_spec {week : Int} {ks : List (Int × Int)} {ds : List D} {v : D} {n l : Nat} (h : okD n l v = true) (hl : l ≤ 60) : m_need_stand [townD week ks ds, v] = if isStand week ks v = true then pure .none else M.err ⟨"InvalidStand", none⟩ := by
  unfold m_need_stand b_need_stand townD
  simp only [on2, fin, bp, ba, is_stand_of_spec h hl, asB_b]
  rcases Bool.eq_false_or_eq_true (isStand week ks v) with e | e <;> simp only [e, Bool.not_true, Bool.not_false, if_true, Bool.false_eq_true, if_false] <;> rfl
theorem is_stand_spec {week : Int} {ks : List (Int × Int)} {ds : List D} {v : D} {n l : Nat} (ht : okD n l (townD week ks ds) = true) (hT : isTown (townD week ks ds) = true) (h : okD n l v = true) (hl : l ≤ 20) : m_is_stand [townD week ks ds, v] = pure (.bool (isStand week ks v)) := by
  unfold m_is_stand b_is_stand
  simp only [on2, fin, bp, ba, need_town_spec ht hl, hT, if_true]
  unfold townD
  simp only [is_stand_of_spec h (by omega : l ≤ 60), bp]
  rfl
theorem count_bad {v : D} {n l : Nat} (h : okD n l v = true) (hl : l ≤ 20) (hT : isTown v = false) : m_count_stands [v] = M.err ⟨"InvalidTown", none⟩ := by
  unfold m_count_stands b_count_stands
  simp only [on1, fin, bp, ba, need_town_spec h hl, hT, Bool.false_eq_true, if_false]
  rfl
theorem covers_bad {week : Int} {ks : List (Int × Int)} {ds : List D} {u v : D} {n l : Nat} (ht : okD n l (townD week ks ds) = true) (hT : isTown (townD week ks ds) = true) (hu : okD n l u = true) (hU : isStand week ks u = true) (h : okD n l v = true) (hl : l ≤ 20) (hV : isStand week ks v = false) :
    m_covers [townD week ks ds, u, v] = M.err ⟨"InvalidStand", none⟩ := by
  unfold m_covers b_covers
  simp only [on3, fin, bp, ba, need_town_spec ht hl, hT, if_true, need_stand_spec hu (by omega : l ≤ 60), need_stand_spec h (by omega : l ≤ 60), hU, hV, Bool.false_eq_true, if_false]
  rfl
/-! ### what can be had of a kind -/
def papL (a b : Nat) : List D := [.tuple [], .tuple [.int 1], .tuple [.int 2]] ++ (List.range a).flatMap fun i => (List.range b).map fun j => .tuple [.int i, .int (1 + j)]
theorem papers_spec (a b : Nat) (ha : 1 ≤ a ∧ a ≤ 4) (hb : 1 ≤ b ∧ b ≤ 2) : m_papers_of [.tuple [.int a, .int b]] = pure (.list (dsort (papL a b))) := by
  have h1 : a = 1 ∨ a = 2 ∨ a = 3 ∨ a = 4 := by omega
  have h2 : b = 1 ∨ b = 2 := by omega
  rcases h1 with rfl | rfl | rfl | rfl <;> rcases h2 with rfl | rfl <;> kernel_rfl
theorem had_spec (a b : Nat) (ha : 1 ≤ a ∧ a ≤ 4) (hb : 1 ≤ b ∧ b ≤ 2) : m__law_had [.tuple [.int a, .int b]] = pure (.list (dsort (papL a b))) := by
  have h1 : a = 1 ∨ a = 2 ∨ a = 3 ∨ a = 4 := by omega
  have h2 : b = 1 ∨ b = 2 := by omega
  rcases h1 with rfl | rfl | rfl | rfl <;> rcases h2 with rfl | rfl <;> kernel_rfl
theorem papL_ok (a b : Nat) (ha : 1 ≤ a ∧ a ≤ 4) (hb : 1 ≤ b ∧ b ≤ 2) : (papL a b).all (fun x => isPap x a b && okD 2 2 x) = true := by
  have h1 : a = 1 ∨ a = 2 ∨ a = 3 ∨ a = 4 := by omega
  have h2 : b = 1 ∨ b = 2 := by omega
  rcases h1 with rfl | rfl | rfl | rfl <;> rcases h2 with rfl | rfl <;> decide +kernel
theorem papL_len (a b : Nat) (ha : 1 ≤ a ∧ a ≤ 4) (hb : 1 ≤ b ∧ b ≤ 2) : (papL a b).length = 3 + a * b := by
  have h1 : a = 1 ∨ a = 2 ∨ a = 3 ∨ a = 4 := by omega
  have h2 : b = 1 ∨ b = 2 := by omega
  rcases h1 with rfl | rfl | rfl | rfl <;> rcases h2 with rfl | rfl <;> rfl
theorem dsort_perm (ds : List D) : (dsort ds).Perm ds := List.mergeSort_perm ds _
theorem dsort_len (ds : List D) : (dsort ds).length = ds.length := (dsort_perm ds).length_eq
theorem dsort_mem {ds : List D} {x : D} : x ∈ dsort ds ↔ x ∈ ds := (dsort_perm ds).mem_iff
end Pf
set_option Elab.async false
set_option linter.all false
set_option maxRecDepth 100000
set_option maxHeartbeats 2000000
namespace Pf
open PySem PySem.Spec PyProof.Rows L2
/-! ### two fors, loops that gather -/
theorem lcM_err' {α : Type} (m : M α) (a : α) (h : m = pure a) : M.noerr m = pure a := by subst h; rfl
theorem lc2_gen {p1 p2 : Pat} {mt1 : List D → M Bool} {mi : List D → M (List D)} {mt2 : List D → List D → M Bool} {me : List D → List D → M D} {it : D → List D} {e : D → D → D} : ∀ {xs : List D}, (∀ d ∈ xs, ∃ ds, patD p1 d = some ds ∧ mt1 ds = pure true ∧ mi ds = pure (it d) ∧ ∀ y ∈ it d, ∃ es, patD p2 y = some es ∧ mt2 ds es = pure true ∧ me ds es = pure (e d y)) →
    lc2M p1 p2 mt1 mi mt2 me xs = pure (xs.flatMap fun d => (it d).map (e d))
  | [], _ => rfl
  | d :: r, h => by
    have ih := lc2_gen (xs := r) (it := it) (e := e) fun x hx => h x (List.mem_cons_of_mem _ hx)
    obtain ⟨ds, h1, h2, h3, h4⟩ := h d List.mem_cons_self
    unfold lc2M
    rw [h1]
    show (M.noerr (mt1 ds) >>= fun b => _) = _
    rw [h2]
    show (M.noerr (mi ds) >>= fun ys => _) = _
    rw [h3]
    show (lcM p2 (mt2 ds) (me ds) (it d) >>= fun zs => _) = _
    rw [lc_map (e := e d) h4, ih]
    rfl
/-- a loop that changes one thing -/
theorem forM_fold {τ : Type} {f : D → τ → M (Out τ)} {g : D → τ → τ} {P : τ → Prop} : ∀ {xs : List D} {t : τ}, (∀ d ∈ xs, ∀ t, P t → f d t = pure (.nxt (g d t)) ∧ P (g d t)) → P t → forM f xs t = pure (.nxt (xs.foldl (fun t d => g d t) t)) ∧ P (xs.foldl (fun t d => g d t) t)
  | [], t, _, hP => ⟨rfl, hP⟩
  | d :: r, t, h, hP => by
    obtain ⟨h1, h2⟩ := h d List.mem_cons_self t hP
    have ih := forM_fold (xs := r) (t := g d t) (fun x hx => h x (List.mem_cons_of_mem _ hx)) h2
    unfold forM
    rw [h1]
    exact ih
/-- the kinds of a town are few and small -/
def kOk (ks : List (Int × Int)) : Prop := ks.length ≤ 3 ∧ ∀ k ∈ ks, (1 ≤ k.1 ∧ k.1 ≤ 4) ∧ 1 ≤ k.2 ∧ k.2 ≤ 2
def prodK (ks : List (Int × Int)) : Nat := (ks.map fun k => 3 + k.1.toNat * k.2.toNat).foldl (· * ·) 1
theorem papers_int {k : Int × Int} (h : (1 ≤ k.1 ∧ k.1 ≤ 4) ∧ 1 ≤ k.2 ∧ k.2 ≤ 2) : m_papers_of [.tuple [.int k.1, .int k.2]] = pure (.list (dsort (papL k.1.toNat k.2.toNat))) ∧ m__law_had [.tuple [.int k.1, .int k.2]] = pure (.list (dsort (papL k.1.toNat k.2.toNat))) ∧ (dsort (papL k.1.toNat k.2.toNat)).length = 3 + k.1.toNat * k.2.toNat := by
  obtain ⟨⟨a1, a2⟩, b1, b2⟩ := h
  have e1 : ((k.1.toNat : Nat) : Int) = k.1 := Int.toNat_of_nonneg (by omega)
  have e2 : ((k.2.toNat : Nat) : Int) = k.2 := Int.toNat_of_nonneg (by omega)
  have p := papers_spec k.1.toNat k.2.toNat (by omega) (by omega)
  have q := had_spec k.1.toNat k.2.toNat (by omega) (by omega)
  rw [e1, e2] at p q
  exact ⟨p, q, by rw [dsort_len, papL_len _ _ (by omega) (by omega)]⟩
end Pf
set_option Elab.async false
set_option linter.all false
set_option maxRecDepth 100000
set_option maxHeartbeats 2000000
namespace Pf
open PySem PySem.Spec PyProof.Rows L2
theorem on1_one {α : Type} (f : D → M α) (a : D) : on1 f [a] = f a := rfl
theorem on2_two {α : Type} (f : D → D → M α) (a b : D) : on2 f [a, b] = f a b := rfl
theorem on3_three {α : Type} (f : D → D → D → M α) (a b c : D) : on3 f [a, b, c] = f a b c := rfl
theorem add_tup {xs ys : List D} (h : xs.length + ys.length ≤ 5000) : addM (.tuple xs) (.tuple ys) = pure (.tuple (xs ++ ys)) := by
  show (if xs.length + ys.length ≤ sizeLine then pure _ else M.bad) = _
  rw [if_pos (Nat.le_trans h (by decide))]
theorem tup1 (x : D) : tupM [x] = pure (.tuple [x]) := tup_short (by show 1 ≤ 5000; decide)
theorem tup2 (x y : D) : tupM [x, y] = pure (.tuple [x, y]) := tup_short (by show 2 ≤ 5000; decide)
/-- each of the rows with each of the papers behind -/
def grow1 (r : List D) (ps : List D) : List (List D) := ps.map fun p => r ++ [p]
def growK (xs : List (List D)) (ps : List D) : List (List D) := xs.flatMap fun r => grow1 r ps
theorem growK_len (xs : List (List D)) (ps : List D) : (growK xs ps).length = xs.length * ps.length := by
  induction xs with
  | nil => simp [growK]
  | cons r xs ih =>
    unfold growK at ih ⊢
    rw [List.flatMap_cons, List.length_append, ih, List.length_cons, Nat.succ_mul]
    simp [grow1, Nat.add_comm]
theorem growK_row {xs : List (List D)} {ps : List D} {n : Nat} (h : ∀ r ∈ xs, r.length ≤ n) : ∀ r ∈ growK xs ps, r.length ≤ n + 1 := fun r hr => by
  obtain ⟨s, hs, hr⟩ := List.mem_flatMap.mp hr
  obtain ⟨p, _, rfl⟩ := List.mem_map.mp hr
  rw [List.length_append]; have := h s hs; simp; omega
abbrev pK (k : Int × Int) : List D := dsort (papL k.1.toNat k.2.toNat)
theorem step_so {k : Int × Int} (hk : (1 ≤ k.1 ∧ k.1 ≤ 4) ∧ 1 ≤ k.2 ∧ k.2 ≤ 2) {xs : List (List D)} (hl : ∀ r ∈ xs, r.length ≤ 100) (hn : xs.length * (3 + k.1.toNat * k.2.toNat) ≤ 5000) :
    f_stands_of_1 [.tuple [.int k.1, .int k.2]] (.list (xs.map .tuple)) = pure (.nxt (.list ((growK xs (pK k)).map .tuple))) := by
  obtain ⟨p1, _, p3⟩ := papers_int hk
  unfold f_stands_of_1
  have e0 : lc2M (.nm 4) (.nm 5) (on1 fun some_5 => (pure true)) (on1 fun some_5 => (m_papers_of [.tuple [.int k.1, .int k.2]] >>= fun x => itemsM x)) (fun ds es => on1 (fun some_5 => on1 (fun one_6 => (pure true)) es) ds) (fun ds es => on1 (fun some_5 => on1 (fun one_6 => (tupM [one_6] >>= fun y => addM some_5 y)) es) ds) (xs.map .tuple)
      = pure ((xs.map PyData.tuple).flatMap fun d => (pK k).map fun y => .tuple (itms d ++ [y])) := lc2_gen (it := fun _ => pK k) (e := fun d y => .tuple (itms d ++ [y])) fun d hd => by
    obtain ⟨r, hr, rfl⟩ := List.mem_map.mp hd
    refine ⟨_, rfl, rfl, ?_, fun y hy => ⟨_, rfl, rfl, ?_⟩⟩
    · show (m_papers_of [.tuple [.int k.1, .int k.2]] >>= fun x => itemsM x) = _
      rw [p1]; rfl
    · show (tupM [y] >>= fun z => addM (.tuple r) z) = _
      rw [tup1]
      show addM (.tuple r) (.tuple [y]) = _
      rw [add_tup (by have := hl r hr; show r.length + 1 ≤ 5000; omega)]; rfl
  have e1 : ((xs.map PyData.tuple).flatMap fun d => (pK k).map fun y => PyData.tuple (itms d ++ [y])) = (growK xs (pK k)).map .tuple := by
    unfold growK grow1
    rw [List.flatMap_map, List.map_flatMap]
    simp only [List.map_map, itms]
    rfl
  have e2 : lstM ((growK xs (pK k)).map PyData.tuple) = pure (.list ((growK xs (pK k)).map .tuple)) := lst_short (by rw [List.length_map, growK_len, p3]; exact hn)
  simp only [on1_one, bp, ba, items_lst]
  rw [e0, bp, e1, e2]
  rfl
def lens (ks : List (Int × Int)) : Nat := (ks.map fun k => 3 + k.1.toNat * k.2.toNat).foldr (· * ·) 1
theorem lens_pos (ks : List (Int × Int)) : 1 ≤ lens ks := by
  induction ks with
  | nil => exact Nat.le_refl _
  | cons k r ih => show 1 ≤ (3 + k.1.toNat * k.2.toNat) * lens r; exact Nat.mul_pos (by omega) ih
theorem loop_so : ∀ {ks : List (Int × Int)} {xs : List (List D)} {n : Nat}, (∀ k ∈ ks, (1 ≤ k.1 ∧ k.1 ≤ 4) ∧ 1 ≤ k.2 ∧ k.2 ≤ 2) → (∀ r ∈ xs, r.length ≤ n) → n + ks.length ≤ 100 → xs.length * lens ks ≤ 5000 →
    ∃ ys : List (List D), forM (fun d t_2 => M.opt (patD (.nm 2) d) >>= fun ds => f_stands_of_1 ds t_2) (kindsD ks) (.list (xs.map .tuple)) = pure (.nxt (.list (ys.map .tuple))) ∧ ys.length = xs.length * lens ks
  | [], xs, n, _, _, _, _ => ⟨xs, rfl, by show xs.length = xs.length * 1; omega⟩
  | k :: ks, xs, n, hk, hr, hn, hl => by
    have hk0 := hk k List.mem_cons_self
    have e : lens (k :: ks) = (3 + k.1.toNat * k.2.toNat) * lens ks := rfl
    rw [List.length_cons] at hn
    have p := lens_pos ks
    have s := step_so hk0 (xs := xs) (fun r h => by have := hr r h; omega) (by
      rw [e, ← Nat.mul_assoc] at hl
      exact Nat.le_trans (Nat.le_mul_of_pos_right _ p) hl)
    obtain ⟨ys, h1, h2⟩ := loop_so (ks := ks) (xs := growK xs (pK k)) (n := n + 1) (fun x hx => hk x (List.mem_cons_of_mem _ hx)) (growK_row hr) (by omega) (by rw [growK_len, (papers_int hk0).2.2, Nat.mul_assoc]; exact hl)
    refine ⟨ys, ?_, by rw [h2, growK_len, (papers_int hk0).2.2, e, Nat.mul_assoc]⟩
    show forM _ (.tuple [.int k.1, .int k.2] :: kindsD ks) _ = _
    unfold forM
    show (f_stands_of_1 [.tuple [.int k.1, .int k.2]] (.list (xs.map .tuple)) >>= fun o => _) = _
    rw [s]
    exact h1
theorem lens_le {ks : List (Int × Int)} (h : kOk ks) : lens ks ≤ 1331 := by
  obtain ⟨h1, h2⟩ := h
  have b : ∀ k ∈ ks, 3 + k.1.toNat * k.2.toNat ≤ 11 := fun k hk => by
    obtain ⟨⟨a1, a2⟩, b1, b2⟩ := h2 k hk
    have : k.1.toNat * k.2.toNat ≤ 4 * 2 := Nat.mul_le_mul (by omega) (by omega)
    omega
  match ks, h1, b with
  | [], _, _ => decide
  | [a], _, b => show (3 + a.1.toNat * a.2.toNat) * 1 ≤ 1331; have := b a (by simp); omega
  | [a, c], _, b =>
    have := Nat.mul_le_mul (b a (by simp)) (b c (by simp))
    show (3 + a.1.toNat * a.2.toNat) * ((3 + c.1.toNat * c.2.toNat) * 1) ≤ 1331
    rw [Nat.mul_one]; omega
  | [a, c, d], _, b =>
    have := Nat.mul_le_mul (b a (by simp)) (Nat.mul_le_mul (b c (by simp)) (b d (by simp)))
    show (3 + a.1.toNat * a.2.toNat) * ((3 + c.1.toNat * c.2.toNat) * ((3 + d.1.toNat * d.2.toNat) * 1)) ≤ 1331
    rw [Nat.mul_one]; omega
  | _ :: _ :: _ :: _ :: _, h, _ => simp at h
end Pf
set_option Elab.async false
set_option linter.all false
set_option maxRecDepth 100000
set_option maxHeartbeats 2000000
namespace Pf
open PySem PySem.Spec PyProof.Rows L2
section
variable (a b c : D)
theorem nz0 : ixM (.tuple [a, b, c]) (.int 0) = pure a := (Eq.refl _).trans (z0 a b c)
theorem nz1 : ixM (.tuple [a, b, c]) (.int 1) = pure b := (Eq.refl _).trans (z1 a b c)
theorem nit (xs : List D) : itemsM (.tuple xs) = pure xs := (Eq.refl _).trans (items_tup xs)
theorem nbp {α β : Type} (a : α) (f : α → M β) : ((pure a : M α) >>= f) = f a := (Eq.refl _).trans (bp a f)
theorem njoin {τ τ' : Type} (t : τ') (k : τ' → M (Out τ)) : joinO (pure (.nxt t)) k = k t := (Eq.refl _).trans (join_nxt t k)
end
theorem finK_ret {τ : Type} (d : D) : (finK (.ret d : Out τ) : M D) = pure d := rfl
theorem range_ok {n : Nat} (h : n ≤ 5000) : range1M [.int n] = pure (rangeD 0 n) := by
  show (if smI n then pure (rangeD 0 (n : Int).toNat) else M.bad) = _
  rw [if_pos ⟨by omega, by omega⟩, Int.toNat_natCast]
theorem rangeD_len (lo : Int) (n : Nat) : (rangeD lo n).length = n := by unfold rangeD; rw [List.length_map, List.length_range]
theorem flat_len {α β : Type} {f : α → List β} {c : Nat} : ∀ (xs : List α), (∀ x ∈ xs, (f x).length = c) → (xs.flatMap f).length = xs.length * c
  | [], _ => by simp
  | x :: r, h => by
    rw [List.flatMap_cons, List.length_append, h x List.mem_cons_self, flat_len r fun y hy => h y (List.mem_cons_of_mem _ hy), List.length_cons, Nat.succ_mul, Nat.add_comm]
theorem stands_of_spec {w : Nat} {ks : List (Int × Int)} {ds : List D} (hw : w ≤ 3) (hk : kOk ks) : ∃ zs, m_stands_of [townD w ks ds] = pure (.list zs) ∧ zs.length = w * lens ks := by
  have hL := lens_le hk
  obtain ⟨ys, h1, h2⟩ := loop_so (ks := ks) (xs := [[]]) (n := 0) hk.2 (fun r hr => by rw [List.mem_singleton.mp hr]; exact Nat.le_refl _) (by have := hk.1; omega) (by rw [List.length_singleton, Nat.one_mul]; omega)
  have h2 : ys.length = lens ks := by rw [h2, List.length_singleton, Nat.one_mul]
  have e0 : lc2M (.nm 3) (.nm 4) (on1 fun day_7 => (pure true)) (on1 fun day_7 => itemsM (.list (ys.map .tuple))) (fun ds es => on1 (fun day_7 => on1 (fun some_8 => (pure true)) es) ds) (fun ds es => on1 (fun day_7 => on1 (fun some_8 => tupM [day_7, some_8]) es) ds) (rangeD 0 w)
      = pure ((rangeD 0 w).flatMap fun d => (ys.map PyData.tuple).map fun y => .tuple [d, y]) := lc2_gen (it := fun _ => ys.map PyData.tuple) (e := fun d y => .tuple [d, y]) fun d hd => ⟨_, rfl, rfl, rfl, fun y hy => ⟨_, rfl, rfl, tup2 d y⟩⟩
  have e1 : ((rangeD 0 w).flatMap fun d => (ys.map PyData.tuple).map fun y => PyData.tuple [d, y]).length = w * lens ks := by
    rw [flat_len (c := lens ks) _ fun x _ => by rw [List.length_map, List.length_map, h2], rangeD_len]
  have e2 := lst_short (xs := (rangeD 0 w).flatMap fun d => (ys.map PyData.tuple).map fun y => PyData.tuple [d, y]) (by rw [e1]; have := Nat.mul_le_mul hw hL; omega)
  refine ⟨_, ?_, e1⟩
  unfold m_stands_of b_stands_of townD
  have en : tupM [] = pure (.tuple []) := rfl
  have el : lstM [PyData.tuple []] = pure (.list ([[]].map PyData.tuple)) := lst_short (by show 1 ≤ 5000; decide)
  simp only [on1_one, fin, nbp, ba, en, el, nz0, nz1, nit]
  rw [h1]
  simp only [njoin, range_ok (by omega : w ≤ 5000), nbp, ba, e0, e2, finK_ret]
theorem count_spec {w : Nat} {ks : List (Int × Int)} {ds : List D} {n l : Nat} (hw : w ≤ 3) (hk : kOk ks) (h : okD n l (townD w ks ds) = true) (hl : l ≤ 20) (hT : isTown (townD w ks ds) = true) : m_count_stands [townD w ks ds] = pure (.int ((w * lens ks : Nat) : Int)) := by
  obtain ⟨zs, h1, h2⟩ := stands_of_spec (ds := ds) hw hk
  unfold m_count_stands b_count_stands
  simp only [on1_one, fin, bp, ba, need_town_spec h hl, hT, if_true, h1, len_lst, h2, finK_ret]
/-! ### the law's own list -/
theorem loop_a1 {k : Int × Int} (hk : (1 ≤ k.1 ∧ k.1 ≤ 4) ∧ 1 ≤ k.2 ∧ k.2 ≤ 2) : ∀ {xs acc : List (List D)}, (∀ r ∈ xs, r.length ≤ 100) → acc.length + xs.length * (3 + k.1.toNat * k.2.toNat) ≤ 5000 →
    forM (fun d t_5 => M.opt (patD (.nm 4) d) >>= fun ds => f__law_all_1 (.tuple [.int k.1, .int k.2]) ds t_5) (xs.map .tuple) (.list (acc.map .tuple)) = pure (.nxt (.list ((acc ++ growK xs (pK k)).map .tuple)))
  | [], acc, _, _ => by
    show (pure (.nxt (.list (acc.map .tuple))) : M (Out D)) = _
    rw [show growK [] (pK k) = [] from rfl, List.append_nil]
  | r :: xs, acc, hr, hl => by
    obtain ⟨_, p1, p3⟩ := papers_int hk
    have e0 : lcM (.nm 7) (on1 fun one_8 => (pure true)) (on1 fun one_8 => (tupM [one_8] >>= fun y => addM (.tuple r) y)) (pK k) = pure ((pK k).map fun y => .tuple (r ++ [y])) := lc_map fun y hy => ⟨_, rfl, rfl, by
      show (tupM [y] >>= fun z => addM (.tuple r) z) = _
      rw [tup1]
      show addM (.tuple r) (.tuple [y]) = _
      rw [add_tup (by have := hr r List.mem_cons_self; show r.length + 1 ≤ 5000; omega)]⟩
    rw [List.length_cons, Nat.succ_mul] at hl
    have e1 : ((pK k).map fun y => PyData.tuple (r ++ [y])) = (grow1 r (pK k)).map .tuple := by unfold grow1; rw [List.map_map]; rfl
    have g1 : (grow1 r (pK k)).length = 3 + k.1.toNat * k.2.toNat := by unfold grow1; rw [List.length_map, p3]
    have e2 : lstM ((grow1 r (pK k)).map PyData.tuple) = pure (.list ((grow1 r (pK k)).map .tuple)) := lst_short (by rw [List.length_map, g1]; omega)
    have e3 : addM (.list (acc.map .tuple)) (.list ((grow1 r (pK k)).map .tuple)) = pure (.list ((acc ++ grow1 r (pK k)).map .tuple)) := by
      rw [add_lst (by rw [List.length_map, List.length_map, g1]; omega), List.map_append]
    have s : f__law_all_1 (.tuple [.int k.1, .int k.2]) [.tuple r] (.list (acc.map .tuple)) = pure (.nxt (.list ((acc ++ grow1 r (pK k)).map .tuple))) := by
      unfold f__law_all_1
      simp only [on1_one, bp, ba, p1, items_lst, e0, e1, e2, e3]
    have ih := loop_a1 hk (xs := xs) (acc := acc ++ grow1 r (pK k)) (fun x hx => hr x (List.mem_cons_of_mem _ hx)) (by rw [List.length_append, g1]; omega)
    show forM _ (.tuple r :: xs.map .tuple) _ = _
    unfold forM
    show (f__law_all_1 (.tuple [.int k.1, .int k.2]) [.tuple r] (.list (acc.map .tuple)) >>= fun o => _) = _
    rw [s]
    have e4 : acc ++ growK (r :: xs) (pK k) = acc ++ grow1 r (pK k) ++ growK xs (pK k) := by unfold growK; rw [List.flatMap_cons, List.append_assoc]
    rw [e4]
    exact ih
theorem step_a2 {k : Int × Int} (hk : (1 ≤ k.1 ∧ k.1 ≤ 4) ∧ 1 ≤ k.2 ∧ k.2 ≤ 2) {xs : List (List D)} (hl : ∀ r ∈ xs, r.length ≤ 100) (hn : xs.length * (3 + k.1.toNat * k.2.toNat) ≤ 5000) :
    f__law_all_2 [.tuple [.int k.1, .int k.2]] (.list (xs.map .tuple)) = pure (.nxt (.list ((growK xs (pK k)).map .tuple))) := by
  have a := loop_a1 hk (xs := xs) (acc := []) hl (by show 0 + _ ≤ 5000; omega)
  have el : lstM [] = pure (.list (([] : List (List D)).map PyData.tuple)) := rfl
  unfold f__law_all_2
  simp only [on1_one, bp, ba, items_lst, el]
  rw [a]
  simp only [join_nxt, List.nil_append]
theorem loop_a2 : ∀ {ks : List (Int × Int)} {xs : List (List D)} {n : Nat}, (∀ k ∈ ks, (1 ≤ k.1 ∧ k.1 ≤ 4) ∧ 1 ≤ k.2 ∧ k.2 ≤ 2) → (∀ r ∈ xs, r.length ≤ n) → n + ks.length ≤ 100 → xs.length * lens ks ≤ 5000 →
    ∃ ys : List (List D), forM (fun d t_2 => M.opt (patD (.nm 2) d) >>= fun ds => f__law_all_2 ds t_2) (kindsD ks) (.list (xs.map .tuple)) = pure (.nxt (.list (ys.map .tuple))) ∧ ys.length = xs.length * lens ks
  | [], xs, n, _, _, _, _ => ⟨xs, rfl, by show xs.length = xs.length * 1; omega⟩
  | k :: ks, xs, n, hk, hr, hn, hl => by
    have hk0 := hk k List.mem_cons_self
    have e : lens (k :: ks) = (3 + k.1.toNat * k.2.toNat) * lens ks := rfl
    rw [List.length_cons] at hn
    have p := lens_pos ks
    have s := step_a2 hk0 (xs := xs) (fun r h => by have := hr r h; omega) (by
      rw [e, ← Nat.mul_assoc] at hl
      exact Nat.le_trans (Nat.le_mul_of_pos_right _ p) hl)
    obtain ⟨ys, h1, h2⟩ := loop_a2 (ks := ks) (xs := growK xs (pK k)) (n := n + 1) (fun x hx => hk x (List.mem_cons_of_mem _ hx)) (growK_row hr) (by omega) (by rw [growK_len, (papers_int hk0).2.2, Nat.mul_assoc]; exact hl)
    refine ⟨ys, ?_, by rw [h2, growK_len, (papers_int hk0).2.2, e, Nat.mul_assoc]⟩
    show forM _ (.tuple [.int k.1, .int k.2] :: kindsD ks) _ = _
    unfold forM
    show (f__law_all_2 [.tuple [.int k.1, .int k.2]] (.list (xs.map .tuple)) >>= fun o => _) = _
    rw [s]
    exact h1
theorem loop_a3 {ys : List (List D)} : ∀ {xs acc : List D}, acc.length + xs.length * ys.length ≤ 5000 → ∃ zs, forM (fun d t_11 => M.opt (patD (.nm 6) d) >>= fun ds => f__law_all_3 (.list (ys.map .tuple)) ds t_11) xs (.list acc) = pure (.nxt (.list zs)) ∧ zs.length = acc.length + xs.length * ys.length
  | [], acc, _ => ⟨acc, rfl, by simp⟩
  | d :: xs, acc, h => by
    rw [List.length_cons, Nat.succ_mul] at h
    have e0 : lcM (.nm 4) (on1 fun papers_14 => (pure true)) (on1 fun papers_14 => tupM [d, papers_14]) (ys.map .tuple) = pure ((ys.map PyData.tuple).map fun y => .tuple [d, y]) := lc_map fun y hy => ⟨_, rfl, rfl, tup2 d y⟩
    have e2 : lstM ((ys.map PyData.tuple).map fun y => PyData.tuple [d, y]) = pure (.list ((ys.map PyData.tuple).map fun y => .tuple [d, y])) := lst_short (by rw [List.length_map, List.length_map]; omega)
    have e3 : addM (.list acc) (.list ((ys.map PyData.tuple).map fun y => .tuple [d, y])) = pure (.list (acc ++ (ys.map PyData.tuple).map fun y => .tuple [d, y])) := add_lst (by rw [List.length_map, List.length_map]; omega)
    have s : f__law_all_3 (.list (ys.map .tuple)) [d] (.list acc) = pure (.nxt (.list (acc ++ (ys.map PyData.tuple).map fun y => .tuple [d, y]))) := by
      unfold f__law_all_3
      simp only [on1_one, bp, ba, items_lst, e0, e2, e3]
    obtain ⟨zs, h1, h2⟩ := loop_a3 (ys := ys) (xs := xs) (acc := acc ++ (ys.map PyData.tuple).map fun y => .tuple [d, y]) (by rw [List.length_append, List.length_map, List.length_map]; omega)
    refine ⟨zs, ?_, by rw [h2, List.length_append, List.length_map, List.length_map, List.length_cons, Nat.succ_mul]; omega⟩
    unfold forM
    show (f__law_all_3 (.list (ys.map .tuple)) [d] (.list acc) >>= fun o => _) = _
    rw [s]
    exact h1
theorem law_all_spec {w : Nat} {ks : List (Int × Int)} {ds : List D} (hw : w ≤ 3) (hk : kOk ks) : ∃ zs, m__law_all [townD w ks ds] = pure (.list zs) ∧ zs.length = w * lens ks := by
  have hL := lens_le hk
  obtain ⟨ys, h1, h2⟩ := loop_a2 (ks := ks) (xs := [[]]) (n := 0) hk.2 (fun r hr => by rw [List.mem_singleton.mp hr]; exact Nat.le_refl _) (by have := hk.1; omega) (by rw [List.length_singleton, Nat.one_mul]; omega)
  have h2 : ys.length = lens ks := by rw [h2, List.length_singleton, Nat.one_mul]
  obtain ⟨zs, h3, h4⟩ := loop_a3 (ys := ys) (xs := rangeD 0 w) (acc := []) (by rw [rangeD_len, h2, List.length_nil, Nat.zero_add]; have := Nat.mul_le_mul hw hL; omega)
  refine ⟨zs, ?_, by rw [h4, rangeD_len, h2, List.length_nil, Nat.zero_add]⟩
  unfold m__law_all b__law_all townD
  have en : tupM [] = pure (.tuple []) := rfl
  have el : lstM [PyData.tuple []] = pure (.list ([[]].map PyData.tuple)) := lst_short (by show 1 ≤ 5000; decide)
  have el2 : lstM [] = pure (.list []) := rfl
  simp only [on1_one, fin, nbp, ba, en, el, nz0, nz1, nit]
  rw [h1]
  simp only [njoin, range_ok (by omega : w ≤ 5000), nbp, ba, el2, h3, finK_ret]
end Pf
set_option Elab.async false
set_option linter.all false
set_option maxRecDepth 100000
set_option maxHeartbeats 2000000
namespace Pf
open PySem PySem.Spec PyProof.Rows L2
/-- papers: none, a form, some with age and uses -/
inductive Pap : D → Prop
  | non : Pap (.tuple [])
  | form (a : Int) : Pap (.tuple [.int a])
  | had (a b : Int) : Pap (.tuple [.int a, .int b])
theorem pap_of {v : D} {life many : Int} (h : isPap v life many = true) : Pap v := by
  unfold isPap at h
  split at h
  · exact .non
  · rw [num_int h]; exact .form _
  · obtain ⟨h1, h2⟩ := Bool.and_eq_true_iff.mp h
    rw [num_int h1, num_int h2]; exact .had _ _
  · cases h
def goodD (x y : D) : Bool := match x, y with
  | _, .tuple [] => true
  | .tuple [.int a], .tuple [.int b] => decide (a = b)
  | .tuple [.int a, .int b], .tuple [.int c, .int d] => decide (a ≤ c) && decide (d ≤ b)
  | _, _ => false
theorem ge_int (i j : Int) : geM (.int i) (.int j) = pure (.bool (decide (j ≤ i))) := rfl
theorem pap_ok {x : D} (h : Pap x) : okD 2 2 x = true := by cases h <;> rfl
theorem eq_pap {x y : D} (hx : Pap x) (hy : Pap y) : eqM x y = pure (.bool (PyData.eqv x y)) := eqM_ok ⟨(okD.lay (pap_ok hx)).1, (okD.lay (pap_ok hy)).1, Nat.le_trans (Nat.min_le_left _ _) (Nat.le_trans (okD.lay (pap_ok hx)).2 (by decide))⟩
theorem as_good_spec {x y : D} (hx : Pap x) (hy : Pap y) : m_as_good [x, y] = pure (.bool (goodD x y)) := by
  have en : tupM [] = pure (.tuple []) := tup_short (Nat.zero_le _)
  unfold m_as_good b_as_good
  simp only [on2_two, fin, nbp, ba, en, eq_nil (pap_ok hy), eq_pap hx hy, asB_b]
  cases hx <;> cases hy <;> simp only [isNil, if_true, Bool.false_eq_true, if_false, len_tup, ne_int, eq_int, nbp, ba, asB_b, List.length_cons, List.length_nil, w0, w1, le_int, ge_int, goodD] <;> first | rfl | (simp [nbp, PyData.eqv, PyData.eqvAll]; done) | skip
  · rename_i a b
    show (pure (PyData.bool ((a == b) && true)) : M D) = _
    rw [Bool.and_true]; rfl
  · rename_i a b c d
    show (((if decide (a ≤ c) = true then pure (PyData.bool (decide (d ≤ b))) else pure (PyData.bool false) : M D) >>= fun d => pure (Out.ret d : Out Unit)) >>= finK) = _
    cases decide (a ≤ c) <;> rfl
theorem law_good_spec {x y : D} (hx : Pap x) (hy : Pap y) : m__law_good_as [x, y] = pure (.bool (goodD x y)) := by
  have en : tupM [] = pure (.tuple []) := tup_short (Nat.zero_le _)
  unfold m__law_good_as b__law_good_as
  simp only [on2_two, fin, nbp, ba, en, eq_nil (pap_ok hy), eq_pap hx hy, asB_b, ite_pure]
  cases hx <;> cases hy <;> simp only [isNil, if_true, Bool.true_or, Bool.false_or, Bool.false_eq_true, if_false, len_tup, ne_int, eq_int, nbp, ba, asB_b, List.length_cons, List.length_nil, w0, w1, le_int, ge_int, goodD] <;> first | rfl | (simp [nbp, PyData.eqv, PyData.eqvAll]; done) | skip
  · rename_i a b
    have e : PyData.eqv (.tuple [.int a]) (.tuple [.int b]) = decide (a = b) := by show ((a == b) && true) = _; rw [Bool.and_true]; rfl
    rw [e]
    cases decide (a = b) <;> rfl
  · rename_i a c d
    have e : PyData.eqv (.tuple [.int a]) (.tuple [.int c, .int d]) = false := by show ((a == c) && false) = _; rw [Bool.and_false]
    rw [e]; rfl
  · rename_i a b c
    have e : PyData.eqv (.tuple [.int a, .int b]) (.tuple [.int c]) = false := by show ((a == c) && false) = _; rw [Bool.and_false]
    rw [e]; rfl
  · rename_i a b c d
    have e : PyData.eqv (.tuple [.int a, .int b]) (.tuple [.int c, .int d]) = (decide (a = c) && decide (b = d)) := by show ((a == c) && ((b == d) && true)) = _; rw [Bool.and_true]; rfl
    rw [e]
    cases hz : (decide (a = c) && decide (b = d)) with
    | true =>
      obtain ⟨h1, h2⟩ := Bool.and_eq_true_iff.mp hz
      have h1 := of_decide_eq_true h1
      have h2 := of_decide_eq_true h2
      subst h1 h2
      rw [decide_eq_true (Int.le_refl a), decide_eq_true (Int.le_refl b)]
      rfl
    | false =>
      show (((if decide (a ≤ c) = true then pure (PyData.bool (decide (d ≤ b))) else pure (PyData.bool false) : M D) >>= fun d => pure (Out.ret d : Out Unit)) >>= finK) = _
      cases decide (a ≤ c) <;> rfl
end Pf
set_option Elab.async false
set_option linter.all false
set_option maxRecDepth 100000
set_option maxHeartbeats 2000000
namespace Pf
open PySem PySem.Spec PyProof.Rows L2
def goodP (d : D) : Bool := match d with
  | .tuple [x, y] => goodD x y
  | _ => false
theorem covers_it_spec {i j : Int} {xs ys : List D} (hx : ∀ x ∈ xs, Pap x) (hy : ∀ y ∈ ys, Pap y) (hl : xs.length ≤ 20) : m_covers_it [.tuple [.int i, .tuple xs], .tuple [.int j, .tuple ys]] = pure (.bool (decide (i = j) && (zipD xs ys).all goodP)) := by
  have ez : zipM [.tuple xs, .tuple ys] = pure (zipD xs ys) := rfl
  have a1 : lcM (.tp [(.nm 2), (.nm 3)]) (on2 fun mine_1 yours_2 => (pure true)) (on2 fun mine_1 yours_2 => m_as_good [mine_1, yours_2]) (zipD xs ys) = pure ((zipD xs ys).map fun d => .bool (goodP d)) := lc_map fun d hd => by
    unfold zipD at hd
    obtain ⟨p, hp, rfl⟩ := List.mem_map.mp hd
    obtain ⟨h1, h2⟩ := List.of_mem_zip (a := p.1) (b := p.2) hp
    exact ⟨_, rfl, rfl, as_good_spec (hx _ h1) (hy _ h2)⟩
  have a2 : lstM ((zipD xs ys).map fun d => PyData.bool (goodP d)) = pure (.list ((zipD xs ys).map fun d => PyData.bool (goodP d))) := lst_short (by rw [List.length_map]; unfold zipD; rw [List.length_map, List.length_zip]; omega)
  unfold m_covers_it b_covers_it
  simp only [on2_two, fin, nbp, ba, w0, w1, eq_int, asB_b, ez, a1, a2, allM_map]
  cases decide (i = j) <;> rfl
end Pf
set_option Elab.async false
set_option linter.all false
set_option maxRecDepth 100000
set_option maxHeartbeats 2000000
namespace Pf
open PySem PySem.Spec PyProof.Rows L2
/-! ### the urn -/
theorem bok {α β : Type} {m : M α} {f : α → M β} {ms ms' : Ms} {a : α} (h : m ms = .ok a ms') : (m >>= f) ms = f a ms' := by
  show (m ms).bind f = _
  rw [h]; rfl
def Urn (n : Nat) (ms : Ms) (g x : Int) : Prop := ms[n]? = some (.lst [.int g, .int x]) ∧ 0 ≤ g ∧ 0 ≤ x
theorem ixO0 {n : Nat} {ms : Ms} {g x : Int} (h : Urn n ms g x) : ixO (objD n) (.int 0) ms = .ok (.int g) ms := by
  unfold ixO; rw [objN_objD]; simp only [h.1]; rfl
theorem ixO1 {n : Nat} {ms : Ms} {g x : Int} (h : Urn n ms g x) : ixO (objD n) (.int 1) ms = .ok (.int x) ms := by
  unfold ixO; rw [objN_objD]; simp only [h.1]; rfl
theorem setO0 {n : Nat} {ms : Ms} {g x z : Int} (h : Urn n ms g x) (hz : 0 ≤ z) : ∃ ms', setO (objD n) (.int 0) (.int z) ms = .ok () ms' ∧ Urn n ms' z x ∧ ms'.length = ms.length := by
  have hn := (List.getElem?_eq_some_iff.mp h.1).1
  refine ⟨ms.set n (.lst [.int z, .int x]), ?_, ⟨by rw [List.getElem?_set_self hn], hz, h.2.2⟩, List.length_set⟩
  unfold setO; rw [objN_objD]; simp only [h.1]; rfl
theorem setO1 {n : Nat} {ms : Ms} {g x z : Int} (h : Urn n ms g x) (hz : 0 ≤ z) : ∃ ms', setO (objD n) (.int 1) (.int z) ms = .ok () ms' ∧ Urn n ms' g z ∧ ms'.length = ms.length := by
  have hn := (List.getElem?_eq_some_iff.mp h.1).1
  refine ⟨ms.set n (.lst [.int g, .int z]), ?_, ⟨by rw [List.getElem?_set_self hn], h.2.1, hz⟩, List.length_set⟩
  unfold setO; rw [objN_objD]; simp only [h.1]; rfl
end Pf
set_option Elab.async false
set_option linter.all false
set_option maxRecDepth 100000
set_option maxHeartbeats 2000000
namespace Pf
open PySem PySem.Spec PyProof.Rows L2
theorem int_int (i : Int) : intM [.int i] = pure (.int i) := rfl
theorem mod_int {i j : Int} (h : 0 < j) : modM (.int i) (.int j) = pure (.int (i % j)) := by show (if 0 < j then _ else _) = _; rw [if_pos h]
theorem fdiv_int {i j : Int} (h : CDiv i j) : fdivM (.int i) (.int j) = pure (.int (i / j)) := by show (if CDiv i j then _ else _) = _; rw [if_pos h]
theorem add_int (i j : Int) : addM (.int i) (.int j) = pure (.int (i + j)) := rfl
theorem mul_int {i j : Int} (h : CMul i j) : mulM (.int i) (.int j) = pure (.int (i * j)) := by show (if CMul i j then _ else _) = _; rw [if_pos h]
/-- a number below another one; the urn goes on -/
theorem ball_spec {n : Nat} {ms : Ms} {g x m : Int} (h : Urn n ms g x) (hx : x < 2147483563) (hm : 0 < m) (hm2 : m < 1073741824) : ∃ r g' x' ms', m__law_ball [objD n, .int m] ms = .ok (.int r) ms' ∧ 0 ≤ r ∧ r < m ∧ Urn n ms' g' x' ∧ x' < 2147483563 ∧ ms'.length = ms.length := by
  unfold m__law_ball b__law_ball
  simp only [on2_two, fin, nbp, ba]
  rw [bok (ixO0 h)]
  simp only [gt_int, nbp, asB_b]
  by_cases hg : (0 : Int) < g
  · rw [decide_eq_true hg, if_pos rfl]
    obtain ⟨ms', e1, e2, e3⟩ := setO0 h (z := g / m) (Int.ediv_nonneg h.2.1 (by omega))
    refine ⟨g % m, g / m, x, ms', ?_, Int.emod_nonneg _ (by omega), Int.emod_lt_of_pos _ hm, e2, hx, e3⟩
    unfold lift0
    simp only [ba, nbp]
    rw [bok (ixO0 h)]
    simp only [int_int, mod_int hm, nbp, ba]
    rw [bok (ixO0 h)]
    simp only [fdiv_int (show CDiv g m from ⟨hm, hm2⟩), nbp, ba]
    rw [bok e1]
    rfl
  · rw [decide_eq_false hg, if_neg (by decide)]
    have c1 : CMul x 48271 := .inr ⟨by omega, by omega⟩
    have z1 : (0 : Int) ≤ (x * 48271 + 5077) % 2147483549 := Int.emod_nonneg _ (by omega)
    have z2 : (x * 48271 + 5077) % 2147483549 < 2147483549 := Int.emod_lt_of_pos _ (by omega)
    obtain ⟨ms', e1, e2, e3⟩ := setO1 h z1
    generalize hy : (x * 48271 + 5077) % 2147483549 = y at z1 z2 e1 e2
    have c2 : CMul y (y + 41) := .inl ⟨by omega, by omega⟩
    refine ⟨(y * (y + 41)) % 2147483563 / 467 % m, g, y, ms', ?_, Int.emod_nonneg _ (by omega), Int.emod_lt_of_pos _ hm, e2, by omega, e3⟩
    simp only [ba]
    rw [bok (ixO1 h)]
    simp only [mul_int c1, add_int, int_int, mod_int (show (0 : Int) < 2147483549 by omega), nbp, ba, hy]
    rw [bok e1]
    show (ixO (objD n) (.int 1) >>= fun a => _) ms' = _
    rw [bok (ixO1 e2), bok (ixO1 e2)]
    simp only [add_int, mul_int c2, int_int, mod_int (show (0 : Int) < 2147483563 by omega), fdiv_int (show CDiv (y * (y + 41) % 2147483563) 467 from ⟨by omega, by omega⟩), mod_int hm, nbp, ba]
    rfl
end Pf
set_option Elab.async false
set_option linter.all false
set_option maxRecDepth 100000
set_option maxHeartbeats 2000000
namespace Pf
open PySem PySem.Spec PyProof.Rows L2
/-- an urn that stands as it is asked -/
def Ur (n : Nat) (ms : Ms) : Prop := ∃ g x, Urn n ms g x ∧ x < 2147483563
theorem ball_u {n : Nat} {ms : Ms} {m : Int} (h : Ur n ms) (hm : 0 < m) (hm2 : m < 1073741824) : ∃ r ms', m__law_ball [objD n, .int m] ms = .ok (.int r) ms' ∧ 0 ≤ r ∧ r < m ∧ Ur n ms' := by
  obtain ⟨g, x, h1, h2⟩ := h
  obtain ⟨r, g', x', ms', e1, e2, e3, e4, e5, _⟩ := ball_spec h1 h2 hm hm2
  exact ⟨r, ms', e1, e2, e3, g', x', e4, e5⟩
theorem any_u {n : Nat} {ms : Ms} {xs : List D} (h : Ur n ms) (h1 : xs ≠ []) (h2 : xs.length ≤ 5000) : ∃ d ms', m__law_any [objD n, .list xs] ms = .ok d ms' ∧ d ∈ xs ∧ Ur n ms' := by
  have hl : 0 < xs.length := List.length_pos_iff.mpr h1
  obtain ⟨r, ms', e1, e2, e3, e4⟩ := ball_u h (m := xs.length) (by omega) (by omega)
  obtain ⟨k, rfl⟩ := Int.eq_ofNat_of_zero_le e2
  have hk : k < xs.length := by omega
  have ea : L2.atI xs (k : Int) = some xs[k] := by
    unfold L2.atI L2.ixN
    simp [hk]
  refine ⟨xs[k], ms', ?_, List.getElem_mem hk, e4⟩
  unfold m__law_any b__law_any
  simp only [on2_two, fin, nbp, ba, len_lst]
  rw [bok e1]
  show (M.optF id (L2.atI xs (k : Int)) >>= fun a => _) ms' = _
  rw [ea]
  rfl
end Pf
set_option Elab.async false
set_option linter.all false
set_option maxRecDepth 100000
set_option maxHeartbeats 1000000
namespace Pf
open PySem PySem.Spec PyProof.Rows L2
/-! ### what is done with the things changed in place kept as P says -/
def Ok {α : Type} (P : Ms → Prop) (m : M α) (Q : α → Prop) : Prop := ∀ ms, P ms → ∃ a ms', m ms = .ok a ms' ∧ P ms' ∧ Q a
section
variable {α β : Type} {P : Ms → Prop}
theorem Ok.pure {a : α} {Q : α → Prop} (h : Q a) : Ok P (pure a : M α) Q := fun ms hp => ⟨a, ms, rfl, hp, h⟩
theorem Ok.bind {m : M α} {f : α → M β} {R : α → Prop} {Q : β → Prop} (h : Ok P m R) (k : ∀ a, R a → Ok P (f a) Q) : Ok P (m >>= f) Q := fun ms hp => by
  obtain ⟨a, ms1, e1, p1, r1⟩ := h ms hp
  obtain ⟨b, ms2, e2, p2, r2⟩ := k a r1 ms1 p1
  refine ⟨b, ms2, ?_, p2, r2⟩
  show (m ms).bind f = _
  rw [e1]; exact e2
theorem Ok.imp {m : M α} {Q R : α → Prop} (h : Ok P m Q) (k : ∀ a, Q a → R a) : Ok P m R := fun ms hp => let ⟨a, ms', e, p, q⟩ := h ms hp; ⟨a, ms', e, p, k a q⟩
theorem Ok.eq {m m' : M α} {Q : α → Prop} (h : Ok P m Q) (e : m' = m) : Ok P m' Q := e ▸ h
theorem Ok.noerr {m : M α} {Q : α → Prop} (h : Ok P m Q) : Ok P (M.noerr m) Q := fun ms hp => by
  obtain ⟨a, ms1, e1, p1, r1⟩ := h ms hp
  refine ⟨a, ms1, ?_, p1, r1⟩
  unfold M.noerr
  rw [e1]
/-- a loop, the invariant by what is done and what is left -/
theorem Ok.forM {τ : Type} {f : D → τ → M (Out τ)} (I : List D → τ → Prop) : ∀ {xs : List D} {t : τ}, (∀ d r t, I (d :: r) t → Ok P (f d t) fun o => ∃ t', o = .nxt t' ∧ I r t') → I xs t → Ok P (Pf.forM f xs t) fun o => ∃ t', o = .nxt t' ∧ I [] t'
  | [], t, _, i => Ok.pure ⟨t, rfl, i⟩
  | d :: r, t, h, i => by
    unfold Pf.forM
    refine Ok.bind (h d r t i) fun o ho => ?_
    obtain ⟨t', rfl, i'⟩ := ho
    exact Ok.forM I h i'
/-- a comprehension, the relation by the things kept -/
theorem Ok.lc {p : Pat} {mt : List D → M Bool} {me : List D → M D} (I : List D → List D → Prop) (h0 : I [] []) : ∀ {xs : List D},
    (∀ d ∈ xs, ∃ ds, patD p d = some ds ∧ Ok P (mt ds) fun b => (b = false → ∀ r ys, I r ys → I (d :: r) ys) ∧ (b = true → Ok P (me ds) fun y => ∀ r ys, I r ys → I (d :: r) (y :: ys))) → Ok P (lcM p mt me xs) (I xs)
  | [], _ => Ok.pure h0
  | d :: r, h => by
    obtain ⟨ds, e, hb⟩ := h d List.mem_cons_self
    have ih : Ok P (lcM p mt me r) (I r) := Ok.lc I h0 fun x hx => h x (List.mem_cons_of_mem _ hx)
    unfold lcM
    rw [e]
    show Ok P (M.noerr (mt ds) >>= fun b => _) _
    refine Ok.bind (Ok.noerr hb) fun b hb' => ?_
    cases b with
    | false => exact ih.imp (hb'.1 rfl r)
    | true => exact Ok.bind (Ok.noerr (hb'.2 rfl)) fun y hy => Ok.bind ih fun ys hys => Ok.pure (hy r ys hys)
end
end Pf
set_option Elab.async false
set_option linter.all false
set_option maxRecDepth 100000
set_option maxHeartbeats 1000000
namespace Pf
open PySem PySem.Spec PyProof.Rows L2
/-! ### towns, desks, stands as plain data -/
inductive Pap' where
  | no
  | due (n : Int)
  | has (a u : Int)
deriving DecidableEq
def Pap'.d : Pap' → D
  | .no => .tuple []
  | .due n => .tuple [.int n]
  | .has a u => .tuple [.int a, .int u]
structure Desk where
  opn : List Nat
  shown : List (Nat × Int)
  left : List Nat
  ref : List Nat
  gives : Nat
  wait : Int
  fee : Int
deriving DecidableEq
structure Town where
  week : Nat
  kinds : List (Int × Int)
  desks : List Desk
deriving DecidableEq
abbrev Stand := Nat × List Pap'
def nD (n : Nat) : D := .int (n : Int)
def nsD (l : List Nat) : D := .tuple (l.map nD)
def shD (p : Nat × Int) : D := .tuple [nD p.1, .int p.2]
def Desk.d (k : Desk) : D := .tuple [nsD k.opn, .tuple (k.shown.map shD), nsD k.left, nsD k.ref, nD k.gives, .int k.wait, .int k.fee]
def Town.d (t : Town) : D := townD t.week t.kinds (t.desks.map Desk.d)
def papsD (ps : List Pap') : D := .tuple (ps.map Pap'.d)
def standD (s : Stand) : D := .tuple [nD s.1, papsD s.2]

structure Desk.Ok (w n : Nat) (k : Desk) : Prop where
  o0 : k.opn ≠ []
  o1 : k.opn.Pairwise (· < ·)
  o2 : ∀ x ∈ k.opn, x < w
  s1 : (k.shown.map (·.1)).Pairwise (· < ·)
  s2 : ∀ p ∈ k.shown, p.1 < n ∧ 0 ≤ p.2 ∧ p.2 ≤ 3
  l1 : k.left.Pairwise (· < ·)
  l2 : ∀ x ∈ k.left, x < n
  r1 : k.ref.Pairwise (· < ·)
  r2 : ∀ x ∈ k.ref, x < n
  nd : (k.shown.map (·.1) ++ k.left ++ k.ref).Nodup
  g : k.gives < n
  w1 : 0 ≤ k.wait ∧ k.wait ≤ 2
  f1 : 0 ≤ k.fee ∧ k.fee ≤ 9
structure Town.Ok (t : Town) : Prop where
  w : 1 ≤ t.week ∧ t.week ≤ 3
  k : kOk t.kinds
  k0 : 1 ≤ t.kinds.length
  ds : t.desks.length ≤ 5
  d : ∀ k ∈ t.desks, k.Ok t.week t.kinds.length
def Pap'.ok (k : Int × Int) : Pap' → Prop
  | .no => True
  | .due n => 1 ≤ n ∧ n ≤ 2
  | .has a u => (0 ≤ a ∧ a < k.1) ∧ 1 ≤ u ∧ u ≤ k.2
def papsOk : List (Int × Int) → List Pap' → Prop
  | [], [] => True
  | k :: ks, p :: ps => p.ok k ∧ papsOk ks ps
  | _, _ => False
def stOk (t : Town) (s : Stand) : Prop := s.1 < t.week ∧ papsOk t.kinds s.2
theorem papsOk.len : ∀ {ks : List (Int × Int)} {ps : List Pap'}, papsOk ks ps → ps.length = ks.length
  | [], [], _ => rfl
  | _ :: _, _ :: _, h => by rw [List.length_cons, List.length_cons, papsOk.len h.2]
/-! ### they are what is asked -/
theorem num_ok {i lo hi : Int} (h : lo ≤ i ∧ i ≤ hi) : isNum (.int i) lo hi = true := by
  show (decide (lo ≤ i) && decide (i ≤ hi)) = true
  rw [decide_eq_true h.1, decide_eq_true h.2]; rfl
theorem pap_is {k : Int × Int} : ∀ {p : Pap'}, p.ok k → isPap p.d k.1 k.2 = true
  | .no, _ => rfl
  | .due n, h => num_ok h
  | .has a u, h => by
    show (isNum (.int a) 0 (k.1 - 1) && isNum (.int u) 1 k.2) = true
    have h1 : (0 ≤ a ∧ a < k.1) ∧ 1 ≤ u ∧ u ≤ k.2 := h
    rw [num_ok ⟨h1.1.1, by omega⟩, num_ok h1.2]; rfl
theorem pap_okD : ∀ (p : Pap'), okD 2 2 p.d = true
  | .no => rfl
  | .due n => rfl
  | .has a u => rfl
theorem paps_all : ∀ {ks : List (Int × Int)} {ps : List Pap'}, papsOk ks ps → papAll (ps.map Pap'.d) ks = true
  | [], [], _ => rfl
  | _ :: _, _ :: _, h => by
    show (isPap _ _ _ && papAll _ _) = true
    rw [pap_is h.1, paps_all h.2]; rfl
theorem stand_is {t : Town} {s : Stand} (h : stOk t s) : isStand t.week t.kinds (standD s) = true := by
  show (isNum (.int (s.1 : Int)) 0 ((t.week : Int) - 1) && (isTup (papsD s.2) && decide (lenI (papsD s.2) = (t.kinds.length : Int)) && papAll (itms (papsD s.2)) t.kinds)) = true
  have h1 := h.1
  rw [num_ok ⟨by omega, by omega⟩]
  have e : lenI (papsD s.2) = (t.kinds.length : Int) := by
    show ((s.2.map Pap'.d).length : Int) = _
    rw [List.length_map, h.2.len]
  rw [decide_eq_true e]
  show (true && (true && true && papAll (s.2.map Pap'.d) t.kinds)) = true
  rw [paps_all h.2]; rfl
theorem tup_okD {n l : Nat} {xs : List D} (h1 : xs.length ≤ l) (h2 : ∀ x ∈ xs, okD n l x = true) : okD (n + 1) l (.tuple xs) = true := by
  show (decide (xs.length ≤ l) && xs.all (okD n l)) = true
  rw [decide_eq_true h1, List.all_eq_true.mpr h2]; rfl
theorem int_okD {n l : Nat} (i : Int) : okD (n + 1) l (.int i) = true := rfl
theorem stand_okD {t : Town} {s : Stand} (ht : t.Ok) (h : stOk t s) : okD 4 10 (standD s) = true := by
  have hl := h.2.len
  have := ht.k.1
  refine tup_okD (by show 2 ≤ 10; omega) fun x hx => ?_
  rcases List.mem_cons.mp hx with rfl | hx
  · rfl
  · rw [List.mem_singleton.mp hx]
    refine tup_okD (by rw [List.length_map]; omega) fun y hy => ?_
    obtain ⟨p, _, rfl⟩ := List.mem_map.mp hy
    exact okD.mono (by decide) (by decide) (pap_okD p)
theorem ns_okD {n l : Nat} {xs : List Nat} (h : xs.length ≤ l) : okD (n + 2) l (nsD xs) = true := tup_okD (by rw [List.length_map]; exact h) fun x hx => by
  obtain ⟨a, _, rfl⟩ := List.mem_map.mp hx; rfl
theorem up_len : ∀ {n : Nat} {xs : List Nat}, xs.Pairwise (· < ·) → (∀ x ∈ xs, x < n) → xs.length ≤ n := by
  intro n
  induction n with
  | zero => intro xs _ h; cases xs with
    | nil => exact Nat.le_refl _
    | cons x r => exact absurd (h x List.mem_cons_self) (by omega)
  | succ n ih =>
    intro xs hp h
    have key : ∀ {xs : List Nat}, xs.Pairwise (· < ·) → (∀ x ∈ xs, x < n + 1) → (xs.filter (· < n)).length + 1 ≥ xs.length := by
      intro xs
      induction xs with
      | nil => intro _ _; exact Nat.zero_le _
      | cons x r ihr =>
        intro hp h
        have hx := h x List.mem_cons_self
        by_cases hlt : x < n
        · have := ihr hp.tail fun y hy => h y (List.mem_cons_of_mem _ hy)
          rw [List.filter_cons, if_pos (decide_eq_true hlt), List.length_cons, List.length_cons]; omega
        · have hr : r = [] := by
            cases r with
            | nil => rfl
            | cons y s =>
              have h1 := (List.pairwise_cons.mp hp).1 y List.mem_cons_self
              have h2 := h y (List.mem_cons_of_mem _ List.mem_cons_self)
              omega
          subst hr
          exact Nat.succ_le_succ (Nat.zero_le _)
    have k1 := key hp h
    have k2 := ih (xs := xs.filter (· < n)) (hp.filter _) fun x hx => of_decide_eq_true (List.mem_filter.mp hx).2
    omega
section
variable {w n : Nat} {k : Desk}
theorem Desk.Ok.ll (h : k.Ok w n) : k.left.length ≤ n := up_len h.l1 h.l2
theorem Desk.Ok.rl (h : k.Ok w n) : k.ref.length ≤ n := up_len h.r1 h.r2
theorem Desk.Ok.ol (h : k.Ok w n) : k.opn.length ≤ w := up_len h.o1 h.o2
theorem Desk.Ok.sl (h : k.Ok w n) : k.shown.length ≤ n := by
  have := up_len h.s1 (n := n) fun x hx => by obtain ⟨p, hp, rfl⟩ := List.mem_map.mp hx; exact (h.s2 p hp).1
  rwa [List.length_map] at this
theorem desk_okD (h : k.Ok w n) (hw : w ≤ 3) (hn : n ≤ 3) : okD 4 10 k.d = true := by
  have h1 := h.ll; have h2 := h.rl; have h3 := h.ol; have h4 := h.sl
  refine tup_okD (by show 7 ≤ 10; omega) fun x hx => ?_
  simp only [List.mem_cons, List.not_mem_nil, or_false] at hx
  rcases hx with rfl | rfl | rfl | rfl | rfl | rfl | rfl
  · exact ns_okD (by omega)
  · refine tup_okD (by rw [List.length_map]; omega) fun y hy => ?_
    obtain ⟨p, _, rfl⟩ := List.mem_map.mp hy
    rfl
  · exact ns_okD (by omega)
  · exact ns_okD (by omega)
  · rfl
  · rfl
  · rfl
end
theorem nums_all {xs : List Nat} {n : Nat} (h : ∀ x ∈ xs, x < n) : (xs.map nD).all (fun x => isNum x 0 ((n : Int) - 1)) = true := by
  rw [List.all_eq_true]
  intro x hx
  obtain ⟨a, ha, rfl⟩ := List.mem_map.mp hx
  have := h a ha
  exact num_ok ⟨by omega, by omega⟩
theorem up_ascN : ∀ {ns : List Nat}, ns.Pairwise (· < ·) → asc (ns.map nD) = true
  | [], _ => rfl
  | [_], _ => rfl
  | a :: b :: r, h => by
    have h1 := (List.pairwise_cons.mp h).1 b List.mem_cons_self
    show (decide ((a : Int) < (b : Int)) && asc ((b :: r).map nD)) = true
    rw [decide_eq_true (by omega), up_ascN (ns := b :: r) h.tail]; rfl
theorem ris_is {xs : List Nat} {n : Nat} (h1 : xs.Pairwise (· < ·)) (h2 : ∀ x ∈ xs, x < n) : isRis (nsD xs) 0 ((n : Int) - 1) = true := by
  show ((xs.map nD).all (fun x => isNum x 0 ((n : Int) - 1)) && asc (xs.map nD)) = true
  rw [nums_all h2, up_ascN h1]; rfl
theorem uins_new {x : Int} : ∀ {l : List Int}, x ∉ l → (uins x l).length = l.length + 1
  | [], _ => rfl
  | y :: r, h => by
    unfold uins
    by_cases h1 : x < y
    · rw [if_pos h1]; rfl
    · rw [if_neg h1, if_neg (fun e : x = y => h (by rw [e]; exact List.mem_cons_self)), List.length_cons, uins_new fun q => h (List.mem_cons_of_mem _ q)]; rfl
theorem usort_nd : ∀ {l : List Int}, l.Nodup → (usort l).length = l.length
  | [], _ => rfl
  | x :: r, h => by
    have h' := List.nodup_cons.mp h
    show (uins x (usort r)).length = _
    rw [uins_new (fun q => h'.1 (mem_usort.mp q)), usort_nd h'.2]; rfl
theorem nD_ints (xs : List Nat) : xs.map nD = (xs.map (fun (n : Nat) => (n : Int))).map PyData.int := by rw [List.map_map]; rfl
theorem nodup_cast {xs : List Nat} (h : xs.Nodup) : (xs.map (fun (n : Nat) => (n : Int))).Nodup := by
  unfold List.Nodup
  rw [List.pairwise_map]
  exact h.imp fun q e => q (by omega)
theorem once_is {xs : List Nat} (h : xs.Nodup) : once (xs.map nD) = true := by
  unfold once
  rw [nD_ints, intsD_map]
  exact decide_eq_true (usort_nd (nodup_cast h))
theorem desk_is {w n : Nat} {k : Desk} (h : k.Ok w n) : isDesk k.d w n = true := by
  have e1 : isShown (.tuple (k.shown.map shD)) (n : Int) = true := by
    have a1 : (k.shown.map shD).all isPair = true := by
      rw [List.all_eq_true]; intro x hx; obtain ⟨p, _, rfl⟩ := List.mem_map.mp hx; rfl
    have a2 : (k.shown.map shD).map fstD = (k.shown.map (·.1)).map nD := by rw [List.map_map, List.map_map]; rfl
    have a3 : ((k.shown.map shD).all fun d => isNum (sndD d) 0 3) = true := by
      rw [List.all_eq_true]; intro x hx; obtain ⟨p, hp, rfl⟩ := List.mem_map.mp hx
      exact num_ok (h.s2 p hp).2
    have a4 : isRis (.tuple ((k.shown.map (·.1)).map nD)) 0 ((n : Int) - 1) = true := ris_is h.s1 fun x hx => by obtain ⟨p, hp, rfl⟩ := List.mem_map.mp hx; exact (h.s2 p hp).1
    show ((k.shown.map shD).all isPair && (isRis (.tuple ((k.shown.map shD).map fstD)) 0 ((n : Int) - 1) && (k.shown.map shD).all fun d => isNum (sndD d) 0 3)) = true
    rw [a1, a2, a3, a4]; rfl
  have e2 : named (.tuple (k.shown.map shD)) (nsD k.left) (nsD k.ref) = (k.shown.map (·.1) ++ k.left ++ k.ref).map nD := by
    show (k.shown.map shD).map fstD ++ k.left.map nD ++ k.ref.map nD = _
    rw [List.map_append, List.map_append, List.map_map, List.map_map]; rfl
  have e3 : isNil (nsD k.opn) = false := by
    have h0 := h.o0
    unfold nsD
    revert h0
    cases k.opn with
    | nil => exact fun h0 => absurd rfl h0
    | cons x r => exact fun _ => rfl
  show (isRis (nsD k.opn) 0 ((w : Int) - 1) && !isNil (nsD k.opn) && (isShown (.tuple (k.shown.map shD)) n && isRis (nsD k.left) 0 ((n : Int) - 1) && isRis (nsD k.ref) 0 ((n : Int) - 1)) && once (named (.tuple (k.shown.map shD)) (nsD k.left) (nsD k.ref)) && (isNum (nD k.gives) 0 ((n : Int) - 1) && (isNum (.int k.wait) 0 2 && isNum (.int k.fee) 0 9))) = true
  have hg := h.g
  rw [ris_is h.o1 h.o2, e3, e1, ris_is h.l1 h.l2, ris_is h.r1 h.r2, e2, once_is h.nd, show isNum (nD k.gives) 0 ((n : Int) - 1) = true from num_ok ⟨by omega, by omega⟩, num_ok h.w1, num_ok h.f1]; rfl
theorem town_is {t : Town} (h : t.Ok) : isTown t.d = true := by
  have hk := h.k.1
  have h0 := h.k0
  have hd := h.ds
  have hw := h.w
  have el : lenI (.tuple (kindsD t.kinds)) = (t.kinds.length : Int) := by show ((kindsD t.kinds).length : Int) = _; unfold kindsD; rw [List.length_map]
  have ed : lenI (.tuple (t.desks.map Desk.d)) = (t.desks.length : Int) := by show ((t.desks.map Desk.d).length : Int) = _; rw [List.length_map]
  have e1 : (kindsD t.kinds).all isKind = true := by
    rw [List.all_eq_true]; intro x hx; unfold kindsD at hx; obtain ⟨p, hp, rfl⟩ := List.mem_map.mp hx
    obtain ⟨q1, q2⟩ := h.k.2 p hp
    show (isPair _ && (isNum (.int p.1) 1 4 && isNum (.int p.2) 1 2)) = true
    rw [num_ok q1, num_ok q2]; rfl
  have e2 : ((t.desks.map Desk.d).all fun d => isDesk d (t.week : Int) (t.kinds.length : Int)) = true := by
    rw [List.all_eq_true]; intro x hx; obtain ⟨p, hp, rfl⟩ := List.mem_map.mp hx
    exact desk_is (h.d p hp)
  show (isNum (.int (t.week : Int)) 1 3 && (true && true && (decide (1 ≤ lenI (.tuple (kindsD t.kinds))) && decide (lenI (.tuple (kindsD t.kinds)) ≤ 3)) && !decide (5 < lenI (.tuple (t.desks.map Desk.d))) && ((kindsD t.kinds).all isKind && (t.desks.map Desk.d).all fun d => isDesk d (t.week : Int) (lenI (.tuple (kindsD t.kinds)))))) = true
  rw [el, ed, e1, e2, num_ok ⟨by omega, by omega⟩, decide_eq_true (show (1 : Int) ≤ t.kinds.length by omega), decide_eq_true (show (t.kinds.length : Int) ≤ 3 by omega), decide_eq_false (show ¬ (5 : Int) < t.desks.length by omega)]; rfl
theorem town_okD {t : Town} (h : t.Ok) : okD 6 10 t.d = true := by
  have hk := h.k.1
  have hd := h.ds
  refine tup_okD (by show 3 ≤ 10; omega) fun x hx => ?_
  simp only [List.mem_cons, List.not_mem_nil, or_false] at hx
  rcases hx with rfl | rfl | rfl
  · rfl
  · refine tup_okD (by unfold kindsD; rw [List.length_map]; omega) fun y hy => ?_
    unfold kindsD at hy
    obtain ⟨p, _, rfl⟩ := List.mem_map.mp hy
    rfl
  · refine tup_okD (by rw [List.length_map]; omega) fun y hy => ?_
    obtain ⟨p, hp, rfl⟩ := List.mem_map.mp hy
    exact desk_okD (h.d p hp) h.w.2 hk
end Pf
set_option Elab.async false
set_option linter.all false
set_option maxRecDepth 100000
set_option maxHeartbeats 1000000
namespace Pf
open PySem PySem.Spec PyProof.Rows L2
section
variable {P : Ms → Prop}
theorem Ok.join {τ τ' : Type} {m : M (Out τ')} {k : τ' → M (Out τ)} {R : τ' → Prop} {Q : Out τ → Prop} (h : Ok P m fun o => ∃ t, o = .nxt t ∧ R t) (hk : ∀ t, R t → Ok P (k t) Q) : Ok P (joinO m k) Q := by
  unfold joinO
  refine Ok.bind h fun o ho => ?_
  obtain ⟨t, rfl, r⟩ := ho
  exact hk t r
theorem Ok.fin {τ : Type} {m : M (Out τ)} {Q : D → Prop} (h : Ok P m fun o => ∃ d, o = .ret d ∧ Q d) : Ok P (m >>= finK) Q := Ok.bind h fun o ho => by
  obtain ⟨d, rfl, q⟩ := ho
  exact Ok.pure q
end
/-! ### what the law draws -/
theorem ball_ok {n : Nat} {m : Int} (hm : 0 < m) (hm2 : m < 1073741824) : Ok (Ur n) (m__law_ball [objD n, .int m]) fun d => ∃ r : Nat, d = nD r ∧ (r : Int) < m := fun ms h => by
  obtain ⟨r, ms', e1, e2, e3, e4⟩ := ball_u h hm hm2
  obtain ⟨k, rfl⟩ := Int.eq_ofNat_of_zero_le e2
  exact ⟨_, ms', e1, e4, k, rfl, e3⟩
theorem any_ok {n : Nat} {xs : List D} (h1 : xs ≠ []) (h2 : xs.length ≤ 5000) : Ok (Ur n) (m__law_any [objD n, .list xs]) fun d => d ∈ xs := fun ms h => by
  obtain ⟨d, ms', e1, e2, e3⟩ := any_u h h1 h2
  exact ⟨d, ms', e1, e3, e2⟩
theorem pow_int {i j : Int} (h : CPow i j) : powM (.int i) (.int j) = pure (.int (i ^ j.toNat)) := by show (if CPow i j then _ else _) = _; rw [if_pos h]
theorem urn_ok {c s : Int} (hs : 0 ≤ s) (hs2 : s < 100000) (ms : Ms) : ∃ ms', m__law_urn [.int c, .int s] ms = .ok (objD ms.length) ms' ∧ Ur ms.length ms' := by
  have p1 : powM (.int 10) (.int 18) = pure (.int (10 ^ 18)) := pow_int (by decide)
  have hx : 0 ≤ (c * 37 + 4001 * s) % 1844674403 := Int.emod_nonneg _ (by omega)
  have hx2 : (c * 37 + 4001 * s) % 1844674403 < 1844674403 := Int.emod_lt_of_pos _ (by omega)
  have key : ∀ g : Int, 0 ≤ g → ∃ ms', (newO [.int g, .int ((c * 37 + 4001 * s) % 1844674403 + 13)] >>= fun d => (pure (.ret d) : M (Out Unit)) >>= finK) ms = .ok (objD ms.length) ms' ∧ Ur ms.length ms' := fun g hg => by
    refine ⟨ms ++ [.lst [.int g, .int ((c * 37 + 4001 * s) % 1844674403 + 13)]], rfl, g, (c * 37 + 4001 * s) % 1844674403 + 13, ⟨?_, hg, ?_⟩, ?_⟩
    · rw [List.getElem?_append_right (Nat.le_refl _), Nat.sub_self]; rfl
    · omega
    · omega
  unfold m__law_urn b__law_urn
  simp only [on2_two, fin, nbp, ba, p1, ge_int, asB_b]
  by_cases hc : (10 : Int) ^ 18 ≤ c
  · rw [decide_eq_true hc, if_pos rfl]
    have h10 : (10 : Int) ^ 18 = 1000000000000000000 := by decide
    simp only [fdiv_int (show CDiv c 6 from ⟨by omega, by omega⟩), mul_int (show CMul 11 s from .inl ⟨by omega, by omega⟩), add_int, mul_int (show CMul c 37 from .inr ⟨by omega, by omega⟩), mul_int (show CMul 4001 s from .inl ⟨by omega, by omega⟩), int_int, mod_int (show (0 : Int) < 1844674403 by omega), nbp, ba]
    exact key _ (by omega)
  · rw [decide_eq_false hc, if_neg (by decide)]
    simp only [fdiv_int (show CDiv c 6 from ⟨by omega, by omega⟩), add_int, mul_int (show CMul c 37 from .inr ⟨by omega, by omega⟩), mul_int (show CMul 4001 s from .inl ⟨by omega, by omega⟩), int_int, mod_int (show (0 : Int) < 1844674403 by omega), nbp, ba]
    exact key 0 (by omega)
theorem rangeD_nD (n : Nat) : rangeD 0 n = (List.range n).map nD := by
  unfold rangeD nD
  refine List.map_congr_left fun i _ => ?_
  rw [Int.zero_add]
theorem sub_nD {ys : List D} {l : List Nat} (h : ys.Sublist (l.map nD)) : ∃ os : List Nat, ys = os.map nD ∧ os.Sublist l := by
  obtain ⟨l', h1, h2⟩ := List.sublist_map_iff.mp h
  exact ⟨l', h2, h1⟩
theorem tup0 : tupM [] = pure (.tuple []) := tup_short (Nat.zero_le _)
theorem tup3 (x y z : D) : tupM [x, y, z] = pure (.tuple [x, y, z]) := tup_short (by show 3 ≤ 5000; decide)
theorem tup7 (a b c d e f g : D) : tupM [a, b, c, d, e, f, g] = pure (.tuple [a, b, c, d, e, f, g]) := tup_short (by show 7 ≤ 5000; decide)
theorem tupleL (xs : List D) : tupleM [.list xs] = pure (.tuple xs) := (Eq.refl _).trans rfl
theorem tupleT (xs : List D) : tupleM [.tuple xs] = pure (.tuple xs) := (Eq.refl _).trans rfl
theorem min2_int (i j : Int) : min2M [.int i, .int j] = pure (.int (if j < i then j else i)) := (Eq.refl _).trans rfl
theorem kindsD_len (ks : List (Int × Int)) : (kindsD ks).length = ks.length := by unfold kindsD; rw [List.length_map]
theorem sub_lc {n : Nat} {p : Nat} {mt : D → M Bool} {xs : List D} (h : ∀ d ∈ xs, Ok (Ur n) (mt d) fun _ => True) : Ok (Ur n) (lcM (.nm p) (on1 mt) (on1 fun d => pure d) xs) fun ys => ys.Sublist xs :=
  Ok.lc (fun r ys => ys.Sublist r) .slnil fun d hd => ⟨[d], rfl, (h d hd).imp fun b _ => ⟨fun _ r ys q => q.cons d, fun _ => Ok.pure fun r ys q => q.cons₂ d⟩⟩
/-- what the loop of a desk keeps -/
structure DI (n i : Nat) (sh : List (Nat × Int)) (le re : List Nat) : Prop where
  s1 : (sh.map (·.1)).Pairwise (· < ·)
  s2 : ∀ p ∈ sh, p.1 < i ∧ 0 ≤ p.2 ∧ p.2 ≤ 3
  l1 : le.Pairwise (· < ·)
  l2 : ∀ x ∈ le, x < i
  r1 : re.Pairwise (· < ·)
  r2 : ∀ x ∈ re, x < i
  nd : (sh.map (·.1) ++ le ++ re).Nodup
theorem up_app {xs : List Nat} {i : Nat} (h : xs.Pairwise (· < ·)) (h2 : ∀ x ∈ xs, x < i) : (xs ++ [i]).Pairwise (· < ·) :=
  List.pairwise_append.mpr ⟨h, List.pairwise_singleton _ _, fun a ha b hb => by rw [List.mem_singleton.mp hb]; exact h2 a ha⟩
theorem lt_app {xs : List Nat} {i : Nat} (h2 : ∀ x ∈ xs, x < i) : ∀ x ∈ xs ++ [i], x < i + 1 := fun x hx => by
  rcases List.mem_append.mp hx with q | q
  · have := h2 x q; omega
  · rw [List.mem_singleton.mp q]; omega
theorem DI.up {n i : Nat} {sh : List (Nat × Int)} {le re : List Nat} (h : DI n i sh le re) : DI n (i + 1) sh le re :=
  ⟨h.s1, fun p hp => ⟨by have := (h.s2 p hp).1; omega, (h.s2 p hp).2⟩, h.l1, fun x hx => by have := h.l2 x hx; omega, h.r1, fun x hx => by have := h.r2 x hx; omega, h.nd⟩
theorem DI.fresh {n i : Nat} {sh : List (Nat × Int)} {le re : List Nat} (h : DI n i sh le re) : i ∉ sh.map (·.1) ∧ i ∉ le ∧ i ∉ re := by
  refine ⟨fun q => ?_, fun q => ?_, fun q => ?_⟩
  · obtain ⟨p, hp, e⟩ := List.mem_map.mp q; have := (h.s2 p hp).1; omega
  · have := h.l2 _ q; omega
  · have := h.r2 _ q; omega
theorem nd_mid {a b : List Nat} {i : Nat} (h : (a ++ b).Nodup) (h1 : i ∉ a) (h2 : i ∉ b) : (a ++ [i] ++ b).Nodup := by
  rw [List.append_assoc, List.nodup_append]
  rw [List.nodup_append] at h
  obtain ⟨p, q, r⟩ := h
  refine ⟨p, List.nodup_cons.mpr ⟨h2, q⟩, fun x hx y hy => ?_⟩
  rcases List.mem_cons.mp hy with rfl | hy
  · rintro rfl; exact h1 hx
  · exact r x hx y hy
theorem DI.sh {n i : Nat} {sh : List (Nat × Int)} {le re : List Nat} {o : Int} (h : DI n i sh le re) (ho : 0 ≤ o ∧ o ≤ 3) : DI n (i + 1) (sh ++ [(i, o)]) le re := by
  have u := h.up
  have f := h.fresh
  refine ⟨?_, fun p hp => ?_, u.l1, u.l2, u.r1, u.r2, ?_⟩
  · rw [List.map_append]
    exact up_app h.s1 fun x hx => by obtain ⟨p, hp, rfl⟩ := List.mem_map.mp hx; exact (h.s2 p hp).1
  · rcases List.mem_append.mp hp with q | q
    · exact u.s2 p q
    · rw [List.mem_singleton.mp q]; exact ⟨Nat.lt_succ_self i, ho⟩
  · have := h.nd
    rw [List.append_assoc] at this ⊢
    rw [List.map_append]
    exact nd_mid this f.1 fun q => (List.mem_append.mp q).elim f.2.1 f.2.2
theorem DI.le {n i : Nat} {sh : List (Nat × Int)} {le re : List Nat} (h : DI n i sh le re) : DI n (i + 1) sh (le ++ [i]) re := by
  have u := h.up
  have f := h.fresh
  refine ⟨u.s1, u.s2, up_app h.l1 h.l2, lt_app h.l2, u.r1, u.r2, ?_⟩
  rw [← List.append_assoc]
  exact nd_mid h.nd (fun q => (List.mem_append.mp q).elim f.1 f.2.1) f.2.2
theorem DI.re {n i : Nat} {sh : List (Nat × Int)} {le re : List Nat} (h : DI n i sh le re) : DI n (i + 1) sh le (re ++ [i]) := by
  have u := h.up
  have f := h.fresh
  refine ⟨u.s1, u.s2, u.l1, u.l2, up_app h.r1 h.r2, lt_app h.r2, ?_⟩
  rw [← List.append_assoc]
  have := nd_mid (a := sh.map (·.1) ++ le ++ re) (b := []) (i := i) (by rw [List.append_nil]; exact h.nd) (fun q => by
    rcases List.mem_append.mp q with q | q
    · exact (List.mem_append.mp q).elim f.1 f.2.1
    · exact f.2.2 q) (by simp)
  rwa [List.append_nil] at this
theorem nsD_app (xs : List Nat) (i : Nat) : nsD (xs ++ [i]) = .tuple (xs.map nD ++ [nD i]) := by unfold nsD; rw [List.map_append]; rfl
end Pf
set_option Elab.async false
set_option linter.all false
set_option maxRecDepth 100000
set_option maxHeartbeats 1000000
namespace Pf
open PySem PySem.Spec PyProof.Rows L2
theorem DI.len {N i : Nat} {sh : List (Nat × Int)} {le re : List Nat} (h : DI N i sh le re) : sh.length ≤ i ∧ le.length ≤ i ∧ re.length ≤ i := by
  refine ⟨?_, up_len h.l1 h.l2, up_len h.r1 h.r2⟩
  have := up_len h.s1 (n := i) fun x hx => by obtain ⟨p, hp, rfl⟩ := List.mem_map.mp hx; exact (h.s2 p hp).1
  rwa [List.length_map] at this
theorem desk_body {n i N : Nat} {sh : List (Nat × Int)} {le re : List Nat} (h : DI N i sh le re) (hi : i ≤ 100) : Ok (Ur n) (f__law_desk_1 (objD n) [nD i] (.tuple (sh.map shD), nsD le, nsD re)) fun o =>
    ∃ t', o = .nxt t' ∧ ∃ sh' le' re', t' = (.tuple (sh'.map shD), nsD le', nsD re') ∧ DI N (i + 1) sh' le' re' := by
  obtain ⟨q1, q2, q3⟩ := h.len
  have a1 : ∀ x, addM (.tuple (sh.map shD)) (.tuple [x]) = pure (.tuple (sh.map shD ++ [x])) := fun x => add_tup (by rw [List.length_map]; show _ + 1 ≤ 5000; omega)
  have a2 : addM (nsD le) (.tuple [nD i]) = pure (nsD (le ++ [i])) := by rw [nsD_app]; exact add_tup (by rw [List.length_map]; show _ + 1 ≤ 5000; omega)
  have a3 : addM (nsD re) (.tuple [nD i]) = pure (nsD (re ++ [i])) := by rw [nsD_app]; exact add_tup (by rw [List.length_map]; show _ + 1 ≤ 5000; omega)
  unfold f__law_desk_1
  simp only [on1_one, nbp, ba]
  refine Ok.bind (ball_ok (by decide) (by decide)) fun d hd => ?_
  obtain ⟨r, rfl, hr⟩ := hd
  have er : nD r = .int (r : Int) := rfl
  simp only [er, eq_int, nbp, asB_b]
  by_cases h0 : (r : Int) = 0
  · rw [decide_eq_true h0, decide_eq_false (show ¬ (r : Int) = 1 by omega), decide_eq_false (show ¬ (r : Int) = 2 by omega)]
    simp only [if_true, Bool.false_eq_true, if_false, njoin]
    refine Ok.join (R := fun t => ∃ o : Int, t = .tuple ((sh ++ [(i, o)]).map shD) ∧ 0 ≤ o ∧ o ≤ 3) (Ok.bind (ball_ok (by decide) (by decide)) fun d hd => ?_) fun t ht => ?_
    · obtain ⟨b, rfl, hb⟩ := hd
      have eb : nD b = .int (b : Int) := rfl
      simp only [eb, min2_int, nbp, tup2, tup1, a1]
      refine Ok.pure ⟨_, rfl, if (b : Int) < 3 then (b : Int) else 3, ?_, ?_⟩
      · rw [List.map_append]; rfl
      · split <;> omega
    · obtain ⟨o, rfl, ho⟩ := ht
      exact Ok.pure ⟨_, rfl, _, _, _, rfl, h.sh ho⟩
  · by_cases h1 : (r : Int) = 1
    · rw [decide_eq_false h0, decide_eq_true h1, decide_eq_false (show ¬ (r : Int) = 2 by omega)]
      simp only [if_true, Bool.false_eq_true, if_false, njoin, tup1, a2, nbp]
      exact Ok.pure ⟨_, rfl, _, _, _, rfl, h.le⟩
    · by_cases h2 : (r : Int) = 2
      · rw [decide_eq_false h0, decide_eq_false h1, decide_eq_true h2]
        simp only [if_true, Bool.false_eq_true, if_false, njoin, tup1, a3, nbp]
        exact Ok.pure ⟨_, rfl, _, _, _, rfl, h.re⟩
      · rw [decide_eq_false h0, decide_eq_false h1, decide_eq_false h2]
        simp only [Bool.false_eq_true, if_false, njoin]
        exact Ok.pure ⟨_, rfl, _, _, _, rfl, h.up⟩
/-- the loop over the numbers from i on -/
theorem Ok.forN {P : Ms → Prop} {τ : Type} {f : D → τ → M (Out τ)} (I : Nat → τ → Prop) {k : Nat} (h : ∀ i t, i < k → I i t → Ok P (f (nD i) t) fun o => ∃ t', o = .nxt t' ∧ I (i + 1) t') {t : τ} (h0 : I 0 t) : Ok P (Pf.forM f (rangeD 0 k) t) fun o => ∃ t', o = .nxt t' ∧ I k t' := by
  have go : ∀ (m i : Nat) (t : τ), i + m = k → I i t → Ok P (Pf.forM f ((List.range' i m).map nD) t) fun o => ∃ t', o = .nxt t' ∧ I k t' := by
    intro m
    induction m with
    | zero => intro i t e hi; rw [← e]; exact Ok.pure ⟨t, rfl, hi⟩
    | succ m ih =>
      intro i t e hi
      rw [List.range'_succ, List.map_cons]
      unfold Pf.forM
      refine Ok.bind (h i t (by omega) hi) fun o ho => ?_
      obtain ⟨t', rfl, hi'⟩ := ho
      exact ih (i + 1) t' (by omega) hi'
  rw [rangeD_nD, List.range_eq_range']
  exact go k 0 t (by omega) h0
theorem in_ints {d : D} {l : List Int} (h : d ∈ l.map PyData.int) : ∃ i ∈ l, d = .int i := by
  obtain ⟨i, hi, rfl⟩ := List.mem_map.mp h; exact ⟨i, hi, rfl⟩
theorem DI.zero (N : Nat) : DI N 0 [] [] [] := ⟨List.Pairwise.nil, fun _ h => (by cases h), List.Pairwise.nil, fun _ h => (by cases h), List.Pairwise.nil, fun _ h => (by cases h), List.Pairwise.nil⟩
def DQ (N i : Nat) (t : D × D × D) : Prop := ∃ sh le re, t = (PyData.tuple (sh.map shD), nsD le, nsD re) ∧ DI N i sh le re
theorem desk_ok {n w : Nat} {ks : List (Int × Int)} (hw : 1 ≤ w ∧ w ≤ 3) (hk : 1 ≤ ks.length ∧ ks.length ≤ 3) : Ok (Ur n) (m__law_desk [objD n, nD w, .tuple (kindsD ks)]) fun d => ∃ k : Desk, d = k.d ∧ k.Ok w ks.length := by
  unfold m__law_desk b__law_desk
  have ew : nD w = .int (w : Int) := rfl
  have el : ∀ xs : List D, xs.length ≤ 5000 → lstM xs = pure (.list xs) := fun xs h => lst_short h
  have ep : (M.opt (patD (.tp [(.nm 4), (.nm 5), (.nm 6)]) (.tuple [.tuple [], .tuple [], .tuple []])) : M (List D)) = pure [.tuple [], .tuple [], .tuple []] := rfl
  simp only [on3_three, fin, nbp, ba, len_tup, kindsD_len, tup0, tup3, ep]
  rw [ew, range_ok (n := w) (by omega)]
  simp only [nbp, ba]
  refine Ok.bind (R := fun ys => ys.Sublist (rangeD 0 w)) (Ok.lc (fun r ys => ys.Sublist r) .slnil fun d hd => ⟨[d], rfl, ?_⟩) fun ys hys => ?_
  · simp only [on1_one]
    refine Ok.bind (ball_ok (by decide) (by decide)) fun b hb => ?_
    obtain ⟨r, rfl, _⟩ := hb
    have er : nD r = .int (r : Int) := rfl
    simp only [er, gt_int, nbp, asB_b]
    exact Ok.pure ⟨fun _ r ys q => q.cons d, fun _ => Ok.pure fun r ys q => q.cons₂ d⟩
  · rw [rangeD_nD] at hys
    obtain ⟨os, rfl, hos⟩ := sub_nD hys
    have hup : os.Pairwise (· < ·) := List.pairwise_lt_range.sublist hos
    have hlt : ∀ x ∈ os, x < w := fun x hx => List.mem_range.mp (hos.subset hx)
    have hlen := up_len hup hlt
    rw [el _ (by rw [List.length_map]; omega)]
    simp only [nbp, tupleL]
    rw [range_ok (n := ks.length) (by omega)]
    simp only [nbp]
    refine Ok.fin (Ok.join (τ' := D × D × D) (R := DQ ks.length ks.length) (Ok.forN (DQ ks.length) (fun i t hi ht => ?_) ⟨[], [], [], rfl, DI.zero _⟩) fun t ht => ?_)
    · obtain ⟨sh, le, re, rfl, hD⟩ := ht
      exact desk_body hD (by omega)
    · obtain ⟨sh, le, re, rfl, hD⟩ := ht
      refine Ok.bind (ball_ok (by omega) (by omega)) fun d hd => ?_
      obtain ⟨g, rfl, hg⟩ := hd
      simp only [el _ (show ([PyData.int 0, .int 0, .int 1, .int 2] : List D).length ≤ 5000 by decide), nbp, ba]
      refine Ok.bind (any_ok (by simp) (by decide)) fun d hd => ?_
      obtain ⟨wt, hwt, rfl⟩ := in_ints (l := [0, 0, 1, 2]) hd
      have hwt2 : 0 ≤ wt ∧ wt ≤ 2 := by simp at hwt; omega
      have fin_part : ∀ os : List Nat, os ≠ [] → os.Pairwise (· < ·) → (∀ x ∈ os, x < w) → Ok (Ur n) (do
          let x ← lstM [.int 0, .int 1, .int 1, .int 2, .int 3, .int 5, .int 9]
          let x ← m__law_any [objD n, x]
          let d ← tupM [nsD os, .tuple (sh.map shD), nsD le, nsD re, nD g, .int wt, x]
          (pure (Out.ret d) : M (Out Unit))) fun o => ∃ d, o = .ret d ∧ ∃ k : Desk, d = k.d ∧ k.Ok w ks.length := fun os h1 h2 h3 => by
        rw [el _ (by decide)]
        simp only [nbp]
        refine Ok.bind (any_ok (by simp) (by decide)) fun d hd => ?_
        obtain ⟨fe, hfe, rfl⟩ := in_ints (l := [0, 1, 1, 2, 3, 5, 9]) hd
        have hfe2 : 0 ≤ fe ∧ fe ≤ 9 := by simp at hfe; omega
        rw [tup7]
        simp only [nbp]
        exact Ok.pure ⟨_, rfl, ⟨os, sh, le, re, g, wt, fe⟩, rfl, h1, h2, h3, hD.s1, hD.s2, hD.l1, hD.l2, hD.r1, hD.r2, hD.nd, (by show g < _; omega), hwt2, hfe2⟩
      have enl : neM (.tuple (os.map nD)) (.tuple []) = pure (.bool (!isNil (nsD os))) := ne_nil (ns_okD (n := 0) (l := 10) (by omega : os.length ≤ 10))
      simp only [on2_two, enl, nbp, asB_b]
      cases os with
      | nil =>
        simp only [nsD, List.map_nil, isNil, Bool.not_true, Bool.false_eq_true, if_false, ba]
        refine Ok.bind (ball_ok (by omega) (by omega)) fun d hd => ?_
        obtain ⟨o, rfl, ho⟩ := hd
        simp only [tup1, nbp]
        exact fin_part [o] (by simp) (List.pairwise_singleton _ _) fun x hx => by rw [List.mem_singleton.mp hx]; omega
      | cons o os =>
        simp only [nsD, List.map_cons, isNil, Bool.not_false, if_true, nbp]
        exact fin_part (o :: os) (by simp) hup hlt
end Pf
set_option Elab.async false
set_option linter.all false
set_option maxRecDepth 100000
set_option maxHeartbeats 1000000
namespace Pf
open PySem PySem.Spec PyProof.Rows L2
theorem kd_app (ks : List (Int × Int)) (a b : Int) : kindsD ks ++ [.tuple [.int a, .int b]] = kindsD (ks ++ [(a, b)]) := by unfold kindsD; rw [List.map_append]; rfl
theorem range_int {i : Int} {n : Nat} (e : i = (n : Int)) (h : n ≤ 5000) : range1M [.int i] = pure (rangeD 0 n) := by rw [e]; exact range_ok h
theorem opt_nm {α : Type} {k : Nat} {d : D} {f : List D → M α} : (M.opt (patD (.nm k) d) >>= f) = f [d] := (Eq.refl _).trans rfl
def KQ (i : Nat) (t : D) : Prop := ∃ ks : List (Int × Int), t = PyData.tuple (kindsD ks) ∧ ks.length = i ∧ ∀ k ∈ ks, (1 ≤ k.1 ∧ k.1 ≤ 4) ∧ 1 ≤ k.2 ∧ k.2 ≤ 2
def DsQ (w n : Nat) (i : Nat) (t : D) : Prop := ∃ ds : List Desk, t = PyData.tuple (ds.map Desk.d) ∧ ds.length = i ∧ ∀ d ∈ ds, d.Ok w n
theorem town_ok {n : Nat} {m k : Int} (hm : 1 ≤ m ∧ m ≤ 3) (hk : 1 ≤ k ∧ k ≤ 5) : Ok (Ur n) (m__law_town [objD n, .int m, .int k]) fun d => ∃ t : Town, d = t.d ∧ t.Ok ∧ (t.kinds.length : Int) ≤ m ∧ (t.desks.length : Int) ≤ k := by
  unfold m__law_town b__law_town
  simp only [on3_three, fin, nbp, ba, tup0, opt_nm]
  refine Ok.bind (ball_ok (by decide) (by decide)) fun d hd => ?_
  obtain ⟨r, rfl, hr⟩ := hd
  have er : nD r = .int (r : Int) := rfl
  simp only [er, add_int, nbp]
  refine Ok.bind (ball_ok (by omega) (by omega)) fun d hd => ?_
  obtain ⟨c, rfl, hc⟩ := hd
  have ec : nD c = .int (c : Int) := rfl
  simp only [ec, add_int, nbp]
  rw [range_int (n := 1 + c) (by omega) (by omega)]
  simp only [nbp]
  refine Ok.fin (Ok.join (τ' := D) (R := KQ (1 + c)) (Ok.forN KQ (fun i t hi ht => ?_) ⟨[], rfl, rfl, fun _ h => (by cases h)⟩) fun t ht => ?_)
  · obtain ⟨ks, rfl, hl, hks⟩ := ht
    unfold f__law_town_1
    simp only [on1_one, nbp, ba, lst_short (xs := [PyData.int 1, .int 2, .int 3, .int 3, .int 4, .int 4]) (by decide)]
    refine Ok.bind (any_ok (by simp) (by decide)) fun d hd => ?_
    obtain ⟨lf, hlf, rfl⟩ := in_ints (l := [1, 2, 3, 3, 4, 4]) hd
    have hlf2 : 1 ≤ lf ∧ lf ≤ 4 := by simp at hlf; omega
    refine Ok.bind (ball_ok (by decide) (by decide)) fun d hd => ?_
    obtain ⟨u, rfl, hu⟩ := hd
    have eu : nD u = .int (u : Int) := rfl
    simp only [eu, add_int, nbp, tup2, tup1]
    rw [add_tup (by rw [kindsD_len, hl]; show _ + 1 ≤ 5000; omega)]
    refine Ok.pure ⟨_, rfl, ks ++ [(lf, 1 + (u : Int))], by rw [← kd_app], by rw [List.length_append, hl]; rfl, fun k hk => ?_⟩
    rcases List.mem_append.mp hk with q | q
    · exact hks k q
    · rw [List.mem_singleton.mp q]
      exact ⟨hlf2, by show 1 ≤ 1 + (u : Int); omega, by show 1 + (u : Int) ≤ 2; omega⟩
  · obtain ⟨ks, rfl, hl, hks⟩ := ht
    refine Ok.bind (ball_ok (by omega) (by omega)) fun d hd => ?_
    obtain ⟨x, rfl, hx⟩ := hd
    refine Ok.bind (ball_ok (by decide) (by decide)) fun d hd => ?_
    obtain ⟨y, rfl, hy⟩ := hd
    have ex : nD x = .int (x : Int) := rfl
    have ey : nD y = .int (y : Int) := rfl
    simp only [ex, ey, add_int, nbp]
    rw [range_int (n := x + y) (by omega) (by omega)]
    simp only [nbp]
    refine Ok.join (τ' := D) (R := DsQ (1 + r) ks.length (x + y)) (Ok.forN (DsQ (1 + r) ks.length) (fun i t hi ht => ?_) ⟨[], rfl, rfl, fun _ h => (by cases h)⟩) fun t ht => ?_
    · obtain ⟨ds, rfl, hdl, hds⟩ := ht
      unfold f__law_town_2
      simp only [on1_one, nbp, ba]
      have e1 : PyData.int (1 + (r : Int)) = nD (1 + r) := by unfold nD; congr 1
      rw [e1]
      refine Ok.bind (desk_ok (by omega) (by omega)) fun d hd => ?_
      obtain ⟨k', rfl, hk'⟩ := hd
      simp only [tup1, nbp]
      rw [add_tup (by rw [List.length_map, hdl]; show _ + 1 ≤ 5000; omega)]
      refine Ok.pure ⟨_, rfl, ds ++ [k'], by rw [List.map_append]; rfl, by rw [List.length_append, hdl]; rfl, fun q hq => ?_⟩
      rcases List.mem_append.mp hq with z | z
      · exact hds q z
      · rw [List.mem_singleton.mp z]; exact hk'
    · obtain ⟨ds, rfl, hdl, hds⟩ := ht
      simp only [tup3, nbp]
      refine Ok.pure ⟨_, rfl, ⟨1 + r, ks, ds⟩, ?_, ⟨⟨?_, ?_⟩, ⟨?_, hks⟩, ?_, ?_, hds⟩, ?_, ?_⟩
      · show _ = PyData.tuple [.int ((1 + r : Nat) : Int), _, _]
        congr 3
      all_goals (simp only []; omega)
/-! ### stands -/
theorem pap_typed {v : D} {a b : Int} (h : isPap v a b = true) : ∃ p : Pap', v = p.d ∧ p.ok (a, b) := by
  unfold isPap at h
  split at h
  · exact ⟨.no, rfl, trivial⟩
  · rename_i x
    have e := num_int h
    rw [e] at h ⊢
    obtain ⟨q1, q2⟩ := Bool.and_eq_true_iff.mp (show (decide (1 ≤ numI x) && decide (numI x ≤ 2)) = true from h)
    exact ⟨.due (numI x), rfl, of_decide_eq_true q1, of_decide_eq_true q2⟩
  · rename_i x y
    obtain ⟨h1, h2⟩ := Bool.and_eq_true_iff.mp h
    have e := num_int h1
    have e' := num_int h2
    rw [e] at h1
    rw [e'] at h2
    rw [e, e']
    obtain ⟨q1, q2⟩ := Bool.and_eq_true_iff.mp (show (decide (0 ≤ numI x) && decide (numI x ≤ a - 1)) = true from h1)
    obtain ⟨q3, q4⟩ := Bool.and_eq_true_iff.mp (show (decide (1 ≤ numI y) && decide (numI y ≤ b)) = true from h2)
    have q1 := of_decide_eq_true q1
    have q2 := of_decide_eq_true q2
    have q3 := of_decide_eq_true q3
    have q4 := of_decide_eq_true q4
    exact ⟨.has (numI x) (numI y), rfl, ⟨q1, by show numI x < a; omega⟩, q3, q4⟩
  · cases h
theorem had_mem {k : Int × Int} (hk : (1 ≤ k.1 ∧ k.1 ≤ 4) ∧ 1 ≤ k.2 ∧ k.2 ≤ 2) {d : D} (h : d ∈ dsort (papL k.1.toNat k.2.toNat)) : ∃ p : Pap', d = p.d ∧ p.ok k := by
  have h1 := List.all_eq_true.mp (papL_ok k.1.toNat k.2.toNat (by omega) (by omega)) d (dsort_mem.mp h)
  have h2 := (Bool.and_eq_true_iff.mp h1).1
  have e1 : (k.1.toNat : Int) = k.1 := by omega
  have e2 : (k.2.toNat : Int) = k.2 := by omega
  rw [e1, e2] at h2
  exact pap_typed h2
theorem stand_ok {n : Nat} {t : Town} (ht : t.Ok) : Ok (Ur n) (m__law_stand [objD n, t.d]) fun d => ∃ s : Stand, d = standD s ∧ stOk t s := by
  unfold m__law_stand b__law_stand Town.d townD
  have e3 : mulM (.list [.tuple []]) (.int 3) = pure (.list [.tuple [], .tuple [], .tuple []]) := by
    have h : -(2 ^ 63) ≤ (3 : Int) ∧ (3 : Int) < 2 ^ 63 ∧ ([PyData.tuple []] : List D).length * (3 : Int).toNat ≤ sizeLine := ⟨by omega, by omega, by decide⟩
    exact (if_pos (e := M.bad) h).trans rfl
  have el : lstM [PyData.tuple []] = pure (.list [.tuple []]) := lst_short (by decide)
  simp only [on2_two, fin, nbp, ba, nz0, nz1, nit]
  have hk := ht.k
  refine Ok.bind (R := fun ys => ∃ ps : List Pap', ys = ps.map Pap'.d ∧ papsOk t.kinds ps) ((Ok.lc (fun r ys => ∀ ks, r = kindsD ks → (∀ k ∈ ks, (1 ≤ k.1 ∧ k.1 ≤ 4) ∧ 1 ≤ k.2 ∧ k.2 ≤ 2) → ∃ ps : List Pap', ys = ps.map Pap'.d ∧ papsOk ks ps) (fun ks e _ => by
    cases ks with
    | nil => exact ⟨[], rfl, trivial⟩
    | cons k r => cases e) (fun d hd => ?_)).imp fun ys h => h t.kinds rfl hk.2) fun ys hys => ?_
  · obtain ⟨k, hk1, rfl⟩ := List.mem_map.mp hd
    have hk2 := hk.2 k hk1
    obtain ⟨_, p1, p3⟩ := papers_int hk2
    refine ⟨[_], rfl, Ok.pure ⟨fun h => (by cases h), fun _ => ?_⟩⟩
    simp only [on1_one, nbp, ba, tup0, el, e3, p1]
    rw [add_lst (by rw [p3]; show 3 + _ ≤ 5000; have : k.1.toNat * k.2.toNat ≤ 4 * 2 := Nat.mul_le_mul (by omega) (by omega); omega)]
    simp only [nbp]
    refine (any_ok (by simp) (by rw [List.length_append, p3]; show 3 + _ ≤ 5000; have : k.1.toNat * k.2.toNat ≤ 4 * 2 := Nat.mul_le_mul (by omega) (by omega); omega)).imp fun y hy r ys ih ks e hks => ?_
    cases ks with
    | nil => cases e
    | cons k' ks' =>
      injection e with e1 e2
      have ek : k = k' := by
        injection e1 with e1
        injection e1 with e1 e3
        injection e3 with e3 _
        injection e1 with e1
        injection e3 with e3
        exact Prod.ext e1 e3
      subst ek
      obtain ⟨ps, rfl, hps⟩ := ih ks' e2 fun x hx => hks x (List.mem_cons_of_mem _ hx)
      have hp : ∃ p : Pap', y = p.d ∧ p.ok k := by
        rcases List.mem_append.mp hy with q | q
        · simp at q; exact ⟨.no, q, trivial⟩
        · exact had_mem hk2 q
      obtain ⟨p, rfl, hp⟩ := hp
      exact ⟨p :: ps, rfl, hp, hps⟩
  · obtain ⟨ps, rfl, hps⟩ := hys
    have hl := hps.len
    have h3 := hk.1
    rw [lst_short (by rw [List.length_map]; omega)]
    simp only [nbp, tupleL]
    have hw := ht.w
    refine Ok.bind (ball_ok (by omega) (by omega)) fun d hd => ?_
    obtain ⟨r, rfl, hr⟩ := hd
    simp only [tup2, nbp, finK_ret]
    exact Ok.pure ⟨(r, ps), rfl, by show r < t.week; omega, hps⟩
end Pf
set_option Elab.async false
set_option linter.all false
set_option maxRecDepth 100000
set_option maxHeartbeats 1000000
namespace Pf
open PySem PySem.Spec PyProof.Rows L2
def oddL : List D := [.none, .bool true, .bool false, .int 0, .int 1, .int 2, .int 3, .int 4, .int (-1), .int (10 ^ 30), .str "", .str "days", .str "fees", .str "desk", .tuple [], .list [], .tuple [.int 0], .tuple [.int 1], .tuple [.int 2]] ++
  [.tuple [.int 0, .int 1], .tuple [.int 1, .int 0], .tuple [.int 0, .int 0], .tuple [.int (-1), .tuple []], .tuple [.int 3, .int 2], .tuple [.tuple [], .tuple []], .tuple [.tuple [.int 0, .int 1]], .str "days "]
theorem neg_int (i : Int) : negM (.int i) = pure (.int (-i)) := (Eq.refl _).trans rfl
theorem odd_ok {n : Nat} : Ok (Ur n) (m__law_odd [objD n]) fun d => d ∈ oddL := by
  have p1 : powM (.int 10) (.int 30) = pure (.int (10 ^ 30)) := pow_int (by decide)
  unfold m__law_odd b__law_odd
  simp only [on1_one, fin, nbp, ba, tup0, tup1, tup2, p1, neg_int, lst_short (xs := []) (Nat.zero_le _)]
  rw [lst_short (by decide)]
  simp only [nbp]
  rw [lst_short (by decide)]
  simp only [nbp]
  rw [add_lst (by decide)]
  simp only [nbp]
  refine Ok.bind (any_ok (by simp) (by decide)) fun d hd => ?_
  simp only [nbp, finK_ret]
  exact Ok.pure hd
theorem oddL_ok : ∀ d ∈ oddL, okD 4 10 d = true := List.all_eq_true.mp (by decide +kernel)
section
variable {P : Ms → Prop}
theorem Ok.lift {τ : Type} {m : M (Out Empty)} {Q : D → Prop} (h : Ok P m fun o => ∃ d, o = .ret d ∧ Q d) : Ok P (lift0 m : M (Out τ)) fun o => ∃ d, o = .ret d ∧ Q d := by
  unfold lift0
  refine Ok.bind h fun o ho => ?_
  obtain ⟨d, rfl, q⟩ := ho
  exact Ok.pure ⟨d, rfl, q⟩
end
theorem ix_nat {xs : List D} {k : Nat} (h : k < xs.length) : ixM (.tuple xs) (.int (k : Int)) = pure xs[k] := by
  refine ix_at ?_
  unfold L2.atI L2.ixN
  simp [h]
theorem sl_to (xs : List D) (k : Nat) : slM (.tuple xs) none (some (k : Int)) = pure (.tuple (xs.take k)) := by
  show pure (PyData.tuple (cutL xs none (some (k : Int)))) = _
  rw [cut_to]
theorem sl_from (xs : List D) (k : Nat) : slM (.tuple xs) (some (k : Int)) none = pure (.tuple (xs.drop k)) := by
  show pure (PyData.tuple (cutL xs (some (k : Int)) none)) = _
  rw [cut_from]
theorem sl_to1 (xs : List D) (k : Nat) : slM (.tuple xs) none (some ((k : Int) + 1)) = pure (.tuple (xs.take (k + 1))) := sl_to xs (k + 1)
theorem sl_from1 (xs : List D) (k : Nat) : slM (.tuple xs) (some ((k : Int) + 1)) none = pure (.tuple (xs.drop (k + 1))) := sl_from xs (k + 1)
theorem nasI (i : Int) : asI (.int i) = pure (some i) := (Eq.refl _).trans rfl
theorem add_int1 (i : Int) : addM (.int i) (.int 1) = pure (.int (i + 1)) := (Eq.refl _).trans rfl
theorem bent_ok {u l : Nat} (h9 : 9 ≤ l) (hl30 : l ≤ 30) : ∀ (f n : Nat) (v : D), okD n l v = true → n ≤ f → Ok (Ur u) (m__law_bent f [objD u, v]) fun r => okD (n + 4) (l + 1) r = true
  | 0, 0, _, h, _ => by cases h
  | 0, n + 1, _, _, h => by omega
  | f + 1, 0, _, h, _ => by cases h
  | f + 1, n + 1, v, h, hf => by
    have hodd : ∀ d ∈ oddL, okD (n + 1 + 4) (l + 1) d = true := fun d hd => okD.mono (by omega) (by omega) (oddL_ok d hd)
    have hodd' : ∀ d ∈ oddL, okD (n + 4) (l + 1) d = true := fun d hd => okD.mono (by omega) (by omega) (oddL_ok d hd)
    unfold m__law_bent b__law_bent
    simp only [on2_two, fin, nbp, ba, isi_tuple (okD.nd h), asB_b, tup0, eq_nil h]
    refine Ok.bind (R := fun c => c = false → isTup v = true ∧ isNil v = false) ?_ fun c hc => ?_
    · cases hT : isTup v with
      | false => simp only [Bool.not_false, if_true]; exact Ok.pure fun h => by cases h
      | true =>
        simp only [Bool.not_true, Bool.false_eq_true, if_false]
        cases hN : isNil v with
        | true => simp only [if_true]; exact Ok.pure fun h => by cases h
        | false =>
          simp only [Bool.false_eq_true, if_false]
          refine Ok.bind (ball_ok (by decide) (by decide)) fun d hd => ?_
          obtain ⟨r, rfl, _⟩ := hd
          have er : nD r = .int (r : Int) := rfl
          simp only [er, eq_int, nbp, asB_b]
          exact Ok.pure fun _ => by first | exact ⟨rfl, rfl⟩ | exact ⟨trivial, rfl⟩ | exact ⟨hT, hN⟩ | simp
    · cases c with
      | true =>
        simp only [if_true]
        refine Ok.fin (Ok.lift ?_)
        refine Ok.bind (ball_ok (by decide) (by decide)) fun d hd => ?_
        obtain ⟨r, rfl, _⟩ := hd
        have er : nD r = .int (r : Int) := rfl
        simp only [er, eq_int, nbp, asB_b]
        have leafO : Ok (Ur u) (m__law_odd [objD u] >>= fun d => (pure (.ret d) : M (Out Empty))) fun o => ∃ d, o = .ret d ∧ okD (n + 1 + 4) (l + 1) d = true :=
          Ok.bind odd_ok fun d hd => Ok.pure ⟨d, rfl, hodd d hd⟩
        cases hz : decide ((r : Int) = 0) with
        | false => simp only [Bool.false_eq_true, if_false, nbp]; exact leafO
        | true =>
          simp only [if_true, isi_int (okD.nd h), nbp, asB_b]
          cases hI : isInt v with
          | false => simp only [Bool.false_eq_true, if_false]; exact leafO
          | true =>
            simp only [if_true]
            cases v with
            | int i => rw [add_int1]; exact Ok.pure ⟨_, rfl, rfl⟩
            | bool b => exact Ok.pure ⟨.int ((if b = true then 1 else 0) + 1), rfl, rfl⟩
            | _ => cases hI
      | false =>
        obtain ⟨hT, hN⟩ := hc rfl
        simp only [Bool.false_eq_true, if_false]
        cases v with
        | tuple xs =>
          obtain ⟨hl, hx⟩ := okD.tup h
          have hx : ∀ x ∈ xs, okD n l x = true := hx
          have hx' : ∀ x ∈ xs, okD (n + 4) (l + 1) x = true := fun x q => okD.mono (by omega) (by omega) (hx x q)
          have h0 : 0 < xs.length := by
            cases xs with
            | nil => cases hN
            | cons a b => exact Nat.succ_pos _
          simp only [len_tup, nbp]
          refine Ok.fin (Ok.bind (ball_ok (by omega) (by omega)) fun d hd => ?_)
          obtain ⟨k, rfl, hk⟩ := hd
          have hk : k < xs.length := by omega
          have ek : nD k = .int (k : Int) := rfl
          refine Ok.bind (ball_ok (by decide) (by decide)) fun d hd => ?_
          obtain ⟨r, rfl, _⟩ := hd
          have er : nD r = .int (r : Int) := rfl
          simp only [er, ek, on2_two, eq_int, nbp, asB_b, nasI, add_int, sl_to, sl_from, sl_to1, sl_from1]
          have lt : (xs.take k).length ≤ xs.length := by rw [List.length_take]; omega
          have lt1 : (xs.take (k + 1)).length = k + 1 := by rw [List.length_take]; omega
          have ltk : (xs.take k).length = k := by rw [List.length_take]; omega
          have ld : (xs.drop k).length = xs.length - k := List.length_drop
          have ld1 : (xs.drop (k + 1)).length = xs.length - (k + 1) := List.length_drop
          have mid : ∀ (y : D) (j : Nat), okD (n + 4) (l + 1) y = true → okD (n + 1 + 4) (l + 1) (.tuple (xs.take k ++ [y] ++ xs.drop j)) = true ∨ j < k := fun y j hy => by
            by_cases hj : j < k
            · exact .inr hj
            refine .inl (tup_okD ?_ fun x q => ?_)
            · rw [List.length_append, List.length_append, ltk, List.length_drop]; show k + 1 + _ ≤ _; omega
            · rcases List.mem_append.mp q with q | q
              · rcases List.mem_append.mp q with q | q
                · exact hx' x (List.mem_of_mem_take q)
                · rw [List.mem_singleton.mp q]; exact hy
              · exact hx' x (List.mem_of_mem_drop q)
          cases hz : decide ((r : Int) = 0) with
          | true =>
            simp only [if_true]
            rw [add_tup (by omega)]
            refine Ok.lift (Ok.pure ⟨_, rfl, tup_okD ?_ fun x q => ?_⟩)
            · rw [List.length_append]; omega
            · rcases List.mem_append.mp q with q | q
              · exact hx' x (List.mem_of_mem_take q)
              · exact hx' x (List.mem_of_mem_drop q)
          | false =>
            simp only [Bool.false_eq_true, if_false]
            cases hz : decide ((r : Int) = 1) with
            | true =>
              simp only [if_true]
              rw [add_tup (by omega)]
              refine Ok.lift (Ok.pure ⟨_, rfl, tup_okD ?_ fun x q => ?_⟩)
              · rw [List.length_append]; omega
              · rcases List.mem_append.mp q with q | q
                · exact hx' x (List.mem_of_mem_take q)
                · exact hx' x (List.mem_of_mem_drop q)
            | false =>
              simp only [Bool.false_eq_true, if_false]
              cases hz : decide ((r : Int) = 2) with
              | true =>
                simp only [if_true]
                refine Ok.lift (Ok.bind odd_ok fun d hd => ?_)
                simp only [tup1, nbp]
                rw [add_tup (by rw [ltk]; show k + 1 ≤ 5000; omega)]
                simp only [nbp]
                rw [add_tup (by rw [List.length_append, ltk]; show k + 1 + _ ≤ 5000; omega)]
                exact Ok.pure ⟨_, rfl, (mid d k (hodd' d hd)).resolve_right (by omega)⟩
              | false =>
                simp only [Bool.false_eq_true, if_false]
                cases hz : decide ((r : Int) = 3) with
                | true =>
                  simp only [if_true]
                  refine Ok.lift (Ok.pure ⟨.list xs, rfl, ?_⟩)
                  show (decide (xs.length ≤ l + 1) && xs.all (okD (n + 4) (l + 1))) = true
                  rw [decide_eq_true (by omega), List.all_eq_true.mpr hx']; rfl
                | false =>
                  simp only [Bool.false_eq_true, if_false, ix_nat hk, nbp]
                  have hin := hx _ (List.getElem_mem hk)
                  refine Ok.bind (bent_ok h9 hl30 f n _ hin (by omega)) fun d hd => ?_
                  simp only [tup1, nbp]
                  rw [add_tup (by rw [ltk]; show k + 1 ≤ 5000; omega)]
                  simp only [nbp]
                  rw [add_tup (by rw [List.length_append, ltk]; show k + 1 + _ ≤ 5000; omega)]
                  exact Ok.pure ⟨_, rfl, (mid d (k + 1) hd).resolve_right (by omega)⟩
        | _ => cases hT
end Pf
set_option Elab.async false
set_option linter.all false
set_option maxRecDepth 100000
set_option maxHeartbeats 1000000
namespace Pf
open PySem PySem.Spec PyProof.Rows L2
theorem papP : ∀ p : Pap', Pap p.d
  | .no => .non
  | .due n => .form n
  | .has a u => .had a u
theorem papsP {ps : List Pap'} : ∀ x ∈ ps.map Pap'.d, Pap x := fun x hx => by
  obtain ⟨p, _, rfl⟩ := List.mem_map.mp hx; exact papP p
def atD (xs : List D) (d : D) : D := match d with
  | .int i => xs.getD i.toNat .none
  | _ => .none
theorem good_ix : ∀ {xs ys : List D}, xs.length = ys.length → ((List.range xs.length).all fun i => goodD (xs.getD i .none) (ys.getD i .none)) = (zipD xs ys).all goodP
  | [], [], _ => rfl
  | x :: xs, y :: ys, h => by
    rw [List.length_cons, List.range_succ_eq_map, List.all_cons, List.all_map]
    have ih := good_ix (xs := xs) (ys := ys) (by simpa using h)
    show (goodD x y && (List.range xs.length).all fun i => goodD ((x :: xs).getD (i + 1) .none) ((y :: ys).getD (i + 1) .none)) = (goodP (.tuple [x, y]) && (zipD xs ys).all goodP)
    rw [← ih]; rfl
theorem getD_of {xs : List D} {k : Nat} (h : k < xs.length) : xs.getD k .none = xs[k] := by
  rw [List.getD_eq_getElem?_getD, List.getElem?_eq_getElem h]; rfl
def covB (s t : Stand) : Bool := decide ((s.1 : Int) = (t.1 : Int)) && (zipD (s.2.map Pap'.d) (t.2.map Pap'.d)).all goodP
theorem covers_it_t {s t : Stand} (hl : s.2.length ≤ 20) : m_covers_it [standD s, standD t] = pure (.bool (covB s t)) :=
  covers_it_spec papsP papsP (by rw [List.length_map]; exact hl)
theorem law_covers_t {s t : Stand} (hl : s.2.length ≤ 20) (e : s.2.length = t.2.length) : m__law_covers [standD s, standD t] = pure (.bool (covB s t)) := by
  unfold m__law_covers b__law_covers standD papsD nD
  simp only [on2_two, fin, nbp, ba, w0, w1, ne_int, asB_b, len_tup]
  unfold covB
  cases decide ((s.1 : Int) = (t.1 : Int)) with
  | false => rfl
  | true =>
    simp only [Bool.not_true, Bool.false_eq_true, if_false, ba, Bool.true_and]
    generalize hx : s.2.map Pap'.d = xs
    generalize hy : t.2.map Pap'.d = ys
    have hxl : xs.length = s.2.length := by rw [← hx, List.length_map]
    have hyl : ys.length = s.2.length := by rw [← hy, List.length_map, e]
    have px : ∀ x ∈ xs, Pap x := by rw [← hx]; exact papsP
    have py : ∀ x ∈ ys, Pap x := by rw [← hy]; exact papsP
    rw [range_ok (n := xs.length) (by omega)]
    simp only [nbp]
    rw [lc_gen (t := fun d => !goodD (atD xs d) (atD ys d)) (e := id) fun d hd => ?_]
    · simp only [nbp, finK_ret, M.bind_pure]
      rw [none_left (n := 1) (l := 1) (f := fun d => goodD (atD xs d) (atD ys d)) (xs := rangeD 0 xs.length) (fun x hx => ?_) (by rw [rangeD_len]; omega)]
      · rw [rangeD_nD, List.all_map, ← good_ix (hxl.trans hyl.symm)]
        rfl
      · rw [rangeD_nD] at hx
        obtain ⟨i, _, rfl⟩ := List.mem_map.mp hx; rfl
    · rw [rangeD_nD] at hd
      obtain ⟨i, hi, rfl⟩ := List.mem_map.mp hd
      have hi := List.mem_range.mp hi
      have h1 : ixM (.tuple xs) (nD i) = pure xs[i] := ix_nat hi
      have h2 : ixM (.tuple ys) (nD i) = pure (ys[i]'(by omega)) := ix_nat (by omega)
      have h3 : atD xs (nD i) = xs[i] := by show xs.getD i .none = _; exact getD_of hi
      have h4 : atD ys (nD i) = ys[i]'(by omega) := by show ys.getD i .none = _; exact getD_of (by omega)
      refine ⟨[nD i], rfl, ?_, fun _ => rfl⟩
      simp only [on1_one, nbp, ba, h1, h2, law_good_spec (px _ (List.getElem_mem hi)) (py _ (List.getElem_mem _)), asB_b, h3, h4]
theorem covB_refl {s : Stand} : covB s s = true := by
  have go : ∀ ps : List Pap', (zipD (ps.map Pap'.d) (ps.map Pap'.d)).all goodP = true := by
    intro ps
    induction ps with
    | nil => rfl
    | cons p r ih =>
      show (goodP (.tuple [p.d, p.d]) && (zipD (r.map Pap'.d) (r.map Pap'.d)).all goodP) = true
      rw [ih]
      cases p with
      | no => rfl
      | due n => show (decide (n = n) && true) = true; rw [decide_eq_true rfl]; rfl
      | has a u => show ((decide (a ≤ a) && decide (u ≤ u)) && true) = true; rw [decide_eq_true (Int.le_refl a), decide_eq_true (Int.le_refl u)]; rfl
  unfold covB
  rw [decide_eq_true rfl, go]; rfl
section
variable {t : Town} (ht : t.Ok)
include ht
theorem covers_t {s s' : Stand} (hs : stOk t s) (hs' : stOk t s') : m_covers [t.d, standD s, standD s'] = pure (.bool (covB s s')) := by
  have hl := hs.2.len
  have h3 := ht.k.1
  have e1 : m_need_town [t.d] = pure .none := by rw [need_town_spec (town_okD ht) (by decide), if_pos (town_is ht)]
  have e2 : m_need_stand [t.d, standD s] = pure .none := by
    show m_need_stand [townD t.week t.kinds (t.desks.map Desk.d), standD s] = _
    rw [need_stand_spec (stand_okD ht hs) (by decide), if_pos (stand_is hs)]
  have e3 : m_need_stand [t.d, standD s'] = pure .none := by
    show m_need_stand [townD t.week t.kinds (t.desks.map Desk.d), standD s'] = _
    rw [need_stand_spec (stand_okD ht hs') (by decide), if_pos (stand_is hs')]
  unfold m_covers b_covers
  simp only [on3_three, fin, nbp, ba, e1, e2, e3, covers_it_t (show s.2.length ≤ 20 by omega), finK_ret]
end
theorem catch_town : catchS subT hknown [("InvalidTown", "town"), ("InvalidStand", "stand"), ("PaperError", "else")] "none" (M.err ⟨"InvalidTown", none⟩) = pure (.str "town") := by kernel_rfl
theorem catch_stand : catchS subT hknown [("InvalidTown", "town"), ("InvalidStand", "stand"), ("PaperError", "else")] "none" (M.err ⟨"InvalidStand", none⟩) = pure (.str "stand") := by kernel_rfl
theorem ne_town : neM (.str "town") (.str "town") = pure (.bool false) := by kernel_rfl
theorem eq_stand : eqM (.str "stand") (.str "stand") = pure (.bool true) := by kernel_rfl
end Pf
set_option Elab.async false
set_option linter.all false
set_option maxRecDepth 100000
set_option maxHeartbeats 1000000
namespace Pf
open PySem PySem.Spec PyProof.Rows L2
theorem stand0_eq (n : Nat) (h : 1 ≤ n ∧ n ≤ 3) : mulM (.tuple [.tuple []]) (.int (n : Int)) = pure (papsD (List.replicate n .no)) := by
  have h3 : n = 1 ∨ n = 2 ∨ n = 3 := by omega
  rcases h3 with rfl | rfl | rfl <;> kernel_rfl
theorem papsOk_no : ∀ ks : List (Int × Int), papsOk ks (List.replicate ks.length .no)
  | [] => trivial
  | k :: ks => ⟨trivial, papsOk_no ks⟩
theorem bools_kept (a b : Bool) : (lcM (.nm 4) (on1 fun one_2 => (do let x ← (do let x ← (do let x ← (pure one_2); isiM "bool" x); asB x); pure (!x))) (on1 fun one_2 => (pure one_2)) [.bool a, .bool b]) = pure [] := by
  cases a <;> cases b <;> kernel_rfl
theorem nil_ne : (lstM [] >>= fun x => lstM [] >>= fun y => neM x y) = pure (.bool false) := by kernel_rfl
theorem ne_bools (a b : Bool) : neM (.list [.bool a, .bool b]) (.list [.bool a, .bool b]) = pure (.bool false) := by
  cases a <;> cases b <;> kernel_rfl
theorem lst_two (x y : D) : lstM [x, y] = pure (.list [x, y]) := lst_short (by show 2 ≤ 5000; decide)
theorem lix0 (x y : D) : ixM (.list [x, y]) (.int 0) = pure x := (Eq.refl _).trans rfl
theorem lix1 (x y : D) : ixM (.list [x, y]) (.int 1) = pure y := (Eq.refl _).trans rfl
theorem lst_nil : lstM [] = pure (.list []) := lst_short (Nat.zero_le _)
theorem nil_neM : neM (.list []) (.list []) = pure (.bool false) := by kernel_rfl
theorem right_t {t : Town} (ht : t.Ok) {v : D} {n l : Nat} (h : okD n l v = true) (hn : 6 ≤ n) (hl : l ≤ 20) (hl2 : 10 ≤ l) : m__law_right [t.d, v] = pure (.bool true) := by
  have hT := okD.mono (m := n) (k := l) (by omega) (by omega) (town_okD ht)
  have i1 := town_is ht
  have e0 : t.d = townD t.week t.kinds (t.desks.map Desk.d) := rfl
  have e1 : m_is_stand [t.d, v] = pure (.bool (isStand t.week t.kinds v)) := is_stand_spec hT i1 h hl
  have e2 : m__law_is_stand [t.d, v] = pure (.bool (isStand t.week t.kinds v)) := law_is_stand_spec h (by omega)
  have s0 : stOk t (0, List.replicate t.kinds.length .no) := ⟨by have := ht.w; omega, papsOk_no _⟩
  have z1 : ixM t.d (.int 1) = pure (.tuple (kindsD t.kinds)) := nz1 _ _ _
  unfold m__law_right b__law_right
  simp only [on2_two, fin, nbp, ba, is_town_spec h hl, law_is_town_spec h hl, e1, e2, lst_two, items_lst]
  rw [show lcM (.nm 4) (on1 fun one_2 => isiM "bool" one_2 >>= fun x => asB x >>= fun x => pure (!x)) (on1 fun one_2 => pure one_2) [.bool (isTown v), .bool (isStand t.week t.kinds v)] = pure [] from bools_kept _ _]
  simp only [nbp, lst_nil, nil_neM, asB_b, Bool.false_eq_true, if_false, ba, ne_bools, lix0, lix1, z1, len_tup, kindsD_len]
  have tail : ∀ c : Bool, (c = isStand t.week t.kinds v) → ((tupM [] >>= fun a => tupM [a] >>= fun a => mulM a (.int (t.kinds.length : Int)) >>= fun a => tupM [.int 0, a] >>= fun stand_3 => (if c = true then pure (.bool true) else catchS subT hknown [("InvalidTown", "town"), ("InvalidStand", "stand"), ("PaperError", "else")] "none" (m_covers [t.d, stand_3, v]) >>= fun x => eqM x (.str "stand")) >>= fun d => (pure (.ret d) : M (Out Unit)) >>= finK) : M D) = pure (.bool true) := fun c hc => by
    simp only [tup0, tup1, tup2, nbp]
    rw [stand0_eq _ ⟨ht.k0, ht.k.1⟩]
    simp only [nbp, tup2]
    cases c with
    | true => rfl
    | false =>
      have e4 : m_covers [t.d, .tuple [.int 0, papsD (List.replicate t.kinds.length .no)], v] = M.err ⟨"InvalidStand", none⟩ :=
        covers_bad hT i1 (u := standD (0, List.replicate t.kinds.length .no)) (okD.mono (by omega) (by omega) (stand_okD ht s0)) (stand_is s0) h hl hc.symm
      simp only [Bool.false_eq_true, if_false, e4, catch_stand, nbp, eq_stand, finK_ret]
  cases hv : isTown v with
  | true =>
    simp only [Bool.not_true, Bool.false_eq_true, if_false, nbp, ba]
    exact tail _ rfl
  | false =>
    simp only [Bool.not_false, if_true, count_bad h hl hv, catch_town, nbp, ne_town, asB_b, Bool.false_eq_true, if_false, ba]
    exact tail _ rfl
/-! ### the law -/
theorem Ok.tt {α : Type} {m : M α} {Q : α → Prop} {n : Nat} (h : Ok (Ur n) m Q) {ms : Ms} (u : Ur n ms) : ∃ a ms', m ms = .ok a ms' ∧ Q a := by
  obtain ⟨a, ms', e, _, q⟩ := h ms u; exact ⟨a, ms', e, q⟩
abbrev TT : Ms → Prop := fun _ => True
theorem urn_bind {β : Type} {f : D → M β} {Q : β → Prop} {c s : Int} (hs : 0 ≤ s) (hs2 : s < 100000) (h : ∀ n, Ok (Ur n) (f (objD n)) Q) : Ok TT (m__law_urn [.int c, .int s] >>= f) Q := fun ms _ => by
  obtain ⟨ms1, e1, u1⟩ := urn_ok (c := c) hs hs2 ms
  obtain ⟨a, ms2, e2, q⟩ := (h ms.length).tt u1
  refine ⟨a, ms2, ?_, trivial, q⟩
  rw [bok e1]; exact e2
def vQ (i : Nat) (t : D) : Prop := okD (6 + 4 * i) (10 + i) t = true
theorem f1_ok {n : Nat} {t : Town} (ht : t.Ok) {i : Nat} {d : D} {v : D} (hi : i < 3) (h : vQ i v) : Ok (Ur n) (f_law_1 (objD n) t.d [d] v) fun o => ∃ v', o = .nxt v' ∧ vQ (i + 1) v' := by
  unfold f_law_1
  simp only [on1_one, nbp, ba, right_t ht h (by omega) (by omega) (by omega), asB_b, Bool.not_true, Bool.false_eq_true, if_false]
  refine Ok.bind (bent_ok (by omega) (by omega) RF _ v h (by show _ ≤ 40; omega)) fun r hr => Ok.pure ⟨r, rfl, ?_⟩
  show okD (6 + 4 * (i + 1)) (10 + (i + 1)) r = true
  rwa [show 6 + 4 * (i + 1) = 6 + 4 * i + 4 by omega, show 10 + (i + 1) = 10 + i + 1 by omega]
theorem f2_ok {n : Nat} {t : Town} (ht : t.Ok) {d : D} : Ok (Ur n) (f_law_2 (objD n) t.d [d] ()) fun o => o = .nxt () := by
  unfold f_law_2
  simp only [on1_one, nbp, ba, opt_nm]
  refine Ok.bind (stand_ok ht) fun s hs => ?_
  obtain ⟨s, rfl, hs⟩ := hs
  rw [lst_short (by show 3 ≤ 5000; decide)]
  simp only [nbp]
  refine Ok.bind (R := vQ 0) ((any_ok (by simp) (by show 3 ≤ 5000; decide)).imp fun v hv => ?_) fun v hv => ?_
  · simp only [List.mem_cons, List.not_mem_nil, or_false] at hv
    rcases hv with rfl | rfl | rfl
    · exact town_okD ht
    · exact town_okD ht
    · exact okD.mono (by decide) (by decide) (stand_okD ht hs)
  · rw [range_int (i := 3) (n := 3) rfl (by decide)]
    simp only [nbp]
    refine Ok.join (R := vQ 3) (Ok.forN vQ (fun i v hi h => f1_ok ht hi h) hv) fun v _ => Ok.pure rfl
theorem f3_ok {n : Nat} {t : Town} (ht : t.Ok) {d : D} : Ok (Ur n) (f_law_3 (objD n) t.d [d] ()) fun o => o = .nxt () := by
  unfold f_law_3
  simp only [on1_one, nbp, ba]
  refine Ok.bind (stand_ok ht) fun s hs => ?_
  obtain ⟨s, rfl, hs⟩ := hs
  refine Ok.bind (stand_ok ht) fun s' hs' => ?_
  obtain ⟨s', rfl, hs'⟩ := hs'
  have a0 : ∀ s : Stand, ixM (standD s) (.int 0) = pure (nD s.1) := fun s => w0 _ _
  have a1 : ∀ s : Stand, ixM (standD s) (.int 1) = pure (papsD s.2) := fun s => w1 _ _
  simp only [on2_two, a0, a1, nbp, ba, lst_two]
  refine Ok.bind (R := fun d => ∃ i : Nat, d = nD i ∧ i < t.week) ((any_ok (by simp) (by show 2 ≤ 5000; decide)).imp fun v hv => ?_) fun v hv => ?_
  · simp only [List.mem_cons, List.not_mem_nil, or_false] at hv
    rcases hv with rfl | rfl
    · exact ⟨_, rfl, hs.1⟩
    · exact ⟨_, rfl, hs'.1⟩
  · obtain ⟨i, rfl, hi⟩ := hv
    have hs2 : stOk t (i, s'.2) := ⟨hi, hs'.2⟩
    have hk := ht.k.1
    have l1 := hs.2.len
    have l2 := hs'.2.len
    have es : PyData.tuple [nD i, papsD s'.2] = standD (i, s'.2) := rfl
    have c1 : m_covers [t.d, standD s, standD (i, s'.2)] = pure (.bool (covB s (i, s'.2))) := covers_t ht hs hs2
    have l3 : s.2.length = (((i, s'.2) : Stand)).2.length := l1.trans l2.symm
    have c2 : m__law_covers [standD s, standD (i, s'.2)] = pure (.bool (covB s (i, s'.2))) := law_covers_t (by omega) l3
    have c3 : m_covers [t.d, standD s, standD s] = pure (.bool true) := by rw [covers_t ht hs hs, covB_refl]
    have c4 : ∀ b : Bool, neM (.bool b) (.bool b) = pure (.bool false) := fun b => by cases b <;> kernel_rfl
    simp only [tup2, nbp, es, c1, c2, c3, c4, asB_b, Bool.false_eq_true, if_false, Bool.not_true]
    exact Ok.pure rfl
theorem loop_unit {P : Ms → Prop} {f : D → Unit → M (Out Unit)} : ∀ {xs : List D}, (∀ d ∈ xs, Ok P (f d ()) fun o => o = .nxt ()) → Ok P (Pf.forM f xs ()) fun o => o = .nxt ()
  | [], _ => Ok.pure rfl
  | d :: r, h => by
    unfold Pf.forM
    refine Ok.bind (h d List.mem_cons_self) fun o ho => ?_
    subst ho
    exact loop_unit fun x hx => h x (List.mem_cons_of_mem _ hx)
theorem join_unit {P : Ms → Prop} {τ : Type} {m : M (Out Unit)} {k : Unit → M (Out τ)} {Q : Out τ → Prop} (h : Ok P m fun o => o = .nxt ()) (hk : Ok P (k ()) Q) : Ok P (joinO m k) Q :=
  Ok.join (R := fun _ => True) (h.imp fun o e => ⟨(), e, trivial⟩) fun t _ => hk
theorem f4_ok {c : Int} : Ok TT (f_law_4 [.int c] ()) fun o => o = .nxt () := by
  unfold f_law_4
  simp only [on1_one, nbp, ba, opt_nm]
  refine urn_bind (by decide) (by decide) fun n => ?_
  refine Ok.bind (town_ok (by decide) (by decide)) fun d hd => ?_
  obtain ⟨t, rfl, ht, _, _⟩ := hd
  have i1 := town_is ht
  have hT := town_okD ht
  have a1 : m_is_town [t.d] = pure (.bool true) := by rw [is_town_spec hT (by decide), i1]
  have hw := ht.w
  have a2 : m_count_stands [t.d] = pure (.int ((t.week * lens t.kinds : Nat) : Int)) := count_spec (by omega) ht.k hT (by decide) i1
  obtain ⟨zs, a3, a4⟩ := law_all_spec (w := t.week) (ks := t.kinds) (ds := t.desks.map Desk.d) (by omega) ht.k
  have a3 : m__law_all [t.d] = pure (.list zs) := a3
  have c4 : ∀ i : Int, neM (.int i) (.int i) = pure (.bool false) := fun i => by rw [ne_int, decide_eq_true rfl]; rfl
  simp only [a1, a2, a3, nbp, ba, asB_b, Bool.not_true, Bool.false_eq_true, if_false, len_lst, a4, c4]
  rw [range_int (i := 10) (n := 10) rfl (by decide)]
  simp only [nbp]
  refine join_unit (loop_unit fun d _ => f2_ok ht) ?_
  refine Ok.bind odd_ok fun d hd => ?_
  have hd' := okD.mono (m := 6) (k := 10) (by decide) (by decide) (oddL_ok d hd)
  simp only [right_t ht hd' (by decide) (by decide) (by decide), nbp, asB_b, Bool.not_true, Bool.false_eq_true, if_false]
  rw [range_int (i := 20) (n := 20) rfl (by decide)]
  simp only [nbp]
  exact join_unit (loop_unit fun d _ => f3_ok ht) (Ok.pure rfl)
end Pf
set_option Elab.async false
set_option linter.all false
set_option maxRecDepth 100000
set_option maxHeartbeats 4000000
namespace Pf
open PySem PySem.Spec PyProof.Rows L2
theorem intsL_ok (ns : List Int) (h : ns.length ≤ 63) : (lstM [.int 0] >>= fun x => addM x (.list (ns.map .int))) = pure (.list ((0 :: ns).map .int)) := by
  rw [lst_short (by decide)]
  simp only [nbp]
  rw [add_lst (by rw [List.length_map]; show 1 + _ ≤ 5000; omega)]
  rfl
theorem law_true (ns : List Int) (hn : ns.length ≤ 63) {B : Prop} (_ : B) : ∃ ms', m_law [.list (ns.map .int)] [] = .ok (.bool true) ms' := by
  have key : Ok TT (m_law [.list (ns.map .int)]) fun d => d = .bool true := by
    unfold m_law b_law
    simp only [on1_one, fin, nbp, nasI, opt_nm]
    have e1 := intsL_ok ns hn
    have e2 : slM (.list ((0 :: ns).map .int)) none (some 10) = pure (.list (((0 :: ns).map PyData.int).take 10)) := by
      show pure (PyData.list (cutL _ none (some ((10 : Nat) : Int)))) = _
      rw [cut_to]
    have e3 : ∀ {β : Type} (f : D → M β), ((do let xs ← lstM [.int 0]; let x ← addM xs (.list (ns.map .int)); f x) : M β) = f (.list ((0 :: ns).map .int)) := fun f => by
      have := congrArg (fun m => m >>= f) e1
      simp only [nbp, ba] at this
      exact this
    simp only [ba, e3, e2, nbp, items_lst]
    refine Ok.fin (join_unit (loop_unit fun d hd => ?_) ?_)
    · obtain ⟨i, _, rfl⟩ := List.mem_map.mp (List.mem_of_mem_take hd)
      exact f4_ok
    · refine Ok.eq (Ok.pure (a := Out.ret (PyData.bool true)) ⟨_, rfl, rfl⟩) ?_
      kernel_rfl
  obtain ⟨d, ms', e, _, rfl⟩ := key [] trivial
  exact ⟨ms', e⟩
end Pf
set_option Elab.async false
set_option linter.all false
set_option maxRecDepth 100000
set_option maxHeartbeats 0
namespace Pf
open PySem PySem.Spec PyProof.Rows L2
abbrev hR : PySem.W.OpenRow := PySem.W.OpenLaw.row PySem.Challenge.rw_needpapers_k01_towns_and_stands_known
abbrev hkk : PySem.W.Hook := He.hookX 4 hfa hfn [] htf hex
def hob (s : PySem.W.SharedT) : He.AlX := He.obsX 4 hfa hfn [] htf hex (HandSHeadRun.getT s)
theorem hob_eq (s : PySem.W.SharedT) : hob s = hkk.obs s.abs := He.obsX_eq (HandSHeadRun.getT_eq s)
def hloose_0 : List Str := ["is_number", "is_rising", "is_shown", "is_desk", "is_kind", "is_town", "is_paper", "is_stand_of"]
def hloose_1 : List Str := ["need_town", "need_stand", "as_good", "covers_it", "papers_of", "stands_of", "is_stand", "covers"]
def hloose_2 : List Str := ["count_stands", "_law_urn", "_law_ball", "_law_any", "_law_desk", "_law_town", "_law_had", "_law_stand"]
def hloose_3 : List Str := ["_law_all", "_law_int", "_law_rising", "_law_is_desk", "_law_is_town", "_law_is_stand", "_law_odd", "_law_bent"]
def hloose_4 : List Str := ["_law_good_as", "_law_covers", "_law_error", "_law_right", "PaperError", "InvalidTown", "InvalidStand", "MOST_KINDS"]
def hloose_5 : List Str := ["MOST_DESKS"]
def hloose : List Str := hloose_0 ++ hloose_1 ++ hloose_2 ++ hloose_3 ++ hloose_4 ++ hloose_5
theorem hrun (w : World) : HandSHeadRun.RunEq hR (PySem.W.view hR.prog [44]) hkk hob 6000 hloose w := by
  intro os
  kernel_rfl
end Pf
open PySem PySem.W PySem.Calls PyProof.Rows
theorem PySem.Challenge.cw_needpapers_k01_towns_and_stands_known_holds : PySem.Challenge.rw_needpapers_k01_towns_and_stands_known.Holds := by
  w_on; o_law
  refine HandSHeadRun.head_any (r := OpenLaw.row PySem.Challenge.rw_needpapers_k01_towns_and_stands_known) (q := view (OpenLaw.row PySem.Challenge.rw_needpapers_k01_towns_and_stands_known).prog [44]) (H := Pf.hkk) (ob := Pf.hob) (M := 6000) (loose := Pf.hloose) (d := HandSHeadRun.topDef (OpenLaw.row PySem.Challenge.rw_needpapers_k01_towns_and_stands_known).prog 44) (kwd := []) Pf.hob_eq
    (by kernel_rfl) (fun s => by kernel_rfl) Pf.hrun (by kernel_rfl) (by kernel_rfl) (by kernel_rfl) (by rfl) (by first | assumption | decide +kernel) (by decide +kernel) ⟨rfl, rfl, rfl, rfl, rfl, by decide +kernel⟩ ?hw ?hc
  case hw => w_witness2
  case hc =>
    refine LamX.walk_ofTsE (l := PySem.Challenge.rw_needpapers_k01_towns_and_stands_known) (n := 63) (k := 45) (x := "script") (CX := fun w => L2.CX (PySem.Challenge.rw_needpapers_k01_towns_and_stands_known).prog w) rfl (by decide) (by kernel_rfl) ⟨rfl, by decide, by decide⟩ ?F (fun _ _ _ _ _ ⟨_, _, _, _, _, _, _, _, _, _, _, _, z⟩ => z)
    intro w mg fa h Y G hmg0
    obtain ⟨K, KX, c⟩ := Y
    have hmg : mg ("law" : PySem.Str) = some (.ref fa) := by
      have e : (HandSHeadRun.topDef (OpenLaw.row PySem.Challenge.rw_needpapers_k01_towns_and_stands_known).prog 44).name = ("law" : PySem.Str) := by kernel_rfl
      rw [← e]
      exact hmg0
    obtain ⟨t⟩ := Pf.mk_tx KX G c
    have ea := hmg.symm.trans t.g_law
    cases ea
    have nl := (Bool.and_eq_true_iff.mp c.more).2
    refine ⟨K, KX, t.d_law, Pf.htf.map (He.cT K), _, ?_, ?_, ?_, t.bl, fun H a ns hn hb hT hS => Pf.law_sp (g := Pf.m_law) nl (Pf.law_true ns hn hb) hT hS, fun base hK hG hT => Pf.ok_law t (Pf.tab_of hT)⟩
    · intro p hp
      obtain ⟨q, hq, rfl⟩ := List.mem_map.mp hp
      exact c.empty q hq
    · intro p hp
      obtain ⟨q, hq, rfl⟩ := List.mem_map.mp hp
      exact c.out q hq
    · intro p hp
      obtain ⟨q, hq, rfl⟩ := List.mem_map.mp hp
      exact PySem.W.codeHd_of_K KX (c.hd q hq)
