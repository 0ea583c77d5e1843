import PyProof.Rows.All
import Wide.All
import OpenK.AllK
import Wide.FinOn
import HandS.ForExc
import HandS.Comp
import HandS.Iter
import HandS.Text
import HandS.Zip
import HandS.IsInst
import HandS.DictComp
import KE.GoesMore
import HandS.HeadHook1
import HandS.Head0
import HandS.Head1
import HandS.Head2
import HandS.HeadEnd
import HandS.SetFor
import HandS.RaiseMore
import HandS.TupAny
import HandS.HeadHook3
import HandS.Rev
import HandS.RevTup
import PyProof.ListStr
import PyProof.ListNew
import PyProof.SeqWrite
import PyProof.ListRange
import HandS.HotCalls
import HandS.ExcIs
import HandS.Deep
import PySem.Challenge.RW_tillbasket_k03_offers_and_deals
set_option Elab.async false
set_option linter.all false
set_option maxRecDepth 100000
set_option maxHeartbeats 4000000
/-! Values without a heap: what a pure body computes, its slots, its lists of its own. -/
namespace TB
open PySem PySem.Spec PyProof.Rows L2

inductive D where
  | non | bl (b : Bool) | int (i : Int) | str (x : Str)
  | lst (ds : List D) | tup (ds : List D)
  | shop (ns ps : List D)
  | scr (ns : List Int)
  /-- the caught exception at an address, of the class of that name; an empty dict -/
  | exn (a : Addr) (c : Str) | dic

/-- an outcome: a value, a refusal by its class, or nothing known -/
inductive R (α : Type) where
  | ok (a : α) | exc (c : Str) | bad
namespace R
def bind {α β : Type} (x : R α) (f : α → R β) : R β := match x with
  | ok a => f a
  | exc c => exc c
  | bad => bad
def map {α β : Type} (f : α → β) (x : R α) : R β := match x with
  | ok a => ok (f a)
  | exc c => exc c
  | bad => bad
@[simp] theorem bind_ok {α β : Type} (a : α) (f : α → R β) : (ok a).bind f = f a := (rfl)
@[simp] theorem bind_exc {α β : Type} (c : Str) (f : α → R β) : (exc c : R α).bind f = exc c := (rfl)
@[simp] theorem bind_bad {α β : Type} (f : α → R β) : (bad : R α).bind f = bad := (rfl)
@[simp] theorem map_ok {α β : Type} (a : α) (f : α → β) : (ok a).map f = ok (f a) := (rfl)
@[simp] theorem map_exc {α β : Type} (c : Str) (f : α → β) : (exc c : R α).map f = exc c := (rfl)
@[simp] theorem map_bad {α β : Type} (f : α → β) : (bad : R α).map f = bad := (rfl)
end R

/-- all of H stands in H' -/
abbrev Sm (H H' : Hp) : Prop := ∀ b o, H b = some o → H' b = some o
theorem Sm.rfl {H : Hp} : Sm H H := fun _ _ e => e
theorem Sm.tr {H H' H'' : Hp} (a : Sm H H') (b : Sm H' H'') : Sm H H'' := fun x o e => b x o (a x o e)
theorem Sm.upd {H : Hp} {p : Addr} {o : HO} (n : H p = none) : Sm H (L2.upd H p o) := fun b x e => by
  rw [upd_ne (ne_of_none e n)]; exact e

mutual
/-- the value v stands for the datum d in the heap H; C is the class of shops -/
def Rep (C : Addr) (H : Hp) : D → V → Prop
  | .non, v => v = .non
  | .bl b, v => v = .bl b
  | .int i, v => v = .int i
  | .str x, v => v = .str x
  | .lst ds, v => ∃ a xs, v = .ref a ∧ H a = some (.lst xs) ∧ Reps C H ds xs
  | .tup ds, v => ∃ a xs, v = .ref a ∧ H a = some (.tup xs) ∧ Reps C H ds xs
  | .shop ns ps, v => ∃ a dx fs an ap xs ys, v = .ref a ∧ H a = some (.ins C dx fs) ∧ fs.lookup ("names" : Str) = some (.ref an) ∧ fs.lookup ("prices" : Str) = some (.ref ap) ∧ fs.lookup ("place" : Str) = none ∧
      H an = some (.lst xs) ∧ Reps C H ns xs ∧ H ap = some (.lst ys) ∧ Reps C H ps ys
  | .scr ns, v => ∃ a o, v = .ref a ∧ H a = some (.frz o (.lst (ns.map V.int)))
  | .exn a _, v => v = .ref a
  | .dic, v => ∃ a, v = .ref a ∧ H a = some (.dK [])
def Reps (C : Addr) (H : Hp) : List D → List V → Prop
  | [], vs => vs = []
  | d :: ds, vs => ∃ v r, vs = v :: r ∧ Rep C H d v ∧ Reps C H ds r
end
mutual
theorem Rep.mono {C : Addr} {H H' : Hp} (s : Sm H H') : ∀ (d : D) (v : V), Rep C H d v → Rep C H' d v
  | .non, v, h => h
  | .bl b, v, h => h
  | .int i, v, h => h
  | .str x, v, h => h
  | .lst ds, v, h => by
    simp only [Rep] at h ⊢
    obtain ⟨a, xs, e, q, r⟩ := h
    exact ⟨a, xs, e, s _ _ q, Reps.mono s ds xs r⟩
  | .tup ds, v, h => by
    simp only [Rep] at h ⊢
    obtain ⟨a, xs, e, q, r⟩ := h
    exact ⟨a, xs, e, s _ _ q, Reps.mono s ds xs r⟩
  | .shop ns ps, v, h => by
    simp only [Rep] at h ⊢
    obtain ⟨a, dx, fs, an, ap, xs, ys, e, q, f1, f2, f3, q1, r1, q2, r2⟩ := h
    exact ⟨a, dx, fs, an, ap, xs, ys, e, s _ _ q, f1, f2, f3, s _ _ q1, Reps.mono s ns xs r1, s _ _ q2, Reps.mono s ps ys r2⟩
  | .scr ns, v, h => by
    simp only [Rep] at h ⊢
    obtain ⟨a, o, e, q⟩ := h
    exact ⟨a, o, e, s _ _ q⟩
  | .exn a c, v, h => by
    simp only [Rep] at h ⊢
    exact h
  | .dic, v, h => by
    simp only [Rep] at h ⊢
    obtain ⟨a, e, q⟩ := h
    exact ⟨a, e, s _ _ q⟩
theorem Reps.mono {C : Addr} {H H' : Hp} (s : Sm H H') : ∀ (ds : List D) (vs : List V), Reps C H ds vs → Reps C H' ds vs
  | [], vs, h => h
  | d :: ds, vs, h => by
    simp only [Reps] at h ⊢
    obtain ⟨v, r, e, q, t⟩ := h
    exact ⟨v, r, e, Rep.mono s d v q, Reps.mono s ds r t⟩
end
theorem Reps.len {C : Addr} {H : Hp} : ∀ {ds : List D} {vs : List V}, Reps C H ds vs → vs.length = ds.length
  | [], _, h => by simp only [Reps] at h; subst h; rfl
  | d :: ds, _, h => by
    simp only [Reps] at h
    obtain ⟨v, r, e, _, t⟩ := h
    subst e
    simp [Reps.len t]
theorem Reps.get {C : Addr} {H : Hp} : ∀ {ds : List D} {vs : List V} {i : Nat} {d : D}, Reps C H ds vs → ds[i]? = some d → ∃ v, vs[i]? = some v ∧ Rep C H d v
  | [], _, _, _, _, e => by simp at e
  | x :: ds, _, 0, d, h, e => by
    simp only [Reps] at h
    obtain ⟨v, r, e1, q, t⟩ := h
    subst e1
    simp at e
    subst e
    exact ⟨v, rfl, q⟩
  | x :: ds, _, i + 1, d, h, e => by
    simp only [Reps] at h
    obtain ⟨v, r, e1, q, t⟩ := h
    subst e1
    obtain ⟨u, h1, h2⟩ := Reps.get (i := i) t (by simpa using e)
    exact ⟨u, by simpa using h1, h2⟩
theorem Reps.app {C : Addr} {H : Hp} : ∀ {ds es : List D} {vs us : List V}, Reps C H ds vs → Reps C H es us → Reps C H (ds ++ es) (vs ++ us)
  | [], _, _, _, h, k => by simp only [Reps] at h; subst h; exact k
  | x :: ds, _, _, _, h, k => by
    simp only [Reps] at h
    obtain ⟨v, r, e1, q, t⟩ := h
    subst e1
    simp only [List.cons_append, Reps]
    exact ⟨v, _, rfl, q, Reps.app t k⟩
theorem Reps.one {C : Addr} {H : Hp} {d : D} {v : V} (h : Rep C H d v) : Reps C H [d] [v] := by
  simp only [Reps]
  exact ⟨v, [], rfl, h, rfl⟩
theorem Reps.take {C : Addr} {H : Hp} : ∀ {ds : List D} {vs : List V} (n : Nat), Reps C H ds vs → Reps C H (ds.take n) (vs.take n)
  | _, _, 0, _ => by simp only [List.take_zero, Reps]
  | [], _, _ + 1, h => by simp only [Reps] at h; subst h; simp only [List.take_nil, Reps]
  | x :: ds, _, n + 1, h => by
    simp only [Reps] at h
    obtain ⟨v, r, e1, q, t⟩ := h
    subst e1
    simp only [List.take_succ_cons, Reps]
    exact ⟨v, _, rfl, q, Reps.take n t⟩
theorem Reps.drop {C : Addr} {H : Hp} : ∀ {ds : List D} {vs : List V} (n : Nat), Reps C H ds vs → Reps C H (ds.drop n) (vs.drop n)
  | _, _, 0, h => h
  | [], _, _ + 1, h => by simp only [Reps] at h; subst h; simp only [List.drop_nil, Reps]
  | x :: ds, _, n + 1, h => by
    simp only [Reps] at h
    obtain ⟨v, r, e1, q, t⟩ := h
    subst e1
    exact Reps.drop n t
theorem Reps.set {C : Addr} {H : Hp} {d : D} {u : V} (k : Rep C H d u) : ∀ {ds : List D} {vs : List V} (n : Nat), Reps C H ds vs → Reps C H (ds.set n d) (vs.set n u)
  | [], _, _, h => by simp only [Reps] at h; subst h; simp only [List.set_nil, Reps]
  | x :: ds, _, 0, h => by
    simp only [Reps] at h
    obtain ⟨v, r, e1, q, t⟩ := h
    subst e1
    simp only [List.set_cons_zero, Reps]
    exact ⟨u, r, rfl, k, t⟩
  | x :: ds, _, n + 1, h => by
    simp only [Reps] at h
    obtain ⟨v, r, e1, q, t⟩ := h
    subst e1
    simp only [List.set_cons_succ, Reps]
    exact ⟨v, _, rfl, q, Reps.set k n t⟩
theorem Reps.rev {C : Addr} {H : Hp} : ∀ {ds : List D} {vs : List V}, Reps C H ds vs → Reps C H ds.reverse vs.reverse
  | [], _, h => by simp only [Reps] at h; subst h; simp only [List.reverse_nil, Reps]
  | x :: ds, _, h => by
    simp only [Reps] at h
    obtain ⟨v, r, e1, q, t⟩ := h
    subst e1
    rw [List.reverse_cons, List.reverse_cons]
    exact Reps.app (Reps.rev t) (Reps.one q)
theorem Reps.ints {C : Addr} {H : Hp} : ∀ {ns : List Int} {vs : List V}, Reps C H (ns.map D.int) vs → vs = ns.map V.int
  | [], _, h => by simp only [List.map_nil, Reps] at h; exact h
  | n :: ns, _, h => by
    simp only [List.map_cons, Reps, Rep] at h
    obtain ⟨v, r, e1, q, t⟩ := h
    rw [e1, q, Reps.ints t]
    rfl

/-- the heap has grown from H to H', what is known of it from F to F' -/
structure Nx (F H F' H' : Hp) : Prop where
  ff : Sm F F'
  hh : Sm H H'
  fh : Sm F' H'
  new : ∀ a, F' a ≠ none → F a ≠ none ∨ H a = none
theorem Nx.rfl {F H : Hp} (s : Sm F H) : Nx F H F H := ⟨Sm.rfl, Sm.rfl, s, fun a h => .inl h⟩
theorem Nx.tr {F H F' H' F'' H'' : Hp} (a : Nx F H F' H') (b : Nx F' H' F'' H'') : Nx F H F'' H'' :=
  ⟨a.ff.tr b.ff, a.hh.tr b.hh, b.fh, fun x h => by
    rcases b.new x h with q | q
    · exact a.new x q
    · refine .inr ?_
      cases e : H x with
      | none => exact Eq.refl none
      | some o => rw [a.hh _ _ e] at q; cases q⟩
theorem Sm.two {F H : Hp} {p : Addr} {o : HO} (s : Sm F H) : Sm (L2.upd F p o) (L2.upd H p o) := fun b x e => by
  by_cases hb : b = p
  · subst hb
    rw [upd_same] at e ⊢
    exact e
  · rw [upd_ne hb] at e ⊢
    exact s _ _ e
theorem Sm.non {F H : Hp} {p : Addr} (s : Sm F H) (n : H p = none) : F p = none := by
  cases e : F p with
  | none => rfl
  | some o => rw [s _ _ e] at n; cases n
/-- a new object -/
theorem Nx.add {F H : Hp} {p : Addr} {o : HO} (s : Sm F H) (n : H p = none) : Nx F H (L2.upd F p o) (L2.upd H p o) :=
  ⟨Sm.upd (s.non n), Sm.upd n, s.two, fun a h => by
    by_cases ha : a = p
    · subst ha; exact .inr n
    · rw [upd_ne ha] at h; exact .inl h⟩
/-- a new object that is not to be known -/
theorem Nx.hid {F H : Hp} {p : Addr} {o : HO} (s : Sm F H) (n : H p = none) : Nx F H F (L2.upd H p o) :=
  ⟨Sm.rfl, Sm.upd n, s.tr (Sm.upd n), fun a h => .inl h⟩

/-- a slot: nothing known, a value that is not changed, a list of this body's own -/
inductive Sl where
  | no | sh (d : D) | own (ds : List D)
abbrev Ev := List Sl
/-- a list of one's own, looked at -/
def Sl.fz : Sl → Sl
  | .own ds => .sh (.lst ds)
  | s => s

/-- the slots that an expression may read -/
def SlOk (C : Addr) (F : Hp) (σ : L2.St) (ρ : Ev) : Prop := ρ.length = σ.length ∧ ∀ (i : Nat) (d : D), ρ[i]? = some (.sh d) → ∃ v, σ[i]? = some (some v) ∧ Rep C F d v
theorem SlOk.mono {C : Addr} {F F' : Hp} {σ : L2.St} {ρ : Ev} (h : SlOk C F σ ρ) (s : Sm F F') : SlOk C F' σ ρ := ⟨h.1, fun i d e =>
  let ⟨v, a, b⟩ := h.2 i d e
  ⟨v, a, b.mono s⟩⟩

/-- what is wanted of an exception -/
def Exc (mg : Str → Option Value) (W : WX) (c : Str) (σ : L2.St) (H : Hp) : Prop := ∀ a, mg c = some (.ref a) → ∀ H', Sm H H' → W (.ref a) none σ H'

section
variable (mg : Str → Option Value) (C : Addr) (W : WX)
/-- the reading of an expression that computes f -/
def tD (f : Ev → R D) : TE := fun σ H Q => ∃ F ρ, Sm F H ∧ SlOk C F σ ρ ∧ match f ρ with
  | .ok d => ∀ v H' F', Nx F H F' H' → Rep C F' d v → Q v H'
  | .exc c => Exc mg W c σ H
  | .bad => False
/-- a test -/
def tB (f : Ev → R Bool) : TT := fun σ H Q => ∃ F ρ, Sm F H ∧ SlOk C F σ ρ ∧ match f ρ with
  | .ok b => ∀ H', Sm H H' → Q b H'
  | .exc c => Exc mg W c σ H
  | .bad => False
/-- arguments -/
def tA (f : Ev → R (List D)) : TA := fun σ H Q => ∃ F ρ, Sm F H ∧ SlOk C F σ ρ ∧ match f ρ with
  | .ok ds => ∀ vs H' F', Nx F H F' H' → Reps C F' ds vs → Q vs H'
  | .exc c => Exc mg W c σ H
  | .bad => False
/-- an expression that makes a new list -/
def tL (f : Ev → R (List D)) : TE := fun σ H Q => ∃ F ρ, Sm F H ∧ SlOk C F σ ρ ∧ match f ρ with
  | .ok ds => ∀ p xs H' F', Nx F H F' H' → H p = none → F' p = none → H' p = some (.lst xs) → Reps C F' ds xs → Q (.ref p) H'
  | .exc c => Exc mg W c σ H
  | .bad => False
end
theorem Exc.mono {mg : Str → Option Value} {W : WX} {c : Str} {σ : L2.St} {H H' : Hp} (h : Exc mg W c σ H) (s : Sm H H') : Exc mg W c σ H' := fun a e H2 s2 => h a e H2 (s.tr s2)

section
variable {X : Cx} {mg : Str → Option Value} {C : Addr} {W : WX} {e a b : Expr} {t : TE} {pos : Pos}
theorem PE.to {t u : TE} (h : PE X e t) (k : ∀ σ H Q, u σ H Q → t σ H Q) : PE X e u := ⟨fun pins s σ H Q I q => h.run pins s σ H Q I (k σ H Q q)⟩
theorem PT.to {t u : TT} (h : PT X e t) (k : ∀ σ H Q, u σ H Q → t σ H Q) : PT X e u := ⟨fun pins s σ H Q I q => h.run pins s σ H Q I (k σ H Q q)⟩
theorem PW.to {t u : TT} (h : PW X e t) (k : ∀ σ H Q, u σ H Q → t σ H Q) : PW X e u := ⟨fun wh pins s σ H Q I q => h.run wh pins s σ H Q I (k σ H Q q)⟩
theorem PS.to {st : Stmt} {t u : TS} (h : PS X st t) (k : ∀ D σ H, u D σ H → t D σ H) : PS X st u := ⟨fun pins s σ H D I q => h.run pins s σ H D I (k D σ H q)⟩
theorem PSs.to {st : List Stmt} {t u : TS} (h : PSs X st t) (k : ∀ D σ H, u D σ H → t D σ H) : PSs X st u := ⟨fun pins s σ H D I q => h.run pins s σ H D I (k D σ H q)⟩
theorem PA.to {es : List Expr} {t u : TA} (h : PA X es t) (k : ∀ σ H Q, u σ H Q → t σ H Q) : PA X es u := ⟨fun pos pins s σ H Q I q => h.run pos pins s σ H Q I (k σ H Q q)⟩

/-! ### what expressions compute -/
namespace E
def var (i : Nat) : Ev → R D := fun ρ => match ρ[i]? with
  | some (.sh d) => .ok d
  | _ => .bad
def c (d : D) : Ev → R D := fun _ => .ok d
def bin (g : D → D → R D) (f h : Ev → R D) : Ev → R D := fun ρ => (f ρ).bind fun x => (h ρ).bind fun y => g x y
def un (g : D → R D) (f : Ev → R D) : Ev → R D := fun ρ => (f ρ).bind g
def nil : Ev → R (List D) := fun _ => .ok []
def cons (f : Ev → R D) (h : Ev → R (List D)) : Ev → R (List D) := fun ρ => (f ρ).bind fun x => (h ρ).bind fun xs => .ok (x :: xs)
def app (g : List D → R D) (f : Ev → R (List D)) : Ev → R D := fun ρ => (f ρ).bind g
end E

theorem d_var {i : Nat} (h : PE X e (tVar i)) : PE X e (tD mg C W (E.var i)) := PE.to h fun σ H Q q => by
  obtain ⟨F, ρ, s, ok, q⟩ := q
  unfold E.var at q
  split at q
  · rename_i d hd
    split at hd
    · rename_i d' h'
      cases hd
      obtain ⟨v, e1, r⟩ := ok.2 i _ h'
      exact ⟨v, e1, q v H F (.rfl s) r⟩
    · cases hd
  · rename_i c hd
    split at hd <;> cases hd
  · exact q.elim
theorem d_c {d : D} {v : V} (h : PE X e (tC v)) (r : ∀ F, Rep C F d v) : PE X e (tD mg C W (E.c d)) := PE.to h fun σ H Q q => by
  obtain ⟨F, ρ, s, ok, q⟩ := q
  exact q v H F (.rfl s) (r F)
theorem d_int {i j} : PE X (.Constant (.int i) j pos) (tD mg C W (E.c (.int i))) := d_c pe_int fun _ => rfl
theorem d_bl {b j} : PE X (.Constant (.bool b) j pos) (tD mg C W (E.c (.bl b))) := d_c pe_bl fun _ => rfl
theorem d_non {j} : PE X (.Constant .none j pos) (tD mg C W (E.c .non)) := d_c pe_non fun _ => rfl
theorem d_str {x j} : PE X (.Constant (.str x) j pos) (tD mg C W (E.c (.str x))) := d_c pe_str fun _ => rfl

/-- a rule by values computes g -/
def Op2 (C : Addr) (g : D → D → R D) (r : R2) : Prop := ∀ (x y : D) (F H : Hp) (v u : V) (Q : VK), Sm F H → Rep C F x v → Rep C F y u →
  match g x y with
  | .ok d => (∀ w H' F', Nx F H F' H' → Rep C F' d w → Q w H') → r v u H Q
  | _ => True
/-- .. never raising -/
def Calm2 (g : D → D → R D) : Prop := ∀ x y c, g x y ≠ .exc c

theorem seq2 {f h : Ev → R D} {g : D → D → R D} {r : R2} (hr : Op2 C g r) (hc : Calm2 g) {σ : L2.St} {H : Hp} {Q : VK} (q : tD mg C W (E.bin g f h) σ H Q) :
    tD mg C W f σ H fun x H1 => tD mg C W h σ H1 fun y H2 => r x y H2 Q := by
  obtain ⟨F, ρ, s, ok, q⟩ := q
  refine ⟨F, ρ, s, ok, ?_⟩
  unfold E.bin at q
  cases e1 : f ρ with
  | bad => rw [e1] at q; exact q
  | exc c => rw [e1] at q; exact q
  | ok x =>
    rw [e1] at q
    intro v H1 F1 n1 r1
    refine ⟨F1, ρ, n1.fh, ok.mono n1.ff, ?_⟩
    cases e2 : h ρ with
    | bad => rw [R.bind_ok, e2] at q; exact q
    | exc c => rw [R.bind_ok, e2] at q; exact Exc.mono q n1.hh
    | ok y =>
      rw [R.bind_ok, e2, R.bind_ok] at q
      intro u H2 F2 n2 r2
      have k := hr x y F2 H2 v u Q n2.fh (r1.mono n2.ff) r2
      cases e3 : g x y with
      | bad => rw [e3] at q; exact q.elim
      | exc c => exact (hc _ _ _ e3).elim
      | ok d =>
        rw [e3] at q k
        exact k fun w H' F' n3 r3 => q w H' F' ((n1.tr n2).tr n3) r3
theorem d_op {op : Operator} {f h : Ev → R D} {g : D → D → R D} {r : R2} (ho : OpR X (binaryOp op) r) (hr : Op2 C g r) (hc : Calm2 g) (ha : PE X a (tD mg C W f)) (hb : PE X b (tD mg C W h)) :
    PE X (.BinOp a op b pos) (tD mg C W (E.bin g f h)) := PE.to (pe_op ho ha hb) fun σ H Q q => seq2 hr hc q
end
end TB
namespace TB
open PySem PySem.Spec PyProof.Rows L2

/-- how long a list or text may get here -/
abbrev LINE : Nat := 1000000
theorem line_ok {n : Nat} (h : n ≤ LINE) : n ≤ sizeLine := by rw [sizeLine_eq]; exact Nat.le_trans h (by decide)
theorem line_lt {n : Nat} (h : n < LINE) : n < sizeLine := by rw [sizeLine_eq]; exact Nat.lt_of_lt_of_le h (by decide)

/-! ### as plain data -/
mutual
def D.py : D → PyData
  | .non => .none
  | .bl b => .bool b
  | .int i => .int i
  | .str x => .str x
  | .lst ds => .list (D.pys ds)
  | .tup ds => .tuple (D.pys ds)
  | .shop _ _ => .none
  | .scr _ => .none
  | .exn _ _ => .none
  | .dic => .none
def D.pys : List D → List PyData
  | [] => []
  | d :: ds => D.py d :: D.pys ds
end
mutual
/-- plain data, no deeper than n -/
def wide : Nat → D → Bool
  | _, .non => true
  | _, .bl _ => true
  | _, .int _ => true
  | _, .str x => PyData.strOk x
  | n, .lst ds => wides n ds
  | n, .tup ds => wides n ds
  | _, .shop _ _ => false
  | _, .scr _ => false
  | _, .exn _ _ => false
  | _, .dic => false
def wides : Nat → List D → Bool
  | _, [] => true
  | 0, _ :: _ => false
  | n + 1, d :: ds => wide n d && wides (n + 1) ds
end
theorem wides_iff (n : Nat) : ∀ ds : List D, wides (n + 1) ds = ds.all (wide n)
  | [] => by simp [wides]
  | d :: ds => by simp [wides, wides_iff n ds]
theorem wides0 : ∀ ds : List D, wides 0 ds = ds.isEmpty
  | [] => by simp [wides]
  | _ :: _ => by simp [wides]
mutual
theorem wide_lay : ∀ (n : Nat) (d : D), wide n d = true → PyData.canLay0 d.py = true ∧ PyData.depth d.py ≤ n + 1
  | n, .non, _ => by simp [D.py, PyData.canLay0, PyData.depth]
  | n, .bl b, _ => by simp [D.py, PyData.canLay0, PyData.depth]
  | n, .int i, _ => by simp [D.py, PyData.canLay0, PyData.depth]
  | n, .str x, h => by
    simp only [wide] at h
    simp [D.py, PyData.canLay0, PyData.depth, h]
  | n, .lst ds, h => by
    simp only [wide] at h
    have q := wides_lay n ds h
    simp only [D.py, PyData.canLay0, PyData.depth]
    exact ⟨q.1, by omega⟩
  | n, .tup ds, h => by
    simp only [wide] at h
    have q := wides_lay n ds h
    simp only [D.py, PyData.canLay0, PyData.depth]
    exact ⟨q.1, by omega⟩
theorem wides_lay : ∀ (n : Nat) (ds : List D), wides n ds = true → PyData.canLayAll0 (D.pys ds) = true ∧ PyData.depthAll (D.pys ds) ≤ n
  | n, [], _ => by simp [D.pys, PyData.canLayAll0, PyData.depthAll]
  | 0, _ :: _, h => by simp [wides] at h
  | n + 1, d :: ds, h => by
    simp only [wides, Bool.and_eq_true] at h
    have q1 := wide_lay n d h.1
    have q2 := wides_lay (n + 1) ds h.2
    simp only [D.pys, PyData.canLayAll0, PyData.depthAll, Bool.and_eq_true]
    exact ⟨⟨q1.1, q2.1⟩, by omega⟩
end
theorem wide_shaped {d : D} (h : wide 9 d = true) : SeqAt.shaped d.py = true := by
  have q := wide_lay 9 d h
  unfold SeqAt.shaped
  rw [q.1, decide_eq_true (show PyData.depth d.py ≤ 64 by omega)]
  rfl
mutual
theorem Rep.dp {K : PySem.W.Frag} {C : Addr} {H : Hp} : ∀ (n : Nat) (d : D) (v : V), wide n d = true → Rep C H d v → Dp K H v d.py
  | _, .non, v, _, h => by simp only [Rep] at h; subst h; exact .non
  | _, .bl b, v, _, h => by simp only [Rep] at h; subst h; exact .bl b
  | _, .int i, v, _, h => by simp only [Rep] at h; subst h; exact .int i
  | _, .str x, v, _, h => by simp only [Rep] at h; subst h; exact .str x
  | n, .lst ds, v, w, h => by
    simp only [Rep] at h
    simp only [wide] at w
    obtain ⟨a, xs, e, q, r⟩ := h
    subst e
    exact .lst (SqL.of q) (Reps.dp n ds xs w r)
  | n, .tup ds, v, w, h => by
    simp only [Rep] at h
    simp only [wide] at w
    obtain ⟨a, xs, e, q, r⟩ := h
    subst e
    exact .tup (SqT.of q) (Reps.dp n ds xs w r)
  | _, .shop _ _, v, w, h => by simp [wide] at w
  | _, .scr _, v, w, h => by simp [wide] at w
  | _, .exn _ _, v, w, h => by simp [wide] at w
  | _, .dic, v, w, h => by simp [wide] at w
theorem Reps.dp {K : PySem.W.Frag} {C : Addr} {H : Hp} : ∀ (n : Nat) (ds : List D) (vs : List V), wides n ds = true → Reps C H ds vs → DpAll K H vs (D.pys ds)
  | _, [], vs, _, h => by simp only [Reps] at h; subst h; exact .nil
  | 0, _ :: _, vs, w, h => by simp [wides] at w
  | n + 1, d :: ds, vs, w, h => by
    simp only [Reps] at h
    simp only [wides, Bool.and_eq_true] at w
    obtain ⟨v, r, e, q, t⟩ := h
    subst e
    exact .cons (Rep.dp n d v w.1 q) (Reps.dp (n + 1) ds r w.2 t)
end

/-- a value that needs no heap -/
def flat : D → Bool
  | .non => true
  | .bl _ => true
  | .int _ => true
  | .str _ => true
  | _ => false
/-- the value itself -/
def toV : D → V
  | .non => .non
  | .bl b => .bl b
  | .int i => .int i
  | .str x => .str x
  | _ => .non
theorem flat_eq {C : Addr} {H : Hp} {d : D} {v : V} (f : flat d = true) (r : Rep C H d v) : v = toV d := by
  cases d <;> simp_all [flat, Rep, toV]
theorem flat_rep {C : Addr} {H : Hp} {d : D} (f : flat d = true) : Rep C H d (toV d) := by
  cases d <;> simp_all [flat, Rep, toV]
theorem flat_go {C : Addr} {H H' : Hp} {d : D} {v : V} (f : flat d = true) (r : Rep C H d v) : Rep C H' d v := by
  rw [flat_eq f r]; exact flat_rep f
theorem flats_go {C : Addr} {H H' : Hp} : ∀ {ds : List D} {vs : List V}, ds.all flat = true → Reps C H ds vs → Reps C H' ds vs
  | [], _, _, r => by simp only [Reps] at r ⊢; exact r
  | d :: ds, _, f, r => by
    simp only [Reps] at r ⊢
    simp only [List.all_cons, Bool.and_eq_true] at f
    obtain ⟨v, s, e, q, t⟩ := r
    exact ⟨v, s, e, flat_go f.1 q, flats_go f.2 t⟩
theorem flats_eq {C : Addr} {H : Hp} : ∀ {ds : List D} {vs : List V}, ds.all flat = true → Reps C H ds vs → vs = ds.map toV
  | [], _, _, r => by simp only [Reps] at r; subst r; rfl
  | d :: ds, _, f, r => by
    simp only [Reps] at r
    simp only [List.all_cons, Bool.and_eq_true] at f
    obtain ⟨v, s, e, q, t⟩ := r
    rw [e, flat_eq f.1 q, flats_eq f.2 t]
    rfl
theorem flat_V {d : D} (f : flat d = true) : flatV (toV d) = true := by cases d <;> simp_all [flat, flatV, toV]
theorem flats_V : ∀ {ds : List D}, ds.all flat = true → (ds.map toV).all flatV = true
  | [], _ => rfl
  | d :: ds, f => by
    simp only [List.all_cons, Bool.and_eq_true, List.map_cons] at f ⊢
    exact ⟨flat_V f.1, flats_V f.2⟩
/-- == of flat values -/
def eqF : D → D → Bool
  | .non, .non => true
  | .bl a, .bl b => a == b
  | .bl a, .int b => (if a then 1 else 0) == b
  | .int a, .bl b => a == (if b then 1 else 0)
  | .int a, .int b => a == b
  | .str a, .str b => a == b
  | _, _ => false
theorem eqF_V {x y : D} (hx : flat x = true) (hy : flat y = true) : eqV (toV x) (toV y) = eqF x y := by
  cases x <;> cases y <;> simp_all [flat, eqF, eqV, toV]
theorem inF_V {x : D} (hx : flat x = true) : ∀ {ds : List D}, ds.all flat = true → inV (toV x) (ds.map toV) = ds.any fun y => eqF y x
  | [], _ => rfl
  | d :: ds, f => by
    simp only [List.all_cons, Bool.and_eq_true] at f
    have e := inF_V hx f.2
    unfold inV at e ⊢
    rw [List.map_cons, List.any_cons, List.any_cons, e, eqF_V f.1 hx]

/-! ### operators -/
def dAdd : D → D → R D
  | .int i, .int j => .ok (.int (i + j))
  | .str x, .str y => if x.length + y.length ≤ LINE then .ok (.str (x ++ y)) else .bad
  | .lst xs, .lst ys => if xs.length + ys.length ≤ LINE then .ok (.lst (xs ++ ys)) else .bad
  | .tup xs, .tup ys => if xs.length + ys.length ≤ LINE ∧ xs ≠ [] then .ok (.tup (xs ++ ys)) else .bad
  | _, _ => .bad
def rAddD (K : PySem.W.Frag) : R2 := fun x y H Q => rI0 (fun i j => .int (i + j)) x y H Q ∨ (∃ i j, x = .str i ∧ y = .str j ∧ i.length + j.length ≤ sizeLine ∧ Q (.str (i ++ j)) H) ∨ rCat x y H Q ∨ rCatT K x y H Q
theorem op_addD {X : Cx} : OpR X (binaryOp .Add) (rAddD X.K) := op_add.or (op_add_str.or (op_cat.or op_catT))
theorem add_calm : Calm2 dAdd := fun x y c => by
  cases x <;> cases y <;> simp only [dAdd] <;> (try split) <;> exact fun e => nomatch e
theorem add_D {C : Addr} {K : PySem.W.Frag} : Op2 C dAdd (rAddD K) := by
  intro x y F H v u Q s rv ru
  cases x <;> cases y <;> simp only [dAdd] <;> try trivial
  · rename_i i j
    intro q
    simp only [Rep] at rv ru
    exact .inl ⟨i, j, rv, ru, q _ H F (.rfl s) (by simp only [Rep])⟩
  · rename_i i j
    split
    · rename_i hl
      split at hl
      · rename_i hz
        cases hl
        intro q
        simp only [Rep] at rv ru
        exact .inr (.inl ⟨i, j, rv, ru, line_ok hz, q _ H F (.rfl s) (by simp only [Rep])⟩)
      · cases hl
    · trivial
  · rename_i xs ys
    split
    · rename_i hl
      split at hl
      · rename_i hz
        cases hl
        intro q
        simp only [Rep] at rv ru
        obtain ⟨a, us, e1, h1, r1⟩ := rv
        obtain ⟨b, ws, e2, h2, r2⟩ := ru
        refine .inr (.inr (.inl ⟨a, b, us, ws, e1, e2, s _ _ h1, s _ _ h2, by rw [r1.len, r2.len]; exact line_ok hz, fun p np => ?_⟩))
        refine q _ _ (upd F p (.lst (us ++ ws))) (.add s np) ?_
        simp only [Rep]
        exact ⟨p, _, rfl, upd_same, Reps.mono (Sm.upd (s.non np)) _ _ (r1.app r2)⟩
      · cases hl
    · trivial
  · rename_i xs ys
    split
    · rename_i hl
      split at hl
      · rename_i hz
        cases hl
        intro q
        simp only [Rep] at rv ru
        obtain ⟨a, us, e1, h1, r1⟩ := rv
        obtain ⟨b, ws, e2, h2, r2⟩ := ru
        have l1 := r1.len
        have l2 := r2.len
        refine .inr (.inr (.inr ⟨a, b, us, ws, e1, e2, SqT.of (s _ _ h1), SqT.of (s _ _ h2), fun z => ?_, by rw [l1, l2]; exact line_ok hz.1, fun z => ?_, fun z p np => ?_⟩))
        · subst z
          exact hz.2 (List.length_eq_zero_iff.mp l1.symm)
        · subst z
          have e3 : ys = [] := List.length_eq_zero_iff.mp l2.symm
          subst e3
          rw [List.append_nil] at q
          refine q _ H F (.rfl s) ?_
          simp only [Rep]
          exact ⟨a, us, e1.symm ▸ rfl, h1, r1⟩
        · refine q _ _ (upd F p (.tup (us ++ ws))) (.add s np) ?_
          simp only [Rep]
          exact ⟨p, _, rfl, upd_same, Reps.mono (Sm.upd (s.non np)) _ _ (r1.app r2)⟩
      · cases hl
    · trivial

/-- ints to an int, under a test -/
def dI (c : Int → Int → Bool) (g : Int → Int → Int) : D → D → R D
  | .int i, .int j => if c i j then .ok (.int (g i j)) else .bad
  | _, _ => .bad
theorem dI_calm {c : Int → Int → Bool} {g : Int → Int → Int} : Calm2 (dI c g) := fun x y z => by
  cases x <;> cases y <;> simp only [dI] <;> (try split) <;> exact fun e => nomatch e
theorem dI_D {C : Addr} {c : Int → Int → Bool} {P : Int → Int → Prop} {g : Int → Int → Int} (hP : ∀ i j, c i j = true → P i j) : Op2 C (dI c g) (rI P fun i j => .int (g i j)) := by
  intro x y F H v u Q s rv ru
  cases x <;> cases y <;> simp only [dI] <;> try trivial
  rename_i i j
  split
  · rename_i hl
    split at hl
    · rename_i hz
      cases hl
      intro q
      simp only [Rep] at rv ru
      exact ⟨i, j, rv, ru, hP _ _ hz, q _ H F (.rfl s) (by simp only [Rep])⟩
    · cases hl
  · trivial
def cDiv (i j : Int) : Bool := decide (0 < j ∧ j < 1073741824)
def cMod (i j : Int) : Bool := decide (0 < j)
def cMul (i j : Int) : Bool := decide ((-(2 ^ 64) < i ∧ i < 2 ^ 64) ∨ (-(2 ^ 64) < j ∧ j < 2 ^ 64))
def cPow (i j : Int) : Bool := decide (0 ≤ j ∧ j ≤ 1000000 ∧ i.natAbs < 2 ^ 64)
def dSub : D → D → R D := dI (fun _ _ => true) fun i j => i - j
def dMul : D → D → R D := dI cMul fun i j => i * j
def dDiv : D → D → R D := dI cDiv fun i j => i / j
def dMod : D → D → R D := dI cMod fun i j => i % j
def dPow : D → D → R D := dI cPow fun i j => i ^ j.toNat
theorem op_subD {X : Cx} : OpR X (binaryOp .Sub) (rI (fun _ _ => True) fun i j => .int (i - j)) := opI fun _ _ _ _ _ _ _ _ q => sub_int q

/-- ints to a truth -/
def dC (g : Int → Int → Bool) : D → D → R D
  | .int i, .int j => .ok (.bl (g i j))
  | _, _ => .bad
theorem dC_calm {g : Int → Int → Bool} : Calm2 (dC g) := fun x y z => by
  cases x <;> cases y <;> simp only [dC] <;> exact fun e => nomatch e
theorem dC_D {C : Addr} {g : Int → Int → Bool} : Op2 C (dC g) (rI0 fun i j => .bl (g i j)) := by
  intro x y F H v u Q s rv ru
  cases x <;> cases y <;> simp only [dC] <;> try trivial
  rename_i i j
  intro q
  simp only [Rep] at rv ru
  exact ⟨i, j, rv, ru, q _ H F (.rfl s) (by simp only [Rep])⟩
def dLt : D → D → R D := dC fun i j => decide (i < j)
def dLe : D → D → R D := dC fun i j => decide (i ≤ j)
def dGt : D → D → R D := dC fun i j => decide (j < i)
def dGe : D → D → R D := dC fun i j => decide (j ≤ i)

/-! ### == and != -/
/-- scalars that are told apart by kind and worth -/
def scalD : D → D → Bool
  | .non, .non => true | .non, .int _ => true | .int _, .non => true | .non, .bl _ => true | .bl _, .non => true | .non, .str _ => true | .str _, .non => true
  | .int _, .int _ => true | .bl _, .bl _ => true | .str _, .str _ => true
  | .int _, .str _ => true | .str _, .int _ => true | .bl _, .str _ => true | .str _, .bl _ => true
  | _, _ => false
/-- two empty dicts -/
def dics : D → D → Bool
  | .dic, .dic => true
  | _, _ => false
def dEq (x y : D) : R D := if scalD x y then .ok (.bl (eqF x y)) else if wide 9 x && wide 9 y then .ok (.bl (PyData.eqv x.py y.py)) else if dics x y then .ok (.bl true) else .bad
def dNe (x y : D) : R D := if scalD x y then .ok (.bl (!eqF x y)) else if wide 9 x && wide 9 y then .ok (.bl (!PyData.eqv x.py y.py)) else if dics x y then .ok (.bl false) else .bad
theorem eq_calm : Calm2 dEq := fun x y z => by unfold dEq; split <;> (try split) <;> (try split) <;> exact fun e => nomatch e
theorem ne_calm : Calm2 dNe := fun x y z => by unfold dNe; split <;> (try split) <;> (try split) <;> exact fun e => nomatch e
theorem dics_at {C : Addr} {H : Hp} {x y : D} {v u : V} (h : dics x y = true) (rv : Rep C H x v) (ru : Rep C H y u) : ∃ a b, v = .ref a ∧ u = .ref b ∧ H a = some (.dK []) ∧ H b = some (.dK []) := by
  cases x <;> cases y <;> simp only [dics] at h <;> try cases h
  simp only [Rep] at rv ru
  obtain ⟨a, rfl, h1⟩ := rv
  obtain ⟨b, rfl, h2⟩ := ru
  exact ⟨a, b, rfl, rfl, h1, h2⟩
theorem scal_V {x y : D} (h : scalD x y = true) : flat x = true ∧ flat y = true ∧ scal (toV x) (toV y) = true ∧ decide (toV x = toV y) = eqF x y := by
  cases x <;> cases y <;> simp_all [scalD, flat, scal, toV, eqF] <;> first | rfl | exact (Bool.beq_eq_decide_eq _ _).symm
def rEqB (K : PySem.W.Frag) : R2 := fun x y H Q => rEq x y H Q ∨ rEqD K x y H Q ∨ rEqDA x y H Q
def rNeB (K : PySem.W.Frag) : R2 := fun x y H Q => rNe x y H Q ∨ rNeD K x y H Q ∨ rNeDA x y H Q
theorem op_eqB {X : Cx} (hu : X.A.units + 64 < cLine) : OpR X (compareOp .Eq) (rEqB X.K) := op_eq.or ((op_eqD hu).or (op_eq_dictA (by omega)))
theorem op_neB {X : Cx} (hu : X.A.units + 64 < cLine) : OpR X (compareOp .NotEq) (rNeB X.K) := op_ne.or ((op_neD hu).or (op_ne_dictA (by omega)))
theorem eq_D {C : Addr} {K : PySem.W.Frag} : Op2 C dEq (rEqB K) := by
  intro x y F H v u Q s rv ru
  unfold dEq
  split
  · rename_i hl
    split at hl
    · rename_i h
      cases hl
      intro q
      obtain ⟨fx, fy, sc, e⟩ := scal_V h
      have e1 := flat_eq fx rv
      have e2 := flat_eq fy ru
      subst e1 e2
      refine .inl ⟨sc, ?_⟩
      rw [e]
      exact q _ H F (.rfl s) (by simp only [Rep])
    · split at hl
      · rename_i h
        cases hl
        intro q
        rw [Bool.and_eq_true] at h
        exact .inr (.inl ⟨_, _, Rep.dp 9 x v h.1 (rv.mono s), Rep.dp 9 y u h.2 (ru.mono s), wide_shaped h.1, wide_shaped h.2, q _ H F (.rfl s) (by simp only [Rep])⟩)
      · split at hl
        · rename_i h
          cases hl
          intro q
          obtain ⟨a, b, rfl, rfl, h1, h2⟩ := dics_at h rv ru
          exact .inr (.inr ⟨a, b, [], [], rfl, rfl, s _ _ h1, s _ _ h2, rfl, fun p hp => (by cases hp), q _ H F (.rfl s) (by simp only [Rep])⟩)
        · cases hl
  · trivial
theorem ne_D {C : Addr} {K : PySem.W.Frag} : Op2 C dNe (rNeB K) := by
  intro x y F H v u Q s rv ru
  unfold dNe
  split
  · rename_i hl
    split at hl
    · rename_i h
      cases hl
      intro q
      obtain ⟨fx, fy, sc, e⟩ := scal_V h
      have e1 := flat_eq fx rv
      have e2 := flat_eq fy ru
      subst e1 e2
      refine .inl ⟨sc, ?_⟩
      rw [e]
      exact q _ H F (.rfl s) (by simp only [Rep])
    · split at hl
      · rename_i h
        cases hl
        intro q
        rw [Bool.and_eq_true] at h
        exact .inr (.inl ⟨_, _, Rep.dp 9 x v h.1 (rv.mono s), Rep.dp 9 y u h.2 (ru.mono s), wide_shaped h.1, wide_shaped h.2, q _ H F (.rfl s) (by simp only [Rep])⟩)
      · split at hl
        · rename_i h
          cases hl
          intro q
          obtain ⟨a, b, rfl, rfl, h1, h2⟩ := dics_at h rv ru
          exact .inr (.inr ⟨a, b, [], [], rfl, rfl, s _ _ h1, s _ _ h2, rfl, fun p hp => (by cases hp), q _ H F (.rfl s) (by simp only [Rep])⟩)
        · cases hl
  · trivial
/-! ### in -/
/-- the one sign of a text -/
def sign1 (x : Str) : Option Nat := match x.cps.toList with
  | [c] => some c
  | _ => none
theorem sign1_eq {x : Str} {c : Nat} (h : sign1 x = some c) : x = ⟨#[c]⟩ := by
  unfold sign1 at h
  split at h
  · rename_i d e
    cases h
    obtain ⟨a⟩ := x
    congr
    exact Array.toList_inj.mp e
  · cases h
def dIn (neg : Bool) : D → D → R D
  | x, .lst ds => if flat x && ds.all flat then .ok (.bl (neg ^^ ds.any fun y => eqF y x)) else .bad
  | x, .tup ds => if flat x && ds.all flat then .ok (.bl (neg ^^ ds.any fun y => eqF y x)) else .bad
  | .str x, .str z => match sign1 x with
    | some c => .ok (.bl (neg ^^ decide (c ∈ z.cps.toList)))
    | none => .bad
  | _, _ => .bad
theorem in_calm {n : Bool} : Calm2 (dIn n) := fun x y c => by
  cases y <;> (try cases x) <;> simp only [dIn] <;> (try split) <;> exact fun e => nomatch e
def rInB (K : PySem.W.Frag) (neg : Bool) : R2 := fun x y H Q => rIn K neg x y H Q ∨ (∃ (c : Nat) (z : Str), x = .str ⟨#[c]⟩ ∧ y = .str z ∧ Q (.bl (neg ^^ decide (c ∈ z.cps.toList))) H)
theorem op_inB {X : Cx} : OpR X (compareOp .In) (rInB X.K false) := op_in_seq.or (by simpa using op_in_sign)
theorem op_notInB {X : Cx} : OpR X (compareOp .NotIn) (rInB X.K true) := op_notIn_seq.or (by simpa using op_notIn_sign)
theorem in_seqD {C : Addr} {K : PySem.W.Frag} {n : Bool} {x : D} {ds : List D} {F H : Hp} {v u : V} {Q : VK} {a : Addr} {xs : List V} (s : Sm F H) (rv : Rep C F x v) (e : u = .ref a) (hq : SqL K H a xs ∨ SqT K H a xs) (r : Reps C F ds xs)
    (h : (flat x && ds.all flat) = true) (q : ∀ w H' F', Nx F H F' H' → Rep C F' (.bl (n ^^ ds.any fun y => eqF y x)) w → Q w H') : rInB K n v u H Q := by
  rw [Bool.and_eq_true] at h
  have e1 := flat_eq h.1 rv
  have e2 := flats_eq h.2 r
  subst e1 e2
  refine .inl ⟨a, _, e, hq, flat_V h.1, flats_V h.2, ?_⟩
  rw [inF_V h.1 h.2]
  have := q (.bl (n ^^ ds.any fun y => eqF y x)) H F (.rfl s) (by simp only [Rep])
  cases n <;> simpa using this
theorem in_D {C : Addr} {K : PySem.W.Frag} {n : Bool} : Op2 C (dIn n) (rInB K n) := by
  intro x y F H v u Q s rv ru
  cases y with
  | lst ds =>
    simp only [dIn]
    split
    · rename_i hl
      split at hl
      · rename_i h
        cases hl
        intro q
        simp only [Rep] at ru
        obtain ⟨a, xs, e, h1, r⟩ := ru
        exact in_seqD s rv e (.inl (SqL.of (s _ _ h1))) r h q
      · cases hl
    · trivial
  | tup ds =>
    simp only [dIn]
    split
    · rename_i hl
      split at hl
      · rename_i h
        cases hl
        intro q
        simp only [Rep] at ru
        obtain ⟨a, xs, e, h1, r⟩ := ru
        exact in_seqD s rv e (.inr (SqT.of (s _ _ h1))) r h q
      · cases hl
    · trivial
  | str z =>
    cases x <;> simp only [dIn] <;> try trivial
    rename_i x
    split
    · rename_i hl
      split at hl
      · rename_i c h
        cases hl
        intro q
        simp only [Rep] at rv ru
        rw [sign1_eq h] at rv
        exact .inr ⟨c, z, rv, ru, q _ H F (.rfl s) (by simp only [Rep])⟩
      · cases hl
    · trivial
  | _ => cases x <;> simp only [dIn] <;> trivial

/-! ### items -/
def dIx : D → D → R D
  | .lst ds, .int i => match atI ds i with
    | some d => .ok d
    | none => .bad
  | .tup ds, .int i => match atI ds i with
    | some d => .ok d
    | none => .bad
  | .str z, .int i => if z.length ≤ LINE then match atI z.cps.toList i with
    | some c => .ok (.str ⟨#[c]⟩)
    | none => .bad
    else .bad
  | .scr ns, .int i => match atI ns i with
    | some n => .ok (.int n)
    | none => .bad
  | _, _ => .bad
theorem ix_calm : Calm2 dIx := fun x y c => by
  cases x <;> cases y <;> simp only [dIx] <;> (try split) <;> (try split) <;> exact fun e => nomatch e
theorem Reps.at {C : Addr} {F : Hp} {ds : List D} {vs : List V} {i : Int} {d : D} (r : Reps C F ds vs) (h : atI ds i = some d) : ∃ v, atI vs i = some v ∧ Rep C F d v := by
  unfold atI at h ⊢
  rw [r.len]
  cases e : ixN ds.length i with
  | none => rw [e] at h; cases h
  | some j =>
    rw [e] at h
    exact r.get h
theorem ix_D {C : Addr} {K : PySem.W.Frag} : Op2 C dIx (rIx K) := by
  intro x y F H v u Q s rv ru
  cases x <;> cases y <;> simp only [dIx] <;> try trivial
  · rename_i z i
    split
    · rename_i hl
      split at hl
      · rename_i hz
        split at hl
        · rename_i c h
          cases hl
          intro q
          simp only [Rep] at rv ru
          exact .inr (.inr ⟨z, i, c, rv, ru, line_ok hz, h, q _ H F (.rfl s) (by simp only [Rep])⟩)
        · cases hl
      · cases hl
    · trivial
  · rename_i ds i
    split
    · rename_i hl
      split at hl
      · rename_i d h
        cases hl
        intro q
        simp only [Rep] at rv ru
        obtain ⟨a, xs, e, h1, r⟩ := rv
        obtain ⟨w, h2, r2⟩ := r.at h
        exact .inl ⟨a, xs, i, w, e, ru, SqL.of (s _ _ h1), h2, q _ H F (.rfl s) r2⟩
      · cases hl
    · trivial
  · rename_i ds i
    split
    · rename_i hl
      split at hl
      · rename_i d h
        cases hl
        intro q
        simp only [Rep] at rv ru
        obtain ⟨a, xs, e, h1, r⟩ := rv
        obtain ⟨w, h2, r2⟩ := r.at h
        exact .inr (.inl ⟨a, xs, i, w, e, ru, SqT.of (s _ _ h1), h2, q _ H F (.rfl s) r2⟩)
      · cases hl
    · trivial
  · rename_i ns i
    split
    · rename_i hl
      split at hl
      · rename_i n h
        cases hl
        intro q
        simp only [Rep] at rv ru
        obtain ⟨a, o, e, h1⟩ := rv
        have h2 : atI (ns.map V.int) i = some (.int n) := by
          unfold atI at h ⊢
          rw [List.length_map]
          cases e : ixN ns.length i with
          | none => rw [e] at h; cases h
          | some j =>
            rw [e] at h
            have h' : ns[j]? = some n := h
            show (ns.map V.int)[j]? = some (.int n)
            rw [List.getElem?_map, h']
            rfl
        exact .inl ⟨a, _, i, _, e, ru, .inl (.inr ⟨o, s _ _ h1⟩), h2, q _ H F (.rfl s) (by simp only [Rep])⟩
      · cases hl
    · trivial
end TB
namespace TB
open PySem PySem.Spec PyProof.Rows L2

namespace E
/-- a truth out of a value -/
def tst (f : Ev → R D) : Ev → R Bool := fun ρ => (f ρ).bind fun d => match d with
  | .bl b => .ok b
  | _ => .bad
def band (f h : Ev → R Bool) : Ev → R Bool := fun ρ => (f ρ).bind fun b => if b then h ρ else .ok false
def bor (f h : Ev → R Bool) : Ev → R Bool := fun ρ => (f ρ).bind fun b => if b then .ok true else h ρ
def bnot (f : Ev → R Bool) : Ev → R Bool := fun ρ => (f ρ).map not
/-- and, or, not as values -/
def vand (f h : Ev → R D) : Ev → R D := fun ρ => (tst f ρ).bind fun b => if b then h ρ else .ok (.bl false)
def vor (f h : Ev → R D) : Ev → R D := fun ρ => (tst f ρ).bind fun b => if b then .ok (.bl true) else h ρ
def vnot (f : Ev → R D) : Ev → R D := fun ρ => (tst f ρ).map fun b => .bl (!b)
def ite (c : Ev → R Bool) (f h : Ev → R D) : Ev → R D := fun ρ => (c ρ).bind fun b => if b then f ρ else h ρ
def chain (g k : D → D → R D) (f h j : Ev → R D) : Ev → R D := fun ρ => (f ρ).bind fun x => (h ρ).bind fun y => (g x y).bind fun z => match z with
  | .bl true => (j ρ).bind fun w => k y w
  | .bl false => .ok (.bl false)
  | _ => .bad
def tup (f : Ev → R (List D)) : Ev → R D := fun ρ => (f ρ).bind fun ds => if ds.length ≤ LINE then .ok (.tup ds) else .bad
def lst (f : Ev → R (List D)) : Ev → R (List D) := fun ρ => (f ρ).bind fun ds => if ds.length ≤ LINE then .ok ds else .bad
/-- a new list as a value -/
def ofL (f : Ev → R (List D)) : Ev → R D := fun ρ => (f ρ).map .lst
end E

section
variable {X : Cx} {mg : Str → Option Value} {C : Addr} {W : WX} {e a b c : Expr} {t : TE} {pos : Pos} {f h j : Ev → R D} {p q : Ev → R Bool} {es : List Expr} {fs : Ev → R (List D)}

/-- the state goes on with what is known -/
theorem tD_w {σ : L2.St} {H : Hp} {Q Q' : VK} (x : tD mg C W f σ H Q) (k : ∀ v H', Sm H H' → Q v H' → Q' v H') : tD mg C W f σ H Q' := by
  obtain ⟨F, ρ, s, ok, r⟩ := x
  refine ⟨F, ρ, s, ok, ?_⟩
  cases e1 : f ρ with
  | bad => rw [e1] at r; exact r
  | exc c => rw [e1] at r; exact r
  | ok d =>
    rw [e1] at r
    exact fun v H' F' n rp => k v H' n.hh (r v H' F' n rp)

/-! ### tests -/
theorem seqT {σ : L2.St} {H : Hp} {Q : Bool → Hp → Prop} (x : tB mg C W (E.tst f) σ H Q) : tD mg C W f σ H fun v H' => ∃ k, v = .bl k ∧ Q k H' := by
  obtain ⟨F, ρ, s, ok, r⟩ := x
  refine ⟨F, ρ, s, ok, ?_⟩
  unfold E.tst at r
  cases e1 : f ρ with
  | bad => rw [e1] at r; exact r
  | exc c => rw [e1] at r; exact r
  | ok d =>
    rw [e1, R.bind_ok] at r
    intro v H' F' n rp
    cases d <;> simp only [Rep] at rp <;> try exact r.elim
    rename_i k
    exact ⟨k, rp, r H' n.hh⟩
theorem b_val (he : PE X e (tD mg C W f)) (hw : ∀ whole, isTrue e X.env whole = (do let v ← whole; standAt e.pos; holding [v] (truthy v)) := by intro _; rfl) : PT X e (tB mg C W (E.tst f)) :=
  PT.to (pt_val he hw) fun σ H Q x => seqT x
theorem b_cmp {op : CmpOp} {g : D → D → R D} {r : R2} (ho : OpR X (compareOp op) r) (hr : Op2 C g r) (hc : Calm2 g) (ha : PE X a (tD mg C W f)) (hb : PE X b (tD mg C W h)) (hm : behindInMarks op b = false := by rfl) :
    PT X (.Compare a [op] [b] pos) (tB mg C W (E.tst (E.bin g f h))) := PT.to (pt_cmpR ho ha hb hm) fun σ H Q x => seq2 hr hc (seqT x)
theorem d_cmp {op : CmpOp} {g : D → D → R D} {r : R2} (ho : OpR X (compareOp op) r) (hr : Op2 C g r) (hc : Calm2 g) (ha : PE X a (tD mg C W f)) (hb : PE X b (tD mg C W h)) (hm : behindInMarks op b = false := by rfl) :
    PE X (.Compare a [op] [b] pos) (tD mg C W (E.bin g f h)) := PE.to (pe_cmpR ho ha hb hm) fun σ H Q x => seq2 hr hc x
theorem seqC {g k : D → D → R D} {r r' : R2} (hr : Op2 C g r) (hc : Calm2 g) (hr' : Op2 C k r') (hc' : Calm2 k) {σ : L2.St} {H : Hp} {Q : VK} (x : tD mg C W (E.chain g k f h j) σ H Q) :
    tChain r r' (tD mg C W f) (tD mg C W h) (tD mg C W j) σ H Q := by
  obtain ⟨F, ρ, s, ok, x⟩ := x
  unfold tChain
  refine ⟨F, ρ, s, ok, ?_⟩
  unfold E.chain at x
  cases e1 : f ρ with
  | bad => rw [e1] at x; exact x
  | exc c => rw [e1] at x; exact x
  | ok d =>
    rw [e1] at x
    intro v H1 F1 n1 r1
    refine ⟨F1, ρ, n1.fh, ok.mono n1.ff, ?_⟩
    cases e2 : h ρ with
    | bad => rw [R.bind_ok, e2] at x; exact x
    | exc c => rw [R.bind_ok, e2] at x; exact Exc.mono x n1.hh
    | ok y =>
      rw [R.bind_ok, e2, R.bind_ok] at x
      intro u H2 F2 n2 r2
      have m := hr d y F2 H2 v u (fun z H3 => ∃ k', z = .bl k' ∧ (if k' = true then tD mg C W j σ H3 fun w' H4 => r' u w' H4 Q else Q (.bl false) H3)) n2.fh (r1.mono n2.ff) r2
      cases e3 : g d y with
      | bad => rw [e3] at x; exact x.elim
      | exc c => exact (hc _ _ _ e3).elim
      | ok z =>
        rw [e3] at m
        rw [e3, R.bind_ok] at x
        refine m fun z' H3 F3 n3 r3 => ?_
        cases z <;> try exact x.elim
        rename_i k'
        simp only [Rep] at r3
        refine ⟨k', r3, ?_⟩
        cases k' with
        | false => exact x _ H3 F3 ((n1.tr n2).tr n3) (by simp only [Rep])
        | true =>
          rw [if_pos rfl]
          refine ⟨F3, ρ, n3.fh, ok.mono (n1.ff.tr (n2.ff.tr n3.ff)), ?_⟩
          cases e4 : j ρ with
          | bad => rw [e4] at x; exact x
          | exc c => rw [e4] at x; exact Exc.mono x (n1.hh.tr (n2.hh.tr n3.hh))
          | ok w =>
            rw [e4, R.bind_ok] at x
            intro w' H4 F4 n4 r4
            have m2 := hr' y w F4 H4 u w' Q n4.fh (r2.mono (n3.ff.tr n4.ff)) r4
            cases e5 : k y w with
            | bad => rw [e5] at x; exact x.elim
            | exc c => exact (hc' _ _ _ e5).elim
            | ok d' =>
              rw [e5] at m2 x
              exact m2 fun v5 H5 F5 n5 r5 => x v5 H5 F5 ((((n1.tr n2).tr n3).tr n4).tr n5) r5
theorem d_chain {op op' : CmpOp} {g k : D → D → R D} {r r' : R2} (ho : OpR X (compareOp op) r) (ho' : OpR X (compareOp op') r') (hr : Op2 C g r) (hc : Calm2 g) (hr' : Op2 C k r') (hc' : Calm2 k)
    (ha : PE X a (tD mg C W f)) (hb : PE X b (tD mg C W h)) (hd : PE X c (tD mg C W j)) (hm : lastMarks [op, op'] [b, c] = false := by with_unfolding_all rfl) :
    PE X (.Compare a [op, op'] [b, c] pos) (tD mg C W (E.chain g k f h j)) := PE.to (pe_chain ho ho' ha hb hd hm) fun σ H Q x => seqC hr hc hr' hc' x
theorem b_chain {op op' : CmpOp} {g k : D → D → R D} {r r' : R2} (ho : OpR X (compareOp op) r) (ho' : OpR X (compareOp op') r') (hr : Op2 C g r) (hc : Calm2 g) (hr' : Op2 C k r') (hc' : Calm2 k)
    (ha : PE X a (tD mg C W f)) (hb : PE X b (tD mg C W h)) (hd : PE X c (tD mg C W j)) (hm : lastMarks [op, op'] [b, c] = false := by with_unfolding_all rfl) :
    PT X (.Compare a [op, op'] [b, c] pos) (tB mg C W (E.tst (E.chain g k f h j))) := PT.to (pt_chain ho ho' ha hb hd hm) fun σ H Q x => seqC hr hc hr' hc' (seqT x)

theorem seqB {g : Bool → Ev → R Bool} {σ : L2.St} {H : Hp} {Q : Bool → Hp → Prop} {tb : Bool → TT} (x : tB mg C W (fun ρ => (p ρ).bind fun b => g b ρ) σ H Q)
    (k : ∀ b H' Q', tB mg C W (g b) σ H' Q' → tb b σ H' Q') : tB mg C W p σ H fun b H' => tb b σ H' Q := by
  obtain ⟨F, ρ, s, ok, x⟩ := x
  refine ⟨F, ρ, s, ok, ?_⟩
  dsimp only at x
  cases e1 : p ρ with
  | bad => rw [e1] at x; exact x
  | exc c => rw [e1] at x; exact x
  | ok b =>
    rw [e1, R.bind_ok] at x
    intro H1 s1
    refine k b H1 Q ⟨F, ρ, s.tr s1, ok, ?_⟩
    cases e2 : g b ρ with
    | bad => rw [e2] at x; exact x
    | exc c => rw [e2] at x; exact Exc.mono x s1
    | ok b' => rw [e2] at x; exact fun H' s' => x H' (s1.tr s')
theorem tB_c {b : Bool} {σ : L2.St} {H : Hp} {Q : Bool → Hp → Prop} (x : tB mg C W (fun _ => .ok b) σ H Q) : Q b H := by
  obtain ⟨F, ρ, s, ok, x⟩ := x
  exact x H Sm.rfl
theorem w_and1 (ha : PT X a (tB mg C W p)) : PW X (.BoolOp .And [a] pos) (tB mg C W p) := pw_and1 ha
theorem w_or1 (ha : PT X a (tB mg C W p)) : PW X (.BoolOp .Or [a] pos) (tB mg C W p) := pw_or1 ha
theorem w_and (ha : PT X a (tB mg C W p)) (hb : PW X (.BoolOp .And (b :: es) pos) (tB mg C W q)) : PW X (.BoolOp .And (a :: b :: es) pos) (tB mg C W (E.band p q)) :=
  PW.to (pw_and ha hb) fun σ H Q x => seqB (g := fun b ρ => if b then q ρ else .ok false) (tb := fun b σ H Q => if b = true then tB mg C W q σ H Q else Q false H) x fun b H' Q' y => by
    cases b with
    | true => exact y
    | false => exact tB_c y
theorem w_or (ha : PT X a (tB mg C W p)) (hb : PW X (.BoolOp .Or (b :: es) pos) (tB mg C W q)) : PW X (.BoolOp .Or (a :: b :: es) pos) (tB mg C W (E.bor p q)) :=
  PW.to (pw_or ha hb) fun σ H Q x => seqB (g := fun b ρ => if b then .ok true else q ρ) (tb := fun b σ H Q => if b = true then Q true H else tB mg C W q σ H Q) x fun b H' Q' y => by
    cases b with
    | false => exact y
    | true => exact tB_c y
theorem b_w (h : PW X a (tB mg C W p)) : PT X a (tB mg C W p) := h.pt
theorem b_not (ha : PT X a (tB mg C W p)) : PT X (.UnaryOp .Not a pos) (tB mg C W (E.bnot p)) := PT.to (pt_not ha) fun σ H Q x => by
  obtain ⟨F, ρ, s, ok, x⟩ := x
  refine ⟨F, ρ, s, ok, ?_⟩
  unfold E.bnot at x
  cases e1 : p ρ with
  | bad => rw [e1] at x; exact x
  | exc c => rw [e1] at x; exact x
  | ok b => rw [e1] at x; exact x

/-! ### and, or, not, if-else as values -/
theorem seqV {g : Bool → Ev → R D} {σ : L2.St} {H : Hp} {Q : VK} {tb : Bool → TE} (x : tD mg C W (fun ρ => (p ρ).bind fun b => g b ρ) σ H Q)
    (k : ∀ b H' Q', tD mg C W (g b) σ H' Q' → tb b σ H' Q') : tB mg C W p σ H fun b H' => tb b σ H' Q := by
  obtain ⟨F, ρ, s, ok, x⟩ := x
  refine ⟨F, ρ, s, ok, ?_⟩
  dsimp only at x
  cases e1 : p ρ with
  | bad => rw [e1] at x; exact x
  | exc c => rw [e1] at x; exact x
  | ok b =>
    rw [e1, R.bind_ok] at x
    intro H1 s1
    refine k b H1 Q ⟨F, ρ, s.tr s1, ok, ?_⟩
    cases e2 : g b ρ with
    | bad => rw [e2] at x; exact x
    | exc c => rw [e2] at x; exact Exc.mono x s1
    | ok d =>
      rw [e2] at x
      refine fun v H' F' n r => x v H' F' ⟨n.ff, s1.tr n.hh, n.fh, fun y h => ?_⟩ r
      rcases n.new y h with z | z
      · exact .inl z
      · refine .inr ?_
        cases e : H y with
        | none => exact Eq.refl none
        | some o => rw [s1 _ _ e] at z; cases z
theorem tD_c {d : D} {v : V} {σ : L2.St} {H : Hp} {Q : VK} (x : tD mg C W (fun _ => .ok d) σ H Q) (r : ∀ F, Rep C F d v) : Q v H := by
  obtain ⟨F, ρ, s, ok, x⟩ := x
  exact x v H F (.rfl s) (r F)
theorem d_one {op} (ha : PE X a (tD mg C W f)) : PE X (.BoolOp op [a] pos) (tD mg C W f) := pe_one ha
theorem d_and (ha : PE X a (tD mg C W f)) (hb : PE X (.BoolOp .And (b :: es) pos) (tD mg C W h)) : PE X (.BoolOp .And (a :: b :: es) pos) (tD mg C W (E.vand f h)) :=
  PE.to (pe_and ha hb) fun σ H Q x => by
    have y := seqV (p := E.tst f) (g := fun b ρ => if b then h ρ else .ok (.bl false)) (tb := fun b σ H Q => if b = true then tD mg C W h σ H Q else Q (.bl false) H) x fun b H' Q' y => by
      cases b with
      | true => exact y
      | false => exact tD_c y fun F => by simp only [Rep]
    exact seqT y
theorem d_or (ha : PE X a (tD mg C W f)) (hb : PE X (.BoolOp .Or (b :: es) pos) (tD mg C W h)) : PE X (.BoolOp .Or (a :: b :: es) pos) (tD mg C W (E.vor f h)) :=
  PE.to (pe_or ha hb) fun σ H Q x => by
    have y := seqV (p := E.tst f) (g := fun b ρ => if b then .ok (.bl true) else h ρ) (tb := fun b σ H Q => if b = true then Q (.bl true) H else tD mg C W h σ H Q) x fun b H' Q' y => by
      cases b with
      | false => exact y
      | true => exact tD_c y fun F => by simp only [Rep]
    exact seqT y
theorem d_not (ha : PE X a (tD mg C W f)) : PE X (.UnaryOp .Not a pos) (tD mg C W (E.vnot f)) := PE.to (pe_not ha) fun σ H Q x => by
  refine seqT (Q := fun c H1 => Q (.bl (!c)) H1) ?_
  obtain ⟨F, ρ, s, ok, x⟩ := x
  refine ⟨F, ρ, s, ok, ?_⟩
  unfold E.vnot at x
  cases e1 : E.tst f ρ with
  | bad => rw [e1] at x; exact x
  | exc c => rw [e1] at x; exact x
  | ok b =>
    rw [e1] at x
    intro H' s'
    exact x (.bl (!b)) H' F ⟨Sm.rfl, s', s.tr s', fun y h => .inl h⟩ (by simp only [Rep])
theorem d_ite (hc : PT X c (tB mg C W p)) (ha : PE X a (tD mg C W f)) (hb : PE X b (tD mg C W h)) : PE X (.IfExp c a b pos) (tD mg C W (E.ite p f h)) :=
  PE.to (pe_ifExp hc ha hb) fun σ H Q x => seqV (g := fun b ρ => if b then f ρ else h ρ) (tb := fun b σ H Q => if b = true then tD mg C W f σ H Q else tD mg C W h σ H Q) x fun b H' Q' y => by
    cases b with
    | true => exact y
    | false => exact y

/-! ### one operand -/
/-- a reading of one value computes g -/
def Op1 (C : Addr) (g : D → R D) (r : V → Hp → VK → Prop) : Prop := ∀ (x : D) (F H : Hp) (v : V) (Q : VK), Sm F H → Rep C F x v →
  match g x with
  | .ok d => (∀ w H' F', Nx F H F' H' → Rep C F' d w → Q w H') → r v H Q
  | _ => True
def Calm1 (g : D → R D) : Prop := ∀ x c, g x ≠ .exc c
theorem seq1 {g : D → R D} {r : V → Hp → VK → Prop} (hr : Op1 C g r) (hc : Calm1 g) {σ : L2.St} {H : Hp} {Q : VK} (x : tD mg C W (E.un g f) σ H Q) : tD mg C W f σ H fun v H1 => r v H1 Q := by
  obtain ⟨F, ρ, s, ok, x⟩ := x
  refine ⟨F, ρ, s, ok, ?_⟩
  unfold E.un at x
  cases e1 : f ρ with
  | bad => rw [e1] at x; exact x
  | exc c => rw [e1] at x; exact x
  | ok d =>
    rw [e1, R.bind_ok] at x
    intro v H1 F1 n1 r1
    have m := hr d F1 H1 v Q n1.fh r1
    cases e2 : g d with
    | bad => rw [e2] at x; exact x.elim
    | exc c => exact (hc _ _ e2).elim
    | ok d' =>
      rw [e2] at m x
      exact m fun w H' F' n2 r2 => x w H' F' (n1.tr n2) r2
def dNeg : D → R D
  | .int i => .ok (.int (-i))
  | _ => .bad
theorem d_neg (ha : PE X a (tD mg C W f)) : PE X (.UnaryOp .USub a pos) (tD mg C W (E.un dNeg f)) := PE.to (pe_un un_neg ha) fun σ H Q x => seq1 (fun d F H v Q s r => by
    cases d <;> simp only [dNeg] <;> try trivial
    intro q
    simp only [Rep] at r
    exact ⟨_, r, q _ H F (.rfl s) (by simp only [Rep])⟩) (fun d c => by cases d <;> simp only [dNeg] <;> exact fun e => nomatch e) x
/-- is None, is not None -/
def isNon : D → Bool
  | .non => true
  | _ => false
def dIsN (d : D) : R D := .ok (.bl (isNon d))
def dNotN (d : D) : R D := .ok (.bl (!isNon d))
theorem isN_rep {F : Hp} {d : D} {v : V} (r : Rep C F d v) : decide (v = .non) = isNon d := by
  cases d with
  | non => simp only [Rep] at r; subst r; simp [isNon]
  | bl b => simp only [Rep] at r; subst r; simp [isNon]
  | int b => simp only [Rep] at r; subst r; simp [isNon]
  | str b => simp only [Rep] at r; subst r; simp [isNon]
  | lst b => simp only [Rep] at r; obtain ⟨_, _, r, _⟩ := r; subst r; simp [isNon]
  | tup b => simp only [Rep] at r; obtain ⟨_, _, r, _⟩ := r; subst r; simp [isNon]
  | shop _ _ => simp only [Rep] at r; obtain ⟨_, _, _, _, _, _, _, r, _⟩ := r; subst r; simp [isNon]
  | scr b => simp only [Rep] at r; obtain ⟨_, _, r, _⟩ := r; subst r; simp [isNon]
  | exn _ _ => simp only [Rep] at r; subst r; simp [isNon]
  | dic => simp only [Rep] at r; obtain ⟨_, r, _⟩ := r; subst r; simp [isNon]
theorem isN_D : Op1 C dIsN (fun x H Q => Q (.bl (decide (x = .non))) H) := fun d F H v Q s r q => by
  dsimp only
  rw [isN_rep r]
  exact q _ H F (.rfl s) (by simp only [Rep])
theorem notN_D : Op1 C dNotN (fun x H Q => Q (.bl (!decide (x = .non))) H) := fun d F H v Q s r q => by
  dsimp only
  rw [isN_rep r]
  exact q _ H F (.rfl s) (by simp only [Rep])
theorem d_isN {j' pos'} (ha : PE X a (tD mg C W f)) : PE X (.Compare a [.Is] [.Constant .none j' pos'] pos) (tD mg C W (E.un dIsN f)) :=
  PE.to (pe_cmp (pc_isN ha)) fun σ H Q x => seq1 isN_D (fun _ _ e => nomatch e) x
theorem d_notN {j' pos'} (ha : PE X a (tD mg C W f)) : PE X (.Compare a [.IsNot] [.Constant .none j' pos'] pos) (tD mg C W (E.un dNotN f)) :=
  PE.to (pe_cmp (pc_notN ha)) fun σ H Q x => seq1 notN_D (fun _ _ e => nomatch e) x
theorem b_isN {j' pos'} (ha : PE X a (tD mg C W f)) : PT X (.Compare a [.Is] [.Constant .none j' pos'] pos) (tB mg C W (E.tst (E.un dIsN f))) :=
  PT.to (pt_cmp (pc_isN ha)) fun σ H Q x => seq1 isN_D (fun _ _ e => nomatch e) (seqT x)
theorem b_notN {j' pos'} (ha : PE X a (tD mg C W f)) : PT X (.Compare a [.IsNot] [.Constant .none j' pos'] pos) (tB mg C W (E.tst (E.un dNotN f))) :=
  PT.to (pt_cmp (pc_notN ha)) fun σ H Q x => seq1 notN_D (fun _ _ e => nomatch e) (seqT x)

/-! ### arguments, displays -/
theorem a_nil : PA X [] (tA mg C W E.nil) := PA.to pa_nil fun σ H Q x => by
  obtain ⟨F, ρ, s, ok, x⟩ := x
  exact x [] H F (.rfl s) (by simp only [Reps])
theorem a_cons (ha : PE X a (tD mg C W f)) (hr : PA X es (tA mg C W fs)) (hs : starEach (a :: es) X.env = (false, eval a X.env) :: starEach es X.env := by rfl) : PA X (a :: es) (tA mg C W (E.cons f fs)) :=
  PA.to (pa_cons ha hr hs) fun σ H Q x => by
    obtain ⟨F, ρ, s, ok, x⟩ := x
    refine ⟨F, ρ, s, ok, ?_⟩
    unfold E.cons at x
    cases e1 : f ρ with
    | bad => rw [e1] at x; exact x
    | exc c => rw [e1] at x; exact x
    | ok d =>
      rw [e1, R.bind_ok] at x
      intro v H1 F1 n1 r1
      refine ⟨F1, ρ, n1.fh, ok.mono n1.ff, ?_⟩
      cases e2 : fs ρ with
      | bad => rw [e2] at x; exact x
      | exc c => rw [e2] at x; exact Exc.mono x n1.hh
      | ok ds =>
        rw [e2, R.bind_ok] at x
        intro vs H2 F2 n2 r2
        refine x (v :: vs) H2 F2 (n1.tr n2) ?_
        simp only [Reps]
        exact ⟨v, vs, rfl, r1.mono n2.ff, r2⟩
/-- arguments, then a rule on their values -/
def OpA (C : Addr) (g : List D → R D) (r : List V → Hp → VK → Prop) : Prop := ∀ (xs : List D) (F H : Hp) (vs : List V) (Q : VK), Sm F H → Reps C F xs vs →
  match g xs with
  | .ok d => (∀ w H' F', Nx F H F' H' → Rep C F' d w → Q w H') → r vs H Q
  | _ => True
def CalmA (g : List D → R D) : Prop := ∀ x c, g x ≠ .exc c
theorem seqA {g : List D → R D} {r : List V → Hp → VK → Prop} (hr : OpA C g r) (hc : CalmA g) {σ : L2.St} {H : Hp} {Q : VK} (x : tD mg C W (E.app g fs) σ H Q) : tA mg C W fs σ H fun vs H1 => r vs H1 Q := by
  obtain ⟨F, ρ, s, ok, x⟩ := x
  refine ⟨F, ρ, s, ok, ?_⟩
  unfold E.app at x
  cases e1 : fs ρ with
  | bad => rw [e1] at x; exact x
  | exc c => rw [e1] at x; exact x
  | ok ds =>
    rw [e1, R.bind_ok] at x
    intro vs H1 F1 n1 r1
    have m := hr ds F1 H1 vs Q n1.fh r1
    cases e2 : g ds with
    | bad => rw [e2] at x; exact x.elim
    | exc c => exact (hc _ _ e2).elim
    | ok d' =>
      rw [e2] at m x
      exact m fun w H' F' n2 r2 => x w H' F' (n1.tr n2) r2
theorem d_tup {k} (h : PA X es (tA mg C W fs)) : PE X (.Tuple es k pos) (tD mg C W (E.tup fs)) := PE.to (pe_tup h) fun σ H Q x => by
  refine seqA (g := fun ds => if ds.length ≤ LINE then .ok (.tup ds) else .bad) (r := fun xs H1 Q => xs.length ≤ sizeLine ∧ ∀ p, H1 p = none → Q (.ref p) (upd H1 p (.tup xs))) (fun ds F H vs Q s r => ?_) (fun ds c => by dsimp only; split <;> exact fun e => nomatch e) x
  dsimp only
  split
  · rename_i hl
    split at hl
    · rename_i hz
      cases hl
      intro q
      refine ⟨by rw [r.len]; exact line_ok hz, fun p np => q _ _ _ (.add s np) ?_⟩
      simp only [Rep]
      exact ⟨p, vs, rfl, upd_same, Reps.mono (Sm.upd (s.non np)) _ _ r⟩
    · cases hl
  · trivial
/-- a new list, as any value -/
theorem d_ofL (ha : PE X a (tL mg C W fs)) : PE X a (tD mg C W (E.ofL fs)) := PE.to ha fun σ H Q x => by
  obtain ⟨F, ρ, s, ok, x⟩ := x
  refine ⟨F, ρ, s, ok, ?_⟩
  unfold E.ofL at x
  cases e1 : fs ρ with
  | bad => rw [e1] at x; exact x
  | exc c => rw [e1] at x; exact x
  | ok ds =>
    rw [e1] at x
    intro p xs H' F' n hp fp hl r
    refine x (.ref p) H' (upd F' p (.lst xs)) ⟨n.ff.tr (Sm.upd fp), n.hh, fun b o e => ?_, fun b h => ?_⟩ ?_
    · by_cases hb : b = p
      · subst hb; rw [upd_same] at e; cases e; exact hl
      · rw [upd_ne hb] at e; exact n.fh _ _ e
    · by_cases hb : b = p
      · subst hb; exact .inr hp
      · rw [upd_ne hb] at h; exact n.new b h
    · simp only [Rep]
      exact ⟨p, xs, rfl, upd_same, Reps.mono (Sm.upd fp) _ _ r⟩
theorem l_lst (h : PA X es (tA mg C W fs)) : PE X (.List es pos) (tL mg C W (E.lst fs)) := PE.to (pe_lst h) fun σ H Q x => by
  obtain ⟨F, ρ, s, ok, x⟩ := x
  refine ⟨F, ρ, s, ok, ?_⟩
  unfold E.lst at x
  cases e1 : fs ρ with
  | bad => rw [e1] at x; exact x
  | exc c => rw [e1] at x; exact x
  | ok ds =>
    rw [e1, R.bind_ok] at x
    intro vs H1 F1 n1 r1
    split at x
    · rename_i ds' hl
      split at hl
      · rename_i hz
        cases hl
        refine ⟨by rw [r1.len]; exact line_ok hz, fun p np => ?_⟩
        refine x p vs _ F1 (n1.tr (.hid n1.fh np)) ?_ (n1.fh.non np) upd_same r1
        cases e : H p with
        | none => exact Eq.refl none
        | some o => rw [n1.hh _ _ e] at np; cases np
      · cases hl
    · rename_i c hl
      split at hl <;> cases hl
    · exact x.elim
end
end TB
namespace TB
open PySem PySem.Spec PyProof.Rows L2

section
variable {X : Cx} {mg : Str → Option Value} {C : Addr} {W : WX} {e a b c : Expr} {t : TE} {pos : Pos} {f h j : Ev → R D} {p q : Ev → R Bool} {es : List Expr} {fs : Ev → R (List D)}

/-! ### the names of kinds -/
def tyN : D → Option String
  | .non => some "NoneType"
  | .bl _ => some "bool"
  | .int _ => some "int"
  | .str _ => some "str"
  | .lst _ => some "list"
  | .tup _ => some "tuple"
  | .scr _ => some "list"
  | .shop _ _ => none
  | .exn _ _ => none
  | .dic => some "dict"
def subT (t T : String) : Bool := t == T || (t == "bool" && T == "int")
theorem kit_all : ∀ t ∈ ["NoneType", "bool", "int", "str", "list", "tuple", "dict"], ∀ T ∈ ["int", "bool", "str", "list", "tuple"], kitB t T = some (subT t T) := by decide +kernel
def dIsi (T : String) (d : D) : R D := match tyN d with
  | some t => .ok (.bl (subT t T))
  | none => .bad
theorem isi_calm {T : String} : Calm1 (dIsi T) := fun x c => by unfold dIsi; split <;> exact fun e => nomatch e
theorem isi_D {K : PySem.W.Frag} {T : String} (hT : T ∈ ["int", "bool", "str", "list", "tuple"]) : Op1 C (dIsi T) (fun x H Q => rIsi K [x, .ty T] H Q) := by
  intro d F H v Q s r
  have go : ∀ t, TyX K H v (.type t) → t ∈ ["NoneType", "bool", "int", "str", "list", "tuple", "dict"] → (∀ w H' F', Nx F H F' H' → Rep C F' (.bl (subT t T)) w → Q w H') → rIsi K [v, .ty T] H Q := fun t hx ht q =>
    ⟨v, .ty T, .type t, .type T, _, rfl, .ty T, hx, kit_ty (kit_all t ht T hT), q _ H F (.rfl s) (by simp only [Rep])⟩
  cases d with
  | non => simp only [Rep] at r; subst r; exact go _ (.base .non) (by simp)
  | bl _ => simp only [Rep] at r; subst r; exact go _ (.base (.bl _)) (by simp)
  | int _ => simp only [Rep] at r; subst r; exact go _ (.base (.int _)) (by simp)
  | str _ => simp only [Rep] at r; subst r; exact go _ (.base (.str _)) (by simp)
  | lst _ => simp only [Rep] at r; obtain ⟨a, xs, r, h, _⟩ := r; subst r; exact go _ (.base (.lst (s _ _ h))) (by simp)
  | tup _ => simp only [Rep] at r; obtain ⟨a, xs, r, h, _⟩ := r; subst r; exact go _ (.base (.tup (s _ _ h))) (by simp)
  | scr _ => simp only [Rep] at r; obtain ⟨a, o, r, h⟩ := r; subst r; exact go _ (.base (.frz (s _ _ h))) (by simp)
  | shop _ _ => simp only [dIsi, tyN]
  | exn _ _ => simp only [dIsi, tyN]
  | dic => simp only [Rep] at r; obtain ⟨a, r, h⟩ := r; subst r; exact go _ (.base (.dK (s _ _ h))) (by simp)
theorem d_isi {T : Str} {Ts : String} {p1 p2 : Pos} (hT : Ts ∈ ["int", "bool", "str", "list", "tuple"]) (hg : Gl X "isinstance") (hm : X.mg "isinstance" = none) (ht : Gl X T) (hmt : X.mg T = none) (hv : bootBuiltins T = some (.type Ts)) (ha : PE X a (tD mg C W f))
    (he : starEach [a, .Name T p2] X.env = (false, eval a X.env) :: starEach [.Name T p2] X.env := by rfl) (he2 : starEach [.Name T p2] X.env = [(false, eval (.Name T p2) X.env)] := by rfl) (hpl : (backTo pos (starEach [.Name T p2] X.env)).any (·.1) = false := by rfl)
    (hn : T ≠ "__name__" := by decide) (hd : (T == ("__debug__" : Str)) = false := by decide) :
    PE X (.Call (.Name "isinstance" p1) [a, .Name T p2] [] pos) (tD mg C W (E.un (dIsi Ts) f)) := by
  have h2 : PE X (.Name T p2) (tC (.ty Ts)) := pe_bltn ht hmt hv (show L2.RelV (.ty Ts) (.type Ts) from rfl) hn hd
  refine PE.to (pe_callB call_isi hg hm boot_isinstance (pa_cons ha (pa_cons h2 pa_nil he2) he) (by decide) (by decide) he hpl) fun σ H Q x => ?_
  exact seq1 (isi_D (K := X.K) hT) isi_calm x

/-! ### built-ins by name -/
theorem d_callB {id : String} {x : Str} {r : List V → Hp → VK → Prop} {g : List D → R D} {p1 : Pos} (hc : CallR X (.builtin id) r) (hr : OpA C g r) (hcm : CalmA g) (hg : Gl X x) (hm : X.mg x = none) (hv : bootBuiltins x = some (.builtin id)) (ha : PA X (e :: es) (tA mg C W fs))
    (hn : x ≠ "__name__" := by decide) (hdb : (x == ("__debug__" : Str)) = false := by decide)
    (he : starEach (e :: es) X.env = (false, eval e X.env) :: starEach es X.env := by rfl) (hpl : (backTo pos (starEach es X.env)).any (·.1) = false := by rfl) :
    PE X (.Call (.Name x p1) (e :: es) [] pos) (tD mg C W (E.app g fs)) := PE.to (pe_callB hc hg hm hv ha hn hdb he hpl) fun σ H Q x => seqA hr hcm x
theorem d_callT {T : String} {x : Str} {r : List V → Hp → VK → Prop} {g : List D → R D} {p1 : Pos} (hc : CallR X (.type T) r) (hr : OpA C g r) (hcm : CalmA g) (hg : Gl X x) (hm : X.mg x = none) (hv : bootBuiltins x = some (.type T)) (ha : PA X (e :: es) (tA mg C W fs))
    (hn : x ≠ "__name__" := by decide) (hdb : (x == ("__debug__" : Str)) = false := by decide)
    (he : starEach (e :: es) X.env = (false, eval e X.env) :: starEach es X.env := by rfl) (hpl : (backTo pos (starEach es X.env)).any (·.1) = false := by rfl) :
    PE X (.Call (.Name x p1) (e :: es) [] pos) (tD mg C W (E.app g fs)) := PE.to (pe_callTy hc hg hm hv ha hn hdb he hpl) fun σ H Q x => seqA hr hcm x
theorem reps1 {F : Hp} {d : D} {vs : List V} (r : Reps C F [d] vs) : ∃ v, vs = [v] ∧ Rep C F d v := by
  simp only [Reps] at r
  obtain ⟨v, w, e, q, rfl⟩ := r
  exact ⟨v, e, q⟩
theorem reps2 {F : Hp} {d d' : D} {vs : List V} (r : Reps C F [d, d'] vs) : ∃ v u, vs = [v, u] ∧ Rep C F d v ∧ Rep C F d' u := by
  simp only [Reps] at r
  obtain ⟨v, w, e, q, u, w2, rfl, q2, rfl⟩ := r
  exact ⟨v, u, e, q, q2⟩
def dLen : List D → R D
  | [.lst ds] => .ok (.int ds.length)
  | [.tup ds] => .ok (.int ds.length)
  | [.scr ns] => .ok (.int ns.length)
  | [.str x] => if x.length ≤ LINE then .ok (.int x.length) else .bad
  | _ => .bad
theorem len_calm : CalmA dLen := fun x c => by unfold dLen; split <;> (try split) <;> exact fun e => nomatch e
def rLenB (K : PySem.W.Frag) : List V → Hp → VK → Prop := fun xs H Q => (∃ p ys, xs = [.ref p] ∧ (SqL K H p ys ∨ SqT K H p ys) ∧ Q (.int ys.length) H) ∨ (∃ z, xs = [.str z] ∧ z.length ≤ sizeLine ∧ Q (.int z.length) H)
theorem call_lenB : CallR X (.builtin "len") (rLenB X.K) := call_len_seq.or call_len_str
theorem len_D {K : PySem.W.Frag} : OpA C dLen (rLenB K) := by
  intro xs F H vs Q s r
  unfold dLen
  split
  · rename_i hl
    split at hl
    · cases hl
      intro q
      obtain ⟨v, rfl, z⟩ := reps1 r
      simp only [Rep] at z
      obtain ⟨a, ys, rfl, h, z⟩ := z
      refine .inl ⟨a, ys, rfl, .inl (SqL.of (s _ _ h)), ?_⟩
      rw [z.len]
      exact q _ H F (.rfl s) (by simp only [Rep])
    · cases hl
      intro q
      obtain ⟨v, rfl, z⟩ := reps1 r
      simp only [Rep] at z
      obtain ⟨a, ys, rfl, h, z⟩ := z
      refine .inl ⟨a, ys, rfl, .inr (SqT.of (s _ _ h)), ?_⟩
      rw [z.len]
      exact q _ H F (.rfl s) (by simp only [Rep])
    · cases hl
      intro q
      obtain ⟨v, rfl, z⟩ := reps1 r
      simp only [Rep] at z
      obtain ⟨a, o, rfl, h⟩ := z
      refine .inl ⟨a, _, rfl, .inl (.inl (.inr ⟨o, s _ _ h⟩)), ?_⟩
      rw [List.length_map]
      exact q _ H F (.rfl s) (by simp only [Rep])
    · split at hl
      · rename_i hz
        cases hl
        intro q
        obtain ⟨v, rfl, z⟩ := reps1 r
        simp only [Rep] at z
        exact .inr ⟨_, by rw [z], line_ok hz, q _ H F (.rfl s) (by simp only [Rep])⟩
      · cases hl
    · cases hl
  · trivial
/-- int(..) of an int, a truth -/
def dInt : List D → R D
  | [.int i] => .ok (.int i)
  | [.bl b] => .ok (.int (if b then 1 else 0))
  | [.str a] => match PySem.intText? a with
    | some n => if a.length ≤ 640 then .ok (.int n) else .bad
    | none => .bad
  | _ => .bad
theorem int_calm : CalmA dInt := fun x c => by unfold dInt; split <;> (try split) <;> (try split) <;> exact fun e => nomatch e
def rIntB : List V → Hp → VK → Prop := fun xs H Q => ((∃ i, xs = [.int i] ∧ Q (.int i) H) ∨ ∃ k, xs = [.bl k] ∧ Q (.int (if k then 1 else 0)) H) ∨ (∃ a n, xs = [.str a] ∧ PySem.intText? a = some n ∧ a.length ≤ 640 ∧ Q (.int n) H)
theorem call_intB : CallR X (.type "int") rIntB := call_int1.or call_int_str
theorem int_D : OpA C dInt rIntB := by
  intro xs F H vs Q s r
  unfold dInt
  split
  · rename_i hl
    split at hl
    · cases hl
      intro q
      obtain ⟨v, rfl, z⟩ := reps1 r
      simp only [Rep] at z
      exact .inl (.inl ⟨_, by rw [z], q _ H F (.rfl s) (by simp only [Rep])⟩)
    · cases hl
      intro q
      obtain ⟨v, rfl, z⟩ := reps1 r
      simp only [Rep] at z
      exact .inl (.inr ⟨_, by rw [z], q _ H F (.rfl s) (by simp only [Rep])⟩)
    · split at hl
      · rename_i h1
        split at hl
        · rename_i hz
          cases hl
          intro q
          obtain ⟨v, rfl, z⟩ := reps1 r
          simp only [Rep] at z
          exact .inr ⟨_, _, by rw [z], h1, hz, q _ H F (.rfl s) (by simp only [Rep])⟩
        · cases hl
      · cases hl
    · cases hl
  · trivial
/-- two ints to an int -/
def dI2 (g : Int → Int → Int) : List D → R D
  | [.int i, .int j] => .ok (.int (g i j))
  | _ => .bad
theorem I2_calm {g : Int → Int → Int} : CalmA (dI2 g) := fun x c => by unfold dI2; split <;> exact fun e => nomatch e
theorem I2_D {g : Int → Int → Int} : OpA C (dI2 g) (fun xs H Q => ∃ i j, xs = [.int i, .int j] ∧ Q (.int (g i j)) H) := by
  intro xs F H vs Q s r
  unfold dI2
  split
  · rename_i hl
    split at hl
    · cases hl
      intro q
      obtain ⟨v, u, rfl, r1, r2⟩ := reps2 r
      simp only [Rep] at r1 r2
      exact ⟨_, _, by rw [r1, r2], q _ H F (.rfl s) (by simp only [Rep])⟩
    · cases hl
  · trivial
abbrev dMin2 : List D → R D := dI2 fun i j => if j < i then j else i
abbrev dMax2 : List D → R D := dI2 fun i j => if j > i then j else i
def dAbs : List D → R D
  | [.int i] => .ok (.int (if i < 0 then -i else i))
  | _ => .bad
theorem abs_calm : CalmA dAbs := fun x c => by unfold dAbs; split <;> exact fun e => nomatch e
theorem abs_D : OpA C dAbs (fun xs H Q => ∃ i, xs = [.int i] ∧ Q (.int (if i < 0 then -i else i)) H) := by
  intro xs F H vs Q s r
  unfold dAbs
  split
  · rename_i hl
    split at hl
    · cases hl
      intro q
      obtain ⟨v, rfl, z⟩ := reps1 r
      simp only [Rep] at z
      exact ⟨_, by rw [z], q _ H F (.rfl s) (by simp only [Rep])⟩
    · cases hl
  · trivial

/-! ### the ints of a list -/
def intsOf : List D → Option (List Int)
  | [] => some []
  | .int i :: r => (intsOf r).map (i :: ·)
  | _ :: _ => none
theorem intsOf_eq : ∀ {ds : List D} {ns : List Int}, intsOf ds = some ns → ds = ns.map D.int
  | [], ns, h => by simp [intsOf] at h; subst h; rfl
  | d :: ds, ns, h => by
    cases d <;> simp only [intsOf] at h <;> try cases h
    rename_i i
    cases e : intsOf ds with
    | none => rw [e] at h; cases h
    | some ms =>
      rw [e] at h
      cases h
      rw [intsOf_eq e]
      rfl
theorem intsOf_map : ∀ (ns : List Int), intsOf (ns.map D.int) = some ns
  | [] => rfl
  | n :: ns => by simp [intsOf, intsOf_map ns]
def leastI : List Int → Int
  | [] => 0
  | [n] => n
  | n :: m :: r => if leastI (m :: r) < n then leastI (m :: r) else n
theorem leastI_mem : ∀ (ns : List Int), ns ≠ [] → leastI ns ∈ ns ∧ ∀ y ∈ ns, leastI ns ≤ y
  | [], h => absurd rfl h
  | [n], _ => by simp [leastI]
  | n :: m :: r, _ => by
    have ih := leastI_mem (m :: r) (by simp)
    rw [leastI]
    split
    · rename_i h
      refine ⟨List.mem_cons_of_mem _ ih.1, fun y hy => ?_⟩
      rcases List.mem_cons.mp hy with rfl | hy
      · omega
      · exact ih.2 y hy
    · rename_i h
      refine ⟨List.mem_cons_self, fun y hy => ?_⟩
      rcases List.mem_cons.mp hy with rfl | hy
      · omega
      · have := ih.2 y hy
        omega
def dMinL : List D → R D
  | [.lst ds] => match intsOf ds with
    | some (n :: ns) => .ok (.int (leastI (n :: ns)))
    | _ => .bad
  | _ => .bad
theorem minL_calm : CalmA dMinL := fun x c => by unfold dMinL; split <;> (try split) <;> exact fun e => nomatch e
theorem minL_D {K : PySem.W.Frag} : OpA C dMinL (rMin K) := by
  intro xs F H vs Q s r
  unfold dMinL
  split
  · rename_i hl
    split at hl
    · split at hl
      · rename_i n ns h1
        cases hl
        intro q
        obtain ⟨v, rfl, z⟩ := reps1 r
        simp only [Rep] at z
        obtain ⟨a, ys, rfl, h, z⟩ := z
        rw [intsOf_eq h1] at z
        rw [z.ints] at h
        refine ⟨a, n :: ns, rfl, SqL.of (s _ _ h), by simp, fun m hm hle => ?_⟩
        have ex := leastI_mem (n :: ns) (by simp)
        have e1 : m = leastI (n :: ns) := Int.le_antisymm (hle _ ex.1) (ex.2 _ hm)
        rw [e1]
        exact q _ H F (.rfl s) (by simp only [Rep])
      · cases hl
    · cases hl
  · trivial
def dSum : List D → R D
  | [.lst ds] => match intsOf ds with
    | some ns => .ok (.int ns.sum)
    | none => .bad
  | _ => .bad
theorem sum_calm : CalmA dSum := fun x c => by unfold dSum; split <;> (try split) <;> exact fun e => nomatch e
theorem sum_D {K : PySem.W.Frag} : OpA C dSum (rSum K) := by
  intro xs F H vs Q s r
  unfold dSum
  split
  · rename_i hl
    split at hl
    · split at hl
      · rename_i ns h1
        cases hl
        intro q
        obtain ⟨v, rfl, z⟩ := reps1 r
        simp only [Rep] at z
        obtain ⟨a, ys, rfl, h, z⟩ := z
        rw [intsOf_eq h1] at z
        rw [z.ints] at h
        exact ⟨a, ns, rfl, SqL.of (s _ _ h), q _ H F (.rfl s) (by simp only [Rep])⟩
      · cases hl
    · cases hl
  · trivial
/-- tuple(xs) -/
def dTuple : List D → R D
  | [.lst ds] => .ok (.tup ds)
  | [.tup ds] => .ok (.tup ds)
  | _ => .bad
theorem tuple_calm : CalmA dTuple := fun x c => by unfold dTuple; split <;> exact fun e => nomatch e
theorem tuple_D {K : PySem.W.Frag} : OpA C dTuple (fun xs H Q => ∃ p ys, xs = [.ref p] ∧ ((SqL K H p ys ∧ ∀ l, H l = none → Q (.ref l) (upd H l (.tup ys))) ∨ (SqT K H p ys ∧ Q (.ref p) H))) := by
  intro xs F H vs Q s r
  unfold dTuple
  split
  · rename_i hl
    split at hl
    · cases hl
      intro q
      obtain ⟨v, rfl, z⟩ := reps1 r
      simp only [Rep] at z
      obtain ⟨a, ys, rfl, h, z⟩ := z
      refine ⟨a, ys, rfl, .inl ⟨SqL.of (s _ _ h), fun l nl => q _ _ _ (.add s nl) ?_⟩⟩
      simp only [Rep]
      exact ⟨l, ys, rfl, upd_same, Reps.mono (Sm.upd (s.non nl)) _ _ z⟩
    · cases hl
      intro q
      obtain ⟨v, rfl, z⟩ := reps1 r
      simp only [Rep] at z
      obtain ⟨a, ys, rfl, h, z⟩ := z
      refine ⟨a, ys, rfl, .inr ⟨SqT.of (s _ _ h), q _ H F (.rfl s) ?_⟩⟩
      simp only [Rep]
      exact ⟨a, ys, rfl, h, z⟩
    · cases hl
  · trivial
/-- list(xs): a new list -/
def dList : List D → R (List D)
  | [.lst ds] => .ok ds
  | [.tup ds] => .ok ds
  | _ => .bad
namespace E
def appL (g : List D → R (List D)) (f : Ev → R (List D)) : Ev → R (List D) := fun ρ => (f ρ).bind g
end E
/-- arguments, then a rule that makes a new list -/
def OpL (C : Addr) (g : List D → R (List D)) (r : List V → Hp → VK → Prop) : Prop := ∀ (xs : List D) (F H : Hp) (vs : List V) (Q : VK), Sm F H → Reps C F xs vs →
  match g xs with
  | .ok ds => (∀ p ys H' F', Nx F H F' H' → H p = none → F' p = none → H' p = some (.lst ys) → Reps C F' ds ys → Q (.ref p) H') → r vs H Q
  | _ => True
def CalmL (g : List D → R (List D)) : Prop := ∀ x c, g x ≠ .exc c
theorem seqL {g : List D → R (List D)} {r : List V → Hp → VK → Prop} (hr : OpL C g r) (hc : CalmL g) {σ : L2.St} {H : Hp} {Q : VK} (x : tL mg C W (E.appL g fs) σ H Q) : tA mg C W fs σ H fun vs H1 => r vs H1 Q := by
  obtain ⟨F, ρ, s, ok, x⟩ := x
  refine ⟨F, ρ, s, ok, ?_⟩
  unfold E.appL at x
  cases e1 : fs ρ with
  | bad => rw [e1] at x; exact x
  | exc c => rw [e1] at x; exact x
  | ok ds =>
    rw [e1, R.bind_ok] at x
    intro vs H1 F1 n1 r1
    have m := hr ds F1 H1 vs Q n1.fh r1
    cases e2 : g ds with
    | bad => rw [e2] at x; exact x.elim
    | exc c => exact (hc _ _ e2).elim
    | ok d' =>
      rw [e2] at m x
      refine m fun p ys H' F' n2 hp fp hl r2 => x p ys H' F' (n1.tr n2) ?_ fp hl r2
      cases e : H p with
      | none => exact Eq.refl none
      | some o => rw [n1.hh _ _ e] at hp; cases hp
theorem list_calm : CalmL dList := fun x c => by unfold dList; split <;> exact fun e => nomatch e
theorem list_D {K : PySem.W.Frag} : OpL C dList (fun xs H Q => ∃ p ys, xs = [.ref p] ∧ (SqL K H p ys ∨ SqT K H p ys) ∧ ∀ l, H l = none → Q (.ref l) (upd H l (.lst ys))) := by
  intro xs F H vs Q s r
  unfold dList
  split
  · rename_i hl
    split at hl
    · cases hl
      intro q
      obtain ⟨v, rfl, z⟩ := reps1 r
      simp only [Rep] at z
      obtain ⟨a, ys, rfl, h, z⟩ := z
      exact ⟨a, ys, rfl, .inl (SqL.of (s _ _ h)), fun l nl => q _ ys _ F (.hid s nl) nl (s.non nl) upd_same z⟩
    · cases hl
      intro q
      obtain ⟨v, rfl, z⟩ := reps1 r
      simp only [Rep] at z
      obtain ⟨a, ys, rfl, h, z⟩ := z
      exact ⟨a, ys, rfl, .inr (SqT.of (s _ _ h)), fun l nl => q _ ys _ F (.hid s nl) nl (s.non nl) upd_same z⟩
    · cases hl
  · trivial
theorem l_callT {T : String} {x : Str} {r : List V → Hp → VK → Prop} {g : List D → R (List D)} {p1 : Pos} (hc : CallR X (.type T) r) (hr : OpL C g r) (hcm : CalmL g) (hg : Gl X x) (hm : X.mg x = none) (hv : bootBuiltins x = some (.type T)) (ha : PA X (e :: es) (tA mg C W fs))
    (hn : x ≠ "__name__" := by decide) (hdb : (x == ("__debug__" : Str)) = false := by decide)
    (he : starEach (e :: es) X.env = (false, eval e X.env) :: starEach es X.env := by rfl) (hpl : (backTo pos (starEach es X.env)).any (·.1) = false := by rfl) :
    PE X (.Call (.Name x p1) (e :: es) [] pos) (tL mg C W (E.appL g fs)) := PE.to (pe_callTy hc hg hm hv ha hn hdb he hpl) fun σ H Q x => seqL hr hcm x

/-! ### a def of the text -/
/-- the promise: g of the arguments -/
def SpD (mg : Str → Option Value) (C : Addr) (n : Nat) (g : List D → R D) : Sp := fun vs H Q E' => vs.length = n ∧ ∃ F ds, Sm F H ∧ Reps C F ds vs ∧ match g ds with
  | .ok d => ∀ v H' F', Nx F H F' H' → Rep C F' d v → Q v H'
  | .exc c => ∀ a, mg c = some (.ref a) → ∀ H', Sm H H' → E' (.ref a) none H'
  | .bad => False
/-- .. a new list that is handed over -/
def SpL (mg : Str → Option Value) (C : Addr) (n : Nat) (g : List D → R (List D)) : Sp := fun vs H Q E' => vs.length = n ∧ ∃ F ds, Sm F H ∧ Reps C F ds vs ∧ match g ds with
  | .ok ds => ∀ p ys H' F', Nx F H F' H' → H p = none → F' p = none → H' p = some (.lst ys) → Reps C F' ds ys → Q (.ref p) H'
  | .exc c => ∀ a, mg c = some (.ref a) → ∀ H', Sm H H' → E' (.ref a) none H'
  | .bad => False
theorem SpL.d {n : Nat} {g : List D → R (List D)} {vs : List V} {H : Hp} {Q : VK} {E' : XK} (h : SpD mg C n (fun ds => (g ds).map .lst) vs H Q E') : SpL mg C n g vs H Q E' := by
  obtain ⟨hl, F, ds, s, r, x⟩ := h
  refine ⟨hl, F, ds, s, r, ?_⟩
  dsimp only at x
  cases e1 : g ds with
  | bad => rw [e1] at x; exact x
  | exc c => rw [e1] at x; exact x
  | ok ds' =>
    rw [e1] at x
    intro p xs H' F' n hp fp hl r
    refine x (.ref p) H' (upd F' p (.lst xs)) ⟨n.ff.tr (Sm.upd fp), n.hh, fun b o e => ?_, fun b h => ?_⟩ ?_
    · by_cases hb : b = p
      · subst hb; rw [upd_same] at e; cases e; exact hl
      · rw [upd_ne hb] at e; exact n.fh _ _ e
    · by_cases hb : b = p
      · subst hb; exact .inr hp
      · rw [upd_ne hb] at h; exact n.new b h
    · simp only [Rep]
      exact ⟨p, xs, rfl, upd_same, Reps.mono (Sm.upd fp) _ _ r⟩
theorem d_call {k n : Nat} {fa : Addr} {fd : FuncData} {ps : List Str} {g : List D → R D} {x : Str} {p1 : Pos} (Fn : FnOk X.prog X.w X.K X.mg X.base (L2.CX X.prog X.w) k fa fd ps (SpD X.mg C n g)) (hr : Room k X.A) (hg : Gl X x) (hm : X.mg x = some (.ref fa))
    (hk : PySem.W.keepIn X.K (.ref fa) = true) (hb : Binds X.K fd ps []) (hl : (e :: es).length = n) (tk : Takes X W) (ha : PA X (e :: es) (tA X.mg C W fs)) (hfl : ∀ ρ ds, fs ρ = .ok ds → ds.length = n) (hdb : (x == ("__debug__" : Str)) = false := by decide)
    (he : starEach (e :: es) X.env = (false, eval e X.env) :: starEach es X.env := by rfl) (hpl : (backTo pos (starEach es X.env)).any (·.1) = false := by rfl) :
    PE X (.Call (.Name x p1) (e :: es) [] pos) (tD X.mg C W (E.app g fs)) := PE.to (pe_callS Fn hr hg hm hk hb (fun σ => passAt tk σ) ha hdb he hpl) fun σ H Q x => by
  obtain ⟨F, ρ, s, ok, x⟩ := x
  refine ⟨F, ρ, s, ok, ?_⟩
  unfold E.app at x
  cases e1 : fs ρ with
  | bad => rw [e1] at x; exact x
  | exc c => rw [e1] at x; exact x
  | ok ds =>
    rw [e1, R.bind_ok] at x
    intro vs H1 F1 n1 r1
    refine ⟨by rw [r1.len]; exact hfl _ _ e1, F1, ds, n1.fh, r1, ?_⟩
    cases e2 : g ds with
    | bad => rw [e2] at x; exact x.elim
    | exc c => rw [e2] at x; exact fun a ha H' s' => x a ha H' (n1.hh.tr s')
    | ok d' =>
      rw [e2] at x
      exact fun v H' F' n2 r2 => x v H' F' (n1.tr n2) r2
theorem l_call {k n : Nat} {fa : Addr} {fd : FuncData} {ps : List Str} {g : List D → R (List D)} {x : Str} {p1 : Pos} (Fn : FnOk X.prog X.w X.K X.mg X.base (L2.CX X.prog X.w) k fa fd ps (SpL X.mg C n g)) (hr : Room k X.A) (hg : Gl X x) (hm : X.mg x = some (.ref fa))
    (hk : PySem.W.keepIn X.K (.ref fa) = true) (hb : Binds X.K fd ps []) (hl : (e :: es).length = n) (tk : Takes X W) (ha : PA X (e :: es) (tA X.mg C W fs)) (hfl : ∀ ρ ds, fs ρ = .ok ds → ds.length = n) (hdb : (x == ("__debug__" : Str)) = false := by decide)
    (he : starEach (e :: es) X.env = (false, eval e X.env) :: starEach es X.env := by rfl) (hpl : (backTo pos (starEach es X.env)).any (·.1) = false := by rfl) :
    PE X (.Call (.Name x p1) (e :: es) [] pos) (tL X.mg C W (E.appL g fs)) := PE.to (pe_callS Fn hr hg hm hk hb (fun σ => passAt tk σ) ha hdb he hpl) fun σ H Q x => by
  obtain ⟨F, ρ, s, ok, x⟩ := x
  refine ⟨F, ρ, s, ok, ?_⟩
  unfold E.appL at x
  cases e1 : fs ρ with
  | bad => rw [e1] at x; exact x
  | exc c => rw [e1] at x; exact x
  | ok ds =>
    rw [e1, R.bind_ok] at x
    intro vs H1 F1 n1 r1
    refine ⟨by rw [r1.len]; exact hfl _ _ e1, F1, ds, n1.fh, r1, ?_⟩
    cases e2 : g ds with
    | bad => rw [e2] at x; exact x.elim
    | exc c => rw [e2] at x; exact fun a ha H' s' => x a ha H' (n1.hh.tr s')
    | ok d' =>
      rw [e2] at x
      refine fun p ys H' F' n2 hp fp hl r2 => x p ys H' F' (n1.tr n2) ?_ fp hl r2
      cases e : H p with
      | none => exact Eq.refl none
      | some o => rw [n1.hh _ _ e] at hp; cases hp
theorem nil_len : ∀ (ρ : Ev) ds, E.nil ρ = .ok ds → ds.length = 0 := fun ρ ds h => by cases h; rfl
theorem cons_len {n : Nat} (hn : ∀ ρ ds, fs ρ = .ok ds → ds.length = n) : ∀ (ρ : Ev) ds, E.cons f fs ρ = .ok ds → ds.length = n + 1 := fun ρ ds h => by
  unfold E.cons at h
  cases e1 : f ρ with
  | bad => rw [e1] at h; cases h
  | exc c => rw [e1] at h; cases h
  | ok d =>
    rw [e1, R.bind_ok] at h
    cases e2 : fs ρ with
    | bad => rw [e2] at h; cases h
    | exc c => rw [e2] at h; cases h
    | ok ds' =>
      rw [e2] at h
      cases h
      simp [hn _ _ e2]
end
end TB
namespace TB
open PySem PySem.Spec PyProof.Rows L2

/-! ### what is walked -/
structure ItD (C : Addr) (J : It) (F0 : Hp) (ds : List D) : Prop where
  go : ∀ i H, Sm F0 H → i < ds.length → J.go i H
  stop : ∀ i H, Sm F0 H → ds.length = i → J.stop i H
  yld : ∀ i H F x H', Sm F0 F → Sm F H → J.yld i H x H' → i < ds.length → ∃ F' d, ds[i]? = some d ∧ Nx F H F' H' ∧ Rep C F' d x
theorem at_lt {α : Type} {l : List α} {i : Nat} (h : i < l.length) : ∃ x, l[i]? = some x := ⟨l[i], by simp [h]⟩
theorem itd_list {C : Addr} {K : PySem.W.Frag} {F0 : Hp} {a : Addr} {xs : List V} {ds : List D} (h : F0 a = some (.lst xs)) (r : Reps C F0 ds xs) : ItD C (Itl K a) F0 ds where
  go := fun i H s hi => by
    obtain ⟨x, e⟩ := at_lt (show i < xs.length by rw [r.len]; exact hi)
    exact ⟨xs, x, SqL.of (s _ _ h), e⟩
  stop := fun i H s hi0 => have hi := Nat.le_of_eq hi0; ⟨xs, SqL.of (s _ _ h), by rw [r.len]; exact hi⟩
  yld := fun i H F x H' s0 s y hi => by
    obtain ⟨rfl, y⟩ := y
    obtain ⟨d, e⟩ := at_lt hi
    obtain ⟨v, e2, r2⟩ := r.get e
    have e3 := y xs (SqL.of (s _ _ (s0 _ _ h)))
    rw [e2] at e3
    cases e3
    exact ⟨F, d, e, .rfl s, r2.mono s0⟩
theorem itd_tup {C : Addr} {K : PySem.W.Frag} {F0 : Hp} {a : Addr} {xs : List V} {ds : List D} (h : F0 a = some (.tup xs)) (r : Reps C F0 ds xs) : ItD C (Itt K a) F0 ds where
  go := fun i H s hi => by
    obtain ⟨x, e⟩ := at_lt (show i < xs.length by rw [r.len]; exact hi)
    exact ⟨xs, x, SqT.of (s _ _ h), e⟩
  stop := fun i H s hi0 => have hi := Nat.le_of_eq hi0; ⟨xs, SqT.of (s _ _ h), by rw [r.len]; exact hi⟩
  yld := fun i H F x H' s0 s y hi => by
    obtain ⟨rfl, y⟩ := y
    obtain ⟨d, e⟩ := at_lt hi
    obtain ⟨v, e2, r2⟩ := r.get e
    have e3 := y xs (SqT.of (s _ _ (s0 _ _ h)))
    rw [e2] at e3
    cases e3
    exact ⟨F, d, e, .rfl s, r2.mono s0⟩
theorem itd_scr {C : Addr} {K : PySem.W.Frag} {F0 : Hp} {a : Addr} {o : Obj} {ns : List Int} (h : F0 a = some (.frz o (.lst (ns.map V.int)))) : ItD C (Itl K a) F0 (ns.map .int) where
  go := fun i H s hi => by
    rw [List.length_map] at hi
    obtain ⟨x, e⟩ := at_lt (show i < (ns.map V.int).length by rw [List.length_map]; exact hi)
    exact ⟨_, x, .inl (.inr ⟨o, s _ _ h⟩), e⟩
  stop := fun i H s hi0 => have hi := Nat.le_of_eq hi0; ⟨_, .inl (.inr ⟨o, s _ _ h⟩), by rw [List.length_map] at hi ⊢; exact hi⟩
  yld := fun i H F x H' s0 s y hi => by
    obtain ⟨rfl, y⟩ := y
    rw [List.length_map] at hi
    obtain ⟨n, e⟩ := at_lt hi
    have e3 := y _ (.inl (.inr ⟨o, s _ _ (s0 _ _ h)⟩))
    rw [List.getElem?_map, e] at e3
    cases e3
    exact ⟨F, .int n, by rw [List.getElem?_map, e]; rfl, .rfl s, by simp only [Rep]⟩
/-- lo, lo + 1, .. -/
def upTo (lo : Int) (n : Nat) : List D := (List.range n).map fun (i : Nat) => .int (lo + i)
theorem itd_range {C : Addr} {F0 : Hp} {lo : Int} {n : Nat} : ItD C (Itr lo n) F0 (upTo lo n) where
  go := fun i H s hi => show i < n by simpa [upTo] using hi
  stop := fun i H s hi0 => have hi := Nat.le_of_eq hi0; show n ≤ i by simpa [upTo] using hi
  yld := fun i H F x H' s0 s y hi => by
    obtain ⟨rfl, rfl⟩ := y
    have hi' : i < n := by simpa [upTo] using hi
    exact ⟨F, .int (lo + i), by simp [upTo, hi'], .rfl s, by simp only [Rep]⟩
def upBy (lo c : Int) (n : Nat) : List D := (List.range n).map fun (i : Nat) => .int (lo + i * c)
theorem itd_rangeC {C : Addr} {F0 : Hp} {lo c : Int} {n : Nat} : ItD C (Itc lo c n) F0 (upBy lo c n) where
  go := fun i H s hi => show i < n by simpa [upBy] using hi
  stop := fun i H s hi0 => have hi := Nat.le_of_eq hi0; show n ≤ i by simpa [upBy] using hi
  yld := fun i H F x H' s0 s y hi => by
    obtain ⟨rfl, rfl⟩ := y
    have hi' : i < n := by simpa [upBy] using hi
    exact ⟨F, .int (lo + i * c), by simp [upBy, hi'], .rfl s, by simp only [Rep]⟩
/-- the signs of a text -/
def signs (x : Str) : List D := x.cps.toList.map fun c => .str ⟨#[c]⟩
theorem itd_str {C : Addr} {F0 : Hp} {x : Str} : ItD C (Its x) F0 (signs x) where
  go := fun i H s hi => show i < x.cps.size by simpa [signs] using hi
  stop := fun i H s hi0 => have hi := Nat.le_of_eq hi0; show x.cps.size ≤ i by simpa [signs] using hi
  yld := fun i H F v H' s0 s y hi => by
    obtain ⟨rfl, c, e, rfl⟩ := y
    refine ⟨F, .str ⟨#[c]⟩, ?_, .rfl s, by simp only [Rep]⟩
    simp [signs, e]
/-- pairs -/
def pairs : List D → List D → List D := List.zipWith fun a b => .tup [a, b]
theorem Rep.pair {C : Addr} {H : Hp} {p : Addr} {x y : D} {v u : V} (n : H p = none) (r : Rep C H x v) (t : Rep C H y u) : Rep C (upd H p (.tup [v, u])) (.tup [x, y]) (.ref p) := by
  simp only [Rep, Reps]
  exact ⟨p, _, rfl, upd_same, v, _, rfl, r.mono (Sm.upd n), u, _, rfl, t.mono (Sm.upd n), rfl⟩
theorem pairs_at {ds es : List D} {i : Nat} {d e : D} (h : ds[i]? = some d) (k : es[i]? = some e) : (pairs ds es)[i]? = some (.tup [d, e]) := by
  simp [pairs, List.getElem?_zipWith, h, k]
theorem itd_zip {C : Addr} {K : PySem.W.Frag} {F0 : Hp} {a b : Addr} {xs ys : List V} {ds es : List D} (h : F0 a = some (.lst xs)) (r : Reps C F0 ds xs) (k : F0 b = some (.lst ys)) (t : Reps C F0 es ys) : ItD C (Itz K a b) F0 (pairs ds es) where
  go := fun i H s hi => by
    have hi' : i < ds.length ∧ i < es.length := by simpa [pairs, Nat.lt_min] using hi
    obtain ⟨x, e⟩ := at_lt (show i < xs.length by rw [r.len]; exact hi'.1)
    obtain ⟨y, e'⟩ := at_lt (show i < ys.length by rw [t.len]; exact hi'.2)
    exact ⟨xs, ys, x, y, SqL.of (s _ _ h), SqL.of (s _ _ k), e, e'⟩
  stop := fun i H s hi0 => have hi := Nat.le_of_eq hi0; by
    refine ⟨xs, ys, SqL.of (s _ _ h), SqL.of (s _ _ k), ?_⟩
    rw [r.len, t.len]
    have : min ds.length es.length ≤ i := by simpa [pairs] using hi
    omega
  yld := fun i H F v H' s0 s y hi => by
    obtain ⟨T, x, y', rfl, nT, rfl, f1, f2⟩ := y
    have hi' : i < ds.length ∧ i < es.length := by simpa [pairs, Nat.lt_min] using hi
    obtain ⟨d, e1⟩ := at_lt hi'.1
    obtain ⟨e, e2⟩ := at_lt hi'.2
    obtain ⟨u, g1, r1⟩ := r.get e1
    obtain ⟨w, g2, r2⟩ := t.get e2
    have q1 := f1 xs (SqL.of (s _ _ (s0 _ _ h)))
    have q2 := f2 ys (SqL.of (s _ _ (s0 _ _ k)))
    rw [g1] at q1
    rw [g2] at q2
    cases q1
    cases q2
    exact ⟨_, _, pairs_at e1 e2, .add s nT, Rep.pair (s.non nT) (r1.mono s0) (r2.mono s0)⟩
/-- with their places -/
def numbered (ds : List D) : List D := pairs ((List.range ds.length).map fun (i : Nat) => .int i) ds
theorem itd_enum {C : Addr} {K : PySem.W.Frag} {F0 : Hp} {a : Addr} {xs : List V} {ds : List D} (h : F0 a = some (.lst xs)) (r : Reps C F0 ds xs) : ItD C (Ite K a) F0 (numbered ds) where
  go := fun i H s hi => by
    have hi' : i < ds.length := by simpa [numbered, pairs] using hi
    obtain ⟨x, e⟩ := at_lt (show i < xs.length by rw [r.len]; exact hi')
    exact ⟨xs, x, SqL.of (s _ _ h), e⟩
  stop := fun i H s hi0 => have hi := Nat.le_of_eq hi0; ⟨xs, SqL.of (s _ _ h), by rw [r.len]; simpa [numbered, pairs] using hi⟩
  yld := fun i H F v H' s0 s y hi => by
    obtain ⟨T, x, rfl, nT, rfl, f1⟩ := y
    have hi' : i < ds.length := by simpa [numbered, pairs] using hi
    obtain ⟨d, e1⟩ := at_lt hi'
    obtain ⟨u, g1, r1⟩ := r.get e1
    have q1 := f1 xs (SqL.of (s _ _ (s0 _ _ h)))
    rw [g1] at q1
    cases q1
    exact ⟨_, _, pairs_at (d := .int i) (by simp [hi']) e1, .add s nT, Rep.pair (s.non nT) (by simp only [Rep]) (r1.mono s0)⟩
theorem itd_rev {C : Addr} {K : PySem.W.Frag} {F0 : Hp} {a : Addr} {xs : List V} {ds : List D} (h : F0 a = some (.lst xs)) (r : Reps C F0 ds xs) : ItD C (Itv K a xs.length) F0 ds.reverse where
  go := fun i H s hi => by
    have hi' : i < xs.length := by rw [r.len]; simpa using hi
    obtain ⟨x, e⟩ := at_lt (show xs.length - 1 - i < xs.length by omega)
    exact ⟨hi', xs, x, SqL.of (s _ _ h), e⟩
  stop := fun i H s hi0 => have hi := Nat.le_of_eq hi0; by
    show xs.length ≤ i
    rw [r.len]
    simpa using hi
  yld := fun i H F v H' s0 s y hi => by
    obtain ⟨rfl, f1⟩ := y
    have hi' : i < ds.length := by simpa using hi
    obtain ⟨d, e1⟩ := at_lt (show ds.length - 1 - i < ds.length by omega)
    obtain ⟨u, g1, r1⟩ := r.get e1
    have q1 := f1 xs (SqL.of (s _ _ (s0 _ _ h)))
    rw [r.len, g1] at q1
    cases q1
    exact ⟨F, d, by rw [List.getElem?_reverse hi']; exact e1, .rfl s, r1.mono s0⟩

section
variable (mg : Str → Option Value) (C : Addr) (W : WX)
/-- what is walked: the items -/
def tI (f : Ev → R (List D)) : TI := fun σ H R => ∃ F ρ, Sm F H ∧ SlOk C F σ ρ ∧ match f ρ with
  | .ok ds => ∀ J H' F', Nx F H F' H' → ItD C J F' ds → R J H'
  | .exc c => Exc mg W c σ H
  | .bad => False
end
def dIter : D → R (List D)
  | .lst ds => .ok ds
  | .tup ds => .ok ds
  | .str x => .ok (signs x)
  | .scr ns => .ok (ns.map .int)
  | _ => .bad
namespace E
def iter (f : Ev → R D) : Ev → R (List D) := fun ρ => (f ρ).bind dIter
def iterA (g : List D → R (List D)) (f : Ev → R (List D)) : Ev → R (List D) := fun ρ => (f ρ).bind g
end E
section
variable {X : Cx} {mg : Str → Option Value} {C : Addr} {W : WX} {e a b c tg : Expr} {t : TE} {pos : Pos} {f h j : Ev → R D} {p q : Ev → R Bool} {es : List Expr} {fs : Ev → R (List D)}
theorem PI.to {wi wi' : TI} (h : PI X tg e wi) (k : ∀ σ H Q, wi' σ H Q → wi σ H Q) : PI X tg e wi' := ⟨fun pins s σ H Q I q => h.run pins s σ H Q I (k σ H Q q)⟩
theorem i_dyn (he : PE X e (tD mg C W f)) : PI X tg e (tI mg C W (E.iter f)) := by
  refine ⟨fun pins s σ H Q I x => ?_⟩
  obtain ⟨F, ρ, sm, ok, x⟩ := x
  unfold E.iter at x
  cases e1 : f ρ with
  | bad => rw [e1] at x; exact x.elim
  | exc c =>
    rw [e1] at x
    exact (pi_list he).run pins s σ H Q I ⟨F, ρ, sm, ok, by rw [e1]; exact x⟩
  | ok d =>
    rw [e1, R.bind_ok] at x
    cases d with
    | lst ds =>
      refine (pi_list he).run pins s σ H Q I ⟨F, ρ, sm, ok, ?_⟩
      rw [e1]
      intro v H' F' n r
      simp only [Rep] at r
      obtain ⟨a, xs, rfl, h1, r⟩ := r
      exact ⟨a, rfl, ⟨xs, SqL.of (n.fh _ _ h1)⟩, x _ H' F' n (itd_list h1 r)⟩
    | tup ds =>
      refine (pi_tup he).run pins s σ H Q I ⟨F, ρ, sm, ok, ?_⟩
      rw [e1]
      intro v H' F' n r
      simp only [Rep] at r
      obtain ⟨a, xs, rfl, h1, r⟩ := r
      exact ⟨a, rfl, ⟨xs, SqT.of (n.fh _ _ h1)⟩, x _ H' F' n (itd_tup h1 r)⟩
    | str y =>
      refine (pi_str he).run pins s σ H Q I ⟨F, ρ, sm, ok, ?_⟩
      rw [e1]
      intro v H' F' n r
      simp only [Rep] at r
      exact ⟨y, r, x _ H' F' n itd_str⟩
    | scr ns =>
      refine (pi_list he).run pins s σ H Q I ⟨F, ρ, sm, ok, ?_⟩
      rw [e1]
      intro v H' F' n r
      simp only [Rep] at r
      obtain ⟨a, o, rfl, h1⟩ := r
      exact ⟨a, rfl, ⟨_, .inl (.inr ⟨o, n.fh _ _ h1⟩)⟩, x _ H' F' n (itd_scr h1)⟩
    | _ => exact x.elim
theorem seqI {g : List D → R (List D)} {r : List V → Hp → (It → Hp → Prop) → Prop} (hr : ∀ xs F H vs Q, Sm F H → Reps C F xs vs → match g xs with
      | .ok ds => (∀ J, ItD C J F ds → Q J H) → r vs H Q
      | _ => True) (hc : ∀ x c, g x ≠ .exc c) {σ : L2.St} {H : Hp} {Q : It → Hp → Prop} (x : tI mg C W (E.iterA g fs) σ H Q) : tA mg C W fs σ H fun vs H1 => r vs H1 Q := by
  obtain ⟨F, ρ, s, ok, x⟩ := x
  refine ⟨F, ρ, s, ok, ?_⟩
  unfold E.iterA at x
  cases e1 : fs ρ with
  | bad => rw [e1] at x; exact x
  | exc c => rw [e1] at x; exact x
  | ok ds =>
    rw [e1, R.bind_ok] at x
    intro vs H1 F1 n1 r1
    have m := hr ds F1 H1 vs Q n1.fh r1
    cases e2 : g ds with
    | bad => rw [e2] at x; exact x.elim
    | exc c => exact (hc _ _ e2).elim
    | ok d' =>
      rw [e2] at m x
      exact m fun J it => x J H1 F1 n1 it
def dRange1 : List D → R (List D)
  | [.int n] => if -(2 ^ 62) ≤ n ∧ n < 2 ^ 62 then .ok (upTo 0 n.toNat) else .bad
  | _ => .bad
theorem i_range1 {p1 : Pos} (hg : Gl X "range") (hm : X.mg "range" = none) (ha : PA X [a] (tA mg C W fs)) (hs : starEach [a] X.env = [(false, eval a X.env)] := by rfl) : PI X tg (.Call (.Name "range" p1) [a] [] pos) (tI mg C W (E.iterA dRange1 fs)) :=
  PI.to (pi_range1 hg hm ha hs) fun σ H Q x => seqI (r := fun vs H1 R => ∃ j : Int, vs = [V.int j] ∧ -(2 ^ 62) ≤ j ∧ j < 2 ^ 62 ∧ R (Itr 0 j.toNat) H1) (fun xs F H vs Q s r => by
    unfold dRange1
    split
    · rename_i hl
      split at hl
      · split at hl
        · rename_i hz
          cases hl
          intro q
          obtain ⟨v, rfl, z⟩ := reps1 r
          simp only [Rep] at z
          exact ⟨_, by rw [z], hz.1, hz.2, q _ itd_range⟩
        · cases hl
      · cases hl
    · trivial) (fun x c => by unfold dRange1; split <;> (try split) <;> exact fun e => nomatch e) x
def dRange2 : List D → R (List D)
  | [.int m, .int n] => if -(2 ^ 62) ≤ m ∧ m < 2 ^ 62 ∧ -(2 ^ 62) ≤ n ∧ n < 2 ^ 62 then .ok (upTo m (n - m).toNat) else .bad
  | _ => .bad
theorem i_range2 {p1 : Pos} (hg : Gl X "range") (hm : X.mg "range" = none) (ha : PA X [a, b] (tA mg C W fs)) (hs : starEach [a, b] X.env = [(false, eval a X.env), (false, eval b X.env)] := by rfl) (hs2 : starEach [b] X.env = [(false, eval b X.env)] := by rfl) :
    PI X tg (.Call (.Name "range" p1) [a, b] [] pos) (tI mg C W (E.iterA dRange2 fs)) :=
  PI.to (pi_range2 hg hm ha hs hs2) fun σ H Q x => seqI (r := fun vs H1 R => ∃ i j : Int, vs = [V.int i, V.int j] ∧ (-(2 ^ 62) ≤ i ∧ i < 2 ^ 62 ∧ -(2 ^ 62) ≤ j ∧ j < 2 ^ 62) ∧ R (Itr i (j - i).toNat) H1) (fun xs F H vs Q s r => by
    unfold dRange2
    split
    · rename_i hl
      split at hl
      · split at hl
        · rename_i hz
          cases hl
          intro q
          obtain ⟨v, u, rfl, z1, z2⟩ := reps2 r
          simp only [Rep] at z1 z2
          exact ⟨_, _, by rw [z1, z2], hz, q _ itd_range⟩
        · cases hl
      · cases hl
    · trivial) (fun x c => by unfold dRange2; split <;> (try split) <;> exact fun e => nomatch e) x
def dEnum : List D → R (List D)
  | [.lst ds] => .ok (numbered ds)
  | _ => .bad
theorem i_enum {p1 tpos : Pos} {elts : List Expr} {kk : Nat} (hg : Gl X "enumerate") (hm : X.mg "enumerate" = none) (ha : PA X [a] (tA mg C W fs)) (hs : starEach [a] X.env = [(false, eval a X.env)] := by rfl) :
    PI X (.Tuple elts kk tpos) (.Call (.Name "enumerate" p1) [a] [] pos) (tI mg C W (E.iterA dEnum fs)) :=
  PI.to (pi_enum hg hm ha hs) fun σ H Q x => seqI (r := fun vs H1 R => ∃ a xs, vs = [V.ref a] ∧ SqL X.K H1 a xs ∧ R (Ite X.K a) H1) (fun xs F H vs Q s r => by
    unfold dEnum
    split
    · rename_i hl
      split at hl
      · cases hl
        intro q
        obtain ⟨v, rfl, z⟩ := reps1 r
        simp only [Rep] at z
        obtain ⟨a, ys, rfl, h, z⟩ := z
        exact ⟨a, ys, rfl, SqL.of (s _ _ h), q _ (itd_enum h z)⟩
      · cases hl
    · trivial) (fun x c => by unfold dEnum; split <;> (try split) <;> exact fun e => nomatch e) x
def dRev : List D → R (List D)
  | [.lst ds] => .ok ds.reverse
  | _ => .bad
theorem i_rev {p1 : Pos} (hg : Gl X "reversed") (hm : X.mg "reversed" = none) (ha : PA X [a] (tA mg C W fs)) (hs : starEach [a] X.env = [(false, eval a X.env)] := by rfl) : PI X tg (.Call (.Name "reversed" p1) [a] [] pos) (tI mg C W (E.iterA dRev fs)) :=
  PI.to (pi_reversed hg hm ha hs) fun σ H Q x => seqI (r := fun vs H1 R => ∃ (a : Addr) (xs : List V), vs = [V.ref a] ∧ SqL X.K H1 a xs ∧ R (Itv X.K a xs.length) H1) (fun xs F H vs Q s r => by
    unfold dRev
    split
    · rename_i hl
      split at hl
      · cases hl
        intro q
        obtain ⟨v, rfl, z⟩ := reps1 r
        simp only [Rep] at z
        obtain ⟨a, ys, rfl, h, z⟩ := z
        exact ⟨a, ys, rfl, SqL.of (s _ _ h), q _ (itd_rev h z)⟩
      · cases hl
    · trivial) (fun x c => by unfold dRev; split <;> (try split) <;> exact fun e => nomatch e) x
def dZipL : List D → R (List D)
  | [.lst ds, .lst es] => .ok (pairs ds es)
  | _ => .bad
theorem i_zipL {p1 tpos : Pos} {elts : List Expr} {kk : Nat} (hg : Gl X "zip") (hm : X.mg "zip" = none) (ha : PA X [a, b] (tA mg C W fs))
    (hs : starEach [a, b] X.env = (false, eval a X.env) :: starEach [b] X.env := by rfl) (hpl : (backTo pos (starEach [b] X.env)).any (·.1) = false := by rfl) :
    PI X (.Tuple elts kk tpos) (.Call (.Name "zip" p1) [a, b] [] pos) (tI mg C W (E.iterA dZipL fs)) :=
  PI.to (pi_zip hg hm ha hs hpl) fun σ H Q x => seqI (r := fun vs H1 R => ∃ a b xs ys, vs = [V.ref a, V.ref b] ∧ SqL X.K H1 a xs ∧ SqL X.K H1 b ys ∧ R (Itz X.K a b) H1) (fun xs F H vs Q s r => by
    unfold dZipL
    split
    · rename_i hl
      split at hl
      · cases hl
        intro q
        obtain ⟨v, u, rfl, z1, z2⟩ := reps2 r
        simp only [Rep] at z1 z2
        obtain ⟨a1, xs1, rfl, h1, z1⟩ := z1
        obtain ⟨a2, xs2, rfl, h2, z2⟩ := z2
        exact ⟨a1, a2, xs1, xs2, rfl, SqL.of (s _ _ h1), SqL.of (s _ _ h2), q _ (itd_zip h1 z1 h2 z2)⟩
      · cases hl
    · trivial) (fun x c => by unfold dZipL; split <;> (try split) <;> exact fun e => nomatch e) x
end
end TB
namespace TB
open PySem PySem.Spec PyProof.Rows L2

/-! ### targets -/
abbrev Pv (C : Addr) (F : Hp) : List (Nat × D) → List (Nat × V) → Prop := Paired fun p q => p.1 = q.1 ∧ Rep C F p.2 q.2
def setV : List (Nat × V) → L2.St → L2.St
  | [], σ => σ
  | p :: ps, σ => setV ps (σ.set p.1 (some p.2))
def setD : List (Nat × D) → Ev → Ev
  | [], ρ => ρ
  | p :: ps, ρ => setD ps (ρ.set p.1 (.sh p.2))
theorem Pv.mono {C : Addr} {F F' : Hp} (s : Sm F F') : ∀ {ps us}, Pv C F ps us → Pv C F' ps us
  | _, _, .nil => .nil
  | _, _, .cons r t => .cons ⟨r.1, r.2.mono s⟩ (Pv.mono s t)
theorem Pv.app {C : Addr} {F : Hp} : ∀ {ps us qs ws}, Pv C F ps us → Pv C F qs ws → Pv C F (ps ++ qs) (us ++ ws)
  | _, _, _, _, .nil, s => s
  | _, _, _, _, .cons r t, s => .cons r (Pv.app t s)
theorem setV_app : ∀ (us ws : List (Nat × V)) (σ : L2.St), setV (us ++ ws) σ = setV ws (setV us σ)
  | [], _, _ => rfl
  | u :: us, ws, σ => setV_app us ws _
theorem SlOk.set1 {C : Addr} {F : Hp} {σ : L2.St} {ρ : Ev} {i : Nat} {d : D} {v : V} (h : SlOk C F σ ρ) (r : Rep C F d v) : SlOk C F (σ.set i (some v)) (ρ.set i (.sh d)) := by
  refine ⟨by simpa using h.1, fun j e q => ?_⟩
  by_cases hj : i = j
  · subst hj
    have hl : i < ρ.length := by
      have := (List.getElem?_eq_some_iff.mp q).1
      simpa using this
    rw [List.getElem?_set_self hl] at q
    cases q
    exact ⟨v, List.getElem?_set_self (by rw [← h.1]; exact hl), r⟩
  · rw [List.getElem?_set_ne hj] at q ⊢
    exact h.2 j e q
theorem SlOk.sets {C : Addr} {F : Hp} : ∀ {ps us} {σ : L2.St} {ρ : Ev}, SlOk C F σ ρ → Pv C F ps us → SlOk C F (setV us σ) (setD ps ρ)
  | _, _, _, _, h, .nil => h
  | _, _, σ, ρ, h, .cons (a := p) (b := q) r t => by
    show SlOk C F (setV _ (σ.set q.1 (some q.2))) (setD _ (ρ.set p.1 (.sh p.2)))
    rw [← r.1]
    exact SlOk.sets (h.set1 r.2) t
section
variable (C : Addr)
def tG (g : D → R (List (Nat × D))) : TG := fun v σ H Q => ∃ F d, Sm F H ∧ Rep C F d v ∧ match g d with
  | .ok ps => ∀ us, Pv C F ps us → Q (setV us σ) H
  | _ => False
def tGs (g : List D → R (List (Nat × D))) : TGs := fun vs σ H Q => ∃ F ds, Sm F H ∧ Reps C F ds vs ∧ match g ds with
  | .ok ps => ∀ us, Pv C F ps us → Q (setV us σ) H
  | _ => False
end
namespace G
def one (i : Nat) : D → R (List (Nat × D)) := fun d => .ok [(i, d)]
def nil : List D → R (List (Nat × D))
  | [] => .ok []
  | _ => .bad
def cons (g : D → R (List (Nat × D))) (h : List D → R (List (Nat × D))) : List D → R (List (Nat × D))
  | d :: ds => (g d).bind fun ps => (h ds).bind fun qs => .ok (ps ++ qs)
  | [] => .bad
def tup (n : Nat) (h : List D → R (List (Nat × D))) : D → R (List (Nat × D))
  | .tup ds => if ds.length = n then h ds else .bad
  | _ => .bad
end G
section
variable {X : Cx} {mg : Str → Option Value} {C : Addr} {W : WX} {e a b c tg : Expr} {t : TE} {pos : Pos} {f h j : Ev → R D} {p q : Ev → R Bool} {es : List Expr} {fs : Ev → R (List D)} {g : D → R (List (Nat × D))} {gs : List D → R (List (Nat × D))}
theorem PG.to {t u : TG} (h : PG X e t) (k : ∀ v σ H Q, u v σ H Q → t v σ H Q) : PG X e u := ⟨fun pins s σ H v w Q I r q => h.run pins s σ H v w Q I r (k v σ H Q q)⟩
theorem PGs.to {t u : TGs} (h : PGs X es t) (k : ∀ v σ H Q, u v σ H Q → t v σ H Q) : PGs X es u := ⟨fun pins s σ H v w Q I r q => h.run pins s σ H v w Q I r (k v σ H Q q)⟩
theorem g_one {i : Nat} (hg : PG X e (gName i)) : PG X e (tG C (G.one i)) := PG.to hg fun v σ H Q x => by
  obtain ⟨F, d, s, r, x⟩ := x
  exact x [(i, v)] (.cons ⟨rfl, r⟩ .nil)
theorem g_nil : PGs X [] (tGs C G.nil) := PGs.to pgs_nil fun v σ H Q x => by
  obtain ⟨F, d, s, r, x⟩ := x
  cases d with
  | nil => simp only [Reps] at r; exact ⟨r, x [] .nil⟩
  | cons _ _ => exact x.elim
theorem g_cons (h1 : PG X e (tG C g)) (h2 : PGs X es (tGs C gs)) (hs : (assignEach (e :: es) X.env).map (·.2) = assign e X.env :: (assignEach es X.env).map (·.2) := by rfl) : PGs X (e :: es) (tGs C (G.cons g gs)) :=
  PGs.to (pgs_cons h1 h2 hs) fun v σ H Q x => by
    obtain ⟨F, ds, s, r, x⟩ := x
    cases ds with
    | nil => exact x.elim
    | cons d ds =>
      simp only [Reps] at r
      obtain ⟨u, w, rfl, r1, r2⟩ := r
      refine ⟨u, w, rfl, F, d, s, r1, ?_⟩
      unfold G.cons at x
      dsimp only at x
      cases e1 : g d with
      | bad => rw [e1] at x; exact x
      | exc c => rw [e1] at x; exact x
      | ok ps =>
        rw [e1, R.bind_ok] at x
        intro us pu
        refine ⟨F, ds, s, r2, ?_⟩
        cases e2 : gs ds with
        | bad => rw [e2] at x; exact x
        | exc c => rw [e2] at x; exact x
        | ok qs =>
          rw [e2, R.bind_ok] at x
          intro ws pw
          rw [← setV_app]
          exact x (us ++ ws) (pu.app pw)
theorem g_tup {k n : Nat} (hc : X.calm = true) (h : PGs X es (tGs C gs)) (hn : (assignEach es X.env).length = n := by rfl) (hst : (assignEach es X.env).findIdx? (·.1) = none := by rfl) : PG X (.Tuple es k pos) (tG C (G.tup n gs)) :=
  PG.to (pg_tup hc h hn hst) fun v σ H Q x => by
    obtain ⟨F, d, s, r, x⟩ := x
    cases d <;> try exact x.elim
    rename_i ds
    simp only [Rep] at r
    obtain ⟨a, xs, rfl, h1, r⟩ := r
    unfold G.tup at x
    dsimp only at x
    by_cases hl : ds.length = n
    · rw [if_pos hl] at x
      exact ⟨a, xs, rfl, SqT.of (s _ _ h1), by rw [r.len]; exact hl, F, ds, s, r, x⟩
    · rw [if_neg hl] at x
      exact x.elim

/-! ### comprehensions -/
/-- the slots vs forgotten -/
def wipeE (vs : List Nat) (ρ : Ev) : Ev := vs.foldr (fun v ρ => ρ.set v .no) ρ
theorem wipeE_len (vs : List Nat) (ρ : Ev) : (wipeE vs ρ).length = ρ.length := by
  induction vs with
  | nil => rfl
  | cons v vs ih => show ((wipeE vs ρ).set v .no).length = _; rw [List.length_set, ih]
theorem wipeE_at {ρ : Ev} {i : Nat} {s : Sl} (hs : s ≠ .no) : ∀ {vs : List Nat}, (wipeE vs ρ)[i]? = some s → ρ[i]? = some s ∧ i ∉ vs
  | [], h => ⟨h, by simp⟩
  | v :: vs, h => by
    have h : ((wipeE vs ρ).set v .no)[i]? = some s := h
    by_cases hi : v = i
    · subst hi
      by_cases hv : v < (wipeE vs ρ).length
      · rw [List.getElem?_set_self hv] at h; cases h; exact absurd rfl hs
      · rw [List.getElem?_eq_none (by simpa using hv)] at h; cases h
    · rw [List.getElem?_set_ne hi] at h
      obtain ⟨h1, h2⟩ := wipeE_at hs h
      exact ⟨h1, by simp only [List.mem_cons, not_or]; exact ⟨fun e => hi e.symm, h2⟩⟩
theorem wipe_get {σ : L2.St} : ∀ (vs : List Nat) (i : Nat), (wipe σ vs)[i]? = if i ∈ vs then σ[i]?.map (fun _ => none) else σ[i]?
  | [], i => by simp [wipe]
  | v :: vs, i => by
    unfold wipe
    have ih := wipe_get (σ := σ) vs i
    by_cases hi : v = i
    · subst hi
      rw [if_pos (by simp)]
      by_cases hv : v < σ.length
      · rw [List.getElem?_set_self (by rw [wipe_length]; exact hv), List.getElem?_eq_getElem hv]; rfl
      · rw [List.getElem?_eq_none (by simpa [wipe_length] using hv), List.getElem?_eq_none (by simpa using hv)]; rfl
    · rw [List.getElem?_set_ne hi, ih]
      have : (i ∈ v :: vs) ↔ i ∈ vs := by simp [Ne.symm hi]
      simp only [this]
theorem SlOk.wipe {C : Addr} {F : Hp} {σ : L2.St} {ρ : Ev} (h : SlOk C F σ ρ) (vs : List Nat) : SlOk C F (L2.wipe σ vs) (wipeE vs ρ) := by
  refine ⟨by rw [wipeE_len, wipe_length]; exact h.1, fun i d e => ?_⟩
  obtain ⟨e1, e2⟩ := wipeE_at (s := .sh d) (fun z => nomatch z) e
  obtain ⟨v, e3, r⟩ := h.2 i d e1
  exact ⟨v, by rw [wipe_get, if_neg e2]; exact e3, r⟩
theorem setV_get : ∀ (us : List (Nat × V)) (σ : L2.St) (i : Nat), i ∉ us.map (·.1) → (setV us σ)[i]? = σ[i]?
  | [], _, _, _ => rfl
  | u :: us, σ, i, h => by
    simp only [List.map_cons, List.mem_cons, not_or] at h
    show (setV us (σ.set u.1 (some u.2)))[i]? = _
    rw [setV_get us _ i h.2, List.getElem?_set_ne (Ne.symm h.1)]
theorem setV_len : ∀ (us : List (Nat × V)) (σ : L2.St), (setV us σ).length = σ.length
  | [], _ => rfl
  | u :: us, σ => by
    show (setV us (σ.set u.1 (some u.2))).length = _
    rw [setV_len us, List.length_set]
theorem wipe_setV {us : List (Nat × V)} {σ : L2.St} {vs : List Nat} (h : ∀ i ∈ us.map (·.1), i ∈ vs) : L2.wipe (setV us (L2.wipe σ vs)) vs = L2.wipe σ vs := by
  apply List.ext_getElem?
  intro i
  rw [wipe_get, wipe_get]
  by_cases hi : i ∈ vs
  · rw [if_pos hi, if_pos hi]
    by_cases hl : i < σ.length
    · have h1 : i < (setV us (L2.wipe σ vs)).length := by rw [setV_len, wipe_length]; exact hl
      rw [List.getElem?_eq_getElem h1, List.getElem?_eq_getElem hl]
      try rfl
    · have h1 : (setV us (L2.wipe σ vs))[i]? = none := List.getElem?_eq_none (by rw [setV_len, wipe_length]; omega)
      have h2 : σ[i]? = none := List.getElem?_eq_none (by omega)
      rw [h1, h2]
      try rfl
  · rw [if_neg hi, if_neg hi, setV_get _ _ _ (fun z => hi (h i z)), wipe_get, if_neg hi]
theorem Pv.fst {C : Addr} {F : Hp} : ∀ {ps us}, Pv C F ps us → us.map (·.1) = ps.map (·.1)
  | _, _, .nil => rfl
  | _, _, .cons r t => by rw [List.map_cons, List.map_cons, Pv.fst t, r.1]
/-- the items that a comprehension makes -/
def compF (g : D → R (List (Nat × D))) (tt : Ev → R Bool) (te : Ev → R D) (ρ : Ev) : List D → R (List D)
  | [] => .ok []
  | d :: ds => match g d with
    | .ok ps => match tt (setD ps ρ) with
      | .ok true => match te (setD ps ρ) with
        | .ok y => (compF g tt te ρ ds).map (y :: ·)
        | _ => .bad
      | .ok false => compF g tt te ρ ds
      | _ => .bad
    | _ => .bad
def W0 : WX := fun _ _ _ _ => False
def yes : Ev → R Bool := fun _ => .ok true
namespace E
def comp (vs : List Nat) (fi : Ev → R (List D)) (g : D → R (List (Nat × D))) (tt : Ev → R Bool) (te : Ev → R D) : Ev → R (List D) := fun ρ => (fi ρ).bind fun ds =>
  if ds.length ≤ LINE then compF g tt te (wipeE vs ρ) ds else .bad
end E
theorem compF_calm {g : D → R (List (Nat × D))} {tt : Ev → R Bool} {te : Ev → R D} {ρ : Ev} {c : Str} : ∀ ds, compF g tt te ρ ds ≠ .exc c
  | [], h => nomatch h
  | d :: ds, h => by
    unfold compF at h
    split at h
    · split at h
      · split at h
        · cases e : compF g tt te ρ ds with
          | ok r => rw [e] at h; cases h
          | bad => rw [e] at h; cases h
          | exc c' => exact compF_calm ds e
        · cases h
      · exact compF_calm ds h
      · cases h
    · cases h
theorem seqLc {wi : Ev → R (List D)} {tt : Ev → R Bool} {te : Ev → R D} {vs : List Nat} (hsub : ∀ d ps, g d = .ok ps → ∀ i ∈ ps.map (·.1), i ∈ vs) {σ : L2.St} {H : Hp} {Q : VK} (x : tL mg C W (E.comp vs wi g tt te) σ H Q) :
    tLc (tI mg C W wi) (tG C g) (tB mg C W0 tt) (tD mg C W0 te) vs σ H Q := by
  obtain ⟨F, ρ, s, ok, x⟩ := x
  unfold tLc
  refine ⟨F, ρ, s, ok, ?_⟩
  unfold E.comp at x
  cases e1 : wi ρ with
  | bad => rw [e1] at x; exact x
  | exc c => rw [e1] at x; exact x
  | ok ds =>
    rw [e1, R.bind_ok] at x
    by_cases hz : ds.length ≤ LINE
    · rw [if_pos hz] at x
      cases e2 : compF g tt te (wipeE vs ρ) ds with
      | bad => rw [e2] at x; exact x.elim
      | exc c => exact (compF_calm _ e2).elim
      | ok tot =>
        rw [e2] at x
        intro J H1 F1 n1 it Dd hD
        refine ⟨fun i m H => m = ds.length - i ∧ i ≤ ds.length ∧ ∃ Fi acc av rest, Nx F1 H1 Fi H ∧ Fi Dd = none ∧ H Dd = some (.lst av) ∧ Reps C Fi acc av ∧ acc.length ≤ i ∧ compF g tt te (wipeE vs ρ) (ds.drop i) = .ok rest ∧ tot = acc ++ rest,
          ⟨ds.length, by simp, Nat.zero_le _, F1, [], [], tot, .hid n1.fh hD, n1.fh.non hD, upd_same, by simp only [Reps], Nat.le_refl _, e2, rfl⟩, ?_⟩
        rintro i m H' ⟨rfl, hi, Fi, acc, av, rest, ni, fd, hl, ra, la, er, et⟩
        by_cases hlt : i < ds.length
        · refine .inr ⟨it.go i H' (ni.ff.tr ni.fh) hlt, fun H'' => ∃ Fi acc av rest, Nx F1 H1 Fi H'' ∧ Fi Dd = none ∧ H'' Dd = some (.lst av) ∧ Reps C Fi acc av ∧ acc.length ≤ i + 1 ∧ compF g tt te (wipeE vs ρ) (ds.drop (i + 1)) = .ok rest ∧ tot = acc ++ rest,
            fun H'' w => ⟨ds.length - (i + 1), by omega, rfl, hlt, w⟩, fun v H2 y => ?_⟩
          obtain ⟨F2, d, ed, n2, rd⟩ := it.yld i H' Fi v H2 ni.ff ni.fh y hlt
          rw [show ds.drop i = d :: ds.drop (i + 1) by
            rw [List.drop_eq_getElem_cons hlt]
            congr
            rw [List.getElem?_eq_getElem hlt] at ed
            exact Option.some.inj ed] at er
          have hd2 : H2 Dd = some (.lst av) := n2.hh _ _ hl
          have f2d : F2 Dd = none := by
            cases e : F2 Dd with
            | none => rfl
            | some o =>
              rcases n2.new Dd (by rw [e]; exact fun z => nomatch z) with z | z
              · exact absurd fd z
              · rw [hl] at z; cases z
          refine ⟨F2, d, n2.fh, rd, ?_⟩
          unfold compF at er
          cases eg : g d with
          | bad => rw [eg] at er; cases er
          | exc c => rw [eg] at er; cases er
          | ok ps =>
            rw [eg] at er
            dsimp only at er
            intro us pu
            refine ⟨wipe_setV fun i hi => hsub d ps eg i (by rw [← pu.fst]; exact hi), ?_⟩
            have ok2 : SlOk C F2 (setV us (L2.wipe σ vs)) (setD ps (wipeE vs ρ)) := ((ok.mono (n1.ff.tr (ni.ff.tr n2.ff))).wipe vs).sets pu
            refine ⟨F2, setD ps (wipeE vs ρ), n2.fh, ok2, ?_⟩
            cases ett : tt (setD ps (wipeE vs ρ)) with
            | bad => rw [ett] at er; cases er
            | exc c => rw [ett] at er; cases er
            | ok b =>
              rw [ett] at er
              intro H3 s3
              have n3 : Nx F1 H1 F2 H3 := (ni.tr n2).tr ⟨Sm.rfl, s3, n2.fh.tr s3, fun a h => .inl h⟩
              cases b with
              | false =>
                dsimp only at er
                rw [if_neg Bool.false_ne_true]
                exact ⟨F2, acc, av, rest, n3, f2d, s3 _ _ hd2, Reps.mono n2.ff _ _ ra, by omega, er, et⟩
              | true =>
                dsimp only at er
                rw [if_pos rfl]
                refine ⟨F2, setD ps (wipeE vs ρ), n2.fh.tr s3, ok2, ?_⟩
                cases ee : te (setD ps (wipeE vs ρ)) with
                | bad => rw [ee] at er; cases er
                | exc c => rw [ee] at er; cases er
                | ok y =>
                  rw [ee] at er
                  dsimp only at er
                  cases ec : compF g tt te (wipeE vs ρ) (ds.drop (i + 1)) with
                  | bad => rw [ec] at er; cases er
                  | exc c => rw [ec] at er; cases er
                  | ok r2 =>
                    rw [ec, R.map_ok] at er
                    cases er
                    intro v4 H4 F4 n4 r4
                    have hd4 : H4 Dd = some (.lst av) := n4.hh _ _ (s3 _ _ hd2)
                    have f4d : F4 Dd = none := by
                      cases e : F4 Dd with
                      | none => rfl
                      | some o =>
                        rcases n4.new Dd (by rw [e]; exact fun z => nomatch z) with z | z
                        · exact absurd f2d z
                        · rw [s3 _ _ hd2] at z; cases z
                    have n14 := n3.tr n4
                    refine ⟨av, hd4, line_lt (by rw [ra.len]; omega), F4, acc ++ [y], av ++ [v4], r2, ⟨n14.ff, fun b o e => ?_, fun b o e => ?_, n14.new⟩, f4d, upd_same, (Reps.mono (n2.ff.tr n4.ff) _ _ ra).app (Reps.one r4), by simp; omega, rfl, by rw [et]; simp⟩
                    · rw [upd_ne (ne_of_none e hD)]; exact n14.hh _ _ e
                    · rw [upd_ne (ne_of_none e f4d)]; exact n14.fh _ _ e
        · have ei : i = ds.length := by omega
          subst ei
          refine .inl ⟨it.stop _ H' (ni.ff.tr ni.fh) rfl, ?_⟩
          rw [List.drop_length] at er
          cases er
          rw [List.append_nil] at et
          subst et
          exact x Dd av H' Fi (n1.tr ni) (by
            cases e : H Dd with
            | none => exact Eq.refl none
            | some o => rw [n1.hh _ _ e] at hD; cases hD) fd hl ra
    · rw [if_neg hz] at x
      exact x.elim
theorem l_comp {iter : Expr} {ifs : List Expr} {scope : Scope} {own : List (Str × Nat)} {wi : Ev → R (List D)} {tt : Ev → R Bool} {te : Ev → R D} (hc : X.calm = true) (hN : X.N.Nodup) (hi : PI X tg iter (tI mg C W wi)) (ok : BlkOk X.N X.env.scope scope own)
    (hg : ∀ (s : Shared) (H : Hp) (Ca : Addr) (cl : List (Str × Addr)) (fp : List Addr), PG (X.blk s H scope (compEnvC scope cl Ca X.env) fp) tg (tG C g)) (hsub : ∀ d ps, g d = .ok ps → ∀ i ∈ ps.map (·.1), i ∈ own.map (·.2))
    (ht : ∀ (s : Shared) (H : Hp) (Ca : Addr) (cl : List (Str × Addr)) (fp : List Addr), PTs (X.blk s H scope (compEnvC scope cl Ca X.env) fp) ifs (tB mg C W0 tt))
    (he : ∀ (s : Shared) (H : Hp) (Ca : Addr) (cl : List (Str × Addr)) (fp : List Addr), PE (X.blk s H scope (compEnvC scope cl Ca X.env) fp) a (tD mg C W0 te)) (hs : ∀ x, foldedSetIterable iter X.env x = pure x := by intro _; rfl) :
    PE X (.ListComp a [⟨tg, iter, ifs, 0⟩] scope pos) (tL mg C W (E.comp (own.map (·.2)) wi g tt te)) :=
  PE.to (pe_lc hc hN hi ok hg ht he hs) fun σ H Q x => seqLc hsub x
theorem t_nil : PTs X [] (tB mg C W0 yes) := by
  refine ⟨fun pins s σ H Q I x => ?_⟩
  obtain ⟨F, ρ, sm, ok, x⟩ := x
  exact wpAny_tests_nil ⟨H, I, x H Sm.rfl⟩
theorem t_one (hc : PT X c (tB mg C W0 p)) : PTs X [c] (tB mg C W0 p) := pts_one hc
theorem sub_one {i : Nat} {vs : List Nat} (h : i ∈ vs) : ∀ d ps, G.one i d = .ok ps → ∀ j ∈ ps.map (·.1), j ∈ vs := fun d ps e j hj => by
  cases e
  simp at hj
  rw [hj]
  exact h
theorem sub_two {i k : Nat} {vs : List Nat} (h : i ∈ vs) (h2 : k ∈ vs) : ∀ d ps, G.tup 2 (G.cons (G.one i) (G.cons (G.one k) G.nil)) d = .ok ps → ∀ j ∈ ps.map (·.1), j ∈ vs := fun d ps e j hj => by
  cases d <;> simp only [G.tup] at e <;> try cases e
  rename_i ds
  split at e
  · rename_i hl
    match ds, hl with
    | [x, y], _ =>
      simp [G.cons, G.one, G.nil] at e
      subst e
      simp at hj
      rcases hj with rfl | rfl
      · exact h
      · exact h2
  · cases e
end
end TB
namespace TB
open PySem PySem.Spec PyProof.Rows L2
open Classical

/-- what a block comes to: on with the slots, an answer, a list of its own handed over, a refusal, nothing known -/
inductive Out where
  | nx (ρ : Ev) | rt (d : D) | ro (ds : List D) | ex (c : Str) (ρ : Ev) | bad

/-- the state of a body: B is the heap at its start, Fc what was known, F what is known by now -/
structure SO (C : Addr) (B Fc F : Hp) (σ : L2.St) (H : Hp) (ρ : Ev) : Prop where
  bh : Sm B H
  cf : Sm Fc F
  fh : Sm F H
  new : ∀ a, F a ≠ none → Fc a ≠ none ∨ B a = none
  sh : SlOk C F σ ρ
  own : ∀ (i : Nat) (ds : List D), ρ[i]? = some (.own ds) → ∃ p xs, σ[i]? = some (some (.ref p)) ∧ H p = some (.lst xs) ∧ F p = none ∧ B p = none ∧ Reps C F ds xs
  dis : ∀ (i j : Nat) (ds es : List D) (p : Addr), ρ[i]? = some (.own ds) → ρ[j]? = some (.own es) → σ[i]? = some (some (.ref p)) → σ[j]? = some (some (.ref p)) → i = j

section
variable {C : Addr} {B Fc F : Hp} {σ : L2.St} {H : Hp} {ρ : Ev}
/-- the heap grows -/
theorem SO.grow {F' H' : Hp} (S : SO C B Fc F σ H ρ) (n : Nx F H F' H') : SO C B Fc F' σ H' ρ where
  bh := S.bh.tr n.hh
  cf := S.cf.tr n.ff
  fh := n.fh
  new := fun a h => by
    rcases n.new a h with z | z
    · exact S.new a z
    · refine .inr ?_
      cases e : B a with
      | none => rfl
      | some o => rw [S.bh _ _ e] at z; cases z
  sh := S.sh.mono n.ff
  own := fun i ds e => by
    obtain ⟨p, xs, h1, h2, h3, h4, h5⟩ := S.own i ds e
    refine ⟨p, xs, h1, n.hh _ _ h2, ?_, h4, Reps.mono n.ff _ _ h5⟩
    cases e : F' p with
    | none => rfl
    | some o =>
      rcases n.new p (by rw [e]; exact fun z => nomatch z) with z | z
      · exact absurd h3 z
      · rw [h2] at z; cases z
  dis := S.dis
/-- .. and what is known of it does not -/
theorem SO.only {H' : Hp} (S : SO C B Fc F σ H ρ) (s : Sm H H') : SO C B Fc F σ H' ρ := S.grow ⟨Sm.rfl, s, S.fh.tr s, fun a h => .inl h⟩
/-- forget -/
theorem SO.weak {ρ' : Ev} (S : SO C B Fc F σ H ρ) (hl : ρ'.length = ρ.length) (w : ∀ (i : Nat) (s : Sl), s ≠ .no → ρ'[i]? = some s → ρ[i]? = some s) : SO C B Fc F σ H ρ' where
  bh := S.bh
  cf := S.cf
  fh := S.fh
  new := S.new
  sh := ⟨hl.trans S.sh.1, fun i d e => S.sh.2 i d (w i _ (fun z => nomatch z) e)⟩
  own := fun i ds e => S.own i ds (w i _ (fun z => nomatch z) e)
  dis := fun i j ds es p e1 e2 => S.dis i j ds es p (w i _ (fun z => nomatch z) e1) (w j _ (fun z => nomatch z) e2)
theorem SO.wipe (S : SO C B Fc F σ H ρ) (vs : List Nat) : SO C B Fc F σ H (wipeE vs ρ) := S.weak (wipeE_len vs ρ) fun i s hs e => (wipeE_at hs e).1
/-- a slot is set -/
theorem SO.set {i : Nat} {d : D} {v : V} (S : SO C B Fc F σ H ρ) (r : Rep C F d v) : SO C B Fc F (σ.set i (some v)) H (ρ.set i (.sh d)) where
  bh := S.bh
  cf := S.cf
  fh := S.fh
  new := S.new
  sh := S.sh.set1 r
  own := fun j ds e => by
    by_cases hj : i = j
    · subst hj
      have hl : i < ρ.length := by simpa using (List.getElem?_eq_some_iff.mp e).1
      rw [List.getElem?_set_self hl] at e
      cases e
    · rw [List.getElem?_set_ne hj] at e ⊢
      exact S.own j ds e
  dis := fun j k ds es p e1 e2 g1 g2 => by
    by_cases hj : i = j
    · subst hj
      have hl : i < ρ.length := by simpa using (List.getElem?_eq_some_iff.mp e1).1
      rw [List.getElem?_set_self hl] at e1
      cases e1
    · by_cases hk : i = k
      · subst hk
        have hl : i < ρ.length := by simpa using (List.getElem?_eq_some_iff.mp e2).1
        rw [List.getElem?_set_self hl] at e2
        cases e2
      · rw [List.getElem?_set_ne hj] at e1 g1
        rw [List.getElem?_set_ne hk] at e2 g2
        exact S.dis j k ds es p e1 e2 g1 g2
theorem SO.sets : ∀ {ps us} {σ : L2.St} {ρ : Ev}, SO C B Fc F σ H ρ → Pv C F ps us → SO C B Fc F (setV us σ) H (setD ps ρ)
  | _, _, _, _, S, .nil => S
  | _, _, σ, ρ, S, .cons (a := p) (b := q) r t => by
    show SO C B Fc F (setV _ (σ.set q.1 (some q.2))) H (setD _ (ρ.set p.1 (.sh p.2)))
    rw [← r.1]
    exact SO.sets (S.set r.2) t
/-- a new list of one's own -/
theorem SO.setO {i : Nat} {ds : List D} {p : Addr} {xs : List V} (S : SO C B Fc F σ H ρ) (hp : H p = some (.lst xs)) (fp : F p = none) (bp : B p = none) (no : ∀ (j : Nat) (es : List D), ρ[j]? = some (.own es) → σ[j]? ≠ some (some (.ref p))) (r : Reps C F ds xs) :
    SO C B Fc F (σ.set i (some (.ref p))) H (ρ.set i (.own ds)) where
  bh := S.bh
  cf := S.cf
  fh := S.fh
  new := S.new
  sh := by
    refine ⟨by simpa using S.sh.1, fun j d e => ?_⟩
    by_cases hj : i = j
    · subst hj
      have hl : i < ρ.length := by simpa using (List.getElem?_eq_some_iff.mp e).1
      rw [List.getElem?_set_self hl] at e
      cases e
    · rw [List.getElem?_set_ne hj] at e ⊢
      exact S.sh.2 j d e
  own := fun j es e => by
    by_cases hj : i = j
    · subst hj
      have hl : i < ρ.length := by simpa using (List.getElem?_eq_some_iff.mp e).1
      rw [List.getElem?_set_self hl] at e
      cases e
      exact ⟨p, xs, List.getElem?_set_self (by rw [← S.sh.1]; exact hl), hp, fp, bp, r⟩
    · rw [List.getElem?_set_ne hj] at e ⊢
      exact S.own j es e
  dis := fun j k es gs q e1 e2 g1 g2 => by
    by_cases hj : i = j
    · subst hj
      have hl : i < ρ.length := by simpa using (List.getElem?_eq_some_iff.mp e1).1
      rw [List.getElem?_set_self (by rw [← S.sh.1]; exact hl)] at g1
      cases g1
      by_cases hk : i = k
      · exact hk
      · rw [List.getElem?_set_ne hk] at e2 g2
        exact absurd g2 (no k gs e2)
    · rw [List.getElem?_set_ne hj] at e1 g1
      by_cases hk : i = k
      · subst hk
        have hl : i < ρ.length := by simpa using (List.getElem?_eq_some_iff.mp e2).1
        rw [List.getElem?_set_self (by rw [← S.sh.1]; exact hl)] at g2
        cases g2
        exact absurd g1 (no j es e1)
      · rw [List.getElem?_set_ne hk] at e2 g2
        exact S.dis j k es gs q e1 e2 g1 g2
/-- a list of one's own is changed -/
theorem SO.chg {i : Nat} {ds es : List D} {p : Addr} {ys : List V} (S : SO C B Fc F σ H ρ) (e : ρ[i]? = some (.own ds)) (hs : σ[i]? = some (some (.ref p))) (r : Reps C F es ys) : SO C B Fc F σ (upd H p (.lst ys)) (ρ.set i (.own es)) := by
  obtain ⟨p', xs, h1, h2, h3, h4, h5⟩ := S.own i ds e
  rw [hs] at h1
  cases h1
  have hi : i < ρ.length := (List.getElem?_eq_some_iff.mp e).1
  refine ⟨fun b o q => ?_, S.cf, fun b o q => ?_, S.new, ⟨by simpa using S.sh.1, fun j d q => ?_⟩, fun j gs q => ?_, fun j k gs ks q e1 e2 g1 g2 => ?_⟩
  · rw [upd_ne (ne_of_none q h4)]; exact S.bh _ _ q
  · rw [upd_ne (ne_of_none q h3)]; exact S.fh _ _ q
  · by_cases hj : i = j
    · subst hj; rw [List.getElem?_set_self hi] at q; cases q
    · rw [List.getElem?_set_ne hj] at q; exact S.sh.2 j d q
  · by_cases hj : i = j
    · subst hj
      rw [List.getElem?_set_self hi] at q
      cases q
      exact ⟨p, ys, hs, upd_same, h3, h4, r⟩
    · rw [List.getElem?_set_ne hj] at q
      obtain ⟨p', xs', g1, g2, g3, g4, g5⟩ := S.own j gs q
      refine ⟨p', xs', g1, ?_, g3, g4, g5⟩
      rw [upd_ne]
      · exact g2
      · rintro rfl
        exact hj (S.dis i j ds gs p' e q hs g1)
  · have look : ∀ (l : Nat) (zs : List D), (ρ.set i (.own es))[l]? = some (.own zs) → ∃ zs', ρ[l]? = some (.own zs') := fun l zs h => by
      by_cases hl : i = l
      · subst hl; exact ⟨ds, e⟩
      · rw [List.getElem?_set_ne hl] at h; exact ⟨zs, h⟩
    obtain ⟨z1, q1⟩ := look j gs e1
    obtain ⟨z2, q2⟩ := look k ks e2
    exact S.dis j k z1 z2 q q1 q2 g1 g2
/-- all lists of one's own looked at -/
abbrev full (ρ : Ev) : Ev := ρ.map Sl.fz
theorem full_at {i : Nat} {d : D} (h : (full ρ)[i]? = some (.sh d)) : ρ[i]? = some (.sh d) ∨ ∃ ds, d = .lst ds ∧ ρ[i]? = some (.own ds) := by
  unfold full at h
  rw [List.getElem?_map] at h
  cases e : ρ[i]? with
  | none => rw [e] at h; cases h
  | some s =>
    rw [e] at h
    cases s with
    | no => cases h
    | sh d' => cases h; exact .inl rfl
    | own ds => cases h; exact .inr ⟨ds, rfl, rfl⟩
theorem SO.full (S : SO C B Fc F σ H ρ) : ∃ F', SO C B Fc F' σ H (full ρ) ∧ Sm F F' := by
  let own (a : Addr) : Prop := ∃ (i : Nat) (ds : List D), ρ[i]? = some (.own ds) ∧ σ[i]? = some (some (.ref a))
  let F' : Hp := fun a => if F a ≠ none ∨ own a then H a else none
  have ff : Sm F F' := fun b o e => by
    show (if F b ≠ none ∨ own b then H b else none) = some o
    rw [if_pos (.inl (by rw [e]; exact fun z => nomatch z))]
    exact S.fh _ _ e
  have fh : Sm F' H := fun b o e => by
    have e : (if F b ≠ none ∨ own b then H b else none) = some o := e
    by_cases h : F b ≠ none ∨ own b
    · rw [if_pos h] at e; exact e
    · rw [if_neg h] at e; cases e
  refine ⟨F', ⟨S.bh, S.cf.tr ff, fh, fun a h => ?_, ⟨by simpa [TB.full] using S.sh.1, fun i d e => ?_⟩, fun i ds e => ?_, fun i j ds es p e => ?_⟩, ff⟩
  · have h : (if F a ≠ none ∨ own a then H a else none) ≠ none := h
    by_cases q : F a ≠ none ∨ own a
    · rcases q with q | ⟨i, ds, e1, e2⟩
      · exact S.new a q
      · obtain ⟨p, xs, h1, h2, h3, h4, h5⟩ := S.own i ds e1
        rw [e2] at h1
        cases h1
        exact .inr h4
    · rw [if_neg q] at h; exact absurd rfl h
  · rcases full_at e with e0 | ⟨ds, rfl, e0⟩
    · obtain ⟨v, h1, r⟩ := S.sh.2 i d e0
      exact ⟨v, h1, r.mono ff⟩
    · obtain ⟨p, xs, h1, h2, h3, h4, h5⟩ := S.own i ds e0
      refine ⟨.ref p, h1, ?_⟩
      simp only [Rep]
      refine ⟨p, xs, rfl, ?_, Reps.mono ff _ _ h5⟩
      show (if F p ≠ none ∨ own p then H p else none) = some (.lst xs)
      rw [if_pos (.inr ⟨i, ds, e0, h1⟩)]
      exact h2
  · unfold TB.full at e
    rw [List.getElem?_map] at e
    cases q : ρ[i]? with
    | none => rw [q] at e; cases e
    | some s => rw [q] at e; cases s <;> cases e
  · unfold TB.full at e
    rw [List.getElem?_map] at e
    cases q : ρ[i]? with
    | none => rw [q] at e; cases e
    | some s => rw [q] at e; cases s <;> cases e
/-- one list of one's own is from here on a value -/
def frz (i : Nat) (ρ : Ev) : Ev := match ρ[i]? with
  | some (.own ds) => ρ.set i (.sh (.lst ds))
  | _ => ρ
theorem SO.frz (S : SO C B Fc F σ H ρ) (i : Nat) : ∃ F', SO C B Fc F' σ H (frz i ρ) ∧ Sm F F' := by
  unfold TB.frz
  split
  · rename_i ds e
    obtain ⟨p, xs, h1, h2, h3, h4, h5⟩ := S.own i ds e
    have hi : i < ρ.length := (List.getElem?_eq_some_iff.mp e).1
    have ff : Sm F (upd F p (.lst xs)) := Sm.upd h3
    refine ⟨upd F p (.lst xs), ⟨S.bh, S.cf.tr ff, fun b o q => ?_, fun a q => ?_, ⟨by simpa using S.sh.1, fun j d q => ?_⟩, fun j gs q => ?_, fun j k gs ks q e1 e2 g1 g2 => ?_⟩, ff⟩
    · by_cases hb : b = p
      · subst hb; rw [upd_same] at q; cases q; exact h2
      · rw [upd_ne hb] at q; exact S.fh _ _ q
    · by_cases ha : a = p
      · subst ha; exact .inr h4
      · rw [upd_ne ha] at q; exact S.new a q
    · by_cases hj : i = j
      · subst hj
        rw [List.getElem?_set_self hi] at q
        cases q
        refine ⟨.ref p, h1, ?_⟩
        simp only [Rep]
        exact ⟨p, xs, rfl, upd_same, Reps.mono ff _ _ h5⟩
      · rw [List.getElem?_set_ne hj] at q
        obtain ⟨v, g1, r⟩ := S.sh.2 j d q
        exact ⟨v, g1, r.mono ff⟩
    · by_cases hj : i = j
      · subst hj; rw [List.getElem?_set_self hi] at q; cases q
      · rw [List.getElem?_set_ne hj] at q
        obtain ⟨p', xs', g1, g2, g3, g4, g5⟩ := S.own j gs q
        refine ⟨p', xs', g1, g2, ?_, g4, Reps.mono ff _ _ g5⟩
        rw [upd_ne]
        · exact g3
        · rintro rfl
          exact hj (S.dis i j ds gs p' e q h1 g1)
    · by_cases hj : i = j
      · subst hj; rw [List.getElem?_set_self hi] at e1; cases e1
      · by_cases hk : i = k
        · subst hk; rw [List.getElem?_set_self hi] at e2; cases e2
        · rw [List.getElem?_set_ne hj] at e1
          rw [List.getElem?_set_ne hk] at e2
          exact S.dis j k gs ks q e1 e2 g1 g2
  · exact ⟨F, S, Sm.rfl⟩
end

/-- what is wanted of an outcome -/
def Post (mg : Str → Option Value) (C : Addr) (W : WX) (B Fc : Hp) (Dn : Ends) : Out → Prop
  | .nx ρ => ∀ σ H F, SO C B Fc F σ H ρ → Dn.nx σ H
  | .rt d => ∀ v H F, Sm B H → Sm Fc F → Sm F H → (∀ a, F a ≠ none → Fc a ≠ none ∨ B a = none) → Rep C F d v → Dn.rt v H
  | .ro ds => ∀ p xs H F, Sm B H → Sm Fc F → Sm F H → (∀ a, F a ≠ none → Fc a ≠ none ∨ B a = none) → B p = none → F p = none → H p = some (.lst xs) → Reps C F ds xs → Dn.rt (.ref p) H
  | .ex c ρ => ∀ a, mg c = some (.ref a) → ∀ σ H F, SO C B Fc F σ H ρ → W (.ref a) none σ H
  | .bad => False
def tS (mg : Str → Option Value) (C : Addr) (W : WX) (g : Ev → Out) : TS := fun Dn σ H => ∃ B Fc F ρ, SO C B Fc F σ H ρ ∧ Post mg C W B Fc Dn (g ρ)
/-- more is known at the start -/
theorem Post.up {mg : Str → Option Value} {C : Addr} {W : WX} {B Fc Fc' : Hp} {Dn Dn' : Ends} {o : Out} (s : Sm Fc Fc') (n : ∀ a, Fc' a ≠ none → Fc a ≠ none ∨ B a = none) (hr : ∀ v H, Dn.rt v H → Dn'.rt v H)
    (hn : ∀ ρ, o = .nx ρ → ∀ σ H F, SO C B Fc' F σ H ρ → Dn'.nx σ H) (p : Post mg C W B Fc Dn o) : Post mg C W B Fc' Dn' o := by
  have nn : ∀ {F : Hp}, (∀ a, F a ≠ none → Fc' a ≠ none ∨ B a = none) → ∀ a, F a ≠ none → Fc a ≠ none ∨ B a = none := fun h a q => by
    rcases h a q with z | z
    · exact n a z
    · exact .inr z
  cases o with
  | nx ρ => exact fun σ H F S => hn ρ rfl σ H F S
  | rt d => exact fun v H F a b c e r => hr _ _ (p v H F a (s.tr b) c (nn e) r)
  | ro ds => exact fun q xs H F a b c e f g h r => hr _ _ (p q xs H F a (s.tr b) c (nn e) f g h r)
  | ex c ρ => exact fun a ha σ H F S => p a ha σ H F ⟨S.bh, s.tr S.cf, S.fh, nn S.new, S.sh, S.own, S.dis⟩
  | bad => exact p

namespace S
def seq (g h : Ev → Out) : Ev → Out := fun ρ => match g ρ with
  | .nx ρ' => h ρ'
  | o => o
def skip : Ev → Out := .nx
def pre (k : Ev → Ev) (g : Ev → Out) : Ev → Out := fun ρ => g (k ρ)
def aft (k : Ev → Ev) (g : Ev → Out) : Ev → Out := fun ρ => match g ρ with
  | .nx ρ' => .nx (k ρ')
  | o => o
/-- an expression looked at with all lists of one's own (m) -/
def ev (m : Bool) (f : Ev → R D) : Ev → R D := fun ρ => if m then (f (full ρ)).bind fun d => if flat d then .ok d else .bad else f ρ
def evL (m : Bool) (f : Ev → R (List D)) : Ev → R (List D) := fun ρ => if m then (f (full ρ)).bind fun ds => if ds.all flat then .ok ds else .bad else f ρ
def run (f : Ev → R D) (k : D → Ev → Out) : Ev → Out := fun ρ => match f ρ with
  | .ok d => k d ρ
  | .exc c => .ex c ρ
  | .bad => .bad
def runL (f : Ev → R (List D)) (k : List D → Ev → Out) : Ev → Out := fun ρ => match f ρ with
  | .ok d => k d ρ
  | .exc c => .ex c ρ
  | .bad => .bad
def asg (m : Bool) (i : Nat) (f : Ev → R D) : Ev → Out := run (ev m f) fun d ρ => .nx (ρ.set i (.sh d))
def asgO (m : Bool) (i : Nat) (f : Ev → R (List D)) : Ev → Out := runL (evL m f) fun ds ρ => .nx (ρ.set i (.own ds))
def asgT (m : Bool) (g : D → R (List (Nat × D))) (f : Ev → R D) : Ev → Out := run f fun d ρ => match g d with
  | .ok ps => .nx (setD ps ρ)
  | _ => .bad
def drop (f : Ev → R D) : Ev → Out := fun ρ => match f (full ρ) with
  | .ok _ => .nx ρ
  | .exc c => .ex c ρ
  | .bad => .bad
def ret (f : Ev → R D) : Ev → Out := fun ρ => match f (full ρ) with
  | .ok d => .rt d
  | .exc c => .ex c ρ
  | .bad => .bad
def retL (f : Ev → R (List D)) : Ev → Out := fun ρ => match f (full ρ) with
  | .ok ds => .ro ds
  | .exc c => .ex c ρ
  | .bad => .bad
def retN : Ev → Out := fun _ => .rt .non
def retO (i : Nat) : Ev → Out := fun ρ => match ρ[i]? with
  | some (.own ds) => .ro ds
  | _ => .bad
def ifs (c : Ev → R Bool) (g h : Ev → Out) : Ev → Out := fun ρ => match c (full ρ) with
  | .ok b => if b then g ρ else h ρ
  | .exc c => .ex c ρ
  | .bad => .bad
/-- a list of one's own -/
def onO (i : Nat) (k : List D → R (List D)) : Ev → Out := fun ρ => match ρ[i]? with
  | some (.own ds) => match k ds with
    | .ok es => .nx (ρ.set i (.own es))
    | _ => .bad
  | _ => .bad
def push (m : Bool) (i : Nat) (f : Ev → R D) : Ev → Out := fun ρ => match ρ[i]? with
  | some (.own _) => run (ev m f) (fun d => onO i fun ds => if ds.length < LINE then .ok (ds ++ [d]) else .bad) ρ
  | _ => .bad
def put (i : Nat) (fi : Ev → R D) (f : Ev → R D) : Ev → Out := run (ev true f) fun d ρ => match ρ[i]? with
  | some (.own _) => run (ev true fi) (fun k => onO i fun ds => match k with
    | .int z => match ixN ds.length z with
      | some n => .ok (ds.set n d)
      | none => .bad
    | _ => .bad) ρ
  | _ => .bad
def rev (i : Nat) : Ev → Out := onO i fun ds => .ok ds.reverse
def clr (i : Nat) : Ev → Out := onO i fun _ => .ok []
def forF (g : D → R (List (Nat × D))) (ws : List Nat) (body : Ev → Out) : List D → Ev → Out
  | [], ρ => .nx ρ
  | d :: ds, ρ => match g d with
    | .ok ps => match body (setD ps ρ) with
      | .nx ρ' => forF g ws body ds (wipeE ws ρ')
      | o => o
    | _ => .bad
def forS (m : Bool) (fi : Ev → R (List D)) (g : D → R (List (Nat × D))) (ws : List Nat) (body : Ev → Out) : Ev → Out := runL (evL m fi) fun ds ρ => forF g ws body ds ρ
/-- at most n turns -/
def whF (c : Ev → R Bool) (body : Ev → Out) : Nat → Ev → Out
  | 0, _ => .bad
  | n + 1, ρ => match c (full ρ) with
    | .ok true => match body ρ with
      | .nx ρ' => whF c body n ρ'
      | o => o
    | .ok false => .nx ρ
    | .exc c => .ex c ρ
    | .bad => .bad
def wh (fuel : Ev → Nat) (c : Ev → R Bool) (body : Ev → Out) : Ev → Out := fun ρ => whF c body (fuel ρ) ρ
end S

section
variable {X : Cx} {mg : Str → Option Value} {C : Addr} {W : WX} {e a b c tg : Expr} {t : TE} {pos : Pos} {f h j : Ev → R D} {p q : Ev → R Bool} {es : List Expr} {fs : Ev → R (List D)} {g : D → R (List (Nat × D))} {u k : Ev → Out} {st : Stmt} {sts : List Stmt}
/-- an expression is looked at -/
theorem ev_run {m : Bool} {B Fc F : Hp} {σ : L2.St} {H : Hp} {ρ : Ev} {Q : VK} {Dn : Ends} {kk : D → Ev → Out} (S0 : SO C B Fc F σ H ρ) (x : Post mg C W B Fc Dn (S.run (S.ev m f) kk ρ))
    (y : ∀ d v H' F', SO C B Fc F' σ H' ρ → Sm H H' → Rep C F' d v → Post mg C W B Fc Dn (kk d ρ) → Q v H') : tD mg C W f σ H Q := by
  unfold S.run S.ev at x
  cases m with
  | false =>
    simp only [Bool.false_eq_true, if_false] at x
    refine ⟨F, ρ, S0.fh, S0.sh, ?_⟩
    cases e1 : f ρ with
    | bad => rw [e1] at x; exact x
    | exc c =>
      rw [e1] at x
      exact fun a ha H' s => x a ha σ H' F (S0.only s)
    | ok d =>
      rw [e1] at x
      exact fun v H' F' n r => y d v H' F' (S0.grow n) n.hh r x
  | true =>
    simp only [if_true] at x
    obtain ⟨F2, S2, ff⟩ := S0.full
    refine ⟨F2, full ρ, S2.fh, S2.sh, ?_⟩
    cases e1 : f (full ρ) with
    | bad => rw [e1] at x; exact x
    | exc c =>
      rw [e1] at x
      exact fun a ha H' s => x a ha σ H' F (S0.only s)
    | ok d =>
      rw [e1, R.bind_ok] at x
      by_cases hf : flat d = true
      · rw [if_pos hf] at x
        exact fun v H' F' n r => y d v H' F (S0.only n.hh) n.hh (flat_go hf r) x
      · rw [if_neg hf] at x
        exact x.elim
theorem ev_runT {B Fc F : Hp} {σ : L2.St} {H : Hp} {ρ : Ev} {Q : VK} {Dn : Ends} {kk : D → Ev → Out} (S0 : SO C B Fc F σ H ρ) (x : Post mg C W B Fc Dn (S.run (S.ev true f) kk ρ))
    (y : ∀ d v H' F', SO C B Fc F' σ H' ρ → flat d = true → Rep C F' d v → Post mg C W B Fc Dn (kk d ρ) → Q v H') : tD mg C W f σ H Q := by
  unfold S.run S.ev at x
  simp only [if_true] at x
  obtain ⟨F2, S2, ff⟩ := S0.full
  refine ⟨F2, full ρ, S2.fh, S2.sh, ?_⟩
  cases e1 : f (full ρ) with
  | bad => rw [e1] at x; exact x
  | exc c =>
    rw [e1] at x
    exact fun a ha H' s => x a ha σ H' F (S0.only s)
  | ok d =>
    rw [e1, R.bind_ok] at x
    by_cases hf : flat d = true
    · rw [if_pos hf] at x
      exact fun v H' F' n r => y d v H' F (S0.only n.hh) hf (flat_go hf r) x
    · rw [if_neg hf] at x
      exact x.elim
theorem evL_run {m : Bool} {B Fc F : Hp} {σ : L2.St} {H : Hp} {ρ : Ev} {Q : VK} {Dn : Ends} {kk : List D → Ev → Out} (S0 : SO C B Fc F σ H ρ) (x : Post mg C W B Fc Dn (S.runL (S.evL m fs) kk ρ))
    (y : ∀ ds p xs H' F', SO C B Fc F' σ H' ρ → Sm H H' → H p = none → B p = none → F' p = none → H' p = some (.lst xs) → Reps C F' ds xs → Post mg C W B Fc Dn (kk ds ρ) → Q (.ref p) H') : tL mg C W fs σ H Q := by
  have bn : ∀ p, H p = none → B p = none := fun p n => by
    cases e : B p with
    | none => rfl
    | some o => rw [S0.bh _ _ e] at n; cases n
  unfold S.runL S.evL at x
  cases m with
  | false =>
    simp only [Bool.false_eq_true, if_false] at x
    refine ⟨F, ρ, S0.fh, S0.sh, ?_⟩
    cases e1 : fs ρ with
    | bad => rw [e1] at x; exact x
    | exc c =>
      rw [e1] at x
      exact fun a ha H' s => x a ha σ H' F (S0.only s)
    | ok d =>
      rw [e1] at x
      exact fun p xs H' F' n np fp hl r => y d p xs H' F' (S0.grow n) n.hh np (bn p np) fp hl r x
  | true =>
    simp only [if_true] at x
    obtain ⟨F2, S2, ff⟩ := S0.full
    refine ⟨F2, full ρ, S2.fh, S2.sh, ?_⟩
    cases e1 : fs (full ρ) with
    | bad => rw [e1] at x; exact x
    | exc c =>
      rw [e1] at x
      exact fun a ha H' s => x a ha σ H' F (S0.only s)
    | ok d =>
      rw [e1, R.bind_ok] at x
      by_cases hf : d.all flat = true
      · rw [if_pos hf] at x
        exact fun p xs H' F' n np fp hl r => y d p xs H' F (S0.only n.hh) n.hh np (bn p np) (S0.fh.non np) hl (flats_go hf r) x
      · rw [if_neg hf] at x
        exact x.elim

/-! ### blocks -/
theorem ss_nil : PSs X [] (tS mg C W S.skip) := PSs.to pss_nil fun Dn σ H x => by
  obtain ⟨B, Fc, F, ρ, S0, x⟩ := x
  exact x σ H F S0
theorem ss_cons (h1 : PS X st (tS mg C W u)) (h2 : PSs X sts (tS mg C W k)) : PSs X (st :: sts) (tS mg C W (S.seq u k)) := PSs.to (pss_cons h1 h2) fun Dn σ H x => by
  obtain ⟨B, Fc, F, ρ, S0, x⟩ := x
  refine ⟨B, Fc, F, ρ, S0, ?_⟩
  unfold S.seq at x
  cases e1 : u ρ with
  | nx ρ' =>
    rw [e1] at x
    exact fun σ' H' F' S' => ⟨B, Fc, F', ρ', S', x⟩
  | rt d => rw [e1] at x; exact x
  | ro d => rw [e1] at x; exact x
  | ex c d => rw [e1] at x; exact x
  | bad => rw [e1] at x; exact x
theorem ss_one (h1 : PS X st (tS mg C W u)) : PSs X [st] (tS mg C W u) := pss_one h1
theorem s_pre {kf : Ev → Ev} (hk : ∀ B Fc F σ H ρ, SO C B Fc F σ H ρ → ∃ F', SO C B Fc F' σ H (kf ρ)) (h1 : PS X st (tS mg C W u)) : PS X st (tS mg C W (S.pre kf u)) := PS.to h1 fun Dn σ H x => by
  obtain ⟨B, Fc, F, ρ, S0, x⟩ := x
  obtain ⟨F', S'⟩ := hk _ _ _ _ _ _ S0
  exact ⟨B, Fc, F', kf ρ, S', x⟩
theorem ss_pre {kf : Ev → Ev} (hk : ∀ B Fc F σ H ρ, SO C B Fc F σ H ρ → ∃ F', SO C B Fc F' σ H (kf ρ)) (h1 : PSs X sts (tS mg C W u)) : PSs X sts (tS mg C W (S.pre kf u)) := PSs.to h1 fun Dn σ H x => by
  obtain ⟨B, Fc, F, ρ, S0, x⟩ := x
  obtain ⟨F', S'⟩ := hk _ _ _ _ _ _ S0
  exact ⟨B, Fc, F', kf ρ, S', x⟩
theorem k_frz (i : Nat) : ∀ B Fc F σ H ρ, SO C B Fc F σ H ρ → ∃ F', SO C B Fc F' σ H (frz i ρ) := fun _ _ _ _ _ _ S0 => let ⟨F', S', _⟩ := S0.frz i; ⟨F', S'⟩
theorem k_wipe (vs : List Nat) : ∀ B Fc F σ H ρ, SO C B Fc F σ H ρ → ∃ F', SO C B Fc F' σ H (wipeE vs ρ) := fun _ _ F _ _ _ S0 => ⟨F, S0.wipe vs⟩

/-! ### small statements -/
theorem s_asg {m : Bool} {i : Nat} (hs : PS X st (tAsg (tD mg C W f) (gName i))) : PS X st (tS mg C W (S.asg m i f)) := PS.to hs fun Dn σ H x => by
  obtain ⟨B, Fc, F, ρ, S0, x⟩ := x
  exact ev_run S0 x fun d v H' F' S' s r y => y _ _ _ (S'.set r)
theorem s_asgO {m : Bool} {i : Nat} (hs : PS X st (tAsg (tL mg C W fs) (gName i))) : PS X st (tS mg C W (S.asgO m i fs)) := PS.to hs fun Dn σ H x => by
  obtain ⟨B, Fc, F, ρ, S0, x⟩ := x
  refine evL_run S0 x fun ds p xs H' F' S' s np bp fp hl r y => y _ _ _ (S'.setO hl fp bp (fun j es e z => ?_) r)
  obtain ⟨p', xs', h1, h2, _⟩ := S0.own j es e
  rw [h1] at z
  cases z
  rw [np] at h2
  cases h2
theorem s_asgL {m : Bool} {i : Nat} (hs : PS X st (tAsg (tL mg C W fs) (gName i))) : PS X st (tS mg C W (S.asg m i (E.ofL fs))) := PS.to hs fun Dn σ H x => by
  obtain ⟨B, Fc, F, ρ, S0, x⟩ := x
  have y := ev_run (Q := fun v H' => Dn.nx (σ.set i (some v)) H') S0 x fun d v H' F' S' s r y => y _ _ _ (S'.set r)
  obtain ⟨F1, ρ1, s1, ok1, y⟩ := y
  refine ⟨F1, ρ1, s1, ok1, ?_⟩
  unfold E.ofL at y
  cases e1 : fs ρ1 with
  | bad => rw [e1] at y; exact y
  | exc c => rw [e1] at y; exact y
  | ok ds =>
    rw [e1] at y
    intro p xs H' F' n hp fp hl r
    refine y (.ref p) H' (upd F' p (.lst xs)) ⟨n.ff.tr (Sm.upd fp), n.hh, fun b o e => ?_, fun b h => ?_⟩ ?_
    · by_cases hb : b = p
      · subst hb; rw [upd_same] at e; cases e; exact hl
      · rw [upd_ne hb] at e; exact n.fh _ _ e
    · by_cases hb : b = p
      · subst hb; exact .inr hp
      · rw [upd_ne hb] at h; exact n.new b h
    · simp only [Rep]
      exact ⟨p, xs, rfl, upd_same, Reps.mono (Sm.upd fp) _ _ r⟩
theorem s_asgT (hs : PS X st (tAsg (tD mg C W f) (tG C g))) : PS X st (tS mg C W (S.asgT false g f)) := PS.to hs fun Dn σ H x => by
  obtain ⟨B, Fc, F, ρ, S0, x⟩ := x
  refine ev_run (m := false) (kk := fun d ρ => match g d with | .ok ps => .nx (setD ps ρ) | _ => .bad) S0 (by unfold S.ev; exact x) fun d v H' F' S' s r y => ?_
  refine ⟨F', d, S'.fh, r, ?_⟩
  cases e1 : g d with
  | bad => rw [e1] at y; exact y
  | exc c => rw [e1] at y; exact y
  | ok ps =>
    rw [e1] at y
    exact fun us pu => y _ _ _ (S'.sets pu)
theorem s_drop (hs : PS X st (tDrop (tD mg C W f))) : PS X st (tS mg C W (S.drop f)) := PS.to hs fun Dn σ H x => by
  obtain ⟨B, Fc, F, ρ, S0, x⟩ := x
  obtain ⟨F2, S2, ff⟩ := S0.full
  refine ⟨F2, full ρ, S2.fh, S2.sh, ?_⟩
  unfold S.drop at x
  cases e1 : f (full ρ) with
  | bad => rw [e1] at x; exact x
  | exc c => rw [e1] at x; exact fun a ha H' s => x a ha σ H' F (S0.only s)
  | ok d => rw [e1] at x; exact fun v H' F' n r => x σ H' F (S0.only n.hh)
theorem s_ret (hs : PS X st (tRet (tD mg C W f))) : PS X st (tS mg C W (S.ret f)) := PS.to hs fun Dn σ H x => by
  obtain ⟨B, Fc, F, ρ, S0, x⟩ := x
  obtain ⟨F2, S2, ff⟩ := S0.full
  refine ⟨F2, full ρ, S2.fh, S2.sh, ?_⟩
  unfold S.ret at x
  cases e1 : f (full ρ) with
  | bad => rw [e1] at x; exact x
  | exc c => rw [e1] at x; exact fun a ha H' s => x a ha σ H' F (S0.only s)
  | ok d =>
    rw [e1] at x
    intro v H' F' n r
    have S' := S2.grow n
    exact x v H' F' S'.bh S'.cf S'.fh S'.new r
theorem s_retL (hs : PS X st (tRet (tL mg C W fs))) : PS X st (tS mg C W (S.retL fs)) := PS.to hs fun Dn σ H x => by
  obtain ⟨B, Fc, F, ρ, S0, x⟩ := x
  obtain ⟨F2, S2, ff⟩ := S0.full
  refine ⟨F2, full ρ, S2.fh, S2.sh, ?_⟩
  unfold S.retL at x
  cases e1 : fs (full ρ) with
  | bad => rw [e1] at x; exact x
  | exc c => rw [e1] at x; exact fun a ha H' s => x a ha σ H' F (S0.only s)
  | ok d =>
    rw [e1] at x
    intro p xs H' F' n np fp hl r
    have S' := S2.grow n
    refine x p xs H' F' S'.bh S'.cf S'.fh S'.new ?_ fp hl r
    cases e : B p with
    | none => rfl
    | some o => rw [S0.bh _ _ e] at np; cases np
theorem s_retN : PS X (.Return none pos) (tS mg C W S.retN) := PS.to ps_retN fun Dn σ H x => by
  obtain ⟨B, Fc, F, ρ, S0, x⟩ := x
  exact x .non H F S0.bh S0.cf S0.fh S0.new (by simp only [Rep])
theorem s_retO {i : Nat} (he : PS X st (tRet (tVar i))) : PS X st (tS mg C W (S.retO i)) := PS.to he fun Dn σ H x => by
  obtain ⟨B, Fc, F, ρ, S0, x⟩ := x
  unfold S.retO at x
  split at x
  · rename_i ds e
    obtain ⟨p, xs, h1, h2, h3, h4, h5⟩ := S0.own i ds e
    exact ⟨.ref p, h1, x p xs H F S0.bh S0.cf S0.fh S0.new h4 h3 h2 h5⟩
  · exact x.elim
theorem s_if {sa sb : List Stmt} (hc : PT X c (tB mg C W p)) (ha : PSs X sa (tS mg C W u)) (hb : PSs X sb (tS mg C W k)) : PS X (.If c sa sb pos) (tS mg C W (S.ifs p u k)) := PS.to (ps_if hc ha hb) fun Dn σ H x => by
  obtain ⟨B, Fc, F, ρ, S0, x⟩ := x
  obtain ⟨F2, S2, ff⟩ := S0.full
  refine ⟨F2, full ρ, S2.fh, S2.sh, ?_⟩
  unfold S.ifs at x
  cases e1 : p (full ρ) with
  | bad => rw [e1] at x; exact x
  | exc c => rw [e1] at x; exact fun a ha H' s => x a ha σ H' F (S0.only s)
  | ok b =>
    rw [e1] at x
    intro H' s
    cases b with
    | true => exact ⟨B, Fc, F, ρ, S0.only s, x⟩
    | false => exact ⟨B, Fc, F, ρ, S0.only s, x⟩

/-! ### lists of one's own -/
theorem onO_run {i : Nat} {kk : List D → R (List D)} {B Fc F : Hp} {σ : L2.St} {H : Hp} {ρ : Ev} {Dn : Ends} (S0 : SO C B Fc F σ H ρ) (x : Post mg C W B Fc Dn (S.onO i kk ρ)) : ∃ ds es pa xs, ρ[i]? = some (.own ds) ∧ kk ds = .ok es ∧ σ[i]? = some (some (.ref pa)) ∧ H pa = some (.lst xs) ∧ F pa = none ∧ Reps C F ds xs ∧
    ∀ ys, Reps C F es ys → Dn.nx σ (upd H pa (.lst ys)) := by
  unfold S.onO at x
  split at x
  · rename_i ds e
    obtain ⟨pa, xs, h1, h2, h3, h4, h5⟩ := S0.own i ds e
    cases e1 : kk ds with
    | bad => rw [e1] at x; exact x.elim
    | exc c => rw [e1] at x; exact x.elim
    | ok es =>
      rw [e1] at x
      exact ⟨ds, es, pa, xs, e, e1, h1, h2, h3, h5, fun ys r => x _ _ _ (S0.chg e h1 r)⟩
  · exact x.elim
theorem s_push {m : Bool} {i : Nat} (hs : PS X st (tDrop (tBM X.K "list" rAppend (tVar i) (tCons (tD mg C W f) tNil)))) : PS X st (tS mg C W (S.push m i f)) := PS.to hs fun Dn σ H x => by
  obtain ⟨B, Fc, F, ρ, S0, x⟩ := x
  unfold S.push at x
  split at x
  · rename_i ds0 e0
    obtain ⟨pa, xs, h1, h2, h3, h4, h5⟩ := S0.own i ds0 e0
    refine ⟨.ref pa, h1, .inl ⟨rfl, xs, SqL.of h2⟩, ?_⟩
    refine ev_run (Q := fun v H1 => tNil σ H1 fun us H2 => rAppend (.ref pa) (v :: us) H2 fun _ H3 => Dn.nx σ H3) S0 x fun d v H' F' S' s r y => ?_
    obtain ⟨ds, es, pb, ys, g1, g2, g3, g4, g5, g6, y⟩ := onO_run S' y
    rw [h1] at g3
    cases g3
    by_cases hz : ds.length < LINE
    · rw [if_pos hz] at g2
      cases g2
      exact ⟨pa, ys, v, rfl, rfl, g4, by rw [g6.len]; exact line_lt hz, y _ (g6.app (Reps.one r))⟩
    · rw [if_neg hz] at g2
      cases g2
  · exact x.elim
theorem s_put {i : Nat} (hs : PS X st (tAsg (tD mg C W f) (gSub (tVar i) (tD mg C W h) rSetL))) : PS X st (tS mg C W (S.put i h f)) := PS.to hs fun Dn σ H x => by
  obtain ⟨B, Fc, F, ρ, S0, x⟩ := x
  unfold S.put at x
  refine ev_runT S0 x fun d v H' F' S' fl r y => ?_
  split at y
  · rename_i ds0 e0
    obtain ⟨pa, xs, h1, h2, h3, h4, h5⟩ := S'.own i ds0 e0
    refine ⟨.ref pa, h1, ?_⟩
    refine ev_run (Q := fun iv H2 => rSetL (.ref pa) iv v H2 fun H3 => Dn.nx σ H3) S' y fun kd kv H2 F2 S2 s2 r2 y2 => ?_
    obtain ⟨ds, es, pb, ys, g1, g2, g3, g4, g5, g6, y3⟩ := onO_run S2 y2
    rw [h1] at g3
    cases g3
    cases kd <;> try cases g2
    rename_i z
    simp only [Rep] at r2
    dsimp only at g2
    cases ez : ixN ds.length z with
    | none => rw [ez] at g2; cases g2
    | some n =>
      rw [ez] at g2
      cases g2
      have fv : Rep C F2 d v := flat_go fl r
      exact ⟨pa, ys, z, n, rfl, r2, g4, by rw [g6.len]; exact ez, y3 _ (Reps.set fv n g6)⟩
  · exact y.elim
theorem s_m0 {kk : List D → List D} {kv : List V → List V} {r : V → List V → Hp → VK → Prop} {i : Nat} (hr : ∀ pa xs H Q, H pa = some (.lst xs) → Q .non (upd H pa (.lst (kv xs))) → r (.ref pa) [] H Q) (hk : ∀ F ds xs, Reps C F ds xs → Reps C F (kk ds) (kv xs))
    (hs : PS X st (tDrop (tBM0 X.K "list" r (tVar i)))) : PS X st (tS mg C W (S.onO i fun ds => .ok (kk ds))) := PS.to hs fun Dn σ H x => by
  obtain ⟨B, Fc, F, ρ, S0, x⟩ := x
  obtain ⟨ds, es, pa, xs, g1, g2, g3, g4, g5, g6, y⟩ := onO_run S0 x
  cases g2
  exact ⟨.ref pa, g3, .inl ⟨rfl, xs, SqL.of g4⟩, hr pa xs H _ g4 (y _ (hk _ _ _ g6))⟩
theorem s_rev {i : Nat} (hs : PS X st (tDrop (tBM0 X.K "list" rReverse (tVar i)))) : PS X st (tS mg C W (S.rev i)) :=
  s_m0 (kk := List.reverse) (kv := List.reverse) (fun pa xs H Q h q => ⟨pa, xs, rfl, rfl, h, q⟩) (fun _ _ _ r => r.rev) hs
theorem s_clr {i : Nat} (hs : PS X st (tDrop (tBM0 X.K "list" rClear (tVar i)))) : PS X st (tS mg C W (S.clr i)) :=
  s_m0 (kk := fun _ => []) (kv := fun _ => []) (fun pa xs H Q h q => ⟨pa, xs, rfl, rfl, h, q⟩) (fun _ _ _ r => by simp only [Reps]) hs

/-! ### loops -/
theorem s_for {m : Bool} {ws : List Nat} {iter : Expr} {body : List Stmt} (hm : m = false) (hp : PassesOwn (model X.prog X.w) X.A X.env X.xe) (hc : X.calm = true) (hi : PI X tg iter (tI mg C W fs)) (hg : PG X tg (tG C g)) (hb : PSs X body (tS mg C W u))
    (hs : ∀ x, foldedSetIterable iter X.env x = pure x := by intro _; rfl) : PS X (.For tg iter body [] pos) (tS mg C W (S.forS m fs g ws u)) := PS.to (ps_for hp hc hi hg hb hs) fun Dn σ H x => by
  obtain ⟨B, Fc, F, ρ, S0, x⟩ := x
  subst hm
  unfold S.forS S.runL S.evL at x
  simp only [Bool.false_eq_true, if_false] at x
  refine ⟨F, ρ, S0.fh, S0.sh, ?_⟩
  cases e1 : fs ρ with
  | bad => rw [e1] at x; exact x
  | exc c => rw [e1] at x; exact fun a ha H' s => x a ha σ H' F (S0.only s)
  | ok ds =>
    rw [e1] at x
    intro J H1 F1 n1 it
    have S1 := S0.grow n1
    refine ⟨fun i n σ H => n = ds.length - i ∧ i ≤ ds.length ∧ ∃ F ρ, SO C B Fc F σ H ρ ∧ Sm F1 F ∧ Post mg C W B Fc Dn (S.forF g ws u (ds.drop i) ρ), ⟨ds.length, by simp, Nat.zero_le _, F1, ρ, S1, Sm.rfl, x⟩, ?_⟩
    rintro i n σ2 H2 ⟨rfl, hi, F2, ρ2, S2, s2, x2⟩
    by_cases hlt : i < ds.length
    · refine .inr ⟨it.go i H2 (s2.tr S2.fh) hlt, fun σ H => ∃ F ρ, SO C B Fc F σ H ρ ∧ Sm F1 F ∧ Post mg C W B Fc Dn (S.forF g ws u (ds.drop (i + 1)) ρ), fun σ' H' w => ⟨ds.length - (i + 1), by omega, rfl, hlt, w⟩, fun v H3 y => ?_⟩
      obtain ⟨F3, d, ed, n3, rd⟩ := it.yld i H2 F2 v H3 s2 S2.fh y hlt
      rw [show ds.drop i = d :: ds.drop (i + 1) by
        rw [List.drop_eq_getElem_cons hlt]
        congr
        rw [List.getElem?_eq_getElem hlt] at ed
        exact Option.some.inj ed] at x2
      have S3 := S2.grow n3
      unfold S.forF at x2
      refine ⟨F3, d, n3.fh, rd, ?_⟩
      cases eg : g d with
      | bad => rw [eg] at x2; exact x2
      | exc c => rw [eg] at x2; exact x2
      | ok ps =>
        rw [eg] at x2
        dsimp only at x2
        intro us pu
        have S4 := S3.sets pu
        -- the turn runs from what is known now
        have S5 : SO C B F3 F3 (setV us σ2) H3 (setD ps ρ2) := ⟨S4.bh, Sm.rfl, S4.fh, fun a h => .inl h, S4.sh, S4.own, S4.dis⟩
        refine ⟨B, F3, F3, setD ps ρ2, S5, ?_⟩
        have nw : ∀ a, F3 a ≠ none → Fc a ≠ none ∨ B a = none := S3.new
        cases eu : u (setD ps ρ2) with
        | bad => rw [eu] at x2; exact x2
        | rt d => rw [eu] at x2; exact Post.up (Dn := Dn) S3.cf nw (fun _ _ z => z) (fun ρ e => nomatch e) x2
        | ro d => rw [eu] at x2; exact Post.up (Dn := Dn) S3.cf nw (fun _ _ z => z) (fun ρ e => nomatch e) x2
        | ex c ρ' => rw [eu] at x2; exact Post.up (Dn := Dn) S3.cf nw (fun _ _ z => z) (fun ρ e => nomatch e) x2
        | nx ρ' =>
          rw [eu] at x2
          intro σ6 H6 F6 S6
          have S7 : SO C B Fc F6 σ6 H6 ρ' := ⟨S6.bh, S3.cf.tr S6.cf, S6.fh, fun a h => by
            rcases S6.new a h with z | z
            · exact nw a z
            · exact .inr z, S6.sh, S6.own, S6.dis⟩
          exact ⟨F6, wipeE ws ρ', S7.wipe ws, (s2.tr n3.ff).tr S6.cf, x2⟩
    · have ei : i = ds.length := by omega
      subst ei
      rw [List.drop_length] at x2
      exact .inl ⟨it.stop _ H2 (s2.tr S2.fh) rfl, x2 σ2 H2 F2 S2⟩
theorem whF_more {cc : Ev → R Bool} {body : Ev → Out} : ∀ (n : Nat) (ρ : Ev), S.whF cc body n ρ ≠ .bad → S.whF cc body (n + 1) ρ = S.whF cc body n ρ
  | 0, ρ, h => absurd rfl h
  | n + 1, ρ, h => by
    show (match cc (full ρ) with | .ok true => (match body ρ with | .nx ρ' => S.whF cc body (n + 1) ρ' | o => o) | .ok false => .nx ρ | .exc c => .ex c ρ | .bad => .bad) = (match cc (full ρ) with | .ok true => (match body ρ with | .nx ρ' => S.whF cc body n ρ' | o => o) | .ok false => .nx ρ | .exc c => .ex c ρ | .bad => .bad)
    have h : (match cc (full ρ) with | .ok true => (match body ρ with | .nx ρ' => S.whF cc body n ρ' | o => o) | .ok false => .nx ρ | .exc c => .ex c ρ | .bad => .bad) ≠ Out.bad := h
    cases e1 : cc (full ρ) with
    | bad => rfl
    | exc c => rfl
    | ok b =>
      cases b with
      | false => rfl
      | true =>
        rw [e1] at h
        dsimp only at h ⊢
        cases e2 : body ρ with
        | nx ρ' =>
          rw [e2] at h
          exact whF_more n ρ' h
        | _ => rfl
theorem s_while {fuel : Ev → Nat} {cnd : Expr} {body : List Stmt} (hp : PassesOwn (model X.prog X.w) X.A X.env X.xe) (hc : PT X cnd (tB mg C W p)) (hb : PSs X body (tS mg C W u)) : PS X (.While cnd body [] pos) (tS mg C W (S.wh fuel p u)) :=
  PS.to (ps_while hp hc hb) fun Dn σ H x => by
    obtain ⟨B, Fc, F, ρ, S0, x⟩ := x
    unfold S.wh at x
    refine ⟨fun n σ H => ∃ F ρ, SO C B Fc F σ H ρ ∧ Post mg C W B Fc Dn (S.whF p u n ρ), ⟨fuel ρ, F, ρ, S0, x⟩, ?_⟩
    rintro n σ2 H2 ⟨F2, ρ2, S2, x2⟩
    obtain ⟨F3, S3, ff⟩ := S2.full
    refine ⟨F3, full ρ2, S3.fh, S3.sh, ?_⟩
    cases n with
    | zero => exact x2.elim
    | succ n =>
      unfold S.whF at x2
      cases e1 : p (full ρ2) with
      | bad => rw [e1] at x2; exact x2
      | exc c => rw [e1] at x2; exact fun a ha H' s => x2 a ha σ2 H' F2 (S2.only s)
      | ok b =>
        rw [e1] at x2
        intro H' s
        have S4 := S2.only s
        cases b with
        | false =>
          rw [if_neg Bool.false_ne_true]
          exact x2 σ2 H' F2 S4
        | true =>
          rw [if_pos rfl]
          dsimp only at x2
          refine ⟨fun σ H => ∃ F ρ, SO C B Fc F σ H ρ ∧ Post mg C W B Fc Dn (S.whF p u n ρ), fun σ' H' w => ⟨n, Nat.lt_succ_self n, w⟩, ⟨B, Fc, F2, ρ2, S4, ?_⟩⟩
          cases eu : u ρ2 with
          | bad => rw [eu] at x2; exact x2
          | rt d => rw [eu] at x2; exact x2
          | ro d => rw [eu] at x2; exact x2
          | ex c ρ' => rw [eu] at x2; exact x2
          | nx ρ' =>
            rw [eu] at x2
            exact fun σ6 H6 F6 S6 => ⟨F6, ρ', S6, x2⟩

/-! ### a def -/
/-- the answer of a body -/
def fin : Out → R D
  | .nx _ => .ok .non
  | .rt d => .ok d
  | .ro ds => .ok (.lst ds)
  | .ex c _ => .exc c
  | .bad => .bad
def finL : Out → R (List D)
  | .ro ds => .ok ds
  | .ex c _ => .exc c
  | _ => .bad
/-- the slots at the start -/
def start (n : Nat) (ds : List D) : Ev := ds.map Sl.sh ++ List.replicate (n - ds.length) .no
theorem start_so {N : List Str} {F H : Hp} {ds : List D} {vs : List V} (s : Sm F H) (r : Reps C F ds vs) : SO C H F F (L2.start N vs) H (start N.length ds) where
  bh := Sm.rfl
  cf := Sm.rfl
  fh := s
  new := fun a h => .inl h
  sh := by
    refine ⟨by simp [start, L2.start, r.len], fun i d e => ?_⟩
    unfold start at e
    by_cases hi : i < ds.length
    · rw [List.getElem?_append_left (by simpa using hi), List.getElem?_map] at e
      cases q : ds[i]? with
      | none => rw [q] at e; cases e
      | some d' =>
        rw [q] at e
        cases e
        obtain ⟨v, h1, r1⟩ := r.get q
        refine ⟨v, ?_, r1⟩
        unfold L2.start
        rw [List.getElem?_append_left (by simpa [r.len] using hi), List.getElem?_map, h1]
        rfl
    · rw [List.getElem?_append_right (by simpa using hi)] at e
      rw [List.getElem?_replicate] at e
      split at e <;> cases e
  own := fun i es e => by
    unfold start at e
    by_cases hi : i < ds.length
    · rw [List.getElem?_append_left (by simpa using hi), List.getElem?_map] at e
      cases q : ds[i]? with
      | none => rw [q] at e; cases e
      | some d' => rw [q] at e; cases e
    · rw [List.getElem?_append_right (by simpa using hi)] at e
      rw [List.getElem?_replicate] at e
      split at e <;> cases e
  dis := fun i j es gs p e _ _ _ => by
    unfold start at e
    by_cases hi : i < ds.length
    · rw [List.getElem?_append_left (by simpa using hi), List.getElem?_map] at e
      cases q : ds[i]? with
      | none => rw [q] at e; cases e
      | some d' => rw [q] at e; cases e
    · rw [List.getElem?_append_right (by simpa using hi)] at e
      rw [List.getElem?_replicate] at e
      split at e <;> cases e
end
section
variable {P : Program} {w : World} {K : PySem.W.Frag} {mg : Str → Option Value} {base : Heap} {C : Addr}
theorem fn_d {x qual : Str} {st : Stmt} {fa : Addr} {fd : FuncData} {N ps : List Str} {k : Nat} {u : Ev → Out} (Fn : Fun K x qual st fa fd) (S0 : FnScope N ps (defScope st))
    (hb : ∀ (X : Cx), X.prog = P → X.w = w → X.K = K → X.mg = mg → X.base = base → X.N = N → X.env.scope = defScope st → X.calm = true → X.fn = (fun _ => true) → Room k X.A → (∃ E₁, ∃ K' : Value → Shared → Prop, X.xe = fun e s' => wpAny (model X.prog X.w) X.A (leaving X.env e) (fun _ s'' => K' e s'') E₁ s') →
      X.stack = X.env :: X.outer → X.env.frame = some X.env.locals → X.ex = [] → ∀ W, Takes X W → PSs X (defBody st) (tS mg C W u)) :
    FnOk P w K mg base (L2.CX P w) (k + 1) fa fd ps (SpD mg C ps.length fun ds => fin (u (start N.length ds))) := by
  refine Fn.okX S0 (fun vs H Q E' h => h.1) fun cdv A outer s H vs Q E' hr h => ?_
  obtain ⟨hl, F, ds, sm, r, x⟩ := h
  refine ⟨_, hb (cxOf (L2.CX P w) P w K mg base N qual (defScope st) fa cdv A outer s H E') rfl rfl rfl rfl rfl rfl rfl rfl rfl hr ⟨_, _, rfl⟩ rfl rfl rfl (fun cls d _ H => E' cls d H) (takes_of rfl rfl rfl rfl), ?_⟩
  refine ⟨H, F, F, start N.length ds, start_so sm r, ?_⟩
  dsimp only at x
  cases e1 : u (start N.length ds) with
  | nx ρ => 
    rw [e1] at x
    exact fun σ' H' F' S' => x .non H' F' ⟨S'.cf, S'.bh, S'.fh, S'.new⟩ (by simp only [Rep])
  | rt d =>
    rw [e1] at x
    exact fun v H' F' a b c e r => x v H' F' ⟨b, a, c, e⟩ r
  | ro es =>
    rw [e1] at x
    intro p xs H' F' a b c e bp fp hl r
    refine x (.ref p) H' (upd F' p (.lst xs)) ⟨b.tr (Sm.upd fp), a, fun y o e' => ?_, fun y h => ?_⟩ ?_
    · by_cases hb : y = p
      · subst hb; rw [upd_same] at e'; cases e'; exact hl
      · rw [upd_ne hb] at e'; exact c _ _ e'
    · by_cases hb : y = p
      · subst hb; exact .inr bp
      · rw [upd_ne hb] at h; exact e y h
    · simp only [Rep]
      exact ⟨p, xs, rfl, upd_same, Reps.mono (Sm.upd fp) _ _ r⟩
  | ex c ρ =>
    rw [e1] at x
    exact fun a ha σ' H' F' S' => x a ha H' S'.bh
  | bad => rw [e1] at x; exact x
theorem fn_l {x qual : Str} {st : Stmt} {fa : Addr} {fd : FuncData} {N ps : List Str} {k : Nat} {u : Ev → Out} (Fn : Fun K x qual st fa fd) (S0 : FnScope N ps (defScope st))
    (hb : ∀ (X : Cx), X.prog = P → X.w = w → X.K = K → X.mg = mg → X.base = base → X.N = N → X.env.scope = defScope st → X.calm = true → X.fn = (fun _ => true) → Room k X.A → (∃ E₁, ∃ K' : Value → Shared → Prop, X.xe = fun e s' => wpAny (model X.prog X.w) X.A (leaving X.env e) (fun _ s'' => K' e s'') E₁ s') →
      X.stack = X.env :: X.outer → X.env.frame = some X.env.locals → X.ex = [] → ∀ W, Takes X W → PSs X (defBody st) (tS mg C W u)) :
    FnOk P w K mg base (L2.CX P w) (k + 1) fa fd ps (SpL mg C ps.length fun ds => finL (u (start N.length ds))) := by
  refine Fn.okX S0 (fun vs H Q E' h => h.1) fun cdv A outer s H vs Q E' hr h => ?_
  obtain ⟨hl, F, ds, sm, r, x⟩ := h
  refine ⟨_, hb (cxOf (L2.CX P w) P w K mg base N qual (defScope st) fa cdv A outer s H E') rfl rfl rfl rfl rfl rfl rfl rfl rfl hr ⟨_, _, rfl⟩ rfl rfl rfl (fun cls d _ H => E' cls d H) (takes_of rfl rfl rfl rfl), ?_⟩
  refine ⟨H, F, F, start N.length ds, start_so sm r, ?_⟩
  dsimp only at x
  cases e1 : u (start N.length ds) with
  | nx ρ => rw [e1] at x; exact x.elim
  | rt d => rw [e1] at x; exact x.elim
  | ro es =>
    rw [e1] at x
    exact fun p xs H' F' a b c e bp fp hl r => x p xs H' F' ⟨b, a, c, e⟩ bp fp hl r
  | ex c ρ =>
    rw [e1] at x
    exact fun a ha σ' H' F' S' => x a ha H' S'.bh
  | bad => rw [e1] at x; exact x.elim
end
end TB
namespace TB
open PySem PySem.Spec PyProof.Rows L2

/-! ### defs of the text by name -/
def fdOf (K : PySem.W.Frag) (a : Addr) : FuncData := match K.lookup a with
  | some ⟨_, _, .func fd, _⟩ => fd
  | _ => default
theorem fdOf_eq {K : PySem.W.Frag} {a : Addr} {oc : Value} {od : Option Addr} {osl : Array (Option Value)} {fd : FuncData} (h : K.lookup a = some ⟨oc, od, .func fd, osl⟩) : fdOf K a = fd := by
  unfold fdOf; rw [h]
/-- the def st stands under the module's name x -/
structure Df (K : PySem.W.Frag) (mg : Str → Option Value) (x : Str) (st : Stmt) (ps : List Str) : Prop where
  F : Fun K x x st (He.ga K x) (fdOf K (He.ga K x))
  b : Binds K (fdOf K (He.ga K x)) ps []
  g : mg x = some (.ref (He.ga K x))
abbrev shopC (K : PySem.W.Frag) : Addr := He.ga K "Shop"
abbrev OkD (P : Program) (w : World) (K : PySem.W.Frag) (mg : Str → Option Value) (base : Heap) (k : Nat) (x : Str) (ps : List Str) (g : List D → R D) : Prop :=
  FnOk P w K mg base (L2.CX P w) k (He.ga K x) (fdOf K (He.ga K x)) ps (SpD mg (shopC K) ps.length g)
abbrev OkL (P : Program) (w : World) (K : PySem.W.Frag) (mg : Str → Option Value) (base : Heap) (k : Nat) (x : Str) (ps : List Str) (g : List D → R (List D)) : Prop :=
  FnOk P w K mg base (L2.CX P w) k (He.ga K x) (fdOf K (He.ga K x)) ps (SpL mg (shopC K) ps.length g)
section
variable {P : Program} {w : World} {K : PySem.W.Frag} {mg : Str → Option Value} {base : Heap}
theorem fnD {x : Str} {st : Stmt} {N ps : List Str} {k : Nat} {u : Ev → Out} (D0 : Df K mg x st ps) (S0 : FnScope N ps (defScope st))
    (hb : ∀ (cdv : Value) (A : Around) (outer : List Env) (s : Shared) (H : Hp) (E' : XK), Room k (A.deeper (envOfC x (defScope st) s.heap.objs.size (He.ga K x) cdv)) → ∀ W : WX, Takes (cxOf (L2.CX P w) P w K mg base N x (defScope st) (He.ga K x) cdv A outer s H E') W →
      PSs (cxOf (L2.CX P w) P w K mg base N x (defScope st) (He.ga K x) cdv A outer s H E') (defBody st) (tS mg (shopC K) W u)) :
    OkD P w K mg base (k + 1) x ps fun ds => fin (u (start N.length ds)) := by
  refine D0.F.okX S0 (fun vs H Q E h => h.1) fun cdv A outer s H vs Q E' hr h => ?_
  obtain ⟨hl, F, ds, sm, r, y⟩ := h
  refine ⟨_, hb cdv A outer s H E' hr (fun cls d _ H => E' cls d H) (takes_of rfl rfl rfl rfl), ?_⟩
  refine ⟨H, F, F, start N.length ds, start_so sm r, ?_⟩
  dsimp only at y
  cases e1 : u (start N.length ds) with
  | nx ρ =>
    rw [e1] at y
    exact fun σ' H' F' S' => y .non H' F' ⟨S'.cf, S'.bh, S'.fh, S'.new⟩ (by simp only [Rep])
  | rt d =>
    rw [e1] at y
    exact fun v H' F' a b c e r => y v H' F' ⟨b, a, c, e⟩ r
  | ro es =>
    rw [e1] at y
    intro p xs H' F' a b c e bp fp hl r
    refine y (.ref p) H' (upd F' p (.lst xs)) ⟨b.tr (Sm.upd fp), a, fun z o e' => ?_, fun z h => ?_⟩ ?_
    · by_cases hb : z = p
      · subst hb; rw [upd_same] at e'; cases e'; exact hl
      · rw [upd_ne hb] at e'; exact c _ _ e'
    · by_cases hb : z = p
      · subst hb; exact .inr bp
      · rw [upd_ne hb] at h; exact e z h
    · simp only [Rep]
      exact ⟨p, xs, rfl, upd_same, Reps.mono (Sm.upd fp) _ _ r⟩
  | ex c ρ =>
    rw [e1] at y
    exact fun a ha σ' H' F' S' => y a ha H' S'.bh
  | bad => rw [e1] at y; exact y
theorem fnL {x : Str} {st : Stmt} {N ps : List Str} {k : Nat} {u : Ev → Out} (D0 : Df K mg x st ps) (S0 : FnScope N ps (defScope st))
    (hb : ∀ (cdv : Value) (A : Around) (outer : List Env) (s : Shared) (H : Hp) (E' : XK), Room k (A.deeper (envOfC x (defScope st) s.heap.objs.size (He.ga K x) cdv)) → ∀ W : WX, Takes (cxOf (L2.CX P w) P w K mg base N x (defScope st) (He.ga K x) cdv A outer s H E') W →
      PSs (cxOf (L2.CX P w) P w K mg base N x (defScope st) (He.ga K x) cdv A outer s H E') (defBody st) (tS mg (shopC K) W u)) :
    OkL P w K mg base (k + 1) x ps fun ds => finL (u (start N.length ds)) := by
  refine D0.F.okX S0 (fun vs H Q E h => h.1) fun cdv A outer s H vs Q E' hr h => ?_
  obtain ⟨hl, F, ds, sm, r, y⟩ := h
  refine ⟨_, hb cdv A outer s H E' hr (fun cls d _ H => E' cls d H) (takes_of rfl rfl rfl rfl), ?_⟩
  refine ⟨H, F, F, start N.length ds, start_so sm r, ?_⟩
  dsimp only at y
  cases e1 : u (start N.length ds) with
  | nx ρ => rw [e1] at y; exact y.elim
  | rt d => rw [e1] at y; exact y.elim
  | ro es =>
    rw [e1] at y
    exact fun p xs H' F' a b c e bp fp hl r => y p xs H' F' ⟨b, a, c, e⟩ bp fp hl r
  | ex c ρ =>
    rw [e1] at y
    exact fun a ha σ' H' F' S' => y a ha H' S'.bh
  | bad => rw [e1] at y; exact y.elim
theorem fnLD {x : Str} {ps : List Str} {k : Nat} {g : List D → R (List D)} (F : OkL P w K mg base k x ps g) : OkD P w K mg base k x ps fun ds => (g ds).map .lst :=
  FnOk.imp F fun _ _ _ _ h => SpL.d h
end
section
variable {X : Cx} {W : WX} {e : Expr} {pos : Pos} {es : List Expr} {fs : Ev → R (List D)}
theorem d_def {j k : Nat} {x : Str} {st : Stmt} {ps : List Str} {g : List D → R D} {p1 : Pos} (Fn : OkD X.prog X.w X.K X.mg X.base j x ps g) (D0 : Df X.K X.mg x st ps) (hr : Room k X.A) (hjk : j ≤ k) (tk : Takes X W) (ha : PA X (e :: es) (tA X.mg (shopC X.K) W fs))
    (hfl : ∀ ρ ds, fs ρ = .ok ds → ds.length = ps.length) (hg : Gl X x := by rfl) (hl : (e :: es).length = ps.length := by rfl) (hdb : (x == ("__debug__" : Str)) = false := by decide)
    (he : starEach (e :: es) X.env = (false, eval e X.env) :: starEach es X.env := by rfl) (hpl : (backTo pos (starEach es X.env)).any (·.1) = false := by rfl) :
    PE X (.Call (.Name x p1) (e :: es) [] pos) (tD X.mg (shopC X.K) W (E.app g fs)) :=
  d_call Fn (hr.mono hjk) hg D0.g D0.F.kp D0.b hl tk ha hfl hdb he hpl
theorem l_def {j k : Nat} {x : Str} {st : Stmt} {ps : List Str} {g : List D → R (List D)} {p1 : Pos} (Fn : OkL X.prog X.w X.K X.mg X.base j x ps g) (D0 : Df X.K X.mg x st ps) (hr : Room k X.A) (hjk : j ≤ k) (tk : Takes X W) (ha : PA X (e :: es) (tA X.mg (shopC X.K) W fs))
    (hfl : ∀ ρ ds, fs ρ = .ok ds → ds.length = ps.length) (hg : Gl X x := by rfl) (hl : (e :: es).length = ps.length := by rfl) (hdb : (x == ("__debug__" : Str)) = false := by decide)
    (he : starEach (e :: es) X.env = (false, eval e X.env) :: starEach es X.env := by rfl) (hpl : (backTo pos (starEach es X.env)).any (·.1) = false := by rfl) :
    PE X (.Call (.Name x p1) (e :: es) [] pos) (tL X.mg (shopC X.K) W (E.appL g fs)) :=
  l_call Fn (hr.mono hjk) hg D0.g D0.F.kp D0.b hl tk ha hfl hdb he hpl
end
section
variable {X : Cx} {mg : Str → Option Value} {C : Addr} {W : WX} {e a b c tg : Expr} {t : TE} {pos : Pos} {f h j : Ev → R D} {p q : Ev → R Bool} {es : List Expr} {fs : Ev → R (List D)} {g : D → R (List (Nat × D))}
/-! ### names of the module -/
theorem d_gint {x : Str} {i : Int} (hg : Gl X x) (hm : ∃ t, X.mg x = some (.int i t)) (hn : x ≠ "__name__" := by decide) (hd : (x == ("__debug__" : Str)) = false := by decide) : PE X (.Name x pos) (tD mg C W (E.c (.int i))) := by
  obtain ⟨t, hm⟩ := hm
  exact d_c (pe_glob (v := .int i) hg hm ⟨t, rfl⟩ (hd := hd)) fun _ => by simp only [Rep]
theorem d_gstr {x z : Str} (hg : Gl X x) (hm : ∃ t, X.mg x = some (.str z t)) (hn : x ≠ "__name__" := by decide) (hd : (x == ("__debug__" : Str)) = false := by decide) : PE X (.Name x pos) (tD mg C W (E.c (.str z))) := by
  obtain ⟨t, hm⟩ := hm
  exact d_c (pe_glob (v := .str z) hg hm ⟨t, rfl⟩ (hd := hd)) fun _ => by simp only [Rep]
/-! ### operators -/
theorem d_add (ha : PE X a (tD mg C W f)) (hb : PE X b (tD mg C W h)) : PE X (.BinOp a .Add b pos) (tD mg C W (E.bin dAdd f h)) := d_op op_addD add_D add_calm ha hb
theorem d_sub (ha : PE X a (tD mg C W f)) (hb : PE X b (tD mg C W h)) : PE X (.BinOp a .Sub b pos) (tD mg C W (E.bin dSub f h)) := d_op op_subD (dI_D fun _ _ _ => trivial) dI_calm ha hb
theorem d_mul (ha : PE X a (tD mg C W f)) (hb : PE X b (tD mg C W h)) : PE X (.BinOp a .Mult b pos) (tD mg C W (E.bin dMul f h)) := d_op op_mul (dI_D fun i j z => (show (-(2 ^ 64) < i ∧ i < 2 ^ 64) ∨ (-(2 ^ 64) < j ∧ j < 2 ^ 64) from of_decide_eq_true z)) dI_calm ha hb
theorem d_fdiv (ha : PE X a (tD mg C W f)) (hb : PE X b (tD mg C W h)) : PE X (.BinOp a .FloorDiv b pos) (tD mg C W (E.bin dDiv f h)) := d_op op_fdiv (dI_D fun i j z => (show 0 < j ∧ j < 1073741824 from of_decide_eq_true z)) dI_calm ha hb
theorem d_mod (ha : PE X a (tD mg C W f)) (hb : PE X b (tD mg C W h)) : PE X (.BinOp a .Mod b pos) (tD mg C W (E.bin dMod f h)) := d_op op_mod (dI_D fun _ _ z => of_decide_eq_true z) dI_calm ha hb
theorem cPow_ok {i j : Int} (z : cPow i j = true) : CPow i j := (show 0 ≤ j ∧ j ≤ 1000000 ∧ i.natAbs < 2 ^ 64 from of_decide_eq_true z)
theorem d_pow (ha : PE X a (tD mg C W f)) (hb : PE X b (tD mg C W h)) : PE X (.BinOp a .Pow b pos) (tD mg C W (E.bin dPow f h)) := d_op op_pow (dI_D fun _ _ z => cPow_ok z) dI_calm ha hb
theorem d_ix (ha : PE X a (tD mg C W f)) (hb : PE X b (tD mg C W h)) (hs : PlainIx b := by exact fun _ _ => rfl) : PE X (.Subscript a b pos) (tD mg C W (E.bin dIx f h)) :=
  PE.to (pe_ix (r := rIx X.K) ix_seq ha hb hs) fun σ H Q x => seq2 ix_D ix_calm x
end
end TB
/-! zip of a list with a tuple, lists joined, a comprehension given to a name -/
namespace TB
open PySem PySem.Spec PyProof.Rows L2

/-- a list at a with a tuple at b -/
def ItzM (K : PySem.W.Frag) (a b : Addr) : It where
  go := fun i H => ∃ (us ws : List V) (u w : V), SqL K H a us ∧ SqT K H b ws ∧ us[i]? = some u ∧ ws[i]? = some w
  yld := fun i H v H' => ∃ q u w, v = .ref q ∧ H q = none ∧ H' = upd H q (.tup [u, w]) ∧ (∀ us, SqL K H a us → us[i]? = some u) ∧ ∀ ws, SqT K H b ws → ws[i]? = some w
  stop := fun i H => ∃ us ws : List V, SqL K H a us ∧ SqT K H b ws ∧ i ≤ us.length ∧ i ≤ ws.length ∧ (i = us.length ∨ i = ws.length)
theorem sep_of {z TI TO i1 i2 a b : Addr} (D0 : ZipApart z TI TO i1 i2 a b) : ZipSep2 z TI TO i1 i2 [i1, a] [i2, b] where
  TIz := D0.TIz
  TOz := D0.TOz
  TITO := D0.TITO
  TIi1 := D0.TIi1
  mem1 := List.mem_cons_self
  zf1 := by simpa using ⟨D0.i1z.symm, D0.l1z.symm⟩
  Tf1 := by simpa using ⟨D0.TOi1, D0.l1TO.symm⟩
  TIi2 := D0.TIi2
  mem2 := List.mem_cons_self
  zf2 := by simpa using ⟨D0.i2z.symm, D0.l2z.symm⟩
  Tf2 := by simpa using ⟨D0.TOi2, D0.l2TO.symm⟩
  sep1_2 := by simpa using ⟨D0.i12, D0.l2i1.symm⟩
  sep2_1 := by simpa using ⟨D0.i12.symm, D0.l1i2.symm⟩
theorem five_of {c z x y v w : Addr} (h : c ∈ [z, x, y, v, w]) : c = z ∨ c = x ∨ c = y ∨ c = v ∨ c = w := by simpa using h
theorem turn_zipM {P : Program} {w : World} {K : PySem.W.Frag} {elts : List Expr} {kk : Nat} {tpos : Pos} {a b z TI TO i1 i2 : Addr} (D0 : ZipApart z TI TO i1 i2 a b) :
    Turn P w K (.Tuple elts kk tpos) (ItzM K a b) [z, TI, TO, i1, i2] z (fun i h => IsZip h z TI TO .none ∧ IsPair h TI (.ref i1) (.ref i2) ∧ (∃ x y, IsPair h TO x y) ∧ h.IsListIter i1 a i ∧ h.IsTupleIter i2 b i) where
  mem := List.mem_cons_self
  obj := by
    rintro i h ⟨hz, hTI, ⟨x, y, hTO⟩, ⟨o1, e1, _, d1⟩, ⟨o2, e2, _, d2⟩⟩ c hc
    rcases five_of hc with rfl | rfl | rfl | rfl | rfl
    · exact ⟨_, hz, fun v q => nomatch q⟩
    · exact ⟨_, hTI, fun v q => nomatch q⟩
    · exact ⟨_, hTO, fun v q => nomatch q⟩
    · exact ⟨o1, e1, fun v q => by rw [d1] at q; cases q⟩
    · exact ⟨o2, e2, fun v q => by rw [d2] at q; cases q⟩
  keep := by
    rintro i h h' ⟨hz, hTI, ⟨x, y, hTO⟩, h1, h2⟩ k
    exact ⟨k _ (by simp) _ hz, k _ (by simp) _ hTI, ⟨x, y, k _ (by simp) _ hTO⟩, h1.at fun o q => k _ (by simp) o q, h2.at fun o q => k _ (by simp) o q⟩
  item := by
    rintro X rfl rfl rfl hc i pins s σ H E I hf ⟨hz, hTI, ⟨x0, y0, hTO⟩, h1, h2⟩ ⟨us, ws, u, v, hqx, hqy, hu, hv⟩
    obtain ⟨its, rv, pl, _⟩ := I.list hqx
    obtain ⟨its2, rv2, p2, _⟩ := I.tuple hqy
    obtain ⟨x, ex, rx⟩ := rv.get hu
    obtain ⟨y, ey, ry⟩ := rv2.get hv
    have hzl : z < s.heap.objs.size := Heap.lt_size hz
    have hd := I.ok.hd hc
    have lx : i < its.toArray.size := by simpa using (List.getElem?_eq_some_iff.mp ex).1
    have ly : i < its2.toArray.size := by simpa using (List.getElem?_eq_some_iff.mp ey).1
    refine wpAny_pyNext_zipD2_item (sep_of D0) (Draws.list (show X.A.in1.handled = none from hd) i1 a D0.l1i1 its.toArray) (Draws.tuple (show X.A.in1.handled = none from hd) i2 b D0.l2i2 its2.toArray) hz hTI hTO ⟨h1, pl.isList⟩ ⟨h2, p2⟩ lx ly ?_
    intro x' y' h' tk gx gy z' TO' st1 st2 hT hsz hk
    have ex' : x' = x := by
      have q : its.toArray[i]? = some x := by simpa using ex
      exact Option.some.inj (gx.symm.trans q)
    have ey' : y' = y := by
      have q : its2.toArray[i]? = some y := by simpa using ey
      exact Option.some.inj (gy.symm.trans q)
    subst ex' ey'
    refine ⟨_, rfl, wpAny_letOwnedTupleGo_zip (s := { s with heap := h', toks := tk }) z' fun h2' z2 sb => ?_⟩
    have hT2 : h2'.get? s.heap.objs.size = some { cls := .type "tuple", data := .seq #[x', y'] } := (sb.2 _ (Nat.ne_of_gt hzl)).trans hT
    have nw : ObjOk X.prog X.w (upd H s.heap.objs.size (.tup [u, v])) h2' s.heap.objs.size (.tup [u, v]) :=
      ⟨by show 2 ≤ sizeLine; decide, [x', y'], .cons rx (.cons ry .nil), ⟨_, hT2, rfl, _, rfl⟩⟩
    have old : ∀ c o, c ∉ [z, TI, TO, i1, i2] → s.heap.get? c = some o → h2'.get? c = some o := fun c o hb q => by
      simp only [List.mem_cons, not_or] at hb
      exact (sb.2 c hb.1).trans (hk c o hb.1 hb.2.2.1 hb.2.2.2.1 hb.2.2.2.2.1 q)
    have I1 : Inv X pins σ (upd H s.heap.objs.size (.tup [u, v])) { s with heap := h2', toks := tk } := I.turnedNew (t' := tk) (ch := [z, TI, TO, i1, i2]) old hf (Nat.le_refl _) nw
    refine ⟨.ref s.heap.objs.size, _, I1, rfl, ⟨_, u, v, rfl, I.hok.fresh (Nat.le_refl _), rfl, fun l hl => by rw [I.list_inj hl hqx]; exact hu, fun l hl => by rw [I.tuple_inj hl hqy]; exact hv⟩, ⟨z2, ?_, ⟨x', y', ?_⟩, ?_, ?_⟩, fun c hcm => ?_⟩
    · exact (sb.2 _ D0.TIz).trans (hk _ _ D0.TIz D0.TITO D0.TIi1 D0.TIi2 hTI)
    · exact (sb.2 _ D0.TOz).trans TO'
    · exact st1.1.at fun o q => (sb.2 _ D0.i1z).trans q
    · exact st2.1.at fun o q => (sb.2 _ D0.i2z).trans q
    · have hlt : c < s.heap.objs.size := by
        rcases five_of hcm with rfl | rfl | rfl | rfl | rfl
        · exact hzl
        · exact Heap.lt_size hTI
        · exact Heap.lt_size hTO
        · obtain ⟨_, e1, _⟩ := h1; exact Heap.lt_size e1
        · obtain ⟨_, e2, _⟩ := h2; exact Heap.lt_size e2
      rw [upd_ne (Nat.ne_of_lt hlt)]
      exact (hf c hcm).1
  done := by
    rintro X rfl rfl rfl hc i pins s σ H E I hf ⟨hz, hTI, ⟨x0, y0, hTO⟩, h1, h2⟩ ⟨us, ws, hqx, hqy, le1, le2, hend⟩
    obtain ⟨its, rv, pl, _⟩ := I.list hqx
    obtain ⟨its2, rv2, p2, _⟩ := I.tuple hqy
    have l1 : its.toArray.size = us.length := by rw [List.size_toArray]; exact rv.length.symm
    have l2 : its2.toArray.size = ws.length := by rw [List.size_toArray]; exact rv2.length.symm
    have hd := I.ok.hd hc
    refine wpAny_pyNext_zipD2_end (sep_of D0) (Draws.list (show X.A.in1.handled = none from hd) i1 a D0.l1i1 its.toArray) (Draws.tuple (show X.A.in1.handled = none from hd) i2 b D0.l2i2 its2.toArray) hz hTI hTO ⟨h1, pl.isList⟩ ⟨h2, p2⟩ (by omega) (by omega) (by omega) ?_
    intro h' tk hk
    refine ⟨rfl, I.turnedL (t' := tk) (ch := [z, TI, TO, i1, i2]) (fun c o hb q => ?_) hf⟩
    simp only [List.mem_cons, not_or] at hb
    exact hk c o hb.1 hb.2.2.1 hb.2.2.2.1 hb.2.2.2.2.1 q
  self := fun A i s Q E st h => wpAny_pyIter_zip st.1 h

/-- zip(x, y): a list with a list or a tuple -/
def iZipG (K : PySem.W.Frag) (ta : TA) : TI := fun σ H R => ta σ H fun vs H1 => ∃ a b us ws, vs = [.ref a, .ref b] ∧ SqL K H1 a us ∧ ((SqL K H1 b ws ∧ R (Itz K a b) H1) ∨ (SqT K H1 b ws ∧ R (ItzM K a b) H1))
theorem pi_zipG {X : Cx} {e e2 : Expr} {ta : TA} {p pos tpos : Pos} {elts : List Expr} {kk : Nat} (hg : Gl X "zip") (hm : X.mg "zip" = none) (ha : PA X [e, e2] ta)
    (hs : starEach [e, e2] X.env = (false, eval e X.env) :: starEach [e2] X.env) (hpl : (backTo pos (starEach [e2] X.env)).any (·.1) = false) :
    PI X (.Tuple elts kk tpos) (.Call (.Name "zip" p) [e, e2] [] pos) (iZipG X.K ta) := by
  constructor
  intro pins s σ H R I h
  refine Call_ (ld_blt I hg hm PyProof.Rows.boot_zip (PyProof.Rows.callWith_type1 (thn (ha.run pos pins s σ H _ I h) ?_) hs hpl))
  rintro us0 s1 ⟨vs, H1, I1, r1, a, b, us, ws, rfl, hqx, q1⟩
  obtain ⟨_, _, rfl, e1, e2⟩ : ∃ u v, us0 = [u, v] ∧ RelV (.ref a) u ∧ RelV (.ref b) v := by
    cases r1 with
    | cons r rr =>
      cases rr with
      | cons r' rr =>
        cases rr
        exact ⟨_, _, rfl, r, r'⟩
  cases e1
  cases e2
  have young : ∀ c, c ∈ [s1.heap.objs.size + 4, s1.heap.objs.size + 2, s1.heap.objs.size + 3, s1.heap.objs.size, s1.heap.objs.size + 1] → FpOk X pins H1 c := fun c hc => by
    have hle : s1.heap.objs.size ≤ c := by
      rcases five_of hc with rfl | rfl | rfl | rfl | rfl <;> omega
    exact I1.fpOk hle (I1.hok.fresh hle)
  obtain ⟨its, rv, pl, _⟩ := I1.list hqx
  rcases q1 with ⟨hqy, q⟩ | ⟨hqy, q⟩
  · obtain ⟨its2, rv2, p2, _⟩ := I1.list hqy
    refine call_zip_2 pl.isList p2.isList fun h' hz hTI hTO h1 h2 hsz hk => wpAny_pyIter_zip hz ?_
    exact ⟨_, [s1.heap.objs.size + 4, s1.heap.objs.size + 2, s1.heap.objs.size + 3, s1.heap.objs.size, s1.heap.objs.size + 1], _, _, H1, rfl, I1.kept (t' := s1.toks) hk, turn_zip (PySem.W.ktu_apart s1.heap.objs.size a b pl.lt p2.lt), ⟨hz, hTI, ⟨_, _, hTO⟩, h1, h2⟩, young, q⟩
  · obtain ⟨its2, rv2, p2, _⟩ := I1.tuple hqy
    obtain ⟨o2, ho2, _⟩ := id p2
    refine zip_begins2 (begins_list a its.toArray) (begins_tuple b its2.toArray) pl.isList p2 fun h' hz hTI hTO h1 h2 hsz hk => wpAny_pyIter_zip hz ?_
    exact ⟨_, [s1.heap.objs.size + 4, s1.heap.objs.size + 2, s1.heap.objs.size + 3, s1.heap.objs.size, s1.heap.objs.size + 1], _, _, H1, rfl, I1.kept (t' := s1.toks) hk, turn_zipM (PySem.W.ktu_apart s1.heap.objs.size a b pl.lt (Heap.lt_size ho2)), ⟨hz, hTI, ⟨_, _, hTO⟩, ⟨_, h1, rfl, rfl⟩, ⟨_, h2, rfl, rfl⟩⟩, young, q⟩
theorem itd_zipM {C : Addr} {K : PySem.W.Frag} {F0 : Hp} {a b : Addr} {xs ys : List V} {ds es : List D} (h : F0 a = some (.lst xs)) (r : Reps C F0 ds xs) (k : F0 b = some (.tup ys)) (t : Reps C F0 es ys) : ItD C (ItzM K a b) F0 (pairs ds es) where
  go := fun i H s hi => by
    have hi' : i < ds.length ∧ i < es.length := by simpa [pairs, Nat.lt_min] using hi
    obtain ⟨x, e⟩ := at_lt (show i < xs.length by rw [r.len]; exact hi'.1)
    obtain ⟨y, e'⟩ := at_lt (show i < ys.length by rw [t.len]; exact hi'.2)
    exact ⟨xs, ys, x, y, SqL.of (s _ _ h), SqT.of (s _ _ k), e, e'⟩
  stop := fun i H s hi => by
    have e : min ds.length es.length = i := by simpa [pairs] using hi
    refine ⟨xs, ys, SqL.of (s _ _ h), SqT.of (s _ _ k), ?_⟩
    rw [r.len, t.len]
    omega
  yld := fun i H F v H' s0 s y hi => by
    obtain ⟨T, x, y', rfl, nT, rfl, f1, f2⟩ := y
    have hi' : i < ds.length ∧ i < es.length := by simpa [pairs, Nat.lt_min] using hi
    obtain ⟨d, e1⟩ := at_lt hi'.1
    obtain ⟨e, e2⟩ := at_lt hi'.2
    obtain ⟨u, g1, r1⟩ := r.get e1
    obtain ⟨w, g2, r2⟩ := t.get e2
    have q1 := f1 xs (SqL.of (s _ _ (s0 _ _ h)))
    have q2 := f2 ys (SqT.of (s _ _ (s0 _ _ k)))
    rw [g1] at q1
    rw [g2] at q2
    cases q1
    cases q2
    exact ⟨_, _, pairs_at e1 e2, .add s nT, Rep.pair (s.non nT) (r1.mono s0) (r2.mono s0)⟩
def dZip : List D → R (List D)
  | [.lst ds, .lst es] => .ok (pairs ds es)
  | [.lst ds, .tup es] => .ok (pairs ds es)
  | _ => .bad
section
variable {X : Cx} {mg : Str → Option Value} {C : Addr} {W : WX} {e a b c tg : Expr} {t : TE} {pos : Pos} {f h j : Ev → R D} {p q : Ev → R Bool} {es : List Expr} {fs : Ev → R (List D)} {g : D → R (List (Nat × D))}
theorem i_zip {p1 tpos : Pos} {elts : List Expr} {kk : Nat} (hg : Gl X "zip") (hm : X.mg "zip" = none) (ha : PA X [a, b] (tA mg C W fs))
    (hs : starEach [a, b] X.env = (false, eval a X.env) :: starEach [b] X.env := by rfl) (hpl : (backTo pos (starEach [b] X.env)).any (·.1) = false := by rfl) :
    PI X (.Tuple elts kk tpos) (.Call (.Name "zip" p1) [a, b] [] pos) (tI mg C W (E.iterA dZip fs)) :=
  PI.to (pi_zipG hg hm ha hs hpl) fun σ H Q x => seqI (r := fun vs H1 R => ∃ a b us ws, vs = [V.ref a, V.ref b] ∧ SqL X.K H1 a us ∧ ((SqL X.K H1 b ws ∧ R (Itz X.K a b) H1) ∨ (SqT X.K H1 b ws ∧ R (ItzM X.K a b) H1))) (fun xs F H vs Q s r => by
    unfold dZip
    split
    · rename_i hl
      split at hl
      · cases hl
        intro q
        obtain ⟨v, u, rfl, z1, z2⟩ := reps2 r
        simp only [Rep] at z1 z2
        obtain ⟨a1, xs1, rfl, h1, z1⟩ := z1
        obtain ⟨a2, xs2, rfl, h2, z2⟩ := z2
        exact ⟨a1, a2, xs1, xs2, rfl, SqL.of (s _ _ h1), .inl ⟨SqL.of (s _ _ h2), q _ (itd_zip h1 z1 h2 z2)⟩⟩
      · cases hl
        intro q
        obtain ⟨v, u, rfl, z1, z2⟩ := reps2 r
        simp only [Rep] at z1 z2
        obtain ⟨a1, xs1, rfl, h1, z1⟩ := z1
        obtain ⟨a2, xs2, rfl, h2, z2⟩ := z2
        exact ⟨a1, a2, xs1, xs2, rfl, SqL.of (s _ _ h1), .inr ⟨SqT.of (s _ _ h2), q _ (itd_zipM h1 z1 h2 z2)⟩⟩
      · cases hl
    · trivial) (fun x c => by unfold dZip; split <;> (try split) <;> exact fun e => nomatch e) x

/-! ### a comprehension given to a name -/
theorem ps_setComp {i : Nat} {y : Str} {py : Pos} {elt iter : Expr} {ifs : List Expr} {scope : Scope} {own : List (Str × Nat)} {spos : Pos} {wi : Ev → R (List D)} {tt : Ev → R Bool} {te : Ev → R D} (hyl : X.env.scope.names.lookup y = some .local) (hy : X.N[i]? = some y)
    (hsw : swapsWith (.ListComp elt [⟨tg, iter, ifs, 0⟩] scope pos) (some (.Name y py)) spos.line X.env = pure true) (hc : X.calm = true) (hN : X.N.Nodup) (hi : PI X tg iter (tI mg C W wi)) (ok : BlkOk X.N X.env.scope scope own)
    (hg : ∀ (s : Shared) (H : Hp) (Ca : Addr) (cl : List (Str × Addr)) (fp : List Addr), PG (X.blk s H scope (compEnvC scope cl Ca X.env) fp) tg (tG C g)) (hsub : ∀ d ps, g d = .ok ps → ∀ i ∈ ps.map (·.1), i ∈ own.map (·.2))
    (ht : ∀ (s : Shared) (H : Hp) (Ca : Addr) (cl : List (Str × Addr)) (fp : List Addr), PTs (X.blk s H scope (compEnvC scope cl Ca X.env) fp) ifs (tB mg C W0 tt))
    (he : ∀ (s : Shared) (H : Hp) (Ca : Addr) (cl : List (Str × Addr)) (fp : List Addr), PE (X.blk s H scope (compEnvC scope cl Ca X.env) fp) elt (tD mg C W0 te)) (hs : ∀ x, foldedSetIterable iter X.env x = pure x := by intro _; rfl) :
    PS X (.Assign [.Name y py] (.ListComp elt [⟨tg, iter, ifs, 0⟩] scope pos) spos) (tAsg (tL mg C W (E.comp (own.map (·.2)) wi g tt te)) (gName i)) :=
  PS.to (ps_setLc hc hN hy hyl hsw hi ok hg ht he hs) fun Dn σ H x => seqLc hsub x

/-! ### more that makes lists -/
namespace E
def cat (f h : Ev → R D) : Ev → R (List D) := fun ρ => (f ρ).bind fun x => (h ρ).bind fun y => match x, y with
  | .lst xs, .lst ys => if xs.length + ys.length ≤ LINE then .ok (xs ++ ys) else .bad
  | _, _ => .bad
end E
theorem l_cat (ha : PE X a (tD mg C W f)) (hb : PE X b (tD mg C W h)) : PE X (.BinOp a .Add b pos) (tL mg C W (E.cat f h)) := PE.to (pe_op op_cat ha hb) fun σ H Q x => by
  obtain ⟨F, ρ, s, ok, x⟩ := x
  refine ⟨F, ρ, s, ok, ?_⟩
  unfold E.cat at x
  cases e1 : f ρ with
  | bad => rw [e1] at x; exact x
  | exc c => rw [e1] at x; exact x
  | ok d =>
    rw [e1] at x
    intro v H1 F1 n1 r1
    refine ⟨F1, ρ, n1.fh, ok.mono n1.ff, ?_⟩
    cases e2 : h ρ with
    | bad => rw [R.bind_ok, e2] at x; exact x
    | exc c => rw [R.bind_ok, e2] at x; exact Exc.mono x n1.hh
    | ok y =>
      rw [R.bind_ok, e2, R.bind_ok] at x
      intro u H2 F2 n2 r2
      cases d <;> try exact x.elim
      rename_i xs
      cases y <;> try exact x.elim
      rename_i ys
      dsimp only at x
      by_cases hz : xs.length + ys.length ≤ LINE
      · rw [if_pos hz] at x
        have r1 := r1.mono n2.ff
        simp only [Rep] at r1 r2
        obtain ⟨a1, us, e1, h1, r1⟩ := r1
        obtain ⟨a2, ws, e2, h2, r2⟩ := r2
        refine ⟨a1, a2, us, ws, e1, e2, n2.fh _ _ h1, n2.fh _ _ h2, by rw [r1.len, r2.len]; exact line_ok hz, fun p np => ?_⟩
        have nn := (n1.tr n2)
        refine x p _ _ F2 (nn.tr (.hid n2.fh np)) ?_ (n2.fh.non np) upd_same (r1.app r2)
        cases e : H p with
        | none => exact Eq.refl none
        | some o => rw [nn.hh _ _ e] at np; cases np
      · rw [if_neg hz] at x
        exact x.elim
theorem call_listB : CallR X (.type "list") (fun xs H Q => ∃ p ys, xs = [.ref p] ∧ (SqL X.K H p ys ∨ SqT X.K H p ys) ∧ ∀ l, H l = none → Q (.ref l) (upd H l (.lst ys))) := call_list_of
theorem call_tupleB : CallR X (.type "tuple") (fun xs H Q => ∃ p ys, xs = [.ref p] ∧ ((SqL X.K H p ys ∧ ∀ l, H l = none → Q (.ref l) (upd H l (.tup ys))) ∨ (SqT X.K H p ys ∧ Q (.ref p) H))) := call_tuple_of
end
end TB
/-! the head: facts by names, lists left out (so the script is none of them); the end of a law -/
namespace TB
open PySem PySem.Spec PyProof.Rows L2

def isL (o : Obj) : Bool := match o.cls with
  | .type c => c == "list"
  | _ => false
/-- without the lists -/
def noL (K : PySem.W.Frag) : PySem.W.Frag := K.filter fun q => !isL q.2
theorem lookup_in {a : Addr} {o : Obj} : ∀ {l : List (Addr × Obj)}, l.lookup a = some o → (a, o) ∈ l
  | q :: r, h => by
    rw [List.lookup_cons] at h
    by_cases e : a = q.1
    · subst e
      rw [beq_self_eq_true] at h
      cases h
      exact List.mem_cons_self
    · rw [show (a == q.1) = false from by simpa using e] at h
      exact List.mem_cons_of_mem _ (lookup_in h)
theorem fr_in {g : Addr → Option Obj} {as : List Addr} {a : Addr} {o : Obj} (h : (a, o) ∈ He.frG g as) : g a = some o := by
  unfold He.frG at h
  obtain ⟨b, _, e⟩ := List.mem_filterMap.mp h
  cases hb : g b with
  | none => rw [hb] at e; cases e
  | some u =>
    rw [hb] at e
    cases e
    exact hb
theorem noL_at {g : Addr → Option Obj} {as : List Addr} {a : Addr} {o : Obj} (h : (noL (He.frG g as)).lookup a = some o) : g a = some o ∧ isL o = false := by
  have q := List.mem_filter.mp (lookup_in h)
  exact ⟨fr_in q.1, by simpa using q.2⟩
def obsL (n : Nat) (fa : List He.Fa) (fn : List He.FnD) (g : Addr → Option Obj) : He.Al := He.obsE fa fn (noL (He.frG g (He.asG g n)))
structure SaysL (fa : List He.Fa) (fn : List He.FnD) (h : Heap) (K : PySem.W.Frag) : Prop where
  kin : K.In h
  no : ∀ a o, K.lookup a = some o → isL o = false
  says : He.SaysE fa fn K
def hookL (n : Nat) (fa : List He.Fa) (fn : List He.FnD) : PySem.W.Hook where
  α := He.Al
  obs := fun s => obsL n fa fn s.heap.get?
  val := fun _ => He.valE fn
  says := fun _ h => ∃ K : PySem.W.Frag, SaysL fa fn h K
  of := fun _ _ e => ⟨_, fun _ _ q => (noL_at q).1, fun _ _ q => (noL_at q).2, e⟩
  keeps := fun _ _ _ ⟨K, c⟩ k => ⟨K, PySem.W.Frag.In.keeps c.kin k, c.no, c.says⟩
theorem obsL_eq {n : Nat} {fa : List He.Fa} {fn : List He.FnD} {g : Addr → Option Obj} {s : Shared} (h : ∀ a, g a = s.heap.get? a) : obsL n fa fn g = (hookL n fa fn).obs s := by
  have e : g = s.heap.get? := funext h
  subst e
  rfl
theorem df_of {K : PySem.W.Frag} {mg : Str → Option Value} {x : Str} {st : Stmt} {ps : List Str}
    (h : ∃ oc od osl kV doc pm an cdv ct, K.lookup (He.ga K x) = some ⟨oc, od, .func (PySem.W.fnOf x x (defArgs st) (defBody st) (defScope st) .none kV doc pm an cdv ct), osl⟩ ∧ PySem.W.codeIn K cdv x = true)
    (g : mg x = some (.ref (He.ga K x))) (k : PySem.W.keepIn K (.ref (He.ga K x)) = true)
    (hb : ∀ (kV doc pm : Value) (an : Option Addr) (cdv ct : Value) (us : List Value), us.length = ps.length → bindArgs (PySem.W.fnOf x x (defArgs st) (defBody st) (defScope st) .none kV doc pm an cdv ct) ⟨us, []⟩ = pure (ps.zip us)) : Df K mg x st ps := by
  obtain ⟨oc, od, osl, kV, doc, pm, an, cdv, ct, l, c⟩ := h
  have F := fun_mk (st := st) l c k
  have e := fdOf_eq l
  exact ⟨by rw [e]; exact F, by rw [e]; exact F.binds hb, g⟩
theorem bl_of {K : PySem.W.Frag} {x p : Str} {st : Stmt}
    (h : ∃ oc od osl kV doc pm an cdv ct, K.lookup (He.ga K x) = some ⟨oc, od, .func (PySem.W.fnOf x x (defArgs st) (defBody st) (defScope st) .none kV doc pm an cdv ct), osl⟩ ∧ PySem.W.codeIn K cdv x = true)
    (hb : ∀ (kV doc pm : Value) (an : Option Addr) (cdv ct u : Value), bindArgs (PySem.W.fnOf x x (defArgs st) (defBody st) (defScope st) .none kV doc pm an cdv ct) ⟨[u], []⟩ = pure [(p, u)]) (s : Shared) (u : Value) : BindsTo s (fdOf K (He.ga K x)) ⟨[u], []⟩ [(p, u)] := by
  obtain ⟨oc, od, osl, kV, doc, pm, an, cdv, ct, l, c⟩ := h
  rw [fdOf_eq l]
  exact .of_eq (hb kV doc pm an cdv ct u)
/-- what flies out of any def -/
def CXU : CXT := fun outer H s E u s' => ∃ P w, L2.CX P w outer H s E u s'
theorem ok_cxu {P : Program} {w : World} {K : PySem.W.Frag} {mg : Str → Option Value} {base : Heap} {k : Nat} {fa : Addr} {fd : FuncData} {ps : List Str} {sp : Sp} (F : FnOk P w K mg base (L2.CX P w) k fa fd ps sp) : FnOk P w K mg base CXU k fa fd ps sp :=
  ⟨F.len, fun A outer s H args us vs Q E hr h0 hb hv hs => codeAny_mono (F.run A outer s H args us vs Q E hr h0 hb hv hs) fun r s' h => by
    cases r with
    | error e => exact ⟨P, w, h⟩
    | ok fl => cases fl <;> exact h⟩
/-- the end: the law's pure function is True at every script -/
theorem law_end {l : PySem.W.OpenLaw} {n k N : Nat} {q : Program} {loose : List Str} {XP : (Str → Option Value) → Heap → Prop} {fa : List He.Fa} {fn : List He.FnD} {d : DefRec} {x : Str} {g : List D → R D}
    (hn : l.most = some n) (hn2 : n ≤ sizeLine) (hdf : d.params.defaults = []) (hdn : d.name = "law") (hr : Room k callerA)
    (F : ∀ (w : World) (K : PySem.W.Frag) (mg : Str → Option Value) (h : Heap), SaysL fa fn h K → h.Ns mainGlobals mg → mg "law" = some (.ref (He.ga K "law")) ∧
      (∀ (s : Shared) (u : Value), BindsTo s (fdOf K (He.ga K "law")) ⟨[u], []⟩ [(x, u)]) ∧ ∀ base : Heap, OkD l.prog w K mg base k "law" [x] g)
    (law : ∀ ns : List Int, ns.length ≤ n → g [.scr ns] = .ok (.bl true)) :
    PySem.W.WalkO q loose XP (hookL N fa fn).says l.row.toRowW d [] (fun f vs => PySem.call f vs) := by
  refine L2.walk_ofE (CX := CXU) (x := x) hn hn2 hdf hr ?_ (fun H s e s' => ?_)
  · rintro w mg a0 h ⟨K, c⟩ G hmg
    obtain ⟨g1, g2, g3⟩ := F w K mg h c G
    rw [hdn, g1] at hmg
    cases hmg
    refine ⟨K, _, _, c.kin, g2, fun H a ns hl hO hS => ?_, fun base _ _ => ok_cxu (g3 base)⟩
    rcases hS with (hS | ⟨o, hS⟩) | ⟨o, its, m, hk, hc, _⟩
    · rcases hO a with z | ⟨o, xs, z⟩ <;> rw [hS] at z <;> cases z
    · refine ⟨rfl, H, [.scr ns], Sm.rfl, Reps.one (by simp only [Rep]; exact ⟨a, o, rfl, hS⟩), ?_⟩
      rw [law ns hl]
      intro v H' F' _ r
      simpa only [Rep] using r
    · have z := c.no _ _ hk
      unfold isL at z
      rw [hc] at z
      simp at z
  · rintro ⟨P, w, _, _, _, _, _, _, _, _, _, _, _, _, z⟩
    exact z
end TB
/-! methods of texts and lists, slices, str(..), raise, fields of a shop, its methods -/
namespace TB
open PySem PySem.Spec PyProof.Rows L2

section
variable {X : Cx} {mg : Str → Option Value} {C : Addr} {W : WX} {e a b c tg : Expr} {t : TE} {pos : Pos} {f h j : Ev → R D} {p q : Ev → R Bool} {es : List Expr} {fs : Ev → R (List D)} {g : D → R (List (Nat × D))}
/-! ### built-in methods with one argument -/
/-- a method's rule computes g -/
def OpM (K : PySem.W.Frag) (C : Addr) (T : String) (g : D → D → R D) (r : V → List V → Hp → VK → Prop) : Prop := ∀ (x y : D) (F H : Hp) (v u : V) (Q : VK), Sm F H → Rep C F x v → Rep C F y u →
  match g x y with
  | .ok d => tyV K T v H ∧ ((∀ w H' F', Nx F H F' H' → Rep C F' d w → Q w H') → r v [u] H Q)
  | _ => True
theorem tyV_grow {K : PySem.W.Frag} {T : String} {v : V} {d : D} {F H : Hp} (s : Sm F H) (r : Rep C F d v) (hT : (T = "str" ∧ ∃ x, d = .str x) ∨ (T = "list" ∧ ∃ l, d = .lst l)) : tyV K T v H := by
  rcases hT with ⟨rfl, x, rfl⟩ | ⟨rfl, l, rfl⟩
  · simp only [Rep] at r
    subst r
    rfl
  · simp only [Rep] at r
    obtain ⟨a, xs, rfl, h1, _⟩ := r
    exact .inl ⟨rfl, xs, SqL.of (s _ _ h1)⟩
namespace E
def mth (g : D → D → R D) (f h : Ev → R D) : Ev → R D := fun ρ => (f ρ).bind fun x => match h ρ with
  | .ok y => g x y
  | _ => .bad
end E
theorem seqM {K : PySem.W.Frag} {T : String} {g : D → D → R D} {r : V → List V → Hp → VK → Prop} (hr : OpM K C T g r) (hc : Calm2 g) (ht : ∀ x y d, g x y = .ok d → (T = "str" ∧ ∃ z, x = .str z) ∨ (T = "list" ∧ ∃ l, x = .lst l)) {σ : L2.St} {H : Hp} {Q : VK} (x : tD mg C W (E.mth g f h) σ H Q) : tBM K T r (tD mg C W f) (tCons (tD mg C W h) tNil) σ H Q := by
  obtain ⟨F, ρ, s, ok, q⟩ := x
  unfold tBM
  refine ⟨F, ρ, s, ok, ?_⟩
  unfold E.mth at q
  cases e1 : f ρ with
  | bad => rw [e1] at q; exact q
  | exc c => rw [e1] at q; exact q
  | ok x =>
    rw [e1, R.bind_ok] at q
    intro v H1 F1 n1 r1
    cases e2 : h ρ with
    | bad => rw [e2] at q; exact q.elim
    | exc c => rw [e2] at q; exact q.elim
    | ok y =>
      rw [e2] at q
      dsimp only at q
      cases e3 : g x y with
      | bad => rw [e3] at q; exact q.elim
      | exc c => exact (hc _ _ _ e3).elim
      | ok d =>
        rw [e3] at q
        refine ⟨tyV_grow n1.fh r1 (ht _ _ _ e3), F1, ρ, n1.fh, ok.mono n1.ff, ?_⟩
        rw [e2]
        intro u H2 F2 n2 r2
        have k := hr x y F2 H2 v u Q n2.fh (r1.mono n2.ff) r2
        rw [e3] at k
        exact k.2 fun w H' F' n3 r3 => q w H' F' ((n1.tr n2).tr n3) r3
/-- the texts of a list -/
def strsOf : List D → Option (List Str)
  | [] => some []
  | .str x :: r => (strsOf r).map (x :: ·)
  | _ :: _ => none
theorem strsOf_eq : ∀ {ds : List D} {ns : List Str}, strsOf ds = some ns → ds = ns.map D.str
  | [], ns, h => by simp [strsOf] at h; subst h; rfl
  | d :: ds, ns, h => by
    cases d <;> simp only [strsOf] at h <;> try cases h
    cases e : strsOf ds with
    | none => rw [e] at h; cases h
    | some ms =>
      rw [e] at h
      cases h
      rw [strsOf_eq e]
      rfl
theorem strsOf_map : ∀ (ns : List Str), strsOf (ns.map D.str) = some ns
  | [] => rfl
  | n :: ns => by simp [strsOf, strsOf_map ns]
theorem Reps.strs {C : Addr} {H : Hp} : ∀ {ns : List Str} {vs : List V}, Reps C H (ns.map D.str) vs → vs = ns.map V.str
  | [], _, h => by simp only [List.map_nil, Reps] at h; exact h
  | n :: ns, _, h => by
    simp only [List.map_cons, Reps, Rep] at h
    obtain ⟨v, r, e1, q, t⟩ := h
    rw [e1, q, Reps.strs t]
    rfl
def dJoin : D → D → R D
  | .str z, .lst ds => match strsOf ds with
    | some ys => if (ys.map (·.length)).sum + ys.length * z.length ≤ 16777216 then .ok (.str (Txt.join z ys)) else .bad
    | none => .bad
  | _, _ => .bad
theorem join_calm : Calm2 dJoin := fun x y c => by
  cases x <;> cases y <;> simp only [dJoin] <;> (try split) <;> (try split) <;> exact fun e => nomatch e
theorem join_ty {x y d : D} (h : dJoin x y = .ok d) : ("str" = "str" ∧ ∃ z, x = .str z) ∨ ("str" = "list" ∧ ∃ l, x = .lst l) := by
  cases x <;> simp only [dJoin] at h <;> try cases h
  exact .inl ⟨rfl, _, rfl⟩
theorem join_D {K : PySem.W.Frag} : OpM K C "str" dJoin (fun x xs H Q => ∃ a p, ∃ ys : List Str, x = .str a ∧ xs = [.ref p] ∧ (SqL K H p (ys.map V.str) ∨ SqT K H p (ys.map V.str)) ∧ (ys.map (·.length)).sum + ys.length * a.length ≤ 16777216 ∧ Q (.str (Txt.join a ys)) H) := by
  intro x y F H v u Q s rv ru
  cases x <;> cases y <;> simp only [dJoin] <;> try trivial
  rename_i z ds
  split
  · rename_i d hl
    split at hl
    · rename_i ys hy
      split at hl
      · rename_i hz
        cases hl
        simp only [Rep] at rv ru
        obtain ⟨a, xs, rfl, h1, r1⟩ := ru
        rw [strsOf_eq hy] at r1
        rw [r1.strs] at h1
        subst rv
        exact ⟨rfl, fun q => ⟨z, a, ys, rfl, rfl, .inl (SqL.of (s _ _ h1)), hz, q _ H F (.rfl s) (by simp only [Rep])⟩⟩
      · cases hl
    · cases hl
  · trivial
theorem d_join {apos : Pos} (ha : PE X a (tD mg C W f)) (hb : PE X b (tD mg C W h)) (h1 : attributeBase a "join" X.env (eval a X.env) = eval a X.env := by rfl)
    (h2 : ((backTo pos (starEach [b] X.env)).all (fun x => !x.1) && (backToKw pos (keywordEach [] X.env)).all (fun x => x.1.isSome) && decide ([b].length + ([] : List Keyword).length + (if ([] : List Keyword).isEmpty then 0 else 1) < 30)) = true := by rfl)
    (h3 : (apos.endLine == pos.line) = true := by rfl) (h4 : starEach [b] X.env = (false, eval b X.env) :: starEach [] X.env := by rfl) (h5 : (backTo pos (starEach [] X.env)).any (·.1) = false := by rfl) :
    PE X (.Call (.Attribute a "join" apos) [b] [] pos) (tD mg C W (E.mth dJoin f h)) :=
  PE.to (pe_bm PySem.F.plainAttrs_str PySem.F.slot_str_join PySem.F.type_str_join mt_join ha (pa_cons hb pa_nil h4) h1 h2 h3 h4 h5) fun σ H Q x => seqM join_D join_calm (fun _ _ _ e => join_ty e) x
/-- the first place of a value -/
def firstF (x : D) : List D → Option Nat
  | [] => none
  | y :: ys => if eqF y x then some 0 else (firstF x ys).map (· + 1)
theorem firstF_some {x : D} : ∀ {ds : List D} {j : Nat}, firstF x ds = some j → (∃ z, ds[j]? = some z ∧ eqF z x = true) ∧ ∀ (m : Nat) (z' : D), m < j → ds[m]? = some z' → eqF z' x = false
  | [], _, h => by cases h
  | y :: ys, j, h => by
    unfold firstF at h
    by_cases e : eqF y x = true
    · rw [if_pos e] at h
      cases h
      exact ⟨⟨y, rfl, e⟩, fun m z hm => absurd hm (Nat.not_lt_zero _)⟩
    · rw [if_neg e] at h
      cases e1 : firstF x ys with
      | none => rw [e1] at h; cases h
      | some i =>
        rw [e1] at h
        cases h
        obtain ⟨⟨z, h1, h2⟩, h3⟩ := firstF_some e1
        refine ⟨⟨z, h1, h2⟩, fun m z' hm hz => ?_⟩
        cases m with
        | zero => cases hz; simpa using e
        | succ m => exact h3 m z' (Nat.lt_of_succ_lt_succ hm) hz
def dIndex : D → D → R D
  | .lst ds, x => if flat x && ds.all flat then match firstF x ds with
    | some j => .ok (.int j)
    | none => .bad
    else .bad
  | _, _ => .bad
theorem index_calm : Calm2 dIndex := fun x y c => by
  cases x <;> simp only [dIndex] <;> (try split) <;> (try split) <;> exact fun e => nomatch e
theorem index_ty {x y d : D} (h : dIndex x y = .ok d) : ("list" = "str" ∧ ∃ z, x = .str z) ∨ ("list" = "list" ∧ ∃ l, x = .lst l) := by
  cases x <;> simp only [dIndex] at h <;> try cases h
  exact .inr ⟨rfl, _, rfl⟩
theorem index_D {K : PySem.W.Frag} : OpM K C "list" dIndex (rIndex K) := by
  intro x y F H v u Q s rv ru
  cases x <;> simp only [dIndex] <;> try trivial
  rename_i ds
  split
  · rename_i d hl
    split at hl
    · rename_i hf
      split at hl
      · rename_i j hj
        cases hl
        rw [Bool.and_eq_true] at hf
        simp only [Rep] at rv
        obtain ⟨a, xs, rfl, h1, r1⟩ := rv
        have e1 := flat_eq hf.1 ru
        have e2 := flats_eq hf.2 r1
        subst e1 e2
        obtain ⟨⟨z, g1, g2⟩, g3⟩ := firstF_some hj
        have at_ : ∀ (m : Nat) (z : D), ds[m]? = some z → flat z = true := fun m z hz => List.all_eq_true.mp hf.2 z (List.mem_of_getElem? hz)
        refine ⟨.inl ⟨rfl, _, SqL.of (s _ _ h1)⟩, fun q => ⟨a, _, _, j, toV z, rfl, rfl, SqL.of (s _ _ h1), flat_V hf.1, flats_V hf.2, by rw [List.getElem?_map, g1]; rfl, by rw [eqF_V (at_ j z g1) hf.1]; exact g2, fun m z' hm hz => ?_, q _ H F (.rfl s) (by simp only [Rep])⟩⟩
        rw [List.getElem?_map] at hz
        cases e : ds[m]? with
        | none => rw [e] at hz; cases hz
        | some w =>
          rw [e] at hz
          cases hz
          rw [eqF_V (at_ m w e) hf.1]
          exact g3 m w hm e
      · cases hl
    · cases hl
  · trivial
theorem d_index {apos : Pos} (ha : PE X a (tD mg C W f)) (hb : PE X b (tD mg C W h)) (h1 : attributeBase a "index" X.env (eval a X.env) = eval a X.env := by rfl)
    (h2 : ((backTo pos (starEach [b] X.env)).all (fun x => !x.1) && (backToKw pos (keywordEach [] X.env)).all (fun x => x.1.isSome) && decide ([b].length + ([] : List Keyword).length + (if ([] : List Keyword).isEmpty then 0 else 1) < 30)) = true := by rfl)
    (h3 : (apos.endLine == pos.line) = true := by rfl) (h4 : starEach [b] X.env = (false, eval b X.env) :: starEach [] X.env := by rfl) (h5 : (backTo pos (starEach [] X.env)).any (·.1) = false := by rfl) :
    PE X (.Call (.Attribute a "index" apos) [b] [] pos) (tD mg C W (E.mth dIndex f h)) :=
  PE.to (pe_bm PySem.F.plainAttrs_list PySem.F.slot_list_index PySem.F.type_list_index mt_index ha (pa_cons hb pa_nil h4) h1 h2 h3 h4 h5) fun σ H Q x => seqM index_D index_calm (fun _ _ _ e => index_ty e) x
/-- how often a flat value stands in a list -/
def rCnt (K : PySem.W.Frag) : V → List V → Hp → VK → Prop := fun x xs H Q => ∃ (p : Addr) (ys : List V) (y : V), x = .ref p ∧ xs = [y] ∧ SqL K H p ys ∧ flatV y = true ∧ ys.all flatV = true ∧ Q (.int (ys.countP fun z => eqV z y : Nat)) H
theorem count_vals {y : V} : ∀ {ys : List V} {us : List Value}, Vals ys us → ys.all flatV = true → us.countP (eqU y) = ys.countP fun z => eqV z y
  | [], _, .nil, _ => rfl
  | z :: zs, _, .cons r t, f => by
    simp only [List.all_cons, Bool.and_eq_true] at f
    rw [List.countP_cons, List.countP_cons, count_vals t f.2, eqU_of r f.1]
theorem mt_countF : MtR X "list.count" (rCnt X.K) := by
  rintro pins s σ H x xs v us Q I rx rxs ⟨p, ys, y, rfl, rfl, hs, fy, fys, q⟩
  cases rx
  obtain ⟨uy, rfl, ry⟩ := rxs.one
  obtain ⟨its, rv, ⟨⟨cls, dd, data, sl⟩, n, ho, hc, hdn, hd⟩, hlen⟩ := I.list hs
  simp only at hc hd
  subst hc hd
  refine call_meets PySem.F.slot_list_count ⟨_, ho, rfl⟩ PySem.F.entry_list_count (PySem.F.args_list_count_2 _ _)
    (SeqAt.list_countAt p its.toArray n dd sl uy (eqU y)) ⟨ho, fun u' hu' => mem_eqAt ry fy rv fys u' (by simpa using hu'), ?_⟩
  have ec : its.toArray.toList.countP (eqU y) = ys.countP fun z => eqV z y := count_vals rv fys
  refine ⟨.int ((ys.countP fun z => eqV z y : Nat) : Int), H, I.tok _, ⟨s.toks, ?_⟩, q⟩
  rw [← ec]
def dCount : D → D → R D
  | .lst ds, x => if flat x && ds.all flat then .ok (.int (ds.countP fun z => eqF z x : Nat)) else .bad
  | _, _ => .bad
theorem count_calm : Calm2 dCount := fun x y c => by
  cases x <;> simp only [dCount] <;> (try split) <;> exact fun e => nomatch e
theorem count_ty {x y d : D} (h : dCount x y = .ok d) : ("list" = "str" ∧ ∃ z, x = .str z) ∨ ("list" = "list" ∧ ∃ l, x = .lst l) := by
  cases x <;> simp only [dCount] at h <;> try cases h
  exact .inr ⟨rfl, _, rfl⟩
theorem countP_V {x : D} (hx : flat x = true) : ∀ {ds : List D}, ds.all flat = true → (ds.map toV).countP (fun z => eqV z (toV x)) = ds.countP fun z => eqF z x
  | [], _ => rfl
  | d :: ds, f => by
    simp only [List.all_cons, Bool.and_eq_true] at f
    rw [List.map_cons, List.countP_cons, List.countP_cons, countP_V hx f.2, eqF_V f.1 hx]
theorem count_D {K : PySem.W.Frag} : OpM K C "list" dCount (rCnt K) := by
  intro x y F H v u Q s rv ru
  cases x <;> simp only [dCount] <;> try trivial
  rename_i ds
  split
  · rename_i d hl
    split at hl
    · rename_i hf
      cases hl
      rw [Bool.and_eq_true] at hf
      simp only [Rep] at rv
      obtain ⟨a, xs, rfl, h1, r1⟩ := rv
      have e1 := flat_eq hf.1 ru
      have e2 := flats_eq hf.2 r1
      subst e1 e2
      refine ⟨.inl ⟨rfl, _, SqL.of (s _ _ h1)⟩, fun q => ⟨a, _, _, rfl, rfl, SqL.of (s _ _ h1), flat_V hf.1, flats_V hf.2, ?_⟩⟩
      rw [countP_V hf.1 hf.2]
      exact q _ H F (.rfl s) (by simp only [Rep])
    · cases hl
  · trivial
theorem d_count {apos : Pos} (ha : PE X a (tD mg C W f)) (hb : PE X b (tD mg C W h)) (h1 : attributeBase a "count" X.env (eval a X.env) = eval a X.env := by rfl)
    (h2 : ((backTo pos (starEach [b] X.env)).all (fun x => !x.1) && (backToKw pos (keywordEach [] X.env)).all (fun x => x.1.isSome) && decide ([b].length + ([] : List Keyword).length + (if ([] : List Keyword).isEmpty then 0 else 1) < 30)) = true := by rfl)
    (h3 : (apos.endLine == pos.line) = true := by rfl) (h4 : starEach [b] X.env = (false, eval b X.env) :: starEach [] X.env := by rfl) (h5 : (backTo pos (starEach [] X.env)).any (·.1) = false := by rfl) :
    PE X (.Call (.Attribute a "count" apos) [b] [] pos) (tD mg C W (E.mth dCount f h)) :=
  PE.to (pe_bm PySem.F.plainAttrs_list PySem.F.slot_list_count PySem.F.type_list_count mt_countF ha (pa_cons hb pa_nil h4) h1 h2 h3 h4 h5) fun σ H Q x => seqM count_D count_calm (fun _ _ _ e => count_ty e) x
/-! ### str(x) -/
def dStr : List D → R D
  | [.int i] => if i.natAbs.log2 < 1920 then .ok (.str (toString i)) else .bad
  | [.str x] => .ok (.str x)
  | _ => .bad
theorem str_calm : CalmA dStr := fun x c => by unfold dStr; split <;> (try split) <;> exact fun e => nomatch e
def rStrB : List V → Hp → VK → Prop := fun xs H Q => (∃ i, xs = [.int i] ∧ i.natAbs.log2 < 1920 ∧ Q (.str (toString i)) H) ∨ (∃ a, xs = [.str a] ∧ Q (.str a) H)
theorem call_strB : CallR X (.type "str") rStrB := call_str_int.or SkE.call_str_str
theorem str_D : OpA C dStr rStrB := by
  intro xs F H vs Q s r
  unfold dStr
  split
  · rename_i hl
    split at hl
    · split at hl
      · rename_i hz
        cases hl
        intro q
        obtain ⟨v, rfl, z⟩ := reps1 r
        simp only [Rep] at z
        exact .inl ⟨_, by rw [z], hz, q _ H F (.rfl s) (by simp only [Rep])⟩
      · cases hl
    · cases hl
      intro q
      obtain ⟨v, rfl, z⟩ := reps1 r
      simp only [Rep] at z
      exact .inr ⟨_, by rw [z], q _ H F (.rfl s) (by simp only [Rep])⟩
    · cases hl
  · trivial
/-! ### slices -/
namespace E
def o0 : Ev → R (Option Int) := fun _ => .ok none
def o1 (f : Ev → R D) : Ev → R (Option Int) := fun ρ => match f ρ with
  | .ok (.int i) => .ok (some i)
  | _ => .bad
def slice (f : Ev → R D) (l u : Ev → R (Option Int)) : Ev → R D := fun ρ => (f ρ).bind fun x => match l ρ, u ρ with
  | .ok lo, .ok hi => (match x with
    | .str z => if z.length ≤ LINE then .ok (.str (cutS z lo hi)) else .bad
    | .lst ds => .ok (.lst ((ds.drop (HT.sIx ds.length 0 lo)).take (HT.sIx ds.length ds.length hi - HT.sIx ds.length 0 lo)))
    | .tup ds => .ok (.tup ((ds.drop (HT.sIx ds.length 0 lo)).take (HT.sIx ds.length ds.length hi - HT.sIx ds.length 0 lo)))
    | _ => .bad)
  | _, _ => .bad
end E
/-- a part of a slice -/
def tO (mg : Str → Option Value) (C : Addr) (W : WX) (l : Ev → R (Option Int)) : TO := fun σ H Q => ∃ F ρ, Sm F H ∧ SlOk C F σ ρ ∧ match l ρ with
  | .ok o => ∀ H', Sm H H' → Q o H'
  | _ => False
theorem PO.to {o : Option Expr} {t u : TO} (h : PO X o t) (k : ∀ σ H Q, u σ H Q → t σ H Q) : PO X o u := ⟨fun pins s σ H Q I q => h.run pins s σ H Q I (k σ H Q q)⟩
theorem o_none : PO X none (tO mg C W E.o0) := PO.to po_none fun σ H Q x => by
  obtain ⟨F, ρ, s, ok, x⟩ := x
  exact x H Sm.rfl
theorem o_some (ha : PE X a (tD mg C W f)) : PO X (some a) (tO mg C W (E.o1 f)) := PO.to (po_some ha) fun σ H Q x => by
  obtain ⟨F, ρ, s, ok, x⟩ := x
  refine ⟨F, ρ, s, ok, ?_⟩
  unfold E.o1 at x
  cases e : f ρ with
  | bad => rw [e] at x; exact x
  | exc c => rw [e] at x; exact x.elim
  | ok d =>
    rw [e] at x
    intro v H' F' n r
    cases d <;> try exact x.elim
    simp only [Rep] at r
    exact ⟨_, r, x H' n.hh⟩
def rSlB (K : PySem.W.Frag) : V → Option Int → Option Int → Hp → VK → Prop := fun x lo hi H Q => (∃ z, x = .str z ∧ z.length ≤ sizeLine ∧ Q (.str (cutS z lo hi)) H) ∨ (∃ a xs, x = .ref a ∧ SqL K H a xs ∧ ∀ p, H p = none → Q (.ref p) (upd H p (.lst (cutV xs lo hi)))) ∨
  (∃ a xs, x = .ref a ∧ SqT K H a xs ∧ (HT.sIx xs.length 0 lo = 0 ∧ HT.sIx xs.length xs.length hi = xs.length → Q (.ref a) H) ∧ (¬ (HT.sIx xs.length 0 lo = 0 ∧ HT.sIx xs.length xs.length hi = xs.length) → ∀ p, H p = none → Q (.ref p) (upd H p (.tup (cutV xs lo hi)))))
theorem sl_any : SlR X (rSlB X.K) := fun pins s σ H x v vl vu l u n Q I rx hs pl pu h => by
  rcases h with h | h | h
  · exact sl_str pins s σ H x v vl vu l u n Q I rx hs pl pu h
  · exact sl_list pins s σ H x v vl vu l u n Q I rx hs pl pu h
  · exact sl_tupA pins s σ H x v vl vu l u n Q I rx hs pl pu h
theorem d_slice {lo hi : Option Expr} {l u : Ev → R (Option Int)} {p2 : Pos} (ha : PE X a (tD mg C W f)) (hl : PO X lo (tO mg C W l)) (hu : PO X hi (tO mg C W u)) : PE X (.Subscript a (.Slice lo hi none p2) pos) (tD mg C W (E.slice f l u)) :=
  PE.to (pe_slice sl_any ha hl hu) fun σ H Q x => by
    obtain ⟨F, ρ, s, ok, x⟩ := x
    refine ⟨F, ρ, s, ok, ?_⟩
    unfold E.slice at x
    cases e : f ρ with
    | bad => rw [e] at x; exact x
    | exc c => rw [e] at x; exact x
    | ok d =>
      rw [e, R.bind_ok] at x
      intro v H1 F1 n1 r1
      refine ⟨F1, ρ, n1.fh, ok.mono n1.ff, ?_⟩
      cases e1 : l ρ with
      | bad => rw [e1] at x; exact x.elim
      | exc c => rw [e1] at x; exact x.elim
      | ok lo =>
        rw [e1] at x
        intro H2 s2
        refine ⟨F1, ρ, n1.fh.tr s2, ok.mono n1.ff, ?_⟩
        cases e2 : u ρ with
        | bad => rw [e2] at x; exact x.elim
        | exc c => rw [e2] at x; exact x.elim
        | ok hi =>
          rw [e2] at x
          intro H3 s3
          have n3 : Nx F H F1 H3 := n1.tr ⟨Sm.rfl, s2.tr s3, n1.fh.tr (s2.tr s3), fun _ h => .inl h⟩
          cases d <;> try exact x.elim
          · rename_i z
            dsimp only at x
            by_cases hz : z.length ≤ LINE
            · rw [if_pos hz] at x
              simp only [Rep] at r1
              exact .inl ⟨z, r1, line_ok hz, x _ H3 F1 n3 (by simp only [Rep])⟩
            · rw [if_neg hz] at x
              exact x.elim
          · rename_i ds
            simp only [Rep] at r1
            obtain ⟨b, xs, rfl, h1, r1⟩ := r1
            refine .inr (.inl ⟨b, xs, rfl, SqL.of (n3.fh _ _ h1), fun p np => ?_⟩)
            refine x (.ref p) _ (upd F1 p (.lst (cutV xs lo hi))) (n3.tr (.add n3.fh np)) ?_
            simp only [Rep]
            refine ⟨p, _, rfl, upd_same, ?_⟩
            unfold cutV
            rw [r1.len]
            exact Reps.mono (Sm.upd (n3.fh.non np)) _ _ ((r1.drop _).take _)
          · rename_i ds
            simp only [Rep] at r1
            obtain ⟨b, xs, rfl, h1, r1⟩ := r1
            refine .inr (.inr ⟨b, xs, rfl, SqT.of (n3.fh _ _ h1), fun ⟨z1, z2⟩ => ?_, fun _ p np => ?_⟩)
            · refine x (.ref b) _ F1 n3 ?_
              rw [r1.len] at z1 z2
              simp only [Rep]
              refine ⟨b, xs, rfl, h1, ?_⟩
              rw [z1, z2, List.drop_zero, Nat.sub_zero, List.take_length]
              exact r1
            · refine x (.ref p) _ (upd F1 p (.tup (cutV xs lo hi))) (n3.tr (.add n3.fh np)) ?_
              simp only [Rep]
              refine ⟨p, _, rfl, upd_same, ?_⟩
              unfold cutV
              rw [r1.len]
              exact Reps.mono (Sm.upd (n3.fh.non np)) _ _ ((r1.drop _).take _)
end
end TB
/-! the class Shop: its fields, its method, its making; raise -/
namespace TB
open PySem PySem.Spec PyProof.Rows L2

abbrev maI (K : PySem.W.Frag) : Addr := He.ma K (shopC K) "__init__"
abbrev maP (K : PySem.W.Frag) : Addr := He.ma K (shopC K) "place"
/-- what the top has written of Shop -/
structure Sh (K : PySem.W.Frag) (mg : Str → Option Value) (stI stP : Stmt) : Prop where
  cl : Cls K (shopC K)
  n1 : NoAttr K (shopC K) "names"
  n2 : NoAttr K (shopC K) "prices"
  g : mg "Shop" = some (.ref (shopC K))
  mkr : Mk K (shopC K) (maI K)
  mp : Meth K (shopC K) "place" (maP K)
  FI : Fun K "__init__" "Shop.__init__" stI (maI K) (fdOf K (maI K))
  bI : Binds K (fdOf K (maI K)) ["self", "kinds"] []
  FP : Fun K "place" "Shop.place" stP (maP K) (fdOf K (maP K))
  bP : Binds K (fdOf K (maP K)) ["self", "name"] []
/-- an own exception class -/
structure ExF (K : PySem.W.Frag) (mg : Str → Option Value) (x : Str) : Prop where
  ex : PySem.W.excIn K (He.ga K x) He.veBase "ValueError.__new__" = true
  kp : PySem.W.keepIn K (.ref (He.ga K x)) = true
  sb : PySem.W.subIn K (.ref (He.ga K x)) (.type "BaseException") = some true
  ty : PySem.W.typeIn K (.ref (He.ga K x)) = some (.type "type")
  g : mg x = some (.ref (He.ga K x))

def dNames : D → R D
  | .shop ns _ => .ok (.lst ns)
  | _ => .bad
def dPrices : D → R D
  | .shop _ ps => .ok (.lst ps)
  | _ => .bad
namespace S
def raise (c : Str) : Ev → Out := fun ρ => .ex c ρ
end S
namespace E
/-- a method of a shop -/
def meth (g : List D → R D) (f h : Ev → R D) : Ev → R D := fun ρ => (f ρ).bind fun x => match x with
  | .shop ns ps => (h ρ).bind fun y => g [.shop ns ps, y]
  | _ => .bad
end E
section
variable {P : Program} {w : World} {K : PySem.W.Frag} {mg : Str → Option Value} {base : Heap}
theorem fnG {x qual : Str} {fa : Addr} {st : Stmt} {fd : FuncData} {C : Addr} {N ps : List Str} {k : Nat} {u : Ev → Out} (F0 : Fun K x qual st fa fd) (S0 : FnScope N ps (defScope st))
    (hb : ∀ (cdv : Value) (A : Around) (outer : List Env) (s : Shared) (H : Hp) (E' : XK), Room k (A.deeper (envOfC qual (defScope st) s.heap.objs.size fa cdv)) → ∀ W : WX, Takes (cxOf (L2.CX P w) P w K mg base N qual (defScope st) fa cdv A outer s H E') W →
      PSs (cxOf (L2.CX P w) P w K mg base N qual (defScope st) fa cdv A outer s H E') (defBody st) (tS mg C W u)) :
    FnOk P w K mg base (L2.CX P w) (k + 1) fa fd ps (SpD mg C ps.length fun ds => fin (u (start N.length ds))) := by
  refine F0.okX S0 (fun vs H Q E h => h.1) fun cdv A outer s H vs Q E' hr h => ?_
  obtain ⟨hl, F, ds, sm, r, y⟩ := h
  refine ⟨_, hb cdv A outer s H E' hr (fun cls d _ H => E' cls d H) (takes_of rfl rfl rfl rfl), ?_⟩
  refine ⟨H, F, F, start N.length ds, start_so sm r, ?_⟩
  dsimp only at y
  cases e1 : u (start N.length ds) with
  | nx ρ =>
    rw [e1] at y
    exact fun σ' H' F' S' => y .non H' F' ⟨S'.cf, S'.bh, S'.fh, S'.new⟩ (by simp only [Rep])
  | rt d =>
    rw [e1] at y
    exact fun v H' F' a b c e r => y v H' F' ⟨b, a, c, e⟩ r
  | ro es =>
    rw [e1] at y
    intro p xs H' F' a b c e bp fp hl r
    refine y (.ref p) H' (upd F' p (.lst xs)) ⟨b.tr (Sm.upd fp), a, fun z o e' => ?_, fun z h => ?_⟩ ?_
    · by_cases hb : z = p
      · subst hb; rw [upd_same] at e'; cases e'; exact hl
      · rw [upd_ne hb] at e'; exact c _ _ e'
    · by_cases hb : z = p
      · subst hb; exact .inr bp
      · rw [upd_ne hb] at h; exact e z h
    · simp only [Rep]
      exact ⟨p, xs, rfl, upd_same, Reps.mono (Sm.upd fp) _ _ r⟩
  | ex c ρ =>
    rw [e1] at y
    exact fun a ha σ' H' F' S' => y a ha H' S'.bh
  | bad => rw [e1] at y; exact y
end
section
variable {X : Cx} {mg : Str → Option Value} {C : Addr} {W : WX} {e a b c tg : Expr} {t : TE} {pos : Pos} {f h j : Ev → R D} {p q : Ev → R Bool} {es : List Expr} {fs : Ev → R (List D)} {g : D → R (List (Nat × D))} {stI stP : Stmt}
theorem d_names (T : Sh X.K mg stI stP) (ha : PE X a (tD mg (shopC X.K) W f)) (hb : attributeBase a "names" X.env (eval a X.env) = eval a X.env := by rfl) : PE X (.Attribute a "names" pos) (tD mg (shopC X.K) W (E.un dNames f)) :=
  PE.to (pe_fld ha hb) fun σ H Q x => seq1 (C := shopC X.K) (g := dNames) (r := fun x H1 Q => ∃ a C dx fs v, x = .ref a ∧ H1 a = some (.ins C dx fs) ∧ Cls X.K C ∧ NoAttr X.K C "names" ∧ fs.lookup ("names" : Str) = some v ∧ Q v H1) (fun d F H v Q s r => by
    cases d <;> simp only [dNames] <;> try trivial
    intro q
    simp only [Rep] at r
    obtain ⟨a, dx, fs, an, ap, xs, ys, rfl, q1, f1, f2, f3, q2, r2, q3, r3⟩ := r
    exact ⟨a, _, dx, fs, .ref an, rfl, s _ _ q1, T.cl, T.n1, f1, q _ H F (.rfl s) (by simp only [Rep]; exact ⟨an, xs, rfl, q2, r2⟩)⟩) (fun d c => by cases d <;> simp only [dNames] <;> exact fun e => nomatch e) x
theorem d_prices (T : Sh X.K mg stI stP) (ha : PE X a (tD mg (shopC X.K) W f)) (hb : attributeBase a "prices" X.env (eval a X.env) = eval a X.env := by rfl) : PE X (.Attribute a "prices" pos) (tD mg (shopC X.K) W (E.un dPrices f)) :=
  PE.to (pe_fld ha hb) fun σ H Q x => seq1 (C := shopC X.K) (g := dPrices) (r := fun x H1 Q => ∃ a C dx fs v, x = .ref a ∧ H1 a = some (.ins C dx fs) ∧ Cls X.K C ∧ NoAttr X.K C "prices" ∧ fs.lookup ("prices" : Str) = some v ∧ Q v H1) (fun d F H v Q s r => by
    cases d <;> simp only [dPrices] <;> try trivial
    intro q
    simp only [Rep] at r
    obtain ⟨a, dx, fs, an, ap, xs, ys, rfl, q1, f1, f2, f3, q2, r2, q3, r3⟩ := r
    exact ⟨a, _, dx, fs, .ref ap, rfl, s _ _ q1, T.cl, T.n2, f2, q _ H F (.rfl s) (by simp only [Rep]; exact ⟨ap, ys, rfl, q3, r3⟩)⟩) (fun d c => by cases d <;> simp only [dPrices] <;> exact fun e => nomatch e) x
theorem s_raise {x m : Str} {jj : Nat} {p1 p2 p3 : Pos} (T : ExF X.K mg x) (hmg : X.mg = mg) (tk : Takes X W) (hc : X.calm = true := by rfl) (hg : Gl X x := by rfl) (hdb : (x == ("__debug__" : Str)) = false := by decide) :
    PS X (.Raise (some (.Call (.Name x p1) [.Constant (.str m) jj p2] [] pos)) none p3) (tS mg C W (S.raise x)) :=
  PS.to (ps_raise hc tk (pmk_own PySem.F.excBase_ValueError T.ex (by rw [hmg]; exact T.g) T.kp (raises_own T.sb T.ty) hg hdb)) fun Dn σ H y => by
    obtain ⟨B, Fc, F, ρ, S0, y⟩ := y
    exact y _ T.g σ H F S0
/-! ### o.m(e), what is raised wished for at the slots -/
theorem pe_methW {k : Nat} {C0 fa : Addr} {fd : FuncData} {ps : List Str} {sp : Sp} {m : Str} {o : Expr} {ta : TE} {t : TA} {apos : Pos} {pl : Sem Bool} (he : PE X o ta) (c : Cls X.K C0) (hm : Meth X.K C0 m fa) (F : FnOk X.prog X.w X.K X.mg X.base (L2.CX X.prog X.w) k fa fd ps sp) (hr : Room k X.A)
    (hb : Binds X.K fd ps []) (tk : Takes X W) (ha : PA X (e :: es) t) (hst : starEach (e :: es) X.env = (false, eval e X.env) :: starEach es X.env) (hpl : (backTo pos (starEach es X.env)).any (·.1) = false)
    (ht : eval (.Call (.Attribute o m apos) (e :: es) [] pos) X.env = (do
      let ov ← eval o X.env
      standAt apos.atName
      let (f, first) ← holding [ov] (getMethod ov m pl)
      callWith pos f first (backTo pos (starEach (e :: es) X.env)) (backToKw pos (keywordEach [] X.env)))) :
    PE X (.Call (.Attribute o m apos) (e :: es) [] pos) (fun σ H Q => ta σ H fun x H1 => ∃ a dx fs, x = .ref a ∧ H1 a = some (.ins C0 dx fs) ∧ fs.lookup m = none ∧ t σ H1 fun vs H2 => sp (x :: vs) H2 Q (WE W σ)) := by
  constructor
  intro pins s σ H Q I h
  refine PySem.W.methodCall_KW (pl := pl) (thn (he.run pins s σ H _ I h) ?_) ht
  rintro u s1 ⟨x, H1, I1, rx, a, dx, fs, rfl, ea, l, q⟩
  obtain rfl : u = Value.ref a := rx
  refine getmeth_ok I1 ea c hm l ?_
  refine PySem.W.callWith_K (first := [.ref a]) (h₀ := X.base) I.ok.mod.kin hm.kp (thn (ha.run pos pins s1 σ H1 _ I1 q) ?_) hst hpl
  rintro us s2 ⟨vs, H2, I2, r, q2⟩
  exact ⟨I2.kIn, run_fnS (us := .ref a :: us) (vs := .ref a :: vs) F hr hb (passAt tk σ) I2 (.cons rfl r) q2⟩
theorem d_place {k n : Nat} {gp : List D → R D} {o : Expr} {apos : Pos} {pl : Sem Bool} (Fp : FnOk X.prog X.w X.K X.mg X.base (L2.CX X.prog X.w) k (maP X.K) (fdOf X.K (maP X.K)) ["self", "name"] (SpD X.mg (shopC X.K) 2 gp)) (T : Sh X.K X.mg stI stP) (hr : Room n X.A) (hk : k ≤ n) (tk : Takes X W)
    (he : PE X o (tD X.mg (shopC X.K) W f)) (ha : PE X a (tD X.mg (shopC X.K) W h)) (hst : starEach [a] X.env = (false, eval a X.env) :: starEach [] X.env := by rfl) (hpl : (backTo pos (starEach [] X.env)).any (·.1) = false := by rfl)
    (ht : eval (.Call (.Attribute o "place" apos) [a] [] pos) X.env = (do
      let ov ← eval o X.env
      standAt apos.atName
      let (f, first) ← holding [ov] (getMethod ov "place" pl)
      callWith pos f first (backTo pos (starEach [a] X.env)) (backToKw pos (keywordEach [] X.env))) := by rfl) :
    PE X (.Call (.Attribute o "place" apos) [a] [] pos) (tD X.mg (shopC X.K) W (E.meth gp f h)) :=
  PE.to (pe_methW he T.cl T.mp Fp (hr.mono hk) T.bP tk (pa_cons ha pa_nil hst) hst hpl ht) fun σ H Q x => by
    obtain ⟨F, ρ, s, ok, x⟩ := x
    refine ⟨F, ρ, s, ok, ?_⟩
    unfold E.meth at x
    cases e1 : f ρ with
    | bad => rw [e1] at x; exact x
    | exc c => rw [e1] at x; exact x
    | ok d =>
      rw [e1, R.bind_ok] at x
      intro v H1 F1 n1 r1
      cases d <;> try exact x.elim
      rename_i ns ps
      have r1' := r1
      simp only [Rep] at r1
      obtain ⟨a0, dx, fs, an, ap, xs, ys, rfl, q1, f1, f2, f3, q2, r2, q3, r3⟩ := r1
      refine ⟨a0, dx, fs, rfl, n1.fh _ _ q1, f3, F1, ρ, n1.fh, ok.mono n1.ff, ?_⟩
      dsimp only at x
      cases e2 : h ρ with
      | bad => rw [e2] at x; exact x.elim
      | exc c => rw [e2] at x; exact Exc.mono x n1.hh
      | ok y =>
        rw [e2, R.bind_ok] at x
        intro u H2 F2 n2 r2'
        refine ⟨rfl, F2, [.shop ns ps, y], n2.fh, ?_, ?_⟩
        · simp only [Reps]
          exact ⟨_, _, rfl, r1'.mono n2.ff, _, _, rfl, r2', rfl⟩
        · cases e3 : gp [.shop ns ps, y] with
          | bad => rw [e3] at x; exact x.elim
          | exc c => rw [e3] at x; exact fun a ha H' s' => x a ha H' ((n1.hh.tr n2.hh).tr s')
          | ok d' =>
            rw [e3] at x
            exact fun w H' F' n3 r3 => x w H' F' ((n1.tr n2).tr n3) r3
end
end TB
/-! Shop(..): what __init__ does by hand, the making -/
namespace TB
open PySem PySem.Spec PyProof.Rows L2

/-- H' holds all of H but what stands at x -/
abbrev Smx (x : Addr) (H H' : Hp) : Prop := ∀ b o, b ≠ x → H b = some o → H' b = some o
/-- __init__(self, d): names and prices -/
def SpI (mg : Str → Option Value) (C : Addr) (g : D → R (List D × List D)) : Sp := fun vs H Q E' => ∃ x dx v F d, vs = [.ref x, v] ∧ H x = some (.ins C dx []) ∧ F x = none ∧ Sm F H ∧ Rep C F d v ∧ match g d with
  | .ok (ns, ps) => ns.all flat = true ∧ ps.all flat = true ∧ ∀ H' an ap, Smx x H H' → H' x = some (.ins C dx [(("names" : Str), .ref an), (("prices" : Str), .ref ap)]) → H an = none → H ap = none → an ≠ ap → H' an = some (.lst (ns.map toV)) → H' ap = some (.lst (ps.map toV)) → Q .non H'
  | .exc c => ∀ a, mg c = some (.ref a) → ∀ H', Smx x H H' → E' (.ref a) none H'
  | .bad => False
namespace I
def c0 : Ev → R Bool := E.bor (E.bnot (E.tst (E.un (dIsi "list") (E.var 1)))) (E.bnot (E.tst (E.chain dLe dLe (E.c (.int 1)) (E.app dLen (E.cons (E.var 1) E.nil)) (E.c (.int 5)))))
def c1 (isn : List D → R D) : Ev → R Bool := E.bor (E.bnot (E.tst (E.un (dIsi "tuple") (E.var 2)))) (E.bor (E.tst (E.bin dNe (E.app dLen (E.cons (E.var 2) E.nil)) (E.c (.int 2)))) (E.bnot (E.tst (E.app isn (E.cons (E.bin dIx (E.var 2) (E.c (.int 0))) E.nil)))))
def c3 (isnum : List D → R D) : Ev → R Bool := E.bnot (E.tst (E.app isnum (E.cons (E.bin dIx (E.var 2) (E.c (.int 1))) (E.cons (E.c (.int 0)) (E.cons (E.c (.int 100000)) E.nil)))))
def at0 : Ev → R D := E.bin dIx (E.var 2) (E.c (.int 0))
def at1 : Ev → R D := E.bin dIx (E.var 2) (E.c (.int 1))
end I
/-- the turns of __init__ -/
def initL (isn isnum : List D → R D) (k : D) : List D → List D → List D → R (List D × List D)
  | [], ns, ps => .ok (ns, ps)
  | d :: ds, ns, ps => match I.c1 isn [.no, .sh k, .sh d] with
    | .ok true => .exc "BadName"
    | .ok false => (match I.at0 [.no, .sh k, .sh d] with
      | .ok a => if flat a && ns.all flat then (if ns.any fun y => eqF y a then .exc "Twice" else
          match I.c3 isnum [.no, .sh k, .sh d] with
          | .ok true => .exc "BadPrice"
          | .ok false => (match I.at1 [.no, .sh k, .sh d] with
            | .ok b => if flat b && ps.all flat then initL isn isnum k ds (ns ++ [a]) (ps ++ [b]) else .bad
            | _ => .bad)
          | _ => .bad) else .bad
      | _ => .bad)
    | _ => .bad
theorem initL_cons {isn isnum : List D → R D} {k d : D} {ds ns ps : List D} : initL isn isnum k (d :: ds) ns ps = match I.c1 isn [.no, .sh k, .sh d] with
    | .ok true => .exc "BadName"
    | .ok false => (match I.at0 [.no, .sh k, .sh d] with
      | .ok a => if flat a && ns.all flat then (if ns.any fun y => eqF y a then .exc "Twice" else
          match I.c3 isnum [.no, .sh k, .sh d] with
          | .ok true => .exc "BadPrice"
          | .ok false => (match I.at1 [.no, .sh k, .sh d] with
            | .ok b => if flat b && ps.all flat then initL isn isnum k ds (ns ++ [a]) (ps ++ [b]) else .bad
            | _ => .bad)
          | _ => .bad) else .bad
      | _ => .bad)
    | _ => .bad := rfl
def initF (isn isnum : List D → R D) (k : D) : R (List D × List D) :=
  match I.c0 [.no, .sh k, .no] with
  | .ok true => .exc "BadKinds"
  | .ok false => (match k with
    | .lst ds => if ds.length < 1000 then initL isn isnum k ds [] [] else .bad
    | _ => .bad)
  | _ => .bad
theorem lkp : (("prices" : Str) == ("names" : Str)) = false := by decide
theorem lkq : (("place" : Str) == ("names" : Str)) = false := by decide
theorem lkr : (("place" : Str) == ("prices" : Str)) = false := by decide
theorem initL_flat {isn isnum : List D → R D} {k : D} : ∀ {ds ns ps : List D} {q : List D × List D}, ns.all flat = true → ps.all flat = true → initL isn isnum k ds ns ps = .ok q → q.1.all flat = true ∧ q.2.all flat = true
  | [], ns, ps, q, h1, h2, h => by
    cases h
    exact ⟨h1, h2⟩
  | d :: ds, ns, ps, q, h1, h2, h => by
    unfold initL at h
    split at h
    · cases h
    · split at h
      · rename_i a _
        split at h
        · rename_i fa
          split at h
          · cases h
          · split at h
            · cases h
            · split at h
              · rename_i b _
                split at h
                · rename_i fb
                  rw [Bool.and_eq_true] at fa fb
                  exact initL_flat (by rw [List.all_append, h1]; simp [fa.1]) (by rw [List.all_append, h2]; simp [fb.1]) h
                · cases h
              · cases h
            · cases h
        · cases h
      · cases h
    · cases h
theorem init_flat {isn isnum : List D → R D} {k : D} {ns ps : List D} (h : initF isn isnum k = .ok (ns, ps)) : ns.all flat = true ∧ ps.all flat = true := by
  unfold initF at h
  split at h
  · cases h
  · split at h
    · split at h
      · exact initL_flat (q := (ns, ps)) rfl rfl h
      · cases h
    · cases h
  · cases h
/-- the call Shop(d) -/
def shopOf (isn isnum : List D → R D) : List D → R D
  | [d] => (initF isn isnum d).map fun q => .shop q.1 q.2
  | _ => .bad
section
variable {X : Cx} {W : WX} {e : Expr} {pos : Pos} {es : List Expr} {fs : Ev → R (List D)} {stI stP : Stmt}
theorem run_makeW {C0 fa : Addr} {k : Nat} {fd : FuncData} {ps : List Str} {sp : Sp} {pins : List (Addr × Obj)} {σ : L2.St} {H : Hp} {s : Shared} {Q : VK} {us : List Value} {vs : List V} (M : Mk X.K C0 fa) (F : FnOk X.prog X.w X.K X.mg X.base (L2.CX X.prog X.w) k fa fd ps sp) (hr : Room (k + 1) X.A) (hb : Binds X.K fd ps [])
    (tk : Takes X W) (I : Inv X pins σ H s) (r : Vals vs us)
    (h : ∀ x dx, H x = none → H dx = none → dx ≠ x → sp (.ref x :: vs) (upd (upd H dx (.own x)) x (.ins C0 dx [])) (fun v H2 => v = .non ∧ Q (.ref x) H2) (WE W σ)) :
    wpAny (model X.prog X.w) X.A (call (.ref C0) us) (EP X pins σ Q) X.xe s := by
  have hq := h (s.heap.objs.size + 1) s.heap.objs.size (I.hok.fresh (Nat.le_succ _)) (I.hok.fresh (Nat.le_refl _)) (Nat.ne_of_lt (Nat.lt_succ_self _))
  have I2 := Inv.made (C := C0) I
  have r2 : Vals (V.ref (s.heap.objs.size + 1) :: vs) (Value.ref (s.heap.objs.size + 1) :: us) := .cons rfl r
  have hl : (Value.ref (s.heap.objs.size + 1) :: us).length = ps.length := by
    have e := r2.length
    rw [F.len _ _ _ _ hq] at e
    exact e.symm
  have bb := hb _ (Value.ref (s.heap.objs.size + 1) :: us) I2.kIn (by rw [List.append_nil]; exact hl)
  rw [List.append_nil] at bb
  refine wpAny_call (make_map (f := fa) I.kIn M.makes M.init (beq_iff_eq.mp M.fn) (codeAny_mono (F.run _ X.stack _ _ ⟨Value.ref (s.heap.objs.size + 1) :: us, []⟩ (Value.ref (s.heap.objs.size + 1) :: us) _ _ (WE W σ) (hr.make C0 us [])
    (I2.env0.make C0 us []) bb r2 hq) fun r s' hq' => ?_))
  cases r with
  | error e => exact passAt tk σ pins _ _ e s' I2 hq'
  | ok fl =>
    cases fl with
    | ret u =>
      obtain ⟨v, H', I3, rv, rfl, q3⟩ := I2.after hq'
      exact ⟨rv, ⟨V.ref (s.heap.objs.size + 1), H', I3, rfl, q3⟩⟩
    | next => exact False.elim hq'
    | brk => exact False.elim hq'
    | cont => exact False.elim hq'
theorem d_Shop {k n : Nat} {isn isnum : List D → R D} {p1 : Pos} (Fi : FnOk X.prog X.w X.K X.mg X.base (L2.CX X.prog X.w) k (maI X.K) (fdOf X.K (maI X.K)) ["self", "kinds"] (SpI X.mg (shopC X.K) (initF isn isnum))) (T : Sh X.K X.mg stI stP) (hr : Room n X.A) (hk : k + 1 ≤ n) (tk : Takes X W)
    (ha : PA X (e :: es) (tA X.mg (shopC X.K) W fs)) (hfl : ∀ ρ ds, fs ρ = .ok ds → ds.length = 1) (hg : Gl X "Shop" := by rfl) (he : starEach (e :: es) X.env = (false, eval e X.env) :: starEach es X.env := by rfl) (hpl : (backTo pos (starEach es X.env)).any (·.1) = false := by rfl) :
    PE X (.Call (.Name "Shop" p1) (e :: es) [] pos) (tD X.mg (shopC X.K) W (E.app (shopOf isn isnum) fs)) := by
  constructor
  intro pins s σ H Q I x
  refine wpAny_Call_Name_kw (ld_glob I hg T.g ?_ (by decide))
  obtain ⟨F, ρ, sm, ok, x⟩ := x
  refine PySem.W.callWith_K (h₀ := X.base) I.ok.mod.kin T.mkr.kp (thn (ha.run pos pins s σ H (fun vs H1 => ∀ x dx, H1 x = none → H1 dx = none → dx ≠ x → SpI X.mg (shopC X.K) (initF isn isnum) (.ref x :: vs) (upd (upd H1 dx (.own x)) x (.ins (shopC X.K) dx [])) (fun v H2 => v = .non ∧ Q (.ref x) H2) (WE W σ)) I ?_) ?_) he hpl
  · refine ⟨F, ρ, sm, ok, ?_⟩
    unfold E.app at x
    cases e1 : fs ρ with
    | bad => rw [e1] at x; exact x
    | exc c => rw [e1] at x; exact x
    | ok ds =>
      rw [e1, R.bind_ok] at x
      intro vs H1 F1 n1 r1 y dy ny ndy hne
      obtain ⟨d, rfl⟩ : ∃ d, ds = [d] := by
        have := hfl _ _ e1
        match ds, this with
        | [d], _ => exact ⟨d, rfl⟩
      obtain ⟨v, rfl, rv⟩ := reps1 r1
      have f1y : F1 y = none := n1.fh.non ny
      have up : ∀ b o, H1 b = some o → (upd (upd H1 dy (.own y)) y (.ins (shopC X.K) dy [])) b = some o := fun b o q => by
        rw [upd_ne (ne_of_none q ny), upd_ne (ne_of_none q ndy)]
        exact q
      refine ⟨y, dy, v, F1, d, rfl, upd_same, f1y, fun b o q => up b o (n1.fh _ _ q), rv, ?_⟩
      rw [show shopOf isn isnum [d] = (initF isn isnum d).map fun q => .shop q.1 q.2 from rfl] at x
      cases e2 : initF isn isnum d with
      | bad => rw [e2] at x; exact x.elim
      | exc c =>
        rw [e2] at x
        intro a ha H' sx
        refine x a ha H' fun b o q => ?_
        have q1 := n1.hh _ _ q
        exact sx b o (ne_of_none q1 ny) (up b o q1)
      | ok nps =>
        obtain ⟨ns, ps⟩ := nps
        rw [e2, R.map_ok] at x
        by_cases hf : ns.all flat = true ∧ ps.all flat = true
        · refine ⟨hf.1, hf.2, fun H' an ap sx hx nan nap hap ha hp => ⟨rfl, ?_⟩⟩
          have un : ∀ b, (upd (upd H1 dy (.own y)) y (.ins (shopC X.K) dy [])) b = none → H1 b = none ∧ b ≠ y := fun b q => by
            by_cases hb : b = y
            · subst hb; rw [upd_same] at q; cases q
            · refine ⟨?_, hb⟩
              cases e : H1 b with
              | none => rfl
              | some o => rw [up b o e] at q; cases q
          obtain ⟨nan, any⟩ := un an nan
          obtain ⟨nap, apy⟩ := un ap nap
          have f1n : F1 an = none := n1.fh.non nan
          have f1p : F1 ap = none := n1.fh.non nap
          have s1 : Sm H1 H' := fun b o q => sx b o (ne_of_none q ny) (up b o q)
          refine x (.ref y) H' (upd (upd (upd F1 an (.lst (ns.map toV))) ap (.lst (ps.map toV))) y (.ins (shopC X.K) dy [(("names" : Str), .ref an), (("prices" : Str), .ref ap)])) ⟨fun b o q => ?_, n1.hh.tr s1, fun b o q => ?_, fun b q => ?_⟩ ?_
          · have q1 := n1.ff _ _ q
            rw [upd_ne (ne_of_none q1 f1y), upd_ne (ne_of_none q1 f1p), upd_ne (ne_of_none q1 f1n)]
            exact q1
          · by_cases h1 : b = y
            · subst h1; rw [upd_same] at q; cases q; exact hx
            · rw [upd_ne h1] at q
              by_cases h2 : b = ap
              · subst h2; rw [upd_same] at q; cases q; exact hp
              · rw [upd_ne h2] at q
                by_cases h3 : b = an
                · subst h3; rw [upd_same] at q; cases q; exact ha
                · rw [upd_ne h3] at q
                  exact s1 _ _ (n1.fh _ _ q)
          · have old : ∀ b, H1 b = none → H b = none := fun b q => by
              cases e : H b with
              | none => rfl
              | some o => rw [n1.hh _ _ e] at q; cases q
            by_cases h1 : b = y
            · subst h1; exact .inr (old _ ny)
            · rw [upd_ne h1] at q
              by_cases h2 : b = ap
              · subst h2; exact .inr (old _ nap)
              · rw [upd_ne h2] at q
                by_cases h3 : b = an
                · subst h3; exact .inr (old _ nan)
                · rw [upd_ne h3] at q
                  exact n1.new b q
          · simp only [Rep]
            have fl : ∀ {G : Hp} {l : List D}, l.all flat = true → Reps (shopC X.K) G l (l.map toV) := fun {G l} hl => by
              induction l with
              | nil => simp only [Reps, List.map_nil]
              | cons a l ih =>
                simp only [List.all_cons, Bool.and_eq_true] at hl
                simp only [Reps, List.map_cons]
                exact ⟨_, _, rfl, flat_rep hl.1, ih hl.2⟩
            refine ⟨y, dy, _, an, ap, _, _, rfl, upd_same, by simp [List.lookup], by simp [List.lookup, lkp], by simp [List.lookup, lkq, lkr], ?_, fl hf.1, ?_, fl hf.2⟩
            · rw [upd_ne any, upd_ne hap, upd_same]
            · rw [upd_ne apy, upd_same]
        · exact (hf (init_flat e2)).elim
  · intro us s1 hh
    obtain ⟨vs, H1, I1, r, q⟩ := hh
    exact ⟨I1.kIn, run_makeW T.mkr Fi (hr.mono hk) T.bI tk I1 r q⟩
/-- raise x(..) -/
def tRz (W : WX) (K : PySem.W.Frag) (x : Str) : TS := fun _ σ H => W (.ref (He.ga K x)) none σ H
theorem s_rz {x m : Str} {jj : Nat} {p1 p2 p3 : Pos} (T : ExF X.K X.mg x) (tk : Takes X W) (hc : X.calm = true := by rfl) (hg : Gl X x := by rfl) (hdb : (x == ("__debug__" : Str)) = false := by decide) :
    PS X (.Raise (some (.Call (.Name x p1) [.Constant (.str m) jj p2] [] pos)) none p3) (tRz W X.K x) :=
  ps_raise hc tk (pmk_own PySem.F.excBase_ValueError T.ex T.g T.kp (raises_own T.sb T.ty) hg hdb)
end
section
variable (K : PySem.W.Frag) (mg : Str → Option Value) (W : WX) (isn isnum : List D → R D)
def tTurn : TS := tSeq (tIfS (tB mg (shopC K) W (I.c1 isn)) (tRz W K "BadName") tNext)
  (tSeq (tIfS (tTest (tOp (rInB K false) (tD mg (shopC K) W I.at0) (tFld K (tVar 0) "names"))) (tRz W K "Twice") tNext)
  (tSeq (tIfS (tB mg (shopC K) W (I.c3 isnum)) (tRz W K "BadPrice") tNext)
  (tSeq (tDrop (tBM K "list" rAppend (tFld K (tVar 0) "names") (tCons (tD mg (shopC K) W I.at0) tNil)))
    (tDrop (tBM K "list" rAppend (tFld K (tVar 0) "prices") (tCons (tD mg (shopC K) W I.at1) tNil))))))
def tInit : TS := tSeq (tIfS (tB mg (shopC K) W I.c0) (tRz W K "BadKinds") tNext)
  (tSeq (sFld K (tVar 0) (tLst tNil) "names")
  (tSeq (sFld K (tVar 0) (tLst tNil) "prices")
    (tFor (tI mg (shopC K) W (E.iter (E.var 1))) (gName 2) (tTurn K mg W isn isnum))))
end
/-- the facts that the walk of __init__ leans on -/
structure IniF (K : PySem.W.Frag) (mg : Str → Option Value) : Prop where
  cl : Cls K (shopC K)
  n1 : NoAttr K (shopC K) "names"
  n2 : NoAttr K (shopC K) "prices"
  e1 : mg "BadKinds" = some (.ref (He.ga K "BadKinds"))
  e2 : mg "BadName" = some (.ref (He.ga K "BadName"))
  e3 : mg "Twice" = some (.ref (He.ga K "Twice"))
  e4 : mg "BadPrice" = some (.ref (He.ga K "BadPrice"))
section
variable {K : PySem.W.Frag} {mg : Str → Option Value} {isn isnum : List D → R D}
/-- between the turns -/
structure Mid (K : PySem.W.Frag) (x dx an ap : Addr) (v : V) (d : D) (F H0 : Hp) (ns ps : List D) (σ : L2.St) (H : Hp) : Prop where
  s0 : σ[0]? = some (some (.ref x))
  s1 : σ[1]? = some (some v)
  sl : σ.length = 3
  fx : F x = none
  fn : F an = none
  fp : F ap = none
  hn : H0 an = none
  hp : H0 ap = none
  np : an ≠ ap
  nx : an ≠ x
  px : ap ≠ x
  sm : Sm F H
  up : Smx x H0 H
  hx : H x = some (.ins (shopC K) dx [(("names" : Str), .ref an), (("prices" : Str), .ref ap)])
  ha : H an = some (.lst (ns.map toV))
  hb : H ap = some (.lst (ps.map toV))
  fl1 : ns.all flat = true
  fl2 : ps.all flat = true
theorem Mid.grow {x dx an ap : Addr} {v : V} {d : D} {F H0 : Hp} {ns ps : List D} {σ : L2.St} {H H' : Hp} (M : Mid K x dx an ap v d F H0 ns ps σ H) (s : Sm H H') : Mid K x dx an ap v d F H0 ns ps σ H' :=
  { M with sm := M.sm.tr s, up := fun b o hb q => s _ _ (M.up b o hb q), hx := s _ _ M.hx, ha := s _ _ M.ha, hb := s _ _ M.hb }
theorem reps_flat {C : Addr} {F : Hp} : ∀ {l : List D}, l.all flat = true → Reps C F l (l.map toV)
  | [], _ => by simp only [Reps, List.map_nil]
  | a :: l, h => by
    simp only [List.all_cons, Bool.and_eq_true] at h
    simp only [Reps, List.map_cons]
    exact ⟨_, _, rfl, flat_rep h.1, reps_flat h.2⟩
theorem turn_init (T : IniF K mg) {E' : XK} {x dx an ap : Addr} {v : V} {k d : D} {F H0 : Hp} {ns ps : List D} {ds : List D} {σ : L2.St} {H : Hp} {Dn : Ends} {N : L2.St → Hp → Prop} (hk : Rep (shopC K) F k v) (M : Mid K x dx an ap v k F H0 ns ps σ H) {u : V} {F' H' : Hp} (n : Nx F H F' H') (ru : Rep (shopC K) F' d u) (hl : ns.length < 1000 ∧ ps.length < 1000)
    (hr : match initL isn isnum k (d :: ds) ns ps with
      | .ok _ => True
      | .exc c => ∀ a, mg c = some (.ref a) → ∀ H', Smx x H0 H' → E' (.ref a) none H'
      | .bad => False)
    (hN : ∀ a b H2, initL isn isnum k (d :: ds) ns ps = initL isn isnum k ds (ns ++ [a]) (ps ++ [b]) → Mid K x dx an ap v k F H0 (ns ++ [a]) (ps ++ [b]) (σ.set 2 (some u)) H2 → N (σ.set 2 (some u)) H2) (hx' : Dn.nx = N) :
    tTurn K mg (fun cls d _ H => E' cls d H) isn isnum Dn (σ.set 2 (some u)) H' := by
  -- what is known of the slots
  have M' := M.grow n.hh
  have ok : SlOk (shopC K) F' (σ.set 2 (some u)) [.no, .sh k, .sh d] := by
    refine ⟨by rw [List.length_set, M.sl]; rfl, fun i e q => ?_⟩
    match i, q with
    | 1, q =>
      cases q
      exact ⟨v, by rw [List.getElem?_set_ne (by decide)]; exact M.s1, hk.mono n.ff⟩
    | 2, q =>
      cases q
      exact ⟨u, List.getElem?_set_self (by rw [M.sl]; decide), ru⟩
    | 0, q => cases q
    | i + 3, q => simp at q
  have s0' : (σ.set 2 (some u))[0]? = some (some (.ref x)) := by rw [List.getElem?_set_ne (by decide)]; exact M.s0
  have fld : ∀ {H2 : Hp} {Q : VK}, Mid K x dx an ap v k F H0 ns ps σ H2 → Q (.ref an) H2 → tFld K (tVar 0) "names" (σ.set 2 (some u)) H2 Q := fun {H2 Q} M2 q =>
    ⟨.ref x, s0', x, _, dx, _, .ref an, rfl, M2.hx, T.cl, T.n1, by simp [List.lookup], q⟩
  rw [initL_cons] at hr
  simp only [initL_cons] at hN
  unfold tTurn
  -- the name
  refine ⟨F', _, n.fh, ok, ?_⟩
  cases e1 : I.c1 isn [.no, .sh k, .sh d] with
  | bad => rw [e1] at hr; exact hr
  | exc c => rw [e1] at hr; exact hr.elim
  | ok b1 =>
    rw [e1] at hr hN
    intro H1 s1
    have M1 := M'.grow s1
    cases b1 with
    | true =>
      rw [if_pos rfl]
      exact hr _ T.e2 H1 M1.up
    | false =>
      rw [if_neg Bool.false_ne_true]
      dsimp only at hr hN
      -- whether it stood ahead
      refine ⟨F', _, n.fh.tr s1, ok, ?_⟩
      cases e2 : I.at0 [.no, .sh k, .sh d] with
      | bad => rw [e2] at hr; exact hr.elim
      | exc c => rw [e2] at hr; exact hr.elim
      | ok a =>
        rw [e2] at hr hN
        dsimp only at hr hN
        intro va H2 F2 n2 ra
        have M2 := M1.grow n2.hh
        refine fld M2 ?_
        by_cases hf : (flat a && ns.all flat) = true
        · rw [if_pos hf] at hr
          simp only [if_pos hf] at hN
          rw [Bool.and_eq_true] at hf
          have ea := flat_eq hf.1 ra
          subst ea
          refine .inl ⟨an, _, rfl, .inl (SqL.of M2.ha), flat_V hf.1, flats_V hf.2, ?_⟩
          rw [inF_V hf.1 hf.2]
          refine ⟨_, rfl, ?_⟩
          cases e3 : (ns.any fun y => eqF y a) with
          | true =>
            rw [e3] at hr
            exact hr _ T.e3 H2 M2.up
          | false =>
            rw [e3] at hr
            simp only [e3] at hN
            rw [if_neg Bool.false_ne_true] at hr
            simp only [Bool.false_eq_true, if_false] at hN
            have g1 : Sm F' H2 := n.fh.tr (s1.tr n2.hh)
            show (if (false = true) then _ else _)
            rw [if_neg Bool.false_ne_true]
            -- the price
            refine ⟨F', _, g1, ok, ?_⟩
            cases e4 : I.c3 isnum [.no, .sh k, .sh d] with
            | bad => rw [e4] at hr; exact hr
            | exc c => rw [e4] at hr; exact hr.elim
            | ok b4 =>
              rw [e4] at hr hN
              intro H3 s3
              have M3 := M2.grow s3
              cases b4 with
              | true =>
                rw [if_pos rfl]
                exact hr _ T.e4 H3 M3.up
              | false =>
                rw [if_neg Bool.false_ne_true]
                dsimp only at hr hN
                cases e5 : I.at1 [.no, .sh k, .sh d] with
                | bad => rw [e5] at hr; exact hr.elim
                | exc c => rw [e5] at hr; exact hr.elim
                | ok b =>
                  rw [e5] at hr hN
                  dsimp only at hr hN
                  by_cases hg : (flat b && ps.all flat) = true
                  · simp only [if_pos hg] at hN
                    rw [Bool.and_eq_true] at hg
                    -- self.names.append(kind[0])
                    show tBM K "list" rAppend (tFld K (tVar 0) "names") (tCons (tD mg (shopC K) (fun cls d x H => E' cls d H) I.at0) tNil) (σ.set 2 (some u)) H3 _
                    refine fld M3 ?_
                    refine ⟨.inl ⟨rfl, _, SqL.of M3.ha⟩, F', _, g1.tr s3, ok, ?_⟩
                    rw [e2]
                    intro va4 H4 F4 n4 ra4
                    have M4 := M3.grow n4.hh
                    have ea4 := flat_eq hf.1 ra4
                    subst ea4
                    refine ⟨an, _, _, rfl, rfl, M4.ha, by rw [List.length_map, sizeLine_eq]; omega, ?_⟩
                    -- self.prices.append(kind[1])
                    have g4 : Sm F' (upd H4 an (.lst (ns.map toV ++ [toV a]))) := fun c o q => by
                      rw [upd_ne (fun z => by
                        subst z
                        rcases n.new c (by rw [q]; exact fun z => nomatch z) with z | z
                        · exact z M.fn
                        · rw [M.ha] at z; cases z)]
                      exact n4.hh _ _ (s3 _ _ (g1 _ _ q))
                    refine ⟨.ref x, s0', x, _, dx, _, .ref ap, rfl, by rw [upd_ne M.nx.symm]; exact M4.hx, T.cl, T.n2, by simp [List.lookup, lkp], .inl ⟨rfl, _, SqL.of (by rw [upd_ne M.np.symm]; exact M4.hb)⟩, F', _, g4, ok, ?_⟩
                    rw [e5]
                    intro vb H5 F5 n5 rb
                    have eb := flat_eq hg.1 rb
                    subst eb
                    refine ⟨ap, _, _, rfl, rfl, n5.hh _ _ (by rw [upd_ne M.np.symm]; exact M4.hb), by rw [List.length_map, sizeLine_eq]; omega, ?_⟩
                    show Dn.nx _ _
                    rw [hx']
                    have up5 : Smx x H0 H5 := fun c o hc q => n5.hh _ _ (by
                      rw [upd_ne (ne_of_none q M.hn)]
                      exact M4.up c o hc q)
                    have sm5 : Sm F H5 := fun c o q => n5.hh _ _ (g4 _ _ (n.ff _ _ q))
                    have han5 : H5 an = some (.lst ((ns ++ [a]).map toV)) := n5.hh _ _ (by rw [upd_same, List.map_append]; rfl)
                    refine hN a b _ rfl ⟨s0', by rw [List.getElem?_set_ne (by decide)]; exact M.s1, by rw [List.length_set]; exact M.sl, M.fx, M.fn, M.fp, M.hn, M.hp, M.np, M.nx, M.px, fun c o q => ?_, fun c o hc q => ?_, ?_, ?_, ?_, ?_, ?_⟩
                    · rw [upd_ne (ne_of_none q M.fp)]; exact sm5 _ _ q
                    · rw [upd_ne (ne_of_none q M.hp)]; exact up5 c o hc q
                    · rw [upd_ne M.px.symm]; exact n5.hh _ _ (by rw [upd_ne M.nx.symm]; exact M4.hx)
                    · rw [upd_ne M.np]; exact han5
                    · rw [upd_same, List.map_append]; rfl
                    · rw [List.all_append, M.fl1]; simp [hf.1]
                    · rw [List.all_append, M.fl2]; simp [hg.1]
                  · rw [if_neg hg] at hr
                    exact hr.elim
        · rw [if_neg hf] at hr
          exact hr.elim
theorem init_ok (T : IniF K mg) {vs : List V} {H : Hp} {Q : VK} {E' : XK} (h : SpI mg (shopC K) (initF isn isnum) vs H Q E') :
    tInit K mg (fun cls d _ H => E' cls d H) isn isnum { nx := fun _ H' => Q .non H', rt := Q } (L2.start ["self", "kinds", "kind"] vs) H := by
  obtain ⟨x, dx, v, F, k, rfl, hx, fx, sm, rk, y⟩ := h
  have st : L2.start ["self", "kinds", "kind"] [.ref x, v] = [some (.ref x), some v, none] := rfl
  rw [st]
  have ok : ∀ {G : Hp}, Sm F G → SlOk (shopC K) G [some (.ref x), some v, none] [.no, .sh k, .no] := fun {G} sg => by
    refine ⟨rfl, fun i e q => ?_⟩
    match i, q with
    | 0, q => cases q
    | 1, q =>
      cases q
      exact ⟨v, rfl, rk.mono sg⟩
    | 2, q => cases q
    | i + 3, q => simp at q
  unfold initF at y
  unfold tInit
  refine ⟨F, _, sm, ok Sm.rfl, ?_⟩
  cases e0 : I.c0 [.no, .sh k, .no] with
  | bad => rw [e0] at y; exact y
  | exc c => rw [e0] at y; exact y.elim
  | ok b0 =>
    rw [e0] at y
    intro H1 s1
    cases b0 with
    | true =>
      rw [if_pos rfl]
      exact y _ T.e1 H1 fun b o hb q => s1 _ _ q
    | false =>
      rw [if_neg Bool.false_ne_true]
      dsimp only at y
      cases k with
      | lst ds =>
        dsimp only at y
        by_cases hl : ds.length < 1000
        · rw [if_pos hl] at y
          -- self.names = []
          refine ⟨Nat.zero_le _, fun an nan => ?_⟩
          have anx : an ≠ x := fun z => by subst z; rw [s1 _ _ hx] at nan; cases nan
          refine ⟨.ref x, rfl, x, _, dx, [], rfl, by rw [upd_ne anx.symm]; exact s1 _ _ hx, T.cl, T.n1, by decide, ?_⟩
          -- self.prices = []
          refine ⟨Nat.zero_le _, fun ap nap => ?_⟩
          have apx : ap ≠ x := fun z => by subst z; rw [upd_same] at nap; cases nap
          rw [upd_ne apx] at nap
          have apn : ap ≠ an := fun z => by subst z; rw [upd_same] at nap; cases nap
          rw [upd_ne apn] at nap
          refine ⟨.ref x, rfl, x, _, dx, [(("names" : Str), .ref an)], rfl, by rw [upd_ne apx.symm, upd_same]; rfl, T.cl, T.n2, by show 1 < 1000; decide, ?_⟩
          have hpf : putF ("prices" : Str) (.ref ap) [(("names" : Str), .ref an)] = [(("names" : Str), V.ref an), (("prices" : Str), .ref ap)] := by
            have ne : ¬ (("names" : Str) = ("prices" : Str)) := by decide
            simp [putF, ne]
          rw [hpf]
          -- the loop
          generalize hH : upd (upd (upd (upd H1 an (.lst [])) x (.ins (shopC K) dx (putF ("names" : Str) (.ref an) []))) ap (.lst [])) x (.ins (shopC K) dx [(("names" : Str), V.ref an), (("prices" : Str), .ref ap)]) = H4
          have n0 : H an = none := by
            cases e : H an with
            | none => rfl
            | some o => rw [s1 _ _ e] at nan; cases nan
          have p0 : H ap = none := by
            cases e : H ap with
            | none => rfl
            | some o => rw [s1 _ _ e] at nap; cases nap
          have up4 : ∀ b o, b ≠ x → H1 b = some o → H4 b = some o := fun b o hb q => by
            rw [← hH, upd_ne hb, upd_ne (ne_of_none q nap), upd_ne hb, upd_ne (ne_of_none q nan)]
            exact q
          have M0 : Mid K x dx an ap v (.lst ds) F H [] [] [some (.ref x), some v, none] H4 := by
            refine ⟨rfl, rfl, rfl, fx, sm.non n0, sm.non p0, n0, p0, apn.symm, anx, apx, fun b o q => ?_, fun b o hb q => up4 b o hb (s1 _ _ q), ?_, ?_, ?_, rfl, rfl⟩
            · exact up4 b o (fun z => by subst z; rw [fx] at q; cases q) (s1 _ _ (sm _ _ q))
            · rw [← hH, upd_same]
            · rw [← hH, upd_ne anx, upd_ne apn.symm, upd_ne anx, upd_same]; rfl
            · rw [← hH, upd_ne apx, upd_same]; rfl
          refine ⟨F, _, M0.sm, ok Sm.rfl, ?_⟩
          rw [show E.iter (E.var 1) [.no, .sh (.lst ds), .no] = .ok ds from rfl]
          intro J H5 F5 n5 it
          have no5 : ∀ b, F b = none → H4 b ≠ none → F5 b = none := fun b f q => by
            cases e : F5 b with
            | none => rfl
            | some o =>
              rcases n5.new b (by rw [e]; exact fun z => nomatch z) with z | z
              · exact absurd f z
              · exact absurd z q
          have M5 : Mid K x dx an ap v (.lst ds) F5 H [] [] [some (.ref x), some v, none] H5 :=
            { M0.grow n5.hh with fx := no5 x fx (by rw [M0.hx]; exact fun z => nomatch z), fn := no5 an M0.fn (by rw [M0.ha]; exact fun z => nomatch z), fp := no5 ap M0.fp (by rw [M0.hb]; exact fun z => nomatch z), sm := n5.fh }
          refine ⟨fun i m σ H6 => m = ds.length - i ∧ i ≤ ds.length ∧ ∃ ns ps, Mid K x dx an ap v (.lst ds) F5 H ns ps σ H6 ∧ ns.length = i ∧ ps.length = i ∧ match initL isn isnum (.lst ds) (ds.drop i) ns ps with
              | .ok (ns, ps) => ns.all flat = true ∧ ps.all flat = true ∧ ∀ H' an ap, Smx x H H' → H' x = some (.ins (shopC K) dx [(("names" : Str), .ref an), (("prices" : Str), .ref ap)]) → H an = none → H ap = none → an ≠ ap → H' an = some (.lst (ns.map toV)) → H' ap = some (.lst (ps.map toV)) → Q .non H'
              | .exc c => ∀ a, mg c = some (.ref a) → ∀ H', Smx x H H' → E' (.ref a) none H'
              | .bad => False, ⟨ds.length, by simp, Nat.zero_le _, [], [], M5, rfl, rfl, y⟩, ?_⟩
          rintro i m σ H6 ⟨rfl, hi, ns, ps, M6, ln, lp, y6⟩
          by_cases hlt : i < ds.length
          · refine .inr ⟨it.go i H6 M6.sm hlt, fun σ H7 => ∃ ns ps, Mid K x dx an ap v (.lst ds) F5 H ns ps σ H7 ∧ ns.length = i + 1 ∧ ps.length = i + 1 ∧ match initL isn isnum (.lst ds) (ds.drop (i + 1)) ns ps with
              | .ok (ns, ps) => ns.all flat = true ∧ ps.all flat = true ∧ ∀ H' an ap, Smx x H H' → H' x = some (.ins (shopC K) dx [(("names" : Str), .ref an), (("prices" : Str), .ref ap)]) → H an = none → H ap = none → an ≠ ap → H' an = some (.lst (ns.map toV)) → H' ap = some (.lst (ps.map toV)) → Q .non H'
              | .exc c => ∀ a, mg c = some (.ref a) → ∀ H', Smx x H H' → E' (.ref a) none H'
              | .bad => False, fun σ' H' w => ⟨ds.length - (i + 1), by omega, rfl, hlt, w⟩, fun u H7 yy => ?_⟩
            obtain ⟨F7, d, ed, n7, rd⟩ := it.yld i H6 F5 u H7 Sm.rfl M6.sm yy hlt
            rw [show ds.drop i = d :: ds.drop (i + 1) by
              rw [List.drop_eq_getElem_cons hlt]
              congr
              rw [List.getElem?_eq_getElem hlt] at ed
              exact Option.some.inj ed] at y6
            refine turn_init (ds := ds.drop (i + 1)) T (rk.mono n5.ff) M6 n7 rd (by omega) ?_ ?_ rfl
            · cases e : initL isn isnum (.lst ds) (d :: ds.drop (i + 1)) ns ps with
              | ok q => trivial
              | exc c => rw [e] at y6; exact y6
              | bad => rw [e] at y6; exact y6
            · intro a b H8 e M8
              rw [e] at y6
              exact ⟨_, _, M8, by rw [List.length_append, ln]; rfl, by rw [List.length_append, lp]; rfl, y6⟩
          · have ei : i = ds.length := by omega
            subst ei
            rw [List.drop_length] at y6
            obtain ⟨f1, f2, q⟩ := y6
            exact .inl ⟨it.stop _ H6 M6.sm rfl, q H6 an ap M6.up M6.hx M6.hn M6.hp M6.np M6.ha M6.hb⟩
        · rw [if_neg hl] at y
          exact y.elim
      | _ => exact y.elim
end
end TB
/-! the table PARTS; the head with it -/
namespace TB
open PySem PySem.Spec PyProof.Rows L2

abbrev Tab : Type := List (Str × Int)
/-- the module's name PARTS is a dict of texts and ints -/
structure Tb (w : World) (K : PySem.W.Frag) (mg : Str → Option Value) (tab : Tab) : Prop where
  k : ∃ es n, KDict K w (He.ga K "PARTS") es n
  g : mg "PARTS" = some (.ref (He.ga K "PARTS"))
  v : ∀ z : Str, ∃ r, PySem.W.nsIn K (He.ga K "PARTS") z = some r ∧ match tab.lookup z with
    | some i => ∃ t, r = some (.int i t)
    | none => r = none
def rowOf (e : DictEntry) : Option (Str × Int) := match e.key, e.val with
  | .str x _, .int i _ => some (x, i)
  | _, _ => none
def rowsI (K : PySem.W.Frag) (a : Addr) : Option (List (Option (Str × Int))) := match K.lookup a with
  | some ⟨_, _, .dict es _, _⟩ => some (es.toList.map rowOf)
  | _ => none
theorem rows_find {z : Str} : ∀ {es : List DictEntry} {tab : Tab}, es.map rowOf = tab.map some → (match tab.lookup z with
    | some i => ∃ e t, es.find? (·.key.isStr z) = some e ∧ e.val = .int i t
    | none => es.find? (·.key.isStr z) = none ∧ es.any (·.refKey) = false)
  | [], [], _ => ⟨rfl, rfl⟩
  | [], _ :: _, h => by cases h
  | _ :: _, [], h => by cases h
  | e :: es, (x, i) :: tab, h => by
    rw [List.map_cons, List.map_cons, List.cons.injEq] at h
    obtain ⟨h1, h2⟩ := h
    have ih := rows_find (z := z) h2
    unfold rowOf at h1
    split at h1
    · rename_i y t j u ek ev
      cases h1
      rw [List.lookup_cons, List.find?_cons]
      have ks : e.key.isStr z = (x == z) := by rw [ek]; rfl
      rw [ks]
      by_cases q : z = x
      · subst q
        simp only [beq_self_eq_true]
        exact ⟨e, u, rfl, ev⟩
      · have q1 : (z == x) = false := by simpa using q
        have q2 : (x == z) = false := by simpa using fun z => q z.symm
        rw [q1, q2]
        dsimp only
        cases hl : tab.lookup z with
        | some i =>
          rw [hl] at ih
          exact ih
        | none =>
          rw [hl] at ih
          refine ⟨ih.1, ?_⟩
          rw [List.any_cons, ih.2]
          unfold DictEntry.refKey
          rw [ek]
          rfl
    · cases h1
theorem tb_v {K : PySem.W.Frag} {a : Addr} {tab : Tab} (h : rowsI K a = some (tab.map some)) (z : Str) : ∃ r, PySem.W.nsIn K a z = some r ∧ match tab.lookup z with
    | some i => ∃ t, r = some (.int i t)
    | none => r = none := by
  unfold rowsI at h
  unfold PySem.W.nsIn
  split at h
  · rename_i es n sl e
    have q := rows_find (z := z) (Option.some.inj h)
    rw [e]
    dsimp only
    cases hl : tab.lookup z with
    | some i =>
      rw [hl] at q
      obtain ⟨e, t, h1, h2⟩ := q
      rw [h1]
      exact ⟨_, rfl, t, by rw [h2]⟩
    | none =>
      rw [hl] at q
      rw [q.1, q.2]
      exact ⟨none, rfl, rfl⟩
  · cases h
def dTab (tab : Tab) : D → R D
  | .str z => match tab.lookup z with
    | some i => .ok (.int i)
    | none => .bad
  | _ => .bad
def dInTab (neg : Bool) (tab : Tab) : D → R D
  | .str z => .ok (.bl (neg ^^ (tab.lookup z).isSome))
  | _ => .bad
section
variable {X : Cx} {mg : Str → Option Value} {C : Addr} {W : WX} {a : Expr} {pos p1 : Pos} {f : Ev → R D} {tab : Tab}
theorem pe_tabN (T : Tb X.w X.K X.mg tab) (hg : Gl X "PARTS") : PE X (.Name "PARTS" p1) (tC (.ref (He.ga X.K "PARTS"))) := pe_glob hg T.g rfl
theorem d_tab (T : Tb X.w X.K X.mg tab) (ha : PE X a (tD mg C W f)) (hg : Gl X "PARTS" := by rfl) (hs : PlainIx a := by exact fun _ _ => rfl) : PE X (.Subscript (.Name "PARTS" p1) a pos) (tD mg C W (E.un (dTab tab) f)) := by
  refine PE.to (pe_ix ix_kdict (pe_tabN T hg) ha hs) fun σ H Q x => ?_
  refine seq1 (g := dTab tab) (r := fun y H Q => rIxD X.K X.w (.ref (He.ga X.K "PARTS")) y H Q) (fun d F H v Q s r => ?_) (fun d c => by unfold dTab; split <;> (try split) <;> exact fun e => nomatch e) x
  cases d <;> simp only [dTab] <;> try trivial
  rename_i z
  obtain ⟨es, n, D0⟩ := T.k
  obtain ⟨r0, e1, e2⟩ := T.v z
  cases hl : tab.lookup z with
  | none => trivial
  | some i =>
    rw [hl] at e2
    obtain ⟨t, rfl⟩ := e2
    intro q
    simp only [Rep] at r
    exact ⟨_, z, .int i, rfl, r, ⟨es, n, _, D0.at_, D0.lit, e1, ⟨t, rfl⟩⟩, q _ H F (.rfl s) (by simp only [Rep])⟩
theorem intab_D (T : Tb X.w X.K X.mg tab) (neg : Bool) : Op1 C (dInTab neg tab) (fun y H Q => ∃ (z : Str) (r : Option Value), y = .str z ∧ PySem.W.nsIn X.K (He.ga X.K "PARTS") z = some r ∧ Q (.bl (neg ^^ r.isSome)) H) := fun d F H v Q s r => by
  cases d <;> simp only [dInTab] <;> try trivial
  rename_i z
  intro q
  obtain ⟨r0, e1, e2⟩ := T.v z
  simp only [Rep] at r
  refine ⟨z, r0, r, e1, ?_⟩
  have e3 : r0.isSome = (tab.lookup z).isSome := by
    cases hl : tab.lookup z with
    | none => rw [hl] at e2; subst e2; rfl
    | some i =>
      rw [hl] at e2
      obtain ⟨t, rfl⟩ := e2
      rfl
  rw [e3]
  exact q _ H F (.rfl s) (by simp only [Rep])
theorem intab_calm {neg : Bool} : Calm1 (dInTab neg tab) := fun d c => by cases d <;> simp only [dInTab] <;> exact fun e => nomatch e
theorem b_nitab (T : Tb X.w X.K X.mg tab) (ha : PE X a (tD mg C W f)) (hg : Gl X "PARTS" := by rfl) (hm : behindInMarks .NotIn (.Name "PARTS" p1) = false := by rfl) : PT X (.Compare a [.NotIn] [.Name "PARTS" p1] pos) (tB mg C W (E.tst (E.un (dInTab true tab) f))) := by
  obtain ⟨es, n, D0⟩ := T.k
  refine PT.to (pt_cmpR (op_notIn_kd D0) ha (pe_tabN T hg) hm) fun σ H Q x => ?_
  refine tD_w (seq1 (intab_D T true) intab_calm (seqT x)) fun v H' _ q => ?_
  obtain ⟨z, r, h1, h2, k, h3, h4⟩ := q
  exact ⟨z, r, h1, rfl, h2, k, by rw [← h3]; cases r <;> rfl, h4⟩
end
/-! ### the head -/
abbrev AlP : Type := He.Al × Option (List (Option (Str × Int))) × Option (List (Option (Str × Int)))
def obsP (n : Nat) (fa : List He.Fa) (fn : List He.FnD) (g : Addr → Option Obj) : AlP :=
  let K := noL (He.frG g (He.asG g n))
  (He.obsE fa fn K, He.dicW K (He.ga K "PARTS"), rowsI K (He.ga K "PARTS"))
def valP (fn : List He.FnD) (tab : Tab) (w : World) : AlP := (He.valE fn, some (He.keysIn w.params (tab.map (·.1))), some (tab.map some))
structure SaysP (fa : List He.Fa) (fn : List He.FnD) (tab : Tab) (w : World) (h : Heap) (K : PySem.W.Frag) : Prop extends SaysL fa fn h K where
  dic : He.dicW K (He.ga K "PARTS") = some (He.keysIn w.params (tab.map (·.1)))
  row : rowsI K (He.ga K "PARTS") = some (tab.map some)
def hookP (n : Nat) (fa : List He.Fa) (fn : List He.FnD) (tab : Tab) : PySem.W.Hook where
  α := AlP
  obs := fun s => obsP n fa fn s.heap.get?
  val := fun w => valP fn tab w
  says := fun w h => ∃ K : PySem.W.Frag, SaysP fa fn tab w h K
  of := fun _ _ e => ⟨_, ⟨fun _ _ q => (noL_at q).1, fun _ _ q => (noL_at q).2, congrArg (fun z : AlP => z.1) e⟩, congrArg (fun z : AlP => z.2.1) e, congrArg (fun z : AlP => z.2.2) e⟩
  keeps := fun _ _ _ ⟨K, c⟩ k => ⟨K, { c with kin := PySem.W.Frag.In.keeps c.kin k }⟩
theorem obsP_eq {n : Nat} {fa : List He.Fa} {fn : List He.FnD} {tab : Tab} {g : Addr → Option Obj} {s : Shared} (h : ∀ a, g a = s.heap.get? a) : obsP n fa fn g = (hookP n fa fn tab).obs s := by
  have e : g = s.heap.get? := funext h
  subst e
  rfl
theorem tb_of {fa : List He.Fa} {fn : List He.FnD} {tab : Tab} {w : World} {h : Heap} {K : PySem.W.Frag} {mg : Str → Option Value} (c : SaysP fa fn tab w h K) (g : mg "PARTS" = some (.ref (He.ga K "PARTS"))) : Tb w K mg tab :=
  ⟨He.dicW_ok c.dic, g, tb_v c.row⟩
theorem law_endP {l : PySem.W.OpenLaw} {n k N : Nat} {q : Program} {loose : List Str} {XP : (Str → Option Value) → Heap → Prop} {fa : List He.Fa} {fn : List He.FnD} {tab : Tab} {d : DefRec} {x : Str} {g : List D → R D}
    (hn : l.most = some n) (hn2 : n ≤ sizeLine) (hdf : d.params.defaults = []) (hdn : d.name = "law") (hr : Room k callerA)
    (F : ∀ (w : World) (K : PySem.W.Frag) (mg : Str → Option Value) (h : Heap), SaysP fa fn tab w h K → h.Ns mainGlobals mg → mg "law" = some (.ref (He.ga K "law")) ∧
      (∀ (s : Shared) (u : Value), BindsTo s (fdOf K (He.ga K "law")) ⟨[u], []⟩ [(x, u)]) ∧ ∀ base : Heap, OkD l.prog w K mg base k "law" [x] g)
    (law : ∀ ns : List Int, ns.length ≤ n → g [.scr ns] = .ok (.bl true)) :
    PySem.W.WalkO q loose XP (hookP N fa fn tab).says l.row.toRowW d [] (fun f vs => PySem.call f vs) := by
  refine L2.walk_ofE (CX := CXU) (x := x) hn hn2 hdf hr ?_ (fun H s e s' => ?_)
  · rintro w mg a0 h ⟨K, c⟩ G hmg
    obtain ⟨g1, g2, g3⟩ := F w K mg h c G
    rw [hdn, g1] at hmg
    cases hmg
    refine ⟨K, _, _, c.kin, g2, fun H a ns hl hO hS => ?_, fun base _ _ => ok_cxu (g3 base)⟩
    rcases hS with (hS | ⟨o, hS⟩) | ⟨o, its, m, hk, hc, _⟩
    · rcases hO a with z | ⟨o, xs, z⟩ <;> rw [hS] at z <;> cases z
    · refine ⟨rfl, H, [.scr ns], Sm.rfl, Reps.one (by simp only [Rep]; exact ⟨a, o, rfl, hS⟩), ?_⟩
      rw [law ns hl]
      intro v H' F' _ r
      simpa only [Rep] using r
    · have z := c.no _ _ hk
      unfold isL at z
      rw [hc] at z
      simp at z
  · rintro ⟨P, w, _, _, _, _, _, _, _, _, _, _, _, _, z⟩
    exact z
theorem exf_of {K : PySem.W.Frag} {h : Heap} {mg : Str → Option Value} {x : Str} (X : K.In h) (G : h.Ns mainGlobals mg) (c1 : (He.Fa.glo x).ok K = true) (c2 : (He.Fa.exc x).ok K = true) : ExF K mg x :=
  ⟨(He.exc_ok c2).1, (He.exc_ok c2).2.1, (He.exc_ok c2).2.2.1, (He.exc_ok c2).2.2.2, He.glo_ok X G c1⟩
/-! ### a method's facts -/
theorem fun_of {K : PySem.W.Frag} {x q : Str} {a : Addr} {st : Stmt} {ps : List Str}
    (h : ∃ oc od osl kV doc pm an cdv ct, K.lookup a = some ⟨oc, od, .func (PySem.W.fnOf x q (defArgs st) (defBody st) (defScope st) .none kV doc pm an cdv ct), osl⟩ ∧ PySem.W.codeIn K cdv q = true) (k : PySem.W.keepIn K (.ref a) = true)
    (hb : ∀ (kV doc pm : Value) (an : Option Addr) (cdv ct : Value) (us : List Value), us.length = ps.length → bindArgs (PySem.W.fnOf x q (defArgs st) (defBody st) (defScope st) .none kV doc pm an cdv ct) ⟨us, []⟩ = pure (ps.zip us)) :
    Fun K x q st a (fdOf K a) ∧ Binds K (fdOf K a) ps [] := by
  obtain ⟨oc, od, osl, kV, doc, pm, an, cdv, ct, l, c⟩ := h
  have F := fun_mk (st := st) l c k
  have e := fdOf_eq l
  exact ⟨by rw [e]; exact F, by rw [e]; exact F.binds hb⟩
/-- a bound of a loop that counts a slot down -/
def fuelI (i : Nat) (ρ : Ev) : Nat := match ρ[i]? with
  | some (.sh (.int n)) => n.toNat + 1
  | _ => 0
end TB
/-! list(reversed(x)), x a list: a new list -/
namespace TB
open PySem PySem.Spec PyProof.Rows L2 RT
open Sem (wp)

section
variable {prog : Program} {w : World} {A : Around} {E : Value → Shared → Prop} {s : Shared}
theorem extend_rev {R : Result → Shared → Prop} (hh : A.handled = none) {it l : Addr} {items : Array Value} (hit : s.heap.IsRevIter it l ((items.size : Int) - 1)) (hl : s.heap.IsList l items) (hne : l ≠ it) (hn : items.size ≤ sizeLine)
    (S : Addr) (res : Value) (c₀ : Nat) (hSi : S ≠ it) (hSl : S ≠ l) (hS : s.heap.get? S = some { cls := .type "list", data := .seq #[] c₀ })
    (hR : ∀ h' tk acc' c', (∀ b o, b ≠ S → b ≠ it → s.heap.get? b = some o → h'.get? b = some o) → h'.get? S = some { cls := .type "list", dict := none, data := .seq acc' c', slots := #[] } →
      ItemsOf (fun i v => items[items.size - 1 - i]? = some v) acc' items.size → R (.ok (.ret res)) { s with heap := h', toks := tk }) :
    wpAny (model prog w) A.in1 (Builtin.List.listExtendWith (.ref S) (.ref it) res)
      (fun fin s' => match fin with | .done f => R (.ok f) s' | .again c' => c'.quiet = true ∧ codeAny (model prog w) A c' R s') (fun e s' => R (.error e) s') s := by
  have W := (Walks.listRev (prog := prog) (w := w) (A := A.in1) hh it l hne items).toS
  have hSf : S ∉ [it, l] := by simp only [List.mem_cons, List.not_mem_nil, or_false, not_or]; exact ⟨hSi, hSl⟩
  have hT : s.TypeIs (.ref it) "list_reverseiterator" := hit.typeIs
  have h1 : Builtin.List.listSameRef (.ref S) (.ref it) = false := by simp [Builtin.List.listSameRef, hSi]
  unfold Builtin.List.listExtendWith
  refine wpAny_bind (wpAny_typeOf hT ?_)
  rw [if_neg (by rw [h1]; decide)]
  refine wpAny_bind (wpAny_pyIter_revIter hit ?_)
  refine wpAny_bind (wpAny_holding ?_)
  unfold Builtin.List.listLengthHint
  refine wpAny_bind (wpAny_specialOf hT nolen_lri ?_)
  show wpAny _ A.in1 (specialOf (Value.ref it) (Str.ofString "__length_hint__") >>= _) _ _ _
  refine wpAny_bind (wpAny_specialOf hT hint_lri ?_)
  generalize hid : ("list_reverseiterator.__length_hint__" : String) = id0
  wp_delta
  rw [show splitId id0 = some ("list_reverseiterator", "__length_hint__") from by subst hid; decide +kernel]
  subst hid
  refine wpAny_bind (wpAny_isInstance (b := true) hT (by rw [isSubtype_type]; kernel_rfl) ?_)
  refine wpAny_pure ?_
  rw [if_neg (by decide)]
  have e0 : ((items.size : Nat) : Int) - 1 - ((0 : Nat) : Int) = (items.size : Int) - 1 := by omega
  refine wpAny_pure ⟨plainId_quiet F.plain_extend_loop _, codeAny_extend_loopS W hn _ hSf _ items.size 0 _ _ _ rfl (Nat.zero_le _) ⟨Nat.zero_le _, by rw [e0]; exact hit, hl⟩ hS (ItemsOf.nil _) fun s' acc' c' hm hS' hacc => ?_⟩
  rw [Moved.eq_with hm]
  refine hR s'.heap s'.toks acc' c' (fun b o hb hi e => hm.heap b o (fun hmem => ?_) e) hS' hacc
  rcases List.mem_cons.mp hmem with e' | hmem
  · exact hb e'
  · exact hi (List.mem_singleton.mp hmem)
theorem call_list_rev {it l : Addr} {items : Array Value} {Q : Value → Shared → Prop} (hh : A.handled = none) (hit : s.heap.IsRevIter it l ((items.size : Int) - 1)) (hl : s.heap.IsList l items) (hne : l ≠ it) (hn : items.size ≤ sizeLine)
    (hQ : ∀ h' tk acc' c', (∀ b o, b ≠ it → s.heap.get? b = some o → h'.get? b = some o) →
      h'.get? s.heap.objs.size = some { cls := .type "list", dict := none, data := .seq acc' c', slots := #[] } → ItemsOf (fun i v => items[items.size - 1 - i]? = some v) acc' items.size → Q (.ref s.heap.objs.size) { s with heap := h', toks := tk }) :
    wpAny (model prog w) A (call (.type "list") [.ref it]) Q E s := by
  obtain ⟨oi, hoi, _⟩ := id hit
  obtain ⟨ol, hol, _⟩ := id hl
  have hSi : s.heap.objs.size ≠ it := Nat.ne_of_gt (Heap.lt_size hoi)
  have hSl : s.heap.objs.size ≠ l := Nat.ne_of_gt (Heap.lt_size hol)
  refine callType_codes (Q₁ := fun obj s₁ => obj = .ref s.heap.objs.size ∧ s₁ = { s with heap := s.heap.push { cls := .type "list", data := .seq #[] } }) F.called_list (F.typeCall_list_1 _) F.entry_list_init
    (code_list_new _ ⟨rfl, rfl⟩) fun obj s₁ h₁ => ?_
  obtain ⟨rfl, rfl⟩ := h₁
  have hS : (s.heap.push { cls := .type "list", data := .seq #[] }).get? s.heap.objs.size = some { cls := .type "list", data := .seq #[] } := Heap.get?_push_size _ rfl
  refine ⟨⟨_, hS, rfl⟩, F.args_list_init_2 _ _, ?_⟩
  show wpAny _ _ (do let old ← Builtin.List.listItems (.ref s.heap.objs.size); Builtin.List.listUpdate (.ref s.heap.objs.size) (fun _ => #[]); letGo old.toList.reverse; Builtin.List.listExtendWith (.ref s.heap.objs.size) (.ref it) .none) _ _ _
  refine wpAny_bind ?_
  unfold Builtin.List.listItems
  refine wpAny_bind (wpAny_seqItems hS rfl (wpAny_pure ?_))
  show wpAny _ _ (updateSeq s.heap.objs.size (fun _ => #[]) >>= fun _ => letGo (#[] : Array Value).toList.reverse >>= fun _ => Builtin.List.listExtendWith (.ref s.heap.objs.size) (.ref it) .none) _ _ _
  refine wpAny_bind (wpAny_updateSeq hS rfl ?_)
  have hS₂ := Heap.get?_update_self (Obj.mapSeq (fun _ => (#[] : Array Value))) hS rfl
  have oth : ∀ b o, b ≠ s.heap.objs.size → s.heap.get? b = some o → ((s.heap.push { cls := .type "list", data := .seq #[] }).update s.heap.objs.size (Obj.mapSeq (fun _ => (#[] : Array Value)))).get? b = some o :=
    fun b o hb e => (Heap.get?_update_other _ _ (Ne.symm hb)).trans (Heap.get?_push_of_some _ e)
  refine wpAny_bind (wpAny_letGo ?_)
  refine extend_rev (A := A.in1) (show A.in1.handled = none from hh) (s := { s with heap := (s.heap.push { cls := .type "list", data := .seq #[] }).update s.heap.objs.size (Obj.mapSeq (fun _ => (#[] : Array Value))) }) (it := it) (l := l) (items := items) ?_ ?_ hne hn s.heap.objs.size .none _ hSi hSl hS₂ fun h' tk acc' c' hk hS' hacc => ?_
  · exact hit.at fun o e => oth it o (Ne.symm hSi) e
  · obtain ⟨o, ho, r⟩ := hl
    exact ⟨o, oth l o (Ne.symm hSl) ho, r⟩
  · exact ⟨rfl, hQ h' tk acc' c' (fun b o hb e => hk b o (Nat.ne_of_lt (Heap.lt_size e)) hb (oth b o (Nat.ne_of_lt (Heap.lt_size e)) e)) hS' hacc⟩
end
def tListRev (K : PySem.W.Frag) (te : TE) : TE := fun σ H Q => te σ H fun v H1 => ∃ (a : Addr) (xs : List V), v = .ref a ∧ SqL K H1 a xs ∧ ∀ q, H1 q = none → Q (.ref q) (upd H1 q (.lst xs.reverse))
section
variable {X : Cx}
theorem pe_listRev {e : Expr} {te : TE} {p p2 pos pos2 : Pos} (hc : X.calm = true) (hg : Gl X "list") (hm : X.mg "list" = none) (hg2 : Gl X "reversed") (hm2 : X.mg "reversed" = none) (he : PE X e te)
    (hs : starEach [e] X.env = (false, eval e X.env) :: starEach [] X.env := by rfl)
    (hs2 : starEach [.Call (.Name "reversed" p2) [e] [] pos2] X.env = (false, eval (.Call (.Name "reversed" p2) [e] [] pos2) X.env) :: starEach [] X.env := by rfl) :
    PE X (.Call (.Name "list" p) [.Call (.Name "reversed" p2) [e] [] pos2] [] pos) (tListRev X.K te) := by
  refine ⟨fun pins s σ H Q I h => ?_⟩
  refine Call_ (ld_blt I hg hm boot_list (PyProof.Rows.callWith_type1 (args_cons (Call_ (ld_blt I hg2 hm2 PyProof.Rows.boot_reversed (PyProof.Rows.callWith_type1 (args_cons (thn (he.run pins s σ H _ I h) fun u s1 ⟨v, H1, I1, r1, q1⟩ => args_nil ?_) hs) hs rfl))) hs2) hs2 rfl))
  obtain ⟨a, xs, ev, hq, q⟩ := q1
  subst ev
  obtain rfl : u = Value.ref a := r1
  obtain ⟨its, rv, p', hz⟩ := I1.list hq
  refine call_reversed_list p'.isList (args_nil ?_)
  have k0 : ∀ b o, s1.heap.get? b = some o → (s1.heap.push (revObj a ((its.toArray.size : Int) - 1))).get? b = some o := fun b o e => Heap.get?_push_of_some _ e
  have I2 : Inv X pins σ H1 { s1 with heap := s1.heap.push (revObj a ((its.toArray.size : Int) - 1)) } := I1.kept (t' := s1.toks) k0
  obtain ⟨f0, f1, f2, f3, f4, f5⟩ := I1.fpOk (H' := H1) (b := s1.heap.objs.size) (Nat.le_refl _) (I1.hok.fresh (Nat.le_refl _))
  have hl := p'.isList
  obtain ⟨ol, hol, _⟩ := id hl
  have hne : a ≠ s1.heap.objs.size := Nat.ne_of_lt (Heap.lt_size hol)
  have hn : its.toArray.size ≤ sizeLine := by rw [List.size_toArray, ← rv.length]; exact hz
  refine call_list_rev (s := { s1 with heap := s1.heap.push (revObj a ((its.toArray.size : Int) - 1)) }) (I1.ok.hd hc) ⟨_, Heap.get?_push_size _ rfl, rfl, rfl⟩ (hl.push _) hne hn fun h' tk acc c' hk hS hi => ?_
  have fp := I1.fpOk (H' := H1) (b := s1.heap.objs.size) (Nat.le_refl _) (I1.hok.fresh (Nat.le_refl _))
  have I3 := I2.turnedNew (h' := h') (t' := tk) (ch := [s1.heap.objs.size]) (T := (s1.heap.push (revObj a ((its.toArray.size : Int) - 1))).objs.size) (ob := .lst xs.reverse) (fun b o hb e => hk b o (fun z => hb (by simp [z])) e) (fun b hb => by
    rw [List.mem_singleton.mp hb]
    exact fp) (Nat.le_refl _) (show ObjOk X.prog X.w _ h' _ (.lst xs.reverse) from ⟨by rw [List.length_reverse]; exact hz, acc.toList, c', vals_rev rv hi, by rw [Array.toArray_toList]; exact hS⟩)
  exact ⟨.ref (s1.heap.push (revObj a ((its.toArray.size : Int) - 1))).objs.size, _, I3, rfl, q _ (I2.hok.fresh (Nat.le_refl _))⟩
end
def dListRev : List D → R (List D)
  | [.lst ds] => .ok ds.reverse
  | _ => .bad
section
variable {X : Cx} {W : WX} {C : Addr} {e : Expr} {f : Ev → R D} {p p2 pos pos2 : Pos}
theorem l_listRev (hc : X.calm = true) (hg : Gl X "list") (hm : X.mg "list" = none) (hg2 : Gl X "reversed") (hm2 : X.mg "reversed" = none) (he : PE X e (tD mg C W f))
    (hs : starEach [e] X.env = (false, eval e X.env) :: starEach [] X.env := by rfl)
    (hs2 : starEach [.Call (.Name "reversed" p2) [e] [] pos2] X.env = (false, eval (.Call (.Name "reversed" p2) [e] [] pos2) X.env) :: starEach [] X.env := by rfl) :
    PE X (.Call (.Name "list" p) [.Call (.Name "reversed" p2) [e] [] pos2] [] pos) (tL mg C W (E.appL dListRev (E.cons f E.nil))) := by
  refine PE.to (pe_listRev hc hg hm hg2 hm2 he hs hs2) fun σ H Q x => ?_
  obtain ⟨F, ρ, s, ok, q⟩ := x
  refine ⟨F, ρ, s, ok, ?_⟩
  have e0 : E.appL dListRev (E.cons f E.nil) ρ = (f ρ).bind fun d => dListRev [d] := by
    show R.bind (R.bind (f ρ) fun a => R.bind (.ok []) fun b => .ok (a :: b)) dListRev = _
    cases f ρ <;> rfl
  rw [e0] at q
  cases e1 : f ρ with
  | bad => rw [e1] at q; exact q
  | exc c => rw [e1] at q; exact q
  | ok d =>
    rw [e1] at q
    intro v H1 F1 n1 r1
    cases d with
    | lst ds =>
      have q : ∀ p xs H' F', Nx F H F' H' → H p = none → F' p = none → H' p = some (.lst xs) → Reps C F' ds.reverse xs → Q (.ref p) H' := q
      simp only [Rep] at r1
      obtain ⟨a, xs, rfl, h1, z⟩ := r1
      refine ⟨a, xs, rfl, SqL.of (n1.fh _ _ h1), fun l nl => ?_⟩
      exact q l xs.reverse (upd H1 l (.lst xs.reverse)) F1 (n1.tr (.hid n1.fh nl)) (n1.hh.non nl) (n1.fh.non nl) upd_same z.rev
    | _ => exact q.elim
end
/-- where nothing is promised -/
theorem pss_bad {X : Cx} {mg : Str → Option Value} {C : Addr} {W : WX} {b : List Stmt} : PSs X b (tS mg C W fun _ => .bad) := ⟨fun pins s σ H D I q => by
  obtain ⟨B, Fc, F, ρ, _, q⟩ := q
  exact q.elim⟩
end TB
/-! try .. except X as e; what is asked of the caught exception; defs called in the suite -/
namespace TB
open PySem PySem.Spec PyProof.Rows L2

section
open Classical
/-- the answer, where it is one for all addresses -/
noncomputable def indep (f : Addr → Out) : Out := if h : ∃ d, ∀ a, f a = .rt d then .rt (Classical.choose h) else .bad
theorem indep_eq {f : Addr → Out} {d : D} (h : ∀ a, f a = .rt d) : indep f = .rt d := by
  have e : ∃ d, ∀ a, f a = .rt d := ⟨d, h⟩
  have z := Classical.choose_spec e
  unfold indep
  rw [dif_pos e]
  have q := z 0
  rw [h 0] at q
  cases q
  rfl
theorem indep_at {f : Addr → Out} (h : indep f ≠ .bad) (a : Addr) : ∃ d, f a = .rt d ∧ indep f = .rt d := by
  unfold indep at h ⊢
  split at h
  · rename_i e
    have z := Classical.choose_spec e
    rw [dif_pos e]
    exact ⟨_, z a, rfl⟩
  · exact absurd rfl h
end
namespace S
/-- try: u; except X as slot i: hnd; cat tells which classes stand under X. The suite answers. -/
noncomputable def tryAs (cat : Str → Option Bool) (i : Nat) (u : Ev → Out) (hnd : Addr → Str → Ev → Out) : Ev → Out := fun ρ => match u ρ with
  | .ex c ρ' => match cat c with
    | some true => indep fun a => hnd a c (ρ'.set i (.sh (.exn a c)))
    | some false => .ex c ρ'
    | none => .bad
  | o => o
end S
section
variable {X : Cx} {mg : Str → Option Value} {C : Addr} {W : WX} {pos : Pos} {u : Ev → Out} {hnd : Addr → Str → Ev → Out}
theorem s_tryAs {cat : Str → Option Bool} {i : Nat} {x n : Str} {xa : Addr} {body suite : List Stmt} {b₀ : Stmt} {np pos' : Pos}
    (hs : X.stack = X.env :: X.outer) (hf : X.env.frame = some X.env.locals) (hN : X.N.Nodup) (hi : X.N[i]? = some n) (hln : X.env.kindOf n = some .local) (hc : Names X x (.ref xa)) (tk : Takes X W)
    (hcat : ∀ c b, cat c = some b → ∃ ca, mg c = some (.ref ca) ∧ PySem.W.exmOne X.K (.ref ca) (.ref xa) = some b)
    (hb : ∀ (W : WX) (pn : List (Addr × Obj)) (xe : Value → Shared → Prop), Takes (X.tr pn xe) W → PSs (X.tr pn xe) body (tS mg C W u))
    (hsu : ∀ (a : Addr) (oe : Obj) (c : Str) (ca : Addr) (pn : List (Addr × Obj)), mg c = some (.ref ca) → cat c = some true → Zc (.ref ca) none oe → (∃ vs, oe.data = .fields vs) → ∀ W : WX, PSs (X.suite a ((a, oe) :: pn)) (b₀ :: suite) (tS mg C W (hnd a c))) :
    PS X (.Try body [.ExceptHandler (some (.Name x np)) (some n) (b₀ :: suite) pos'] [] [] pos) (tS mg C W (S.tryAs cat i u hnd)) := by
  refine PS.to (ps_try_as hs hf hN hi hln hc tk (tb := fun W' => tS mg C W' u)
    (ts := fun a cls d D σ H => ∃ c ca, cls = .ref ca ∧ d = none ∧ mg c = some (.ref ca) ∧ cat c = some true ∧ tS mg C W (hnd a c) D σ H)
    (fun W' pn xe tk' _ => hb W' pn xe tk') (fun a oe cls d pn hz hfl => ⟨fun pins s σ H D I q => ?_⟩)) fun Dn σ H q => ?_
  · obtain ⟨c, ca, rfl, rfl, e1, e2, q⟩ := q
    exact (hsu a oe c ca pn e1 e2 hz hfl W).run pins s σ H D I q
  · obtain ⟨B, Fc, F, ρ, S0, q⟩ := q
    refine ⟨B, Fc, F, ρ, S0, ?_⟩
    unfold S.tryAs at q
    cases e1 : u ρ with
    | nx ρ' => rw [e1] at q; exact q
    | rt d => rw [e1] at q; exact q
    | ro d => rw [e1] at q; exact q
    | bad => rw [e1] at q; exact q
    | ex c ρ' =>
      rw [e1] at q
      dsimp only at q
      intro ca hca σ' H' F' S'
      cases e2 : cat c with
      | none => rw [e2] at q; exact q.elim
      | some b =>
        obtain ⟨ca', g1, g2⟩ := hcat c b e2
        rw [hca] at g1
        cases g1
        rw [e2] at q
        refine ⟨b, g2, ?_, ?_⟩
        · rintro rfl a ha
          dsimp only at q
          have nb : indep (fun a => hnd a c (ρ'.set i (.sh (.exn a c)))) ≠ .bad := fun z => by rw [z] at q; exact q.elim
          obtain ⟨d, k1, k2⟩ := indep_at nb a
          rw [k2] at q
          refine ⟨c, ca, rfl, rfl, hca, e2, B, Fc, F', _, S'.set (i := i) (d := .exn a c) (v := .ref a) (by simp only [Rep]), ?_⟩
          rw [k1]
          exact q
        · rintro rfl
          exact q ca hca σ' H' F' S'
end

/-! ### the classes -/
abbrev errL : List Str := ["BadKinds", "BadName", "Twice", "BadPrice", "BadBasket", "TooMany", "BadOffer", "NoKind", "NoOffer"]
def isN (c y : Str) : Bool := c == y || y == "TillError"
/-- what is known of the class c -/
structure Exn (K : PySem.W.Frag) (mg : Str → Option Value) (ys : List Str) (c : Str) : Prop where
  g : mg c = some (.ref (He.ga K c))
  ec : ExcC K (He.ga K c)
  is : ∀ y ∈ ys, PySem.W.kitOne K (.ref (He.ga K c)) (.ref (He.ga K y)) = some (isN c y)
  ve : PySem.W.kitOne K (.ref (He.ga K c)) (.type "ValueError") = some true
  em : PySem.W.exmOne K (.ref (He.ga K c)) (.ref (He.ga K "TillError")) = some true
def oB (o : Option Bool) (b : Bool) : Bool := decide (o = some b)
def excB (ys : List Str) (c : Str) (K : PySem.W.Frag) : Bool :=
  He.eqO (PySem.W.findIn K (.ref (He.ga K c)) "__getattribute__") (some (some (.builtin "BaseException.__getattribute__"))) && (He.eqO (PySem.W.findIn K (.ref (He.ga K c)) "__getattr__") (some none) &&
  (oB (PySem.W.subIn K (.ref (He.ga K c)) (.type "BaseException")) true && (PySem.W.hasDictIn K (He.ga K c) && (He.eqO (PySem.W.findIn K (.ref (He.ga K c)) "__class__") (some (some (.builtin "object.__class__"))) &&
  (He.eqO (PySem.W.specialIn K (.builtin "object.__class__") "__get__") (some (some (.builtin "getset_descriptor.__get__"))) && (oB (PySem.W.takesIn K (.builtin "object.__class__")) true && (oB (PySem.W.mroIn K (He.ga K c) (.type "object")) true &&
  (ys.all (fun y => oB (PySem.W.kitOne K (.ref (He.ga K c)) (.ref (He.ga K y))) (isN c y)) && (oB (PySem.W.kitOne K (.ref (He.ga K c)) (.type "ValueError")) true &&
  oB (PySem.W.exmOne K (.ref (He.ga K c)) (.ref (He.ga K "TillError"))) true)))))))))
theorem oB_ok {o : Option Bool} {b : Bool} (h : oB o b = true) : o = some b := of_decide_eq_true h
theorem exn_of {K : PySem.W.Frag} {mg : Str → Option Value} {ys : List Str} {c : Str} (g : mg c = some (.ref (He.ga K c))) (h : excB ys c K = true) : Exn K mg ys c := by
  unfold excB at h
  simp only [Bool.and_eq_true] at h
  obtain ⟨h1, h2, h3, h4, h5, h6, h7, h8, h9, h10, h11⟩ := h
  exact ⟨g, ⟨He.eqO_ok h1, He.eqO_ok h2, oB_ok h3, h4, He.eqO_ok h5, He.eqO_ok h6, oB_ok h7, oB_ok h8⟩, fun y hy => oB_ok (List.all_eq_true.mp h9 y hy), oB_ok h10, oB_ok h11⟩

/-! ### what stands pinned: an exception of the class c -/
structure PinX (K : PySem.W.Frag) (c : Str) (p : Addr × Obj) : Prop where
  cl : Zc (.ref (He.ga K c)) none p.2
  fl : ∃ vs, p.2.data = .fields vs
  mem : c ∈ errL
/-- isinstance(e, c), e pinned -/
theorem call_isX {X : Cx} {p : Addr × Obj} {D : Addr} (hp : p ∈ X.pn) (C : ExcC X.K D) (hz : Zc (.ref D) none p.2) (hf : ∃ vs, p.2.data = .fields vs) : CallR X (.builtin "isinstance") (rIsE X.K D p.1) := by
  intro pins s σ H xs us Q I r h
  obtain ⟨c, cv, b, rfl, hcv, e, q⟩ := h
  cases r with
  | cons rx rr =>
    cases rr with
    | cons rt rr =>
      cases rr
      cases rx
      have ec := hcv _ rt
      subst ec
      obtain ⟨hget, _⟩ := I.pin p (List.mem_append_left _ hp)
      obtain ⟨vs, hv⟩ := hf
      obtain ⟨a, oe⟩ := p
      have J : PySem.W.InstAt s.heap a oe D none := by
        obtain ⟨oc, od, oda, osl⟩ := oe
        obtain ⟨h1, h2⟩ := hz
        dsimp only at h1 h2 hv
        subst h1 h2 hv
        exact ⟨hget, rfl, rfl, trivial⟩
      exact PySem.W.kia_one (PySem.W.handS_kitx_exc C.hg C.hk C.hs C.hd C.ha C.hn C.ht C.hm) I.kIn J e (fun z => nomatch z) fun tk => ⟨.bl b, H, I.kept (t' := tk) fun _ _ z => z, rfl, q⟩
def dIsX (a : Addr) (c : Str) (b : Bool) : D → R D
  | .exn a' c' => if a' = a ∧ c' = c then .ok (.bl b) else .bad
  | _ => .bad
theorem isX_calm {a : Addr} {c : Str} {b : Bool} : Calm1 (dIsX a c b) := fun x c => by cases x <;> simp only [dIsX] <;> (try split) <;> exact fun e => nomatch e
section
variable {X : Cx} {mg : Str → Option Value} {C : Addr} {W : WX} {e a : Expr} {pos : Pos} {f : Ev → R D} {es : List Expr} {fs : Ev → R (List D)} {p : Addr × Obj} {c : Str} {ys : List Str}
theorem d_isX {y : Str} {p1 p2 : Pos} (E0 : Exn X.K mg ys c) (hp : p ∈ X.pn) (px : PinX X.K c p) (hy : y ∈ ys) (gy : X.mg y = some (.ref (He.ga X.K y))) (hg : Gl X "isinstance") (hm : X.mg "isinstance" = none) (ht : Gl X y) (ha : PE X a (tD mg C W f))
    (he : starEach [a, .Name y p2] X.env = (false, eval a X.env) :: starEach [.Name y p2] X.env := by rfl) (he2 : starEach [.Name y p2] X.env = [(false, eval (.Name y p2) X.env)] := by rfl) (hpl : (backTo pos (starEach [.Name y p2] X.env)).any (·.1) = false := by rfl)
    (hd : (y == ("__debug__" : Str)) = false := by decide) :
    PE X (.Call (.Name "isinstance" p1) [a, .Name y p2] [] pos) (tD mg C W (E.un (dIsX p.1 c (isN c y)) f)) := by
  have h2 : PE X (.Name y p2) (tC (.ref (He.ga X.K y))) := pe_glob (v := .ref (He.ga X.K y)) ht gy rfl (hd := hd)
  refine PE.to (pe_callB (call_isX hp E0.ec px.cl px.fl) hg hm boot_isinstance (pa_cons ha (pa_cons h2 pa_nil he2) he) (by decide) (by decide) he hpl) fun σ H Q x => ?_
  refine seq1 (C := C) (g := dIsX p.1 c (isN c y)) (r := fun x H Q => rIsE X.K (He.ga X.K c) p.1 [x, .ref (He.ga X.K y)] H Q) (fun d F H v Q s r => ?_) isX_calm x
  cases d <;> simp only [dIsX] <;> try trivial
  split
  · rename_i hl
    split at hl
    · rename_i hq
      cases hl
      intro q
      simp only [Rep] at r
      rw [r, hq.1]
      exact ⟨.ref (He.ga X.K y), .ref (He.ga X.K y), isN c y, rfl, fun u h => h, E0.is y hy, q _ H F (.rfl s) (by simp only [Rep])⟩
    · cases hl
  · trivial
theorem d_isXv {p1 p2 : Pos} (E0 : Exn X.K mg ys c) (hp : p ∈ X.pn) (px : PinX X.K c p) (hg : Gl X "isinstance") (hm : X.mg "isinstance" = none) (ht : Gl X "ValueError") (hmt : X.mg "ValueError" = none) (ha : PE X a (tD mg C W f))
    (he : starEach [a, .Name "ValueError" p2] X.env = (false, eval a X.env) :: starEach [.Name "ValueError" p2] X.env := by rfl) (he2 : starEach [.Name "ValueError" p2] X.env = [(false, eval (.Name "ValueError" p2) X.env)] := by rfl) (hpl : (backTo pos (starEach [.Name "ValueError" p2] X.env)).any (·.1) = false := by rfl) :
    PE X (.Call (.Name "isinstance" p1) [a, .Name "ValueError" p2] [] pos) (tD mg C W (E.un (dIsX p.1 c true) f)) := by
  have h2 : PE X (.Name "ValueError" p2) (tC (.ty "ValueError")) := pe_bltn ht hmt rfl (show L2.RelV (.ty "ValueError") (.type "ValueError") from rfl) (by decide) (by decide)
  refine PE.to (pe_callB (call_isX hp E0.ec px.cl px.fl) hg hm boot_isinstance (pa_cons ha (pa_cons h2 pa_nil he2) he) (by decide) (by decide) he hpl) fun σ H Q x => ?_
  refine seq1 (C := C) (g := dIsX p.1 c true) (r := fun x H Q => rIsE X.K (He.ga X.K c) p.1 [x, .ty "ValueError"] H Q) (fun d F H v Q s r => ?_) isX_calm x
  cases d <;> simp only [dIsX] <;> try trivial
  split
  · rename_i hl
    split at hl
    · rename_i hq
      cases hl
      intro q
      simp only [Rep] at r
      rw [r, hq.1]
      exact ⟨.ty "ValueError", .type "ValueError", true, rfl, fun u h => h, E0.ve, q _ H F (.rfl s) (by simp only [Rep])⟩
    · cases hl
  · trivial
end

/-! ### defs called in the suite -/
def SpC (C : Addr) (n : Nat) (g : List D → R D) (vs : List V) (H : Hp) (Q : VK) : Prop := vs.length = n ∧ ∃ F ds, Sm F H ∧ Reps C F ds vs ∧ match g ds with
  | .ok d => ∀ v H' F', Nx F H F' H' → Rep C F' d v → Q v H'
  | _ => False
structure FnX (P : Program) (w : World) (K : PySem.W.Frag) (mg : Str → Option Value) (base : Heap) (k : Nat) (x : Str) (ps : List Str) (g : Addr → Str → List D → R D) : Prop where
  run : ∀ (A : Around) (outer : List Env) (s : Shared) (H : Hp) (args : Args) (us : List Value) (vs : List V) (Q : VK) (p : Addr × Obj) (c : Str), L2H.RoomH k A → PinX K c p → L2H.PinOk outer H s p → Env0 P w K mg base A outer s H →
    BindsTo s (fdOf K (He.ga K x)) args (ps.zip us) → Vals vs us → SpC (shopC K) ps.length (g p.1 c) vs H Q → codeAny (model P w) A (.call (.ref (He.ga K x)) args) (CR (L2.CX P w) outer P w H s Q fun _ _ _ => False) s
section
variable {P : Program} {w : World} {K : PySem.W.Frag} {mg : Str → Option Value} {base : Heap}
abbrev cxX (P : Program) (w : World) (K : PySem.W.Frag) (mg : Str → Option Value) (base : Heap) (N : List Str) (x : Str) (st : Stmt) (cdv : Value) (A : Around) (outer : List Env) (s : Shared) (H : Hp) (p : Addr × Obj) : Cx :=
  L2H.cxH (L2.CX P w) P w K mg base N x (defScope st) (He.ga K x) cdv A outer s H (fun _ _ _ => False) p
theorem fnX {x : Str} {st : Stmt} {N ps : List Str} {k : Nat} {u : Addr → Str → Ev → Out} (D0 : Df K mg x st ps) (S : FnScope N ps (defScope st))
    (hbody : ∀ (cdv : Value) (A : Around) (outer : List Env) (s : Shared) (H : Hp) (p : Addr × Obj) (c : Str), PinX K c p → L2H.RoomH k (A.deeper (envOfC x (defScope st) s.heap.objs.size (He.ga K x) cdv)) → ∀ W : WX,
      PSs (cxX P w K mg base N x st cdv A outer s H p) (defBody st) (tS mg (shopC K) W (u p.1 c))) :
    FnX P w K mg base (k + 1) x ps fun a c ds => fin (u a c (start N.length ds)) := by
  obtain ⟨oc, od, kV, doc, pm, an, cdv, ct, osl, efd, lk, hcd⟩ := D0.F.ex
  refine ⟨fun A outer s H args us vs Q p c hr px hpin e0 hb r hsp => ?_⟩
  rw [efd] at hb lk
  have hl : vs.length = ps.length := hsp.1
  have KX : K.In s.heap := e0.mod.kin.keeps fun b o e => (e0.bs b o e).1
  have lim : s.heap.NoLimit := e0.mod.nolimit.keeps fun b o e => (e0.bs b o e).1
  have hkind : ∀ y ∈ ps.zip us, (defScope st).names.lookup y.1 = some .local ∨ ((defScope st).names.lookup y.1 = some .cell ∧ ((cellsFrom (s.heap.objs.size + 1) (defScope st).names []).lookup y.1).isSome = true) := fun ⟨n, v⟩ hy => by
    rcases S.par n (List.of_mem_zip hy).1 with q | q
    · exact .inl q
    · exact .inr ⟨q, PySem.W.cellsFrom_some _ _ _ (.inl q)⟩
  refine codeAny_call_function hr.depth (KX _ _ lk) rfl S.co S.gen rfl (PySem.W.codeRec_of KX hcd) (hb _ _ _ _ ?_)
  refine wpAny_newFunctionEnv_cells S.kind hkind fun env he s1 z => ?_
  subst he
  refine ⟨lim.keeps z.toInCall.keep, codeAny_func ?_⟩
  have ht := hbody cdv A outer s H p c px (hr.deeper _) fun _ _ _ _ => False
  have I : Inv (cxX P w K mg base N x st cdv A outer s H p) [] (L2.start N vs) H s1 := L2H.inv_startH S hpin e0 hl r z
  obtain ⟨_, F, ds, sm, rp, y⟩ := hsp
  have hq : tS mg (shopC K) (fun _ _ _ _ => False) (u p.1 c) { nx := fun _ H' => Q .non H', rt := Q } (L2.start N vs) H := by
    refine ⟨H, F, F, start N.length ds, start_so sm rp, ?_⟩
    dsimp only at y
    cases e1 : u p.1 c (start N.length ds) with
    | nx ρ =>
      rw [e1] at y
      exact fun σ' H' F' S' => y .non H' F' ⟨S'.cf, S'.bh, S'.fh, S'.new⟩ (by simp only [Rep])
    | rt d =>
      rw [e1] at y
      exact fun v H' F' a b c e r => y v H' F' ⟨b, a, c, e⟩ r
    | ro es =>
      rw [e1] at y
      intro q xs H' F' a b c e bp fp hl r
      refine y (.ref q) H' (upd F' q (.lst xs)) ⟨b.tr (Sm.upd fp), a, fun z o e' => ?_, fun z h => ?_⟩ ?_
      · by_cases hb : z = q
        · subst hb; rw [upd_same] at e'; cases e'; exact hl
        · rw [upd_ne hb] at e'; exact c _ _ e'
      · by_cases hb : z = q
        · subst hb; exact .inr bp
        · rw [upd_ne hb] at h; exact e z h
      · simp only [Rep]
        exact ⟨q, xs, rfl, upd_same, Reps.mono (Sm.upd fp) _ _ r⟩
    | ex c' ρ => rw [e1] at y; exact y.elim
    | bad => rw [e1] at y; exact y.elim
  refine wpAny_mono (ht.run [] s1 (L2.start N vs) H _ I hq) (fun fl s' hs => ?_) fun e s' hs => hs
  have fin' : ∀ {σ' : L2.St} {H' : Hp} {v : V} {u : Value}, Inv (cxX P w K mg base N x st cdv A outer s H p) [] σ' H' s' → RelV v u → Q v H' → CE outer P w H s Q u s' :=
    fun {σ' H' v u} J rv q => ⟨v, H', J.os, J.bare, J.base, J.hok, rv, q⟩
  cases fl with
  | ret u =>
    obtain ⟨v, σ', H', J, rv, q⟩ := hs
    exact fin' J rv q
  | next =>
    obtain ⟨σ', H', J, q⟩ := hs
    exact fin' (v := V.non) (u := Value.none) J rfl q
  | brk =>
    obtain ⟨_, _, _, q⟩ := hs
    exact False.elim q
  | cont =>
    obtain ⟨_, _, _, q⟩ := hs
    exact False.elim q
end
/-- no exception is promised -/
def calmR (g : List D → R D) : List D → R D := fun ds => match g ds with
  | .ok d => .ok d
  | _ => .bad
section
variable {X : Cx} {C : Addr} {W : WX} {e a : Expr} {pos : Pos} {f : Ev → R D} {es : List Expr} {fs : Ev → R (List D)} {p : Addr × Obj} {c : Str}
theorem d_defX {j k : Nat} {x : Str} {st : Stmt} {ps : List Str} {g : Addr → Str → List D → R D} {p1 : Pos} (Fn : FnX X.prog X.w X.K X.mg X.base j x ps g) (D0 : Df X.K X.mg x st ps) (hr : L2H.RoomH k X.A) (hjk : j ≤ k) (hp : p ∈ X.pn) (px : PinX X.K c p)
    (ha : PA X (e :: es) (tA X.mg (shopC X.K) W fs)) (hfl : ∀ ρ ds, fs ρ = .ok ds → ds.length = ps.length) (hg : Gl X x := by rfl) (hdb : (x == ("__debug__" : Str)) = false := by decide)
    (he : starEach (e :: es) X.env = (false, eval e X.env) :: starEach es X.env := by rfl) (hpl : (backTo pos (starEach es X.env)).any (·.1) = false := by rfl) :
    PE X (.Call (.Name x p1) (e :: es) [] pos) (tD X.mg (shopC X.K) W (E.app (calmR (g p.1 c)) fs)) := by
  refine ⟨fun pins s σ H Q I y => ?_⟩
  obtain ⟨F, ρ, sm, ok, y⟩ := y
  unfold E.app at y
  refine wpAny_Call_Name_kw (ld_glob I hg D0.g ?_ hdb)
  refine PySem.W.callWith_K (h₀ := X.base) I.ok.mod.kin D0.F.kp (thn (ha.run pos pins s σ H (fun vs H1 => SpC (shopC X.K) ps.length (g p.1 c) vs H1 Q) I ?_) fun us s1 ⟨vs, H1, I1, r, q⟩ => ⟨I1.kIn, ?_⟩) he hpl
  · refine ⟨F, ρ, sm, ok, ?_⟩
    cases e1 : fs ρ with
    | bad => rw [e1] at y; exact y
    | exc c => rw [e1] at y; exact y
    | ok ds =>
      rw [e1, R.bind_ok] at y
      intro vs H1 F1 n1 r1
      refine ⟨by rw [r1.len]; exact hfl _ _ e1, F1, ds, n1.fh, r1, ?_⟩
      unfold calmR at y
      cases e2 : g p.1 c ds with
      | bad => rw [e2] at y; exact y.elim
      | exc c => rw [e2] at y; exact y.elim
      | ok d' =>
        rw [e2] at y
        exact fun v H' F' n2 r2 => y v H' F' (n1.tr n2) r2
  · have hl : us.length = ps.length := by rw [← r.length]; exact q.1
    have b := D0.b s1 us I1.kIn (by rw [List.append_nil]; exact hl)
    rw [List.append_nil] at b
    have P1 := I1.pin p (List.mem_append_left _ hp)
    have hpin : L2H.PinOk X.stack H1 s1 p := ⟨P1.1, P1.2.1, fun hm => (List.mem_cons.mp (I1.stkSub p.1 hm)).elim P1.2.2.1 P1.2.2.2.1, P1.2.2.2.2⟩
    refine wpAny_call (codeAny_mono (Fn.run X.A X.stack s1 H1 ⟨us, []⟩ us vs Q p c (hr.mono hjk) px hpin I1.env0 b r q) fun r s' hq => ?_)
    cases r with
    | error e =>
      obtain ⟨_, _, _, _, _, _, _, _, _, _, _, _, hE⟩ := hq
      exact hE.elim
    | ok fl =>
      cases fl with
      | ret u => exact I1.after hq
      | next => exact False.elim hq
      | brk => exact False.elim hq
      | cont => exact False.elim hq
end
end TB
/-! try .. except TillError; text * int, list * int, {}; the head with the classes -/
namespace TB
open PySem PySem.Spec PyProof.Rows L2

abbrev ysL : List Str := ["BadKinds", "BadName", "Twice", "BadPrice", "BadBasket", "TooMany", "BadOffer", "NoKind", "NoOffer", "TillError"]
def catTill (c : Str) : Option Bool := if c ∈ errL then some true else none
theorem cat_till {K : PySem.W.Frag} {mg : Str → Option Value} {ys : List Str} (T : ∀ c ∈ errL, Exn K mg ys c) (c : Str) (b : Bool) (h : catTill c = some b) : ∃ ca, mg c = some (.ref ca) ∧ PySem.W.exmOne K (.ref ca) (.ref (He.ga K "TillError")) = some b := by
  unfold catTill at h
  split at h
  · rename_i hc
    cases h
    exact ⟨_, (T c hc).g, (T c hc).em⟩
  · cases h
theorem pin_of {K : PySem.W.Frag} {mg : Str → Option Value} {ys : List Str} {c : Str} {ca a : Addr} {oe : Obj} (T : ∀ c ∈ errL, Exn K mg ys c) (hm : mg c = some (.ref ca)) (hc : catTill c = some true) (hz : Zc (.ref ca) none oe) (hf : ∃ vs, oe.data = .fields vs) : PinX K c (a, oe) := by
  unfold catTill at hc
  split at hc
  · rename_i h
    have g := (T c h).g
    rw [hm] at g
    cases g
    exact ⟨hz, hf, h⟩
  · cases hc
theorem roomX {k : Nat} {A : Around} {v : Option Value} (r : Room k A) : L2H.RoomH k (A.mark v) := ⟨r.dp, r.un⟩
theorem _root_.L2H.RoomH.units {k : Nat} {A : Around} (r : L2H.RoomH k A) : A.units + 64 < cLine := by have := r.un; omega
theorem xs_of {K : PySem.W.Frag} {mg : Str → Option Value} {ys : List Str} (h : (errL.all fun c => excB ys c K) = true) (g1 : mg "BadKinds" = some (.ref (He.ga K "BadKinds"))) (g2 : mg "BadName" = some (.ref (He.ga K "BadName"))) (g3 : mg "Twice" = some (.ref (He.ga K "Twice")))
    (g4 : mg "BadPrice" = some (.ref (He.ga K "BadPrice"))) (g5 : mg "BadBasket" = some (.ref (He.ga K "BadBasket"))) (g6 : mg "TooMany" = some (.ref (He.ga K "TooMany"))) (g7 : mg "BadOffer" = some (.ref (He.ga K "BadOffer"))) (g8 : mg "NoKind" = some (.ref (He.ga K "NoKind"))) (g9 : mg "NoOffer" = some (.ref (He.ga K "NoOffer"))) :
    ∀ c ∈ errL, Exn K mg ys c := by
  intro c hc
  have q := List.all_eq_true.mp h c hc
  refine exn_of ?_ q
  simp only [errL, List.mem_cons, List.not_mem_nil, or_false] at hc
  rcases hc with rfl | rfl | rfl | rfl | rfl | rfl | rfl | rfl | rfl <;> assumption

/-! ### operators -/
def dMulS : D → D → R D
  | .str x, .int n => if n = 0 then .ok (.str Str.empty) else if n = 1 then .ok (.str x) else .bad
  | _, _ => .bad
def rMulS : R2 := fun x y H Q => ∃ z n, x = .str z ∧ y = .int n ∧ ((n = 0 ∧ Q (.str Str.empty) H) ∨ (n = 1 ∧ Q (.str z) H))
theorem op_mulS {X : Cx} : OpR X (binaryOp .Mult) rMulS := by
  intro pins s σ H x y v u Q I rx ry h
  obtain ⟨z, n, rfl, rfl, h⟩ := h
  obtain ⟨t, rfl⟩ := rx
  obtain ⟨t2, rfl⟩ := ry
  rcases h with ⟨rfl, q⟩ | ⟨rfl, q⟩
  · exact P.mul_str_none (by decide) (by decide) ⟨.str Str.empty, H, I.tok _, ⟨_, rfl⟩, q⟩
  · refine P.mul_str (by decide) (fun _ h => by simp at h) (fun _ h => by simp at h) ?_
    exact ⟨.str z, H, I, ⟨_, rfl⟩, q⟩
theorem mulS_calm : Calm2 dMulS := fun x y c => by cases x <;> cases y <;> simp only [dMulS] <;> (try split) <;> (try split) <;> exact fun e => nomatch e
theorem mulS_D {C : Addr} : Op2 C dMulS rMulS := by
  intro x y F H v u Q s rv ru
  cases x <;> cases y <;> simp only [dMulS] <;> try trivial
  rename_i z n
  simp only [Rep] at rv ru
  subst rv ru
  by_cases h0 : n = 0
  · subst h0
    exact fun q => ⟨z, 0, rfl, rfl, .inl ⟨rfl, q _ H F (.rfl s) (by simp only [Rep])⟩⟩
  · by_cases h1 : n = 1
    · subst h1
      exact fun q => ⟨z, 1, rfl, rfl, .inr ⟨rfl, q _ H F (.rfl s) (by simp only [Rep])⟩⟩
    · simp only [h0, h1, if_false]
def dMulL : D → D → R D
  | .lst xs, .int n => if 0 ≤ n ∧ n ≤ 1000 ∧ xs.length ≤ 1000 then .ok (.lst (List.replicate n.toNat xs).flatten) else .bad
  | _, _ => .bad
theorem mulL_calm : Calm2 dMulL := fun x y c => by cases x <;> cases y <;> simp only [dMulL] <;> (try split) <;> exact fun e => nomatch e
theorem Reps.rep {C : Addr} {H : Hp} {ds : List D} {vs : List V} (r : Reps C H ds vs) : ∀ n, Reps C H (List.replicate n ds).flatten (List.replicate n vs).flatten
  | 0 => by simp only [List.replicate_zero, List.flatten_nil, Reps]
  | n + 1 => by
    rw [List.replicate_succ, List.replicate_succ, List.flatten_cons, List.flatten_cons]
    exact r.app (Reps.rep r n)
theorem mulL_D {C : Addr} : Op2 C dMulL rRep := by
  intro x y F H v u Q s rv ru
  cases x <;> cases y <;> simp only [dMulL] <;> try trivial
  rename_i xs n
  split
  · rename_i d hl
    split at hl
    · rename_i h
      cases hl
      intro q
      simp only [Rep] at rv ru
      obtain ⟨a, us, rfl, h1, r1⟩ := rv
      subst ru
      refine ⟨a, n, us, rfl, rfl, s _ _ h1, by omega, by omega, ?_, fun p np => ?_⟩
      · rw [r1.len]
        have : xs.length * n.toNat ≤ 1000 * 1000 := Nat.mul_le_mul h.2.2 (by omega)
        exact Nat.le_trans this (line_ok (Nat.le_refl _))
      · refine q _ _ (upd F p (.lst (List.replicate n.toNat us).flatten)) (.add s np) ?_
        simp only [Rep]
        exact ⟨p, _, rfl, upd_same, Reps.mono (Sm.upd (s.non np)) _ _ (r1.rep _)⟩
    · cases hl
  · trivial
namespace E
def dic0 : Ev → R D := fun _ => .ok .dic
end E
section
variable {X : Cx} {mg : Str → Option Value} {C : Addr} {W : WX} {e a b : Expr} {pos : Pos} {f h : Ev → R D}
theorem d_mulS (ha : PE X a (tD mg C W f)) (hb : PE X b (tD mg C W h)) : PE X (.BinOp a .Mult b pos) (tD mg C W (E.bin dMulS f h)) := d_op op_mulS mulS_D mulS_calm ha hb
theorem d_mulL (ha : PE X a (tD mg C W f)) (hb : PE X b (tD mg C W h)) : PE X (.BinOp a .Mult b pos) (tD mg C W (E.bin dMulL f h)) := d_op op_rep mulL_D mulL_calm ha hb
theorem d_dic0 : PE X (.Dict [] [] pos) (tD mg C W E.dic0) := PE.to pe_dnewK fun σ H Q x p np => by
  obtain ⟨F, ρ, s, ok, x⟩ := x
  refine x (.ref p) _ (upd F p (.dK [])) (.add s np) ?_
  simp only [Rep]
  exact ⟨p, rfl, upd_same⟩
end
/-! ### the head -/
def exAll (K : PySem.W.Frag) : Bool := errL.all fun c => excB ysL c K
abbrev AlLX : Type := He.Al × Bool
def obsLX (n : Nat) (fa : List He.Fa) (fn : List He.FnD) (g : Addr → Option Obj) : AlLX :=
  let K := noL (He.frG g (He.asG g n))
  (He.obsE fa fn K, exAll K)
structure SaysLX (fa : List He.Fa) (fn : List He.FnD) (h : Heap) (K : PySem.W.Frag) : Prop extends SaysL fa fn h K where
  xx : exAll K = true
def hookLX (n : Nat) (fa : List He.Fa) (fn : List He.FnD) : PySem.W.Hook where
  α := AlLX
  obs := fun s => obsLX n fa fn s.heap.get?
  val := fun _ => (He.valE fn, true)
  says := fun _ h => ∃ K : PySem.W.Frag, SaysLX fa fn h K
  of := fun _ _ e => ⟨_, ⟨fun _ _ q => (noL_at q).1, fun _ _ q => (noL_at q).2, congrArg (fun z : AlLX => z.1) e⟩, congrArg (fun z : AlLX => z.2) e⟩
  keeps := fun _ _ _ ⟨K, c⟩ k => ⟨K, { c with kin := PySem.W.Frag.In.keeps c.kin k }⟩
theorem obsLX_eq {n : Nat} {fa : List He.Fa} {fn : List He.FnD} {g : Addr → Option Obj} {s : Shared} (h : ∀ a, g a = s.heap.get? a) : obsLX n fa fn g = (hookLX n fa fn).obs s := by
  have e : g = s.heap.get? := funext h
  subst e
  rfl
abbrev AlPX : Type := AlP × Bool
def obsPX (n : Nat) (fa : List He.Fa) (fn : List He.FnD) (g : Addr → Option Obj) : AlPX :=
  let K := noL (He.frG g (He.asG g n))
  ((He.obsE fa fn K, He.dicW K (He.ga K "PARTS"), rowsI K (He.ga K "PARTS")), exAll K)
structure SaysPX (fa : List He.Fa) (fn : List He.FnD) (tab : Tab) (w : World) (h : Heap) (K : PySem.W.Frag) : Prop extends SaysP fa fn tab w h K where
  xx : exAll K = true
def hookPX (n : Nat) (fa : List He.Fa) (fn : List He.FnD) (tab : Tab) : PySem.W.Hook where
  α := AlPX
  obs := fun s => obsPX n fa fn s.heap.get?
  val := fun w => (valP fn tab w, true)
  says := fun w h => ∃ K : PySem.W.Frag, SaysPX fa fn tab w h K
  of := fun _ _ e => ⟨_, ⟨⟨fun _ _ q => (noL_at q).1, fun _ _ q => (noL_at q).2, congrArg (fun z : AlPX => z.1.1) e⟩, congrArg (fun z : AlPX => z.1.2.1) e, congrArg (fun z : AlPX => z.1.2.2) e⟩, congrArg (fun z : AlPX => z.2) e⟩
  keeps := fun _ _ _ ⟨K, c⟩ k => ⟨K, { c with kin := PySem.W.Frag.In.keeps c.kin k }⟩
theorem obsPX_eq {n : Nat} {fa : List He.Fa} {fn : List He.FnD} {tab : Tab} {g : Addr → Option Obj} {s : Shared} (h : ∀ a, g a = s.heap.get? a) : obsPX n fa fn g = (hookPX n fa fn tab).obs s := by
  have e : g = s.heap.get? := funext h
  subst e
  rfl
/-- the end, by any says that tells of K -/
theorem law_endG {l : PySem.W.OpenLaw} {n k : Nat} {q : Program} {loose : List Str} {XP : (Str → Option Value) → Heap → Prop} {says : World → Heap → Prop} {G0 : World → Heap → PySem.W.Frag → Prop} {d : DefRec} {x : Str} {g : List D → R D}
    (hs : ∀ w h, says w h → ∃ K, G0 w h K) (h1 : ∀ w h K, G0 w h K → K.In h) (h2 : ∀ w h K, G0 w h K → ∀ a o, K.lookup a = some o → isL o = false)
    (hn : l.most = some n) (hn2 : n ≤ sizeLine) (hdf : d.params.defaults = []) (hdn : d.name = "law") (hr : Room k callerA)
    (F : ∀ (w : World) (K : PySem.W.Frag) (mg : Str → Option Value) (h : Heap), G0 w h K → h.Ns mainGlobals mg → mg "law" = some (.ref (He.ga K "law")) ∧
      (∀ (s : Shared) (u : Value), BindsTo s (fdOf K (He.ga K "law")) ⟨[u], []⟩ [(x, u)]) ∧ ∀ base : Heap, OkD l.prog w K mg base k "law" [x] g)
    (law : ∀ ns : List Int, ns.length ≤ n → g [.scr ns] = .ok (.bl true)) :
    PySem.W.WalkO q loose XP says l.row.toRowW d [] (fun f vs => PySem.call f vs) := by
  refine L2.walk_ofE (CX := CXU) (x := x) hn hn2 hdf hr ?_ (fun H s e s' => ?_)
  · rintro w mg a0 h hsy G hmg
    obtain ⟨K, c⟩ := hs w h hsy
    obtain ⟨g1, g2, g3⟩ := F w K mg h c G
    rw [hdn, g1] at hmg
    cases hmg
    refine ⟨K, _, _, h1 w h K c, g2, fun H a ns hl hO hS => ?_, fun base _ _ => ok_cxu (g3 base)⟩
    rcases hS with (hS | ⟨o, hS⟩) | ⟨o, its, m, hk, hc, _⟩
    · rcases hO a with z | ⟨o, xs, z⟩ <;> rw [hS] at z <;> cases z
    · refine ⟨rfl, H, [.scr ns], Sm.rfl, Reps.one (by simp only [Rep]; exact ⟨a, o, rfl, hS⟩), ?_⟩
      rw [law ns hl]
      intro v H' F' _ r
      simpa only [Rep] using r
    · have z := h2 w h K c _ _ hk
      unfold isL at z
      rw [hc] at z
      simp at z
  · rintro ⟨P, w, _, _, _, _, _, _, _, _, _, _, _, _, z⟩
    exact z
theorem law_endLX {l : PySem.W.OpenLaw} {n k N : Nat} {q : Program} {loose : List Str} {XP : (Str → Option Value) → Heap → Prop} {fa : List He.Fa} {fn : List He.FnD} {d : DefRec} {x : Str} {g : List D → R D}
    (hn : l.most = some n) (hn2 : n ≤ sizeLine) (hdf : d.params.defaults = []) (hdn : d.name = "law") (hr : Room k callerA)
    (F : ∀ (w : World) (K : PySem.W.Frag) (mg : Str → Option Value) (h : Heap), SaysLX fa fn h K → h.Ns mainGlobals mg → mg "law" = some (.ref (He.ga K "law")) ∧
      (∀ (s : Shared) (u : Value), BindsTo s (fdOf K (He.ga K "law")) ⟨[u], []⟩ [(x, u)]) ∧ ∀ base : Heap, OkD l.prog w K mg base k "law" [x] g)
    (law : ∀ ns : List Int, ns.length ≤ n → g [.scr ns] = .ok (.bl true)) :
    PySem.W.WalkO q loose XP (hookLX N fa fn).says l.row.toRowW d [] (fun f vs => PySem.call f vs) :=
  law_endG (G0 := fun _ h K => SaysLX fa fn h K) (fun _ _ h => h) (fun _ _ _ c => c.kin) (fun _ _ _ c => c.no) hn hn2 hdf hdn hr F law
theorem law_endPX {l : PySem.W.OpenLaw} {n k N : Nat} {q : Program} {loose : List Str} {XP : (Str → Option Value) → Heap → Prop} {fa : List He.Fa} {fn : List He.FnD} {tab : Tab} {d : DefRec} {x : Str} {g : List D → R D}
    (hn : l.most = some n) (hn2 : n ≤ sizeLine) (hdf : d.params.defaults = []) (hdn : d.name = "law") (hr : Room k callerA)
    (F : ∀ (w : World) (K : PySem.W.Frag) (mg : Str → Option Value) (h : Heap), SaysPX fa fn tab w h K → h.Ns mainGlobals mg → mg "law" = some (.ref (He.ga K "law")) ∧
      (∀ (s : Shared) (u : Value), BindsTo s (fdOf K (He.ga K "law")) ⟨[u], []⟩ [(x, u)]) ∧ ∀ base : Heap, OkD l.prog w K mg base k "law" [x] g)
    (law : ∀ ns : List Int, ns.length ≤ n → g [.scr ns] = .ok (.bl true)) :
    PySem.W.WalkO q loose XP (hookPX N fa fn tab).says l.row.toRowW d [] (fun f vs => PySem.call f vs) :=
  law_endG (G0 := fun w h K => SaysPX fa fn tab w h K) (fun _ _ h => h) (fun _ _ _ c => c.kin) (fun _ _ _ c => c.no) hn hn2 hdf hdn hr F law
end TB
/-! list comprehensions that an exception may leave -/
namespace TB
open PySem PySem.Spec PyProof.Rows L2

theorem note_eq {u : Value} {e1 e2 : Env} (h : e1.frame = e2.frame) : noteFrame u e1 = noteFrame u e2 := by
  unfold noteFrame PySem.frameOf
  rw [h]
section
variable {M : Model} {A : Around} {E : Value → Shared → Prop} {s : Shared} {Z : Obj → Prop} {base : Heap} {env : Env} {outer : List Env} {L C e : Addr}
/-- noted by another flight -/
theorem looks_atZ {Q : Unit → Shared → Prop} (hZ : HandSPX.Steady Z) (hne : C ≠ L) (hfr : A.frames = some (env :: outer)) (hf : env.frame = some L) (hfl : HandSPX.HeldZ base (env :: outer) e Z C s.heap)
    (hQ : ∀ h', HandSPX.HeldZ base (env :: outer) e Z L h' → s.heap.UpToSlots h' → Q () { s with heap := h' }) : wpAny M A (noteFrame (.ref e) env) Q E s := by
  obtain ⟨hkb, hen, hl, oe, vs, T, oT, ts, he, hz, hd, h1, hnT, hTe, hT, hdT, h3⟩ := hfl
  unfold noteFrame
  simp only [hf]
  refine wpAny_bind (wpAny_field he hd h1 ?_)
  rw [if_pos (show (Value.ref T != Value.none) = true from by simp)]
  refine wpAny_bind (wpAny_field hT hdT h3 ?_)
  rw [if_neg (show ¬ ((rawInt C == rawInt L) = true) from by
    rw [beq_iff_eq]
    intro z
    unfold rawInt at z
    injection z with z _
    exact hne (Int.ofNat.inj z))]
  refine wpAny_bind (wpAny_setField hT hdT (Array.getElem?_eq_some_iff.mp h3).1 ?_)
  have other : ∀ b, b ≠ T → (s.heap.update T (Obj.mapFields (·.setIfInBounds 3 Value.none))).get? b = s.heap.get? b := fun b hb => Heap.get?_update_other _ _ (Ne.symm hb)
  have noRecord : ∀ b o, s.heap.get? b = some o → (∀ vs, o.data ≠ .fields vs) → b ≠ T := fun b o hb hnf q => by
    rw [q, hT] at hb; injection hb with hb; subst hb; exact hnf ts hdT
  refine HandSPX.wpAny_entryZ hZ hfr (hl.of_keeps fun b o hb hnf => ⟨o, (other b (noRecord b o hb hnf)).trans hb, rfl⟩) hf ((other e (Ne.symm hTe)).trans he)
    (fun b o hbo => (other b fun q => by rw [q, hnT] at hbo; cases hbo).trans (hkb b o hbo)) hen hd (Array.getElem?_eq_some_iff.mp h1).1 hz fun h' hN => ?_
  obtain ⟨x1, x2, x3, x4⟩ := hN
  exact hQ h' ⟨x1, hen, x2, x3⟩ fun b o hb hnf => x4 b o ((other b (noRecord b o hb hnf)).trans hb) hnf
end
theorem funFrames_but {B B' h h' : Heap} (k : ∀ b o, B.get? b = none → h.get? b = some o → h'.get? b = some o) (n : ∀ b, B.get? b = none → B'.get? b = none) : ∀ {l : List Env}, h.FunFrames B l → h'.FunFrames B' l
  | [], _ => trivial
  | env :: l, ⟨hk, ⟨L, o, hf, hn, ho, hd⟩, hr⟩ => ⟨hk, ⟨L, o, hf, n _ hn, k _ _ hn ho, hd⟩, funFrames_but k n hr⟩

/-! ### the block's end -/
section
variable {M : Model} {A : Around} {E : Value → Shared → Prop} {s : Shared} {env : Env}
def compPostX (M : Model) (A : Around) (E : Value → Shared → Prop) (use : Option (Value → Sem Unit)) (Q : Value → Shared → Prop) (acc : Value) (C : Addr) (fr : Option Addr) (r : Result) (s' : Shared) : Prop :=
  match r, use with
  | .ok _, none => ∃ m, s'.heap.Ns C m ∧ ∀ h', Heap.SameBut C s'.heap h' → Q acc { s' with heap := h' }
  | .ok _, some u => wpAny M A (u acc) (fun _ s'' => ∃ m, s''.heap.Ns C m ∧ ∀ h', Heap.SameBut C s''.heap h' → Q .none { s'' with heap := h' }) E s'
  | .error x, _ => ∃ m, s'.heap.Ns C m ∧ ∀ h', Heap.SameBut C s'.heap h' → ∀ cenv : Env, cenv.locals = C → cenv.frame = fr → wpAny M A (passOn "comprehension.variables-let-go" x cenv : Sem Value) (fun _ _ => False) E { s' with heap := h' }
theorem comp_freeX {e : Expr} {scope : Scope} {pos : Pos} {newAcc first : Sem Value} {g : Comprehension} {gs : List Comprehension} {cl : List (Str × Addr)} {use : Option (Value → Sem Unit)}
    {Q : Value → Shared → Prop}
    (hcl : clausesOf e = g :: gs) (hs : ∀ x, foldedSetIterable g.iter env x = pure x) (hclos : closureFor scope env = pure cl)
    (hkind : scope.kind = .function) (hnames : ∀ x ∈ scope.names, x.2 = .local → scope.names.lookup x.1 = some .local)
    (h : wpAny M A first (fun x s₁ => wpAny M A (pyIter x) (fun it s₂ => wpAny M A newAcc (fun acc s₃ =>
      wpAny M A (newFunctionEnv scope env.globals cl [] env.qual none .none (some env)) (fun cenv s₄ =>
        codeAny M A (.compStart e 0 it acc { cenv with scope := relabel scope env }) (compPostX M A E use Q acc cenv.locals cenv.frame) s₄) E s₃) E s₂) E s₁) E s) :
    wpAny M A (comprehension e scope env pos newAcc false first use) Q E s := by
  unfold comprehension
  rw [hclos, hcl]
  refine wpAny_bind (wpAny_mono h (fun x s₁ h₁ => wpAny_bind (wpAny_standAt (wpAny_bind (wpAny_of_eq (hs x) (wpAny_bind (wpAny_holding (wpAny_mono h₁ (fun it s₂ h₂ =>
    wpAny_standIf (wpAny_bind (wpAny_mono h₂ (fun acc s₃ h₃ => wpAny_bind (wpAny_pure (wpAny_bind (wpAny_mono h₃ (fun cenv s₄ h₄ => ?_) fun _ _ h' => h')))) fun _ _ h' => h')))
      fun _ _ h' => h'))))))) fun _ _ h' => h')
  dsimp only
  have hv : ∀ x ∈ (scope.names.filter fun x => (x.2 == .local || x.2 == .cell) && x.1 != (".0" : Str)).reverse, x.2 = .local →
      Env.kindOf { cenv with scope := relabel scope env } x.1 = some .local := fun x hx hl => lookup_relabel_local (hnames x (List.mem_filter.mp (List.mem_reverse.mp hx)).1 hl)
  have hv' : ∀ x ∈ (scope.names.filter fun x => (x.2 == .local || x.2 == .cell) && x.1 != (".0" : Str)).reverse.drop 1 ++ (scope.names.filter fun x => (x.2 == .local || x.2 == .cell) && x.1 != (".0" : Str)).reverse.take 1,
      x.2 = .local → Env.kindOf { cenv with scope := relabel scope env } x.1 = some .local := fun x hx hl => by
    rcases List.mem_append.mp hx with h1 | h1
    · exact hv x (List.mem_of_mem_drop h1) hl
    · exact hv x (List.mem_of_mem_take h1) hl
  refine wpAny_holding (wpAny_bind (wpAny_attempt (wpAny_holding (wpAny_run (codeAny_mono h₄ fun r s' hr => ?_)))))
  cases r with
  | ok f =>
    cases use with
    | none =>
      obtain ⟨m, hn, hr⟩ := hr
      exact wpAny_bind (wpAny_holding (wpAny_comp_letGo (cenv := { cenv with scope := relabel scope env }) hkind _ s' m hv hn fun h' m' _ hs' => wpAny_pure (hr h' hs')))
    | some u =>
      refine wpAny_bind (wpAny_rule (wpAny_bind (wpAny_holding (wpAny_mono hr (fun _ s'' hr' => ?_) fun _ _ h' => h'))))
      obtain ⟨m, hn, hr'⟩ := hr'
      exact wpAny_bind (wpAny_comp_letGo (cenv := { cenv with scope := relabel scope env }) hkind _ s'' m hv' hn fun h' m' _ hs' => wpAny_pure (hr' h' hs'))
  | error x =>
    have hr' : ∃ m, s'.heap.Ns cenv.locals m ∧ ∀ h', Heap.SameBut cenv.locals s'.heap h' → ∀ cenv' : Env, cenv'.locals = cenv.locals → cenv'.frame = cenv.frame → wpAny M A (passOn "comprehension.variables-let-go" x cenv' : Sem Value) (fun _ _ => False) E { s' with heap := h' } := by cases use <;> exact hr
    obtain ⟨m, hn, hr⟩ := hr'
    exact wpAny_bind (wpAny_holding (wpAny_comp_letGo (cenv := { cenv with scope := relabel scope env }) hkind _ s' m hv hn fun h' m' _ hs' => wpAny_mono (hr h' hs' _ rfl rfl) (fun _ _ f => f.elim) fun _ _ y => y))
end
abbrev blkX (X : Cx) (s : Shared) (H : Hp) (scope : Scope) (cenv : Env) (fp : List Addr) (xe : Value → Shared → Prop) : Cx := { X.blk s H scope cenv fp with xe := xe }
/-- the block's exceptions, at the slots outside -/
def WB (W : WX) (σ : L2.St) : WX := fun cls d _ H => W cls d σ H
section
variable {X : Cx} {W : WX}
theorem inv_blkX {s : Shared} {H : Hp} {scope : Scope} {cenv : Env} {fp : List Addr} {xe : Value → Shared → Prop} {pins : List (Addr × Obj)} {σ : L2.St} {H' : Hp} {s' : Shared} (I : Inv (X.blk s H scope cenv fp) pins σ H' s') : Inv (blkX X s H scope cenv fp xe) pins σ H' s' := I.wish xe
theorem inv_blk {s : Shared} {H : Hp} {scope : Scope} {cenv : Env} {fp : List Addr} {xe : Value → Shared → Prop} {pins : List (Addr × Obj)} {σ : L2.St} {H' : Hp} {s' : Shared} (I : Inv (blkX X s H scope cenv fp xe) pins σ H' s') : Inv (X.blk s H scope cenv fp) pins σ H' s' := I.wish fun _ _ => False
theorem lc_coreX {pins : List (Addr × Obj)} {s : Shared} {σ : L2.St} {H : Hp} {Q : VK} {elt tg iter : Expr} {ifs : List Expr} {scope : Scope} {own : List (Str × Nat)} {pos pos' : Pos} {wi : TI} {g : TG} {tt : WX → TT} {te : WX → TE} {use : Option (Value → Sem Unit)} {Qf : Value → Shared → Prop}
    (hs0 : X.stack = X.env :: X.outer) (hf0 : X.env.frame = some X.env.locals) (tk : Takes X W) (hc : X.calm = true) (hN : X.N.Nodup) (I : Inv X pins σ H s) (hi : PI X tg iter wi) (ok : BlkOk X.N X.env.scope scope own)
    (hg : ∀ (s : Shared) (H : Hp) (C : Addr) (cl : List (Str × Addr)) (fp : List Addr) (xe : Value → Shared → Prop), PG (blkX X s H scope (compEnvC scope cl C X.env) fp xe) tg g)
    (ht : ∀ (s : Shared) (H : Hp) (C : Addr) (cl : List (Str × Addr)) (fp : List Addr) (xe : Value → Shared → Prop) (W : WX), Takes (blkX X s H scope (compEnvC scope cl C X.env) fp xe) W → PTs (blkX X s H scope (compEnvC scope cl C X.env) fp xe) ifs (tt W))
    (he : ∀ (s : Shared) (H : Hp) (C : Addr) (cl : List (Str × Addr)) (fp : List Addr) (xe : Value → Shared → Prop) (W : WX), Takes (blkX X s H scope (compEnvC scope cl C X.env) fp xe) W → PE (blkX X s H scope (compEnvC scope cl C X.env) fp xe) elt (te W)) (hs : ∀ x, foldedSetIterable iter X.env x = pure x)
    (h : tLc wi g (tt (WB W σ)) (te (WB W σ)) (own.map (·.2)) σ H Q)
    (hRR : ∀ D C s' m H', Inv X pins σ H' s' → Q (.ref D) H' → s'.heap.Ns C m → FpOk X pins H' C → compPostX (model X.prog X.w) X.A X.xe use Qf (.ref D) C X.env.frame (.ok .next) s') :
    wpAny (model X.prog X.w) X.A (comprehension (.ListComp elt [⟨tg, iter, ifs, 0⟩] scope pos) scope X.env pos' (newList []) false (eval iter X.env) use) Qf X.xe s := by
  have hfree : ∀ y ∈ scope.names, y.2 = .free → ∃ c, X.env.cells.lookup y.1 = some c := fun y hy e => by
    rcases ok.free y hy e with k | k
    · exact I.ok.has _ (.inl k)
    · exact I.ok.has _ (.inr k)
  have hfr : X.A.frames = some (X.env :: X.outer) := by rw [I.ok.frames, hs0]
  refine comp_freeX (use := use) rfl hs (closure_ok hfree) ok.kind (fun y hy e => by rw [ok.uniq y hy, e])
    (thn (hi.run pins s σ H _ I h) fun xv s1 hx => thn hx fun itv s2 h2 => ?_)
  obtain ⟨it, fp, tn, J, H2, e, I2, T, st2, f2, q⟩ := h2
  subst e
  refine wpAny_newObj_type (newEnv_comp ?_) (by show 0 ≤ sizeLine; decide)
  generalize hD : s2.heap.objs.size = D
  have hDn : H2 D = none := I2.hok.fresh (Nat.le_of_eq hD)
  obtain ⟨W0, ⟨m0, w0⟩, turn⟩ := q D hDn
  generalize hs3 : ({ s2 with heap := s2.heap.push { cls := .type "list", data := .seq ([] : List Value).toArray } } : Shared) = s3
  have I3 : Inv X pins σ (upd H2 D (.lst [])) s3 := by
    rw [← hs3]
    refine I2.laid (t' := s2.toks) (fun b o e => Heap.get?_push_of_some _ e) (Nat.le_of_eq hD) ⟨Nat.zero_le _, [], 0, .nil, ?_⟩
    rw [← hD]
    exact Heap.get?_push_size _ rfl
  have h3 : s3.heap = s2.heap.push { cls := .type "list", data := .seq ([] : List Value).toArray } := by rw [← hs3]
  have sz : ∀ b ∈ fp, b < s2.heap.objs.size := fun b hb => by
    obtain ⟨o, e, _⟩ := T.obj _ _ st2 b hb
    exact Heap.lt_size e
  have f3 : ∀ b ∈ fp, FpOk X pins (upd H2 D (.lst [])) b ∧ b < s3.heap.objs.size := fun b hb => by
    have hlt := sz b hb
    refine ⟨⟨?_, (f2 b hb).2⟩, by rw [h3, Heap.size_push]; exact Nat.lt_succ_of_lt hlt⟩
    rw [upd_ne (by rw [← hD]; exact Nat.ne_of_lt hlt)]
    exact (f2 b hb).1
  have st3 : tn 0 s3.heap := T.keep _ _ _ st2 fun b _ o e => by rw [h3]; exact Heap.get?_push_of_some _ e
  have I4 := block_start I3 ok hN f3
  have pg := hg s3 (upd H2 D (.lst [])) s3.heap.objs.size (cellsFrom (s3.heap.objs.size + 1) scope.names (cloFrom X.env.cells scope.names [])) fp
  have pt := ht s3 (upd H2 D (.lst [])) s3.heap.objs.size (cellsFrom (s3.heap.objs.size + 1) scope.names (cloFrom X.env.cells scope.names [])) fp
  have pe := he s3 (upd H2 D (.lst [])) s3.heap.objs.size (cellsFrom (s3.heap.objs.size + 1) scope.names (cloFrom X.env.cells scope.names [])) fp
  show codeAny _ _ (.compStart (.ListComp elt [⟨tg, iter, ifs, 0⟩] scope pos) 0 (.ref it) (.ref D) (compEnvC scope (cellsFrom (s3.heap.objs.size + 1) scope.names (cloFrom X.env.cells scope.names [])) s3.heap.objs.size X.env)) (compPostX (model X.prog X.w) X.A X.xe use Qf (.ref D) s3.heap.objs.size X.env.frame) { s3 with heap := pushCells (s3.heap.push { cls := .type "dict", data := .dict #[] }) scope.names }
  have nfp : ∀ b ∈ fp, (upd H2 D (.lst [])) b = none := fun b hb => (f3 b hb).1.1
  generalize hce : compEnvC scope (cellsFrom (s3.heap.objs.size + 1) scope.names (cloFrom X.env.cells scope.names [])) s3.heap.objs.size X.env = ce at I4 pg pt pe ⊢
  have cL : ce.locals = s3.heap.objs.size := by subst hce; rfl
  have cF : ce.frame = X.env.frame := by subst hce; rfl
  generalize hH3 : upd H2 D (.lst []) = H3 at I3 I4 pg pt pe w0 nfp f3
  generalize hs4 : ({ s3 with heap := pushCells (s3.heap.push { cls := .type "dict", data := .dict #[] }) scope.names } : Shared) = s4 at I4 ⊢
  have st4 : tn 0 s4.heap := T.keep _ _ _ st3 fun b _ o e => by rw [← hs4]; exact pushCells_keeps _ _ _ _ (Heap.get?_push_of_some _ e)
  have stat : ∀ {σ' : L2.St} {H' : Hp} {s' : Shared}, Inv (X.blk s3 H3 scope ce fp) [] σ' H' s' → (∀ b ∈ fp, H' b = none) → ∀ b ∈ fp, FpOk (X.blk s3 H3 scope ce fp) [] H' b := fun {σ' H' s'} I' hn b hb =>
    ⟨hn b hb, (I'.ok.exf b hb).1, I'.ok.exfs b hb, .inl hb, fun x c e => (I'.ok.exf b hb).2 x c e, fun p hp => absurd (show p ∈ ([] : List (Addr × Obj)) ++ [] from hp) (by simp)⟩
  -- back in the def's context
  have back : ∀ {pins' : List (Addr × Obj)} {σ' : L2.St} {H' : Hp} {s' : Shared}, Inv (X.blk s3 H3 scope ce fp) pins' σ' H' s' → Inv X pins σ H' s' ∧ FpOk X pins H' s3.heap.objs.size := fun {pins' σ' H' s'} I6 => by
    have nC : H' s3.heap.objs.size = none := by
      have z : H' ce.locals = none := I6.free
      rw [cL] at z
      exact z
    exact ⟨I3.call' (ch := fp) I6.os I6.base I6.hok I6.bare fun b hb => ⟨(f3 b hb).1.2.2.2.1, (f3 b hb).1.2.1, (f3 b hb).1.2.2.2.2.1, (f3 b hb).1.2.2.2.2.2⟩, I3.fpOk (Nat.le_refl _) nC⟩
  let PX : Result → Shared → Prop := compPostX (model X.prog X.w) X.A X.xe use Qf (.ref D) s3.heap.objs.size X.env.frame
  let xe : Value → Shared → Prop := notedBy (model X.prog X.w) X.A ce fun e s' => PX (.error e) s'
  -- what leaves the block
  have tkB : Takes (blkX X s3 H3 scope ce fp xe) (WB W σ) := by
    intro u s' xx
    obtain ⟨a, B, sI, pins', σ', H', cls, d, rfl, I', nb, up, sky, na, os, ag, w⟩ := xx
    obtain ⟨J0, fC⟩ := back (inv_blk I')
    have nL : s3.heap.objs.size ≠ X.env.locals := fC.2.1
    have nS : s3.heap.objs.size ∉ frs X.stack := fun hm => (List.mem_cons.mp (I3.stkSub _ hm)).elim nL fC.2.2.1
    obtain ⟨m, hn, _⟩ := I'.loc
    obtain ⟨oL, es, ep, hoL, hrest⟩ := hn
    have hoL : sI.heap.get? s3.heap.objs.size = some oL := by
      have z : sI.heap.get? ce.locals = some oL := hoL
      rw [cL] at z
      exact z
    have bC : B.get? s3.heap.objs.size = some oL := nb _ _ hoL nS
    show wpAny (model X.prog X.w) X.A (noteFrame (.ref a) ce) (fun _ s'' => PX (.error (.ref a)) s'') (fun e s' => PX (.error e) s') s'
    rw [note_eq cF]
    have fin : ∀ h1, HandSPX.HeldZ B (X.env :: X.outer) a (Zc cls d) X.env.locals h1 → s'.heap.UpToSlots h1 → PX (.error (.ref a)) { s' with heap := h1 } := by
      intro h1 hh up1
      show ∃ m, _
      refine ⟨m, ⟨oL, es, ep, hh.1 _ _ bC, hrest⟩, fun h' sb cenv' e1 e2 => ?_⟩
      have neC : ∀ {b : Addr}, B.get? b = none → b ≠ s3.heap.objs.size := fun {b} z e => by rw [e, bC] at z; cases z
      have hidn : ∀ b, B.get? b = none → (PySem.W.hideAll B [s3.heap.objs.size]).get? b = none := fun b z => by
        cases q : (PySem.W.hideAll B [s3.heap.objs.size]).get? b with
        | none => rfl
        | some o => rw [PySem.W.of_hideAll _ q] at z; cases z
      have hidC : ∀ {hp : Heap} {b : Addr} {o : Obj}, (PySem.W.hideAll hp [s3.heap.objs.size]).get? b = some o → hp.get? b = some o ∧ b ≠ s3.heap.objs.size := fun {hp b o} q => ⟨PySem.W.of_hideAll _ q, fun z => by
        rw [PySem.W.hideAll_none _ (show b ∈ [s3.heap.objs.size] by rw [z]; exact List.mem_cons_self)] at q
        cases q⟩
      obtain ⟨k1, k2, k3, oe, vs, Tb, oT, ts, he', hz, hd, hv1, hnT, hTe, hT, hdT, ht3⟩ := hh
      have he2 : h'.get? a = some oe := (sb.2 a (neC k2)).trans he'
      have held : HandSPX.HeldZ (PySem.W.hideAll B [s3.heap.objs.size]) (X.env :: X.outer) a (Zc cls d) X.env.locals h' :=
        ⟨fun b o q => (sb.2 b (hidC q).2).trans (k1 b o (hidC q).1), hidn a k2, funFrames_but (fun b o z q => (sb.2 b (neC z)).trans q) hidn k3,
          oe, vs, Tb, oT, ts, he2, hz, hd, hv1, hidn _ hnT, hTe, (sb.2 Tb (neC hnT)).trans hT, hdT, ht3⟩
      unfold PySem.passOn
      refine wpAny_bind (wpAny_field he2 hd hv1 ?_)
      rw [if_neg (show ¬ ((Value.ref Tb == Value.none) = true) from by simp)]
      have go : wpAny (model X.prog X.w) X.A (setFlight (.ref a) cenv'.frame) (fun _ s4 => wpAny (model X.prog X.w) X.A (throw (.ref a) : Sem Value) (fun _ _ => False) X.xe s4) X.xe { { s' with heap := h1 } with heap := h' } := by
        rw [e2, hf0]
        refine HandSPX.setFlight_onZ held fun h4 hh4 up4 => wpAny_throw (tk _ _ ?_)
        have J1 : Inv X pins σ H' { sI with heap := PySem.W.hideAll sI.heap [s3.heap.objs.size], toks := sI.toks } := by
          obtain ⟨g0, g1, g2, g3, g4, g5⟩ := fC
          exact J0.turned (it := s3.heap.objs.size) (t' := sI.toks) (fun b o hb q => PySem.W.hideAll_get _ q (by simpa using hb)) g0 g1 g3 g4 g5
        refine ⟨a, PySem.W.hideAll B [s3.heap.objs.size], _, pins, σ, H', cls, d, rfl, J1, fun b o q hb => ?_, fun b o q hnf => ?_, .inr (.inr (by rw [hs0]; exact hh4)), na, os, ag, w⟩
        · exact PySem.W.hideAll_get _ (nb b o (hidC q).1 hb) (by simpa using (hidC q).2)
        · obtain ⟨q1, q2⟩ := hidC q
          obtain ⟨sl1, r1⟩ := up b o q1 hnf
          obtain ⟨sl2, r2⟩ := up1 b _ r1 hnf
          have r3 : h'.get? b = some { o with slots := sl2 } := (sb.2 b q2).trans r2
          obtain ⟨sl3, r4⟩ := up4 b _ r3 hnf
          exact ⟨sl3, r4⟩
      first
        | exact wpAny_bind (wpAny_pure (wpAny_bind go))
        | exact wpAny_bind go
    have sky' : Sky B (X.env :: X.outer) a (Zc cls d) ce.locals s'.heap := by rw [← hs0]; exact sky
    rw [cL] at sky'
    rcases sky' with ⟨hB, hn, hl, oe, vs, he', hz, hd, h1⟩ | fl | hh
    · exact HandSPX.look_newZ Zc.steady hfr hl hf0 he' hB hn hd h1 hz fin
    · exact HandSPX.looks_onZ Zc.steady hfr hf0 fl fin
    · exact looks_atZ Zc.steady nL hfr hf0 hh fin
  have pgX := pg xe
  have ptX := pt xe _ tkB
  have peX := pe xe _ tkB
  have loop : codeAny (model X.prog X.w) X.A (.compLoop (.ListComp elt [⟨tg, iter, ifs, 0⟩] scope pos) 0 (.ref it) (.ref D) ce) PX s4 := by
    refine compLoop_any (fun n s' => ∃ i H', Inv (X.blk s3 H3 scope ce fp) [] (wipe σ (own.map (·.2))) H' s' ∧ tn i s'.heap ∧ (∀ b ∈ fp, H' b = none) ∧ W0 i n H') ?_ m0 ⟨0, H3, I4, st4, nfp, w0⟩
    rintro n s5 ⟨i, H5, I5, st5, n5, w5⟩
    rcases turn i n H5 w5 with ⟨stop, qq⟩ | ⟨go, Nx, hNx, step⟩
    · have td := T.done (X.blk s3 H3 scope ce fp) rfl rfl rfl hc i [] s5 _ H5 (fun _ _ => False) I5 (stat I5 n5) st5 stop
      refine thnF td fun r s6 ⟨hr, I6⟩ => ?_
      subst hr
      obtain ⟨I7, fC⟩ := back I6
      obtain ⟨m, hn, _⟩ := I6.loc
      have hn : s6.heap.Ns ce.locals m := hn
      rw [cL] at hn
      exact hRR D s3.heap.objs.size s6 m H5 I7 qq hn fC
    · have ti := T.item (X.blk s3 H3 scope ce fp) rfl rfl rfl hc i [] s5 _ H5 (fun _ _ => False) I5 (stat I5 n5) st5 go
      refine thnF ti fun r s6 ⟨u, hr, h6⟩ => ?_
      subst hr
      refine thnF h6 fun _ s7 ⟨x, H7, I7, r7, y7, st7, n7⟩ => ?_
      have I7' := I7.pinned (stat I7 n7) (T.obj _ _ st7)
      refine thn (pgX.run _ s7 _ H7 x u _ (inv_blkX I7') r7 (step x H7 y7)) fun _ s8 ⟨σ8, H8, I8, hw8, q8⟩ => ?_
      refine thn (ptX.run _ s8 σ8 H8 _ I8 q8) fun b s9 ⟨H9, I9, q9⟩ => ?_
      have fin : ∀ {s' : Shared} {H' : Hp}, Inv (blkX X s3 H3 scope ce fp xe) ([] ++ pinsAt fp s7.heap) σ8 H' s' → Nx H' → ∃ m, m < n ∧ ∃ i H', Inv (X.blk s3 H3 scope ce fp) [] (wipe σ (own.map (·.2))) H' s' ∧ tn i s'.heap ∧ (∀ b ∈ fp, H' b = none) ∧ W0 i m H' := fun {s' H'} I0' nx => by
        have I' := inv_blk I0'
        obtain ⟨m', hm, w'⟩ := hNx H' nx
        have pin' : ∀ b ∈ fp, ∀ o, s7.heap.get? b = some o → s'.heap.get? b = some o ∧ H' b = none := fun b hb o e =>
          let z := I'.pin (b, o) (List.mem_append_right _ (List.mem_append_right _ (mem_pinsAt hb e)))
          ⟨z.1, z.2.1⟩
        have hl : (wipe σ (own.map (·.2))).length = σ8.length := by rw [← hw8, wipe_length]
        refine ⟨m', hm, i + 1, H', (I'.unpinned (pins := [])).weak hl (fun j v e => ?_), T.keep _ _ _ st7 fun b hb o e => (pin' b hb o e).1, fun b hb => ?_, w'⟩
        · rw [← hw8] at e
          exact (wipe_some e).1
        · obtain ⟨o, e, _⟩ := T.obj _ _ st7 b hb
          exact (pin' b hb o e).2
      cases b with
      | false =>
        simp only [Bool.false_eq_true, if_false] at q9 ⊢
        exact fin I9 q9
      | true =>
        simp only [if_true] at q9 ⊢
        refine thn (peX.run _ s9 σ8 H9 _ I9 q9) fun z s10 ⟨yv, H10, I10, r10, acc, hD10, hz10, nx⟩ => ?_
        exact app_ok (X := blkX X s3 H3 scope ce fp xe) I10 hD10 hz10 r10 fun s11 I11 => fin I11 nx
  exact codeAny_compStart_list loop (T.self X.A 0 _ _ _ st4 loop)
theorem pe_lcX {elt tg iter : Expr} {ifs : List Expr} {scope : Scope} {own : List (Str × Nat)} {pos : Pos} {wi : TI} {g : TG} {tt : WX → TT} {te : WX → TE} (hs0 : X.stack = X.env :: X.outer) (hf0 : X.env.frame = some X.env.locals) (tk : Takes X W) (hc : X.calm = true) (hN : X.N.Nodup) (hi : PI X tg iter wi) (ok : BlkOk X.N X.env.scope scope own)
    (hg : ∀ (s : Shared) (H : Hp) (C : Addr) (cl : List (Str × Addr)) (fp : List Addr) (xe : Value → Shared → Prop), PG (blkX X s H scope (compEnvC scope cl C X.env) fp xe) tg g)
    (ht : ∀ (s : Shared) (H : Hp) (C : Addr) (cl : List (Str × Addr)) (fp : List Addr) (xe : Value → Shared → Prop) (W : WX), Takes (blkX X s H scope (compEnvC scope cl C X.env) fp xe) W → PTs (blkX X s H scope (compEnvC scope cl C X.env) fp xe) ifs (tt W))
    (he : ∀ (s : Shared) (H : Hp) (C : Addr) (cl : List (Str × Addr)) (fp : List Addr) (xe : Value → Shared → Prop) (W : WX), Takes (blkX X s H scope (compEnvC scope cl C X.env) fp xe) W → PE (blkX X s H scope (compEnvC scope cl C X.env) fp xe) elt (te W)) (hs : ∀ x, foldedSetIterable iter X.env x = pure x := by intro _; rfl) :
    PE X (.ListComp elt [⟨tg, iter, ifs, 0⟩] scope pos) (fun σ H Q => tLc wi g (tt (WB W σ)) (te (WB W σ)) (own.map (·.2)) σ H Q) := by
  refine ⟨fun pins s σ H Q I h => ?_⟩
  rw [eval_ListComp]
  refine lc_coreX hs0 hf0 tk hc hN I hi ok hg ht he hs h fun D C s' m H' I' q hn f => ⟨m, hn, fun h'' sb => ?_⟩
  obtain ⟨f0, f1, f2, f3, f4, f5⟩ := f
  exact ⟨.ref D, H', I'.turned (t' := s'.toks) (fun b o hb e => (sb.2 b hb).trans e) f0 f1 f3 f4 f5, rfl, q⟩
end
end TB
namespace TB
open PySem PySem.Spec PyProof.Rows L2
/-- the items that a comprehension makes, or what an item raises -/
def compX (g : D → R (List (Nat × D))) (tt : Ev → R Bool) (te : Ev → R D) (ρ : Ev) : List D → R (List D)
  | [] => .ok []
  | d :: ds => match g d with
    | .ok ps => match tt (setD ps ρ) with
      | .ok true => match te (setD ps ρ) with
        | .ok y => (compX g tt te ρ ds).map (y :: ·)
        | .exc c => .exc c
        | .bad => .bad
      | .ok false => compX g tt te ρ ds
      | .exc c => .exc c
      | .bad => .bad
    | _ => .bad
namespace E
def compX (vs : List Nat) (fi : Ev → R (List D)) (g : D → R (List (Nat × D))) (tt : Ev → R Bool) (te : Ev → R D) : Ev → R (List D) := fun ρ => (fi ρ).bind fun ds =>
  if ds.length ≤ LINE then TB.compX g tt te (wipeE vs ρ) ds else .bad
end E
section
variable {X : Cx} {mg : Str → Option Value} {C : Addr} {W : WX} {a tg : Expr} {pos : Pos} {g : D → R (List (Nat × D))}
theorem seqLcX {wi : Ev → R (List D)} {tt : Ev → R Bool} {te : Ev → R D} {vs : List Nat} (hsub : ∀ d ps, g d = .ok ps → ∀ i ∈ ps.map (·.1), i ∈ vs) {σ : L2.St} {H : Hp} {Q : VK} (x : tL mg C W (E.compX vs wi g tt te) σ H Q) :
    tLc (tI mg C W wi) (tG C g) (tB mg C (WB W σ) tt) (tD mg C (WB W σ) te) vs σ H Q := by
  obtain ⟨F, ρ, s, ok, x⟩ := x
  unfold tLc
  refine ⟨F, ρ, s, ok, ?_⟩
  unfold E.compX at x
  cases e1 : wi ρ with
  | bad => rw [e1] at x; exact x
  | exc c => rw [e1] at x; exact x
  | ok ds =>
    rw [e1, R.bind_ok] at x
    by_cases hz : ds.length ≤ LINE
    · rw [if_pos hz] at x
      intro J H1 F1 n1 it Dd hD
      let P : R (List D) → List D → Prop := fun r acc => match r with
        | .ok rest => ∀ p xs H' F', Nx F H F' H' → H p = none → F' p = none → H' p = some (.lst xs) → Reps C F' (acc ++ rest) xs → Q (.ref p) H'
        | .exc c => Exc mg W c σ H
        | .bad => False
      have px : P (compX g tt te (wipeE vs ρ) ds) [] := by
        show match compX g tt te (wipeE vs ρ) ds with
          | .ok rest => ∀ p xs H' F', Nx F H F' H' → H p = none → F' p = none → H' p = some (.lst xs) → Reps C F' ([] ++ rest) xs → Q (.ref p) H'
          | .exc c => Exc mg W c σ H
          | .bad => False
        cases e2 : compX g tt te (wipeE vs ρ) ds with
        | bad => rw [e2] at x; exact x
        | exc c => rw [e2] at x; exact x
        | ok r => rw [e2] at x; exact x
      refine ⟨fun i m H' => m = ds.length - i ∧ i ≤ ds.length ∧ ∃ Fi acc av, Nx F1 H1 Fi H' ∧ Fi Dd = none ∧ H' Dd = some (.lst av) ∧ Reps C Fi acc av ∧ acc.length ≤ i ∧ P (compX g tt te (wipeE vs ρ) (ds.drop i)) acc,
        ⟨ds.length, by simp, Nat.zero_le _, F1, [], [], .hid n1.fh hD, n1.fh.non hD, upd_same, by simp only [Reps], Nat.le_refl _, px⟩, ?_⟩
      rintro i m H' ⟨rfl, hi, Fi, acc, av, ni, fd, hl, ra, la, er⟩
      have exc : ∀ {c : Str} {σ2 : L2.St} {H2 : Hp}, Exc mg W c σ H → Sm H H2 → Exc mg (WB W σ) c σ2 H2 := fun {c σ2 H2} q z b hb H3 z3 => q b hb H3 (z.tr z3)
      by_cases hlt : i < ds.length
      · refine .inr ⟨it.go i H' (ni.ff.tr ni.fh) hlt, fun H'' => ∃ Fi acc av, Nx F1 H1 Fi H'' ∧ Fi Dd = none ∧ H'' Dd = some (.lst av) ∧ Reps C Fi acc av ∧ acc.length ≤ i + 1 ∧ P (compX g tt te (wipeE vs ρ) (ds.drop (i + 1))) acc,
          fun H'' w => ⟨ds.length - (i + 1), by omega, rfl, hlt, w⟩, fun v H2 y => ?_⟩
        obtain ⟨F2, d, ed, n2, rd⟩ := it.yld i H' Fi v H2 ni.ff ni.fh y hlt
        rw [show ds.drop i = d :: ds.drop (i + 1) by
          rw [List.drop_eq_getElem_cons hlt]
          congr
          rw [List.getElem?_eq_getElem hlt] at ed
          exact Option.some.inj ed] at er
        have hd2 : H2 Dd = some (.lst av) := n2.hh _ _ hl
        have f2d : F2 Dd = none := by
          cases e : F2 Dd with
          | none => rfl
          | some o =>
            rcases n2.new Dd (by rw [e]; exact fun z => nomatch z) with z | z
            · exact absurd fd z
            · rw [hl] at z; cases z
        refine ⟨F2, d, n2.fh, rd, ?_⟩
        unfold compX at er
        cases eg : g d with
        | bad => rw [eg] at er; exact er.elim
        | exc c => rw [eg] at er; exact er.elim
        | ok ps =>
          rw [eg] at er
          dsimp only at er
          intro us pu
          refine ⟨wipe_setV fun i hi => hsub d ps eg i (by rw [← pu.fst]; exact hi), ?_⟩
          have ok2 : SlOk C F2 (setV us (L2.wipe σ vs)) (setD ps (wipeE vs ρ)) := ((ok.mono (n1.ff.tr (ni.ff.tr n2.ff))).wipe vs).sets pu
          refine ⟨F2, setD ps (wipeE vs ρ), n2.fh, ok2, ?_⟩
          have hh2 : Sm H H2 := n1.hh.tr (ni.hh.tr n2.hh)
          cases ett : tt (setD ps (wipeE vs ρ)) with
          | bad => rw [ett] at er; exact er
          | exc c => rw [ett] at er; exact exc er hh2
          | ok b =>
            rw [ett] at er
            intro H3 s3
            have n3 : Nx F1 H1 F2 H3 := (ni.tr n2).tr ⟨Sm.rfl, s3, n2.fh.tr s3, fun a h => .inl h⟩
            cases b with
            | false =>
              dsimp only at er
              rw [if_neg Bool.false_ne_true]
              exact ⟨F2, acc, av, n3, f2d, s3 _ _ hd2, Reps.mono n2.ff _ _ ra, by omega, er⟩
            | true =>
              dsimp only at er
              rw [if_pos rfl]
              refine ⟨F2, setD ps (wipeE vs ρ), n2.fh.tr s3, ok2, ?_⟩
              cases ee : te (setD ps (wipeE vs ρ)) with
              | bad => rw [ee] at er; exact er
              | exc c => rw [ee] at er; exact exc er (hh2.tr s3)
              | ok y =>
                rw [ee] at er
                dsimp only at er
                intro v4 H4 F4 n4 r4
                have hd4 : H4 Dd = some (.lst av) := n4.hh _ _ (s3 _ _ hd2)
                have f4d : F4 Dd = none := by
                  cases e : F4 Dd with
                  | none => rfl
                  | some o =>
                    rcases n4.new Dd (by rw [e]; exact fun z => nomatch z) with z | z
                    · exact absurd f2d z
                    · rw [s3 _ _ hd2] at z; cases z
                have n14 := n3.tr n4
                refine ⟨av, hd4, line_lt (by rw [ra.len]; omega), F4, acc ++ [y], av ++ [v4], ⟨n14.ff, fun b o e => ?_, fun b o e => ?_, n14.new⟩, f4d, upd_same, (Reps.mono (n2.ff.tr n4.ff) _ _ ra).app (Reps.one r4), by simp; omega, ?_⟩
                · rw [upd_ne (ne_of_none e hD)]; exact n14.hh _ _ e
                · rw [upd_ne (ne_of_none e f4d)]; exact n14.fh _ _ e
                · cases ec : compX g tt te (wipeE vs ρ) (ds.drop (i + 1)) with
                  | bad => rw [ec] at er; exact er
                  | exc c => rw [ec] at er; exact er
                  | ok r2 =>
                    rw [ec, R.map_ok] at er
                    intro p xs H5 F5 q1 q2 q3 q4 q5
                    rw [List.append_assoc] at q5
                    exact er p xs H5 F5 q1 q2 q3 q4 q5
      · have ei : i = ds.length := by omega
        subst ei
        refine .inl ⟨it.stop _ H' (ni.ff.tr ni.fh) rfl, ?_⟩
        rw [List.drop_length] at er
        refine er Dd av H' Fi (n1.tr ni) (by
          cases e : H Dd with
          | none => exact Eq.refl none
          | some o => rw [n1.hh _ _ e] at hD; cases hD) fd hl ?_
        rw [List.append_nil]
        exact ra
    · rw [if_neg hz] at x
      exact x.elim
theorem l_compX {iter : Expr} {ifs : List Expr} {scope : Scope} {own : List (Str × Nat)} {wi : Ev → R (List D)} {tt : Ev → R Bool} {te : Ev → R D} (hs0 : X.stack = X.env :: X.outer) (hf0 : X.env.frame = some X.env.locals) (tk : Takes X W) (hc : X.calm = true) (hN : X.N.Nodup) (hi : PI X tg iter (tI mg C W wi)) (ok : BlkOk X.N X.env.scope scope own)
    (hg : ∀ (s : Shared) (H : Hp) (Ca : Addr) (cl : List (Str × Addr)) (fp : List Addr) (xe : Value → Shared → Prop), PG (blkX X s H scope (compEnvC scope cl Ca X.env) fp xe) tg (tG C g)) (hsub : ∀ d ps, g d = .ok ps → ∀ i ∈ ps.map (·.1), i ∈ own.map (·.2))
    (ht : ∀ (s : Shared) (H : Hp) (Ca : Addr) (cl : List (Str × Addr)) (fp : List Addr) (xe : Value → Shared → Prop) (W : WX), Takes (blkX X s H scope (compEnvC scope cl Ca X.env) fp xe) W → PTs (blkX X s H scope (compEnvC scope cl Ca X.env) fp xe) ifs (tB mg C W tt))
    (he : ∀ (s : Shared) (H : Hp) (Ca : Addr) (cl : List (Str × Addr)) (fp : List Addr) (xe : Value → Shared → Prop) (W : WX), Takes (blkX X s H scope (compEnvC scope cl Ca X.env) fp xe) W → PE (blkX X s H scope (compEnvC scope cl Ca X.env) fp xe) a (tD mg C W te)) (hs : ∀ x, foldedSetIterable iter X.env x = pure x := by intro _; rfl) :
    PE X (.ListComp a [⟨tg, iter, ifs, 0⟩] scope pos) (tL mg C W (E.compX (own.map (·.2)) wi g tt te)) :=
  PE.to (pe_lcX (tt := fun W => tB mg C W tt) (te := fun W => tD mg C W te) hs0 hf0 tk hc hN hi ok hg ht he hs) fun σ H Q x => seqLcX hsub x
theorem ps_setCompX {i : Nat} {y : Str} {py spos : Pos} {iter : Expr} {ifs : List Expr} {scope : Scope} {own : List (Str × Nat)} {wi : Ev → R (List D)} {tt : Ev → R Bool} {te : Ev → R D} (hy : X.N[i]? = some y) (hyl : X.env.scope.names.lookup y = some .local)
    (hsw : swapsWith (.ListComp a [⟨tg, iter, ifs, 0⟩] scope pos) (some (.Name y py)) spos.line X.env = pure true) (hs0 : X.stack = X.env :: X.outer) (hf0 : X.env.frame = some X.env.locals) (tk : Takes X W) (hc : X.calm = true) (hN : X.N.Nodup) (hi : PI X tg iter (tI mg C W wi)) (ok : BlkOk X.N X.env.scope scope own)
    (hg : ∀ (s : Shared) (H : Hp) (Ca : Addr) (cl : List (Str × Addr)) (fp : List Addr) (xe : Value → Shared → Prop), PG (blkX X s H scope (compEnvC scope cl Ca X.env) fp xe) tg (tG C g)) (hsub : ∀ d ps, g d = .ok ps → ∀ i ∈ ps.map (·.1), i ∈ own.map (·.2))
    (ht : ∀ (s : Shared) (H : Hp) (Ca : Addr) (cl : List (Str × Addr)) (fp : List Addr) (xe : Value → Shared → Prop) (W : WX), Takes (blkX X s H scope (compEnvC scope cl Ca X.env) fp xe) W → PTs (blkX X s H scope (compEnvC scope cl Ca X.env) fp xe) ifs (tB mg C W tt))
    (he : ∀ (s : Shared) (H : Hp) (Ca : Addr) (cl : List (Str × Addr)) (fp : List Addr) (xe : Value → Shared → Prop) (W : WX), Takes (blkX X s H scope (compEnvC scope cl Ca X.env) fp xe) W → PE (blkX X s H scope (compEnvC scope cl Ca X.env) fp xe) a (tD mg C W te)) (hs : ∀ x, foldedSetIterable iter X.env x = pure x := by intro _; rfl) :
    PS X (.Assign [.Name y py] (.ListComp a [⟨tg, iter, ifs, 0⟩] scope pos) spos) (tAsg (tL mg C W (E.compX (own.map (·.2)) wi g tt te)) (gName i)) := by
  refine ⟨fun pins s σ H D I h => ?_⟩
  rw [exec_Assign_Name_used _ _ _ _ hsw]
  refine wpAny_bind (wpAny_standAt (wpAny_bind ?_))
  show wpAny _ X.A (do let _ ← comprehension (.ListComp a [⟨tg, iter, ifs, 0⟩] scope pos) scope X.env (firstIterPos [⟨tg, iter, ifs, 0⟩] pos) (newList []) false (eval iter X.env) (some (assign (.Name y py) X.env))) _ _ s
  have h : tL mg C W (E.compX (own.map (·.2)) wi g tt te) σ H (fun x H1 => gName i x σ H1 D.nx) := h
  have h2 := seqLcX hsub h
  refine wpAny_bind (thn (lc_coreX (tt := fun W => tB mg C W tt) (te := fun W => tD mg C W te) (Qf := fun _ s' => SP X pins D .next s') hs0 hf0 tk hc hN I hi ok hg ht he hs h2 fun L c s' m H' I' q hn f => ?_) fun _ s' hq => wpAny_pure (wpAny_pure hq))
  show wpAny _ _ (assign (.Name y py) X.env (.ref L)) _ _ _
  refine wpAny_assign_Name (store_ok2 (v := V.ref L) I' hN hy (.inl hyl) rfl (fun s2 I2 ⟨b, sb, ha⟩ => ?_) (.inr hyl))
  obtain ⟨f0, f1, f2, f3, f4, f5⟩ := f
  have haC : c ≠ b := by
    rcases ha with z | z
    · rw [z]; exact f1
    · exact fun e => f4 y b z e.symm
  refine ⟨m, hn.sameBut sb haC, fun h3 sb3 => ?_⟩
  exact ⟨_, H', I2.turned (t' := s2.toks) (fun b o hb e => (sb3.2 b hb).trans e) f0 f1 f3 f4 f5, q⟩
end
theorem compX_ok {g : D → R (List (Nat × D))} {tt : Ev → R Bool} {te : Ev → R D} {ρ : Ev} : ∀ {ds : List D} {l : List D}, compF g tt te ρ ds = .ok l → compX g tt te ρ ds = .ok l
  | [], l, h => h
  | d :: ds, l, h => by
    unfold compF at h
    unfold compX
    cases e1 : g d with
    | bad => rw [e1] at h; cases h
    | exc c => rw [e1] at h; cases h
    | ok ps =>
      rw [e1] at h
      dsimp only at h ⊢
      cases e2 : tt (setD ps ρ) with
      | bad => rw [e2] at h; cases h
      | exc c => rw [e2] at h; cases h
      | ok b =>
        rw [e2] at h
        cases b with
        | false =>
          dsimp only at h ⊢
          exact compX_ok h
        | true =>
          dsimp only at h ⊢
          cases e3 : te (setD ps ρ) with
          | bad => rw [e3] at h; cases h
          | exc c => rw [e3] at h; cases h
          | ok y =>
            rw [e3] at h
            dsimp only at h ⊢
            cases e4 : compF g tt te ρ ds with
            | bad => rw [e4] at h; cases h
            | exc c => rw [e4] at h; cases h
            | ok r =>
              rw [e4] at h
              rw [compX_ok e4]
              exact h
end TB
namespace TB
open PySem PySem.Spec PyProof.Rows L2
section
variable {X : Cx} {mg : Str → Option Value} {C : Addr} {W : WX} {c : Expr} {p : Ev → R Bool}
theorem t_nilX : PTs X [] (tB mg C W yes) := by
  refine ⟨fun pins s σ H Q I x => ?_⟩
  obtain ⟨F, ρ, sm, ok, x⟩ := x
  exact wpAny_tests_nil ⟨H, I, x H Sm.rfl⟩
theorem t_oneX (hc : PT X c (tB mg C W p)) : PTs X [c] (tB mg C W p) := pts_one hc
end
end TB
/-! a def that hands over a new pair of a value and a new list -/
namespace TB
open PySem PySem.Spec PyProof.Rows L2

/-- what stands behind a chain of statements -/
def tSK (mg : Str → Option Value) (C : Addr) (W : WX) (u : Ev → Out) (N : TS) : TS := fun Dn σ H => tS mg C W u { Dn with nx := N Dn } σ H
/-- a pair of a flat value and the own list of slot i -/
def retT (f : Ev → R D) (i : Nat) : Ev → R (D × List D) := fun ρ => match ρ[i]? with
  | some (.own ds) => match f (full ρ) with
    | .ok d => if flat d then .ok (d, ds) else .bad
    | _ => .bad
  | _ => .bad
def tRT (C : Addr) (f : Ev → R D) (i : Nat) : TS := fun Dn σ H => ∃ B Fc F ρ, SO C B Fc F σ H ρ ∧ match retT f i ρ with
  | .ok q => ∀ t p v xs H' F', Sm B H' → Sm Fc F' → Sm F' H' → (∀ a, F' a ≠ none → Fc a ≠ none ∨ B a = none) → B p = none → F' p = none → H' p = some (.lst xs) → Reps C F' q.2 xs → Rep C F' q.1 v → H' t = some (.tup [v, .ref p]) → Dn.rt (.ref t) H'
  | _ => False
def SpT (mg : Str → Option Value) (C : Addr) (n : Nat) (g : List D → R (D × List D)) : Sp := fun vs H Q E' => vs.length = n ∧ ∃ F ds, Sm F H ∧ Reps C F ds vs ∧ match g ds with
  | .ok q => ∀ t p v xs H' F', Nx F H F' H' → H p = none → F' p = none → H' p = some (.lst xs) → Reps C F' q.2 xs → Rep C F' q.1 v → H' t = some (.tup [v, .ref p]) → Q (.ref t) H'
  | .exc c => ∀ a, mg c = some (.ref a) → ∀ H', Sm H H' → E' (.ref a) none H'
  | .bad => False
abbrev OkT (P : Program) (w : World) (K : PySem.W.Frag) (mg : Str → Option Value) (base : Heap) (k : Nat) (x : Str) (ps : List Str) (g : List D → R (D × List D)) : Prop :=
  FnOk P w K mg base (L2.CX P w) k (He.ga K x) (fdOf K (He.ga K x)) ps (SpT mg (shopC K) ps.length g)
/-- .. by its body -/
def gT (pre : Ev → Out) (f : Ev → R D) (i n : Nat) (ds : List D) : R (D × List D) := match pre (start n ds) with
  | .nx ρ => retT f i ρ
  | .ex c _ => .exc c
  | _ => .bad
section
variable {X : Cx} {mg : Str → Option Value} {C : Addr} {W : WX} {a : Expr} {pos : Pos} {f : Ev → R D} {u k : Ev → Out} {st : Stmt} {sts : List Stmt} {N : TS}
theorem ss_consK (h1 : PS X st (tS mg C W u)) (h2 : PSs X sts (tSK mg C W k N)) : PSs X (st :: sts) (tSK mg C W (S.seq u k) N) := PSs.to (pss_cons h1 h2) fun Dn σ H x => by
  obtain ⟨B, Fc, F, ρ, S0, x⟩ := x
  refine ⟨B, Fc, F, ρ, S0, ?_⟩
  unfold S.seq at x
  cases e1 : u ρ with
  | nx ρ' =>
    rw [e1] at x
    exact fun σ' H' F' S' => ⟨B, Fc, F', ρ', S', x⟩
  | rt d => rw [e1] at x; exact x
  | ro d => rw [e1] at x; exact x
  | ex c d => rw [e1] at x; exact x
  | bad => rw [e1] at x; exact x
theorem ss_lastK (h : PS X st N) : PSs X [st] (tSK mg C W S.skip N) := PSs.to (pss_one h) fun Dn σ H x => by
  obtain ⟨B, Fc, F, ρ, S0, x⟩ := x
  exact x σ H F S0
theorem s_retT {i kk : Nat} {b : Expr} {pos2 : Pos} (ha : PE X a (tD mg C W f)) (hb : PE X b (tVar i)) (h1 : starEach [a, b] X.env = (false, eval a X.env) :: starEach [b] X.env := by rfl) (h2 : starEach [b] X.env = [(false, eval b X.env)] := by rfl) :
    PS X (.Return (some (.Tuple [a, b] kk pos)) pos2) (tRT C f i) := PS.to (ps_ret (pe_tup (pa_cons ha (pa_cons hb pa_nil h2) h1))) fun Dn σ H x => by
  obtain ⟨B, Fc, F, ρ, S0, x⟩ := x
  unfold retT at x
  split at x
  · rename_i q hq
    split at hq
    · rename_i ds e
      split at hq
      · rename_i d ed
        split at hq
        · rename_i hf
          cases hq
          obtain ⟨F2, S2, ff⟩ := S0.full
          refine ⟨F2, full ρ, S2.fh, S2.sh, ?_⟩
          rw [ed]
          intro v H1 F1 n r
          have S1 := S0.only n.hh
          obtain ⟨p, xs, g1, g2, g3, g4, g5⟩ := S1.own i ds e
          refine ⟨.ref p, g1, by show 2 ≤ sizeLine; decide, fun t nt => ?_⟩
          refine x t p v xs _ F (S1.bh.tr (Sm.upd nt)) S1.cf (S1.fh.tr (Sm.upd nt)) S1.new g4 g3 ?_ g5 (flat_go hf r) upd_same
          rw [upd_ne (ne_of_none g2 nt)]
          exact g2
        · cases hq
      · cases hq
    · cases hq
  · exact x.elim
end
section
variable {P : Program} {w : World} {K : PySem.W.Frag} {mg : Str → Option Value} {base : Heap}
theorem fnT {x : Str} {st : Stmt} {N ps : List Str} {k i : Nat} {pre : Ev → Out} {f : Ev → R D} (D0 : Df K mg x st ps) (S0 : FnScope N ps (defScope st))
    (hb : ∀ (cdv : Value) (A : Around) (outer : List Env) (s : Shared) (H : Hp) (E' : XK), Room k (A.deeper (envOfC x (defScope st) s.heap.objs.size (He.ga K x) cdv)) → ∀ W : WX, Takes (cxOf (L2.CX P w) P w K mg base N x (defScope st) (He.ga K x) cdv A outer s H E') W →
      PSs (cxOf (L2.CX P w) P w K mg base N x (defScope st) (He.ga K x) cdv A outer s H E') (defBody st) (tSK mg (shopC K) W pre (tRT (shopC K) f i))) :
    OkT P w K mg base (k + 1) x ps (gT pre f i N.length) := by
  refine D0.F.okX S0 (fun vs H Q E h => h.1) fun cdv A outer s H vs Q E' hr h => ?_
  obtain ⟨hl, F, ds, sm, r, y⟩ := h
  refine ⟨_, hb cdv A outer s H E' hr (fun cls d _ H => E' cls d H) (takes_of rfl rfl rfl rfl), ?_⟩
  refine ⟨H, F, F, start N.length ds, start_so sm r, ?_⟩
  unfold gT at y
  cases e1 : pre (start N.length ds) with
  | nx ρ =>
    rw [e1] at y
    intro σ' H' F' S'
    refine ⟨H, F, F', ρ, S', ?_⟩
    dsimp only at y
    cases e2 : retT f i ρ with
    | bad => rw [e2] at y; exact y
    | exc c =>
      exfalso
      unfold retT at e2
      split at e2
      · split at e2
        · split at e2 <;> cases e2
        · cases e2
      · cases e2
    | ok q =>
      rw [e2] at y
      exact fun t p v xs H2 F2 a b c e bp fp hp rl rv ht => y t p v xs H2 F2 ⟨b, a, c, e⟩ bp fp hp rl rv ht
  | rt d => rw [e1] at y; exact y.elim
  | ro es => rw [e1] at y; exact y.elim
  | ex c ρ =>
    rw [e1] at y
    exact fun a ha σ' H' F' S' => y a ha H' S'.bh
  | bad => rw [e1] at y; exact y.elim
end
/-- the second part -/
def sndR (g : List D → R (D × List D)) (ds : List D) : R (List D) := (g ds).map (·.2)
section
variable {X : Cx} {W : WX} {e : Expr} {pos : Pos} {es : List Expr} {fs : Ev → R (List D)}
theorem l_defT {j k jj : Nat} {x : Str} {st : Stmt} {ps : List Str} {g : List D → R (D × List D)} {p1 p2 p3 : Pos} (Fn : OkT X.prog X.w X.K X.mg X.base j x ps g) (D0 : Df X.K X.mg x st ps) (hr : Room k X.A) (hjk : j ≤ k) (tk : Takes X W) (ha : PA X (e :: es) (tA X.mg (shopC X.K) W fs))
    (hfl : ∀ ρ ds, fs ρ = .ok ds → ds.length = ps.length) (hg : Gl X x := by rfl) (hl : (e :: es).length = ps.length := by rfl) (hdb : (x == ("__debug__" : Str)) = false := by decide)
    (he : starEach (e :: es) X.env = (false, eval e X.env) :: starEach es X.env := by rfl) (hpl : (backTo pos (starEach es X.env)).any (·.1) = false := by rfl) (hs : PlainIx (.Constant (.int 1) jj p2) := by exact fun _ _ => rfl) :
    PE X (.Subscript (.Call (.Name x p1) (e :: es) [] pos) (.Constant (.int 1) jj p2) p3) (tL X.mg (shopC X.K) W (E.appL (sndR g) fs)) :=
  PE.to (pe_ix (r := rIx X.K) ix_seq (pe_callS Fn (hr.mono hjk) hg D0.g D0.F.kp D0.b (fun σ => passAt tk σ) ha hdb he hpl) pe_int hs) fun σ H Q y => by
    obtain ⟨F, ρ, s, ok, y⟩ := y
    refine ⟨F, ρ, s, ok, ?_⟩
    unfold E.appL sndR at y
    cases e1 : fs ρ with
    | bad => rw [e1] at y; exact y
    | exc c => rw [e1] at y; exact y
    | ok ds =>
      rw [e1, R.bind_ok] at y
      intro vs H1 F1 n1 r1
      refine ⟨by rw [r1.len]; exact hfl _ _ e1, F1, ds, n1.fh, r1, ?_⟩
      cases e2 : g ds with
      | bad => rw [e2] at y; exact y.elim
      | exc c => rw [e2] at y; exact fun a ha H' s' => y a ha H' (n1.hh.tr s')
      | ok q =>
        rw [e2, R.map_ok] at y
        intro t p v xs H' F' n2 hp fp hl rl rv ht
        refine .inr (.inl ⟨t, [v, .ref p], 1, .ref p, rfl, rfl, SqT.of ht, rfl, ?_⟩)
        refine y p xs H' F' (n1.tr n2) ?_ fp hl rl
        cases e : H p with
        | none => exact Eq.refl none
        | some o => rw [n1.hh _ _ e] at hp; cases hp
end
end TB
/-! a list of one's own or another thing; a new shop beside lists of one's own; list(range(n)); upper; not in, any depth -/
namespace TB
open PySem PySem.Spec PyProof.Rows L2

namespace S
/-- x = list(..) if c else y -/
def asgC (i : Nat) (c : Ev → R Bool) (fs : Ev → R (List D)) (f : Ev → R D) : Ev → Out := fun ρ => match c ρ with
  | .ok true => asgO false i fs ρ
  | .ok false => asg false i f ρ
  | .exc c => .ex c ρ
  | .bad => .bad
end S
/-- what may stand beside lists of one's own -/
def okA (ρ : Ev) : D → Bool
  | .shop (n :: ns) (p :: ps) => (n :: ns).all flat && ((p :: ps).all flat && ρ.all fun s => match s with
    | .own (.tup _ :: _) => true
    | .own _ => false
    | _ => true)
  | d => flat d
namespace S
def asgA (i : Nat) (f : Ev → R D) : Ev → Out := fun ρ => match f (full ρ) with
  | .ok d => if okA ρ d then .nx (ρ.set i (.sh d)) else .bad
  | .exc c => .ex c ρ
  | .bad => .bad
end S
section
variable {C : Addr} {B Fc F : Hp} {σ : L2.St} {H : Hp} {ρ : Ev}
open Classical
theorem SO.full2 (S : SO C B Fc F σ H ρ) : ∃ F', SO C B Fc F' σ H (TB.full ρ) ∧ Sm F F' ∧ ∀ a, F' a ≠ none → F a ≠ none ∨ ∃ (i : Nat) (ds : List D), ρ[i]? = some (.own ds) ∧ σ[i]? = some (some (.ref a)) := by
  let own (a : Addr) : Prop := ∃ (i : Nat) (ds : List D), ρ[i]? = some (.own ds) ∧ σ[i]? = some (some (.ref a))
  obtain ⟨F1, S1, s1⟩ := S.full
  let F' : Hp := fun a => if F a ≠ none ∨ own a then H a else none
  have ff : Sm F F' := fun b o e => by
    show (if F b ≠ none ∨ own b then H b else none) = some o
    rw [if_pos (.inl (by rw [e]; exact fun z => nomatch z))]
    exact S.fh _ _ e
  have fh : Sm F' H := fun b o e => by
    have e : (if F b ≠ none ∨ own b then H b else none) = some o := e
    by_cases h : F b ≠ none ∨ own b
    · rw [if_pos h] at e; exact e
    · rw [if_neg h] at e; cases e
  refine ⟨F', ⟨S.bh, S.cf.tr ff, fh, fun a h => ?_, ⟨by simpa [TB.full] using S.sh.1, fun i d e => ?_⟩, fun i ds e => ?_, fun i j ds es p e => ?_⟩, ff, fun a h => ?_⟩
  · have h : (if F a ≠ none ∨ own a then H a else none) ≠ none := h
    by_cases q : F a ≠ none ∨ own a
    · rcases q with q | ⟨i, ds, e1, e2⟩
      · exact S.new a q
      · obtain ⟨p, xs, h1, h2, h3, h4, h5⟩ := S.own i ds e1
        rw [e2] at h1
        cases h1
        exact .inr h4
    · rw [if_neg q] at h; exact absurd rfl h
  · rcases full_at e with e0 | ⟨ds, rfl, e0⟩
    · obtain ⟨v, h1, r⟩ := S.sh.2 i d e0
      exact ⟨v, h1, r.mono ff⟩
    · obtain ⟨p, xs, h1, h2, h3, h4, h5⟩ := S.own i ds e0
      refine ⟨.ref p, h1, ?_⟩
      simp only [Rep]
      refine ⟨p, xs, rfl, ?_, Reps.mono ff _ _ h5⟩
      show (if F p ≠ none ∨ own p then H p else none) = some (.lst xs)
      rw [if_pos (.inr ⟨i, ds, e0, h1⟩)]
      exact h2
  · exact S1.own i ds e |>.elim fun p h => absurd e (by
      unfold TB.full
      rw [List.getElem?_map]
      cases q : ρ[i]? with
      | none => exact fun z => nomatch z
      | some s => cases s <;> exact fun z => nomatch z)
  · exact absurd e (by
      unfold TB.full
      rw [List.getElem?_map]
      cases q : ρ[i]? with
      | none => exact fun z => nomatch z
      | some s => cases s <;> exact fun z => nomatch z)
  · have h : (if F a ≠ none ∨ own a then H a else none) ≠ none := h
    by_cases q : F a ≠ none ∨ own a
    · exact q
    · rw [if_neg q] at h; exact absurd rfl h
end
section
variable {X : Cx} {mg : Str → Option Value} {C : Addr} {W : WX} {e a b c : Expr} {pos : Pos} {f h : Ev → R D} {p : Ev → R Bool} {fs : Ev → R (List D)} {st : Stmt}
theorem s_asgC {i : Nat} (hs : PS X st (tAsg (tIf (tB mg C W p) (tL mg C W fs) (tD mg C W f)) (gName i))) : PS X st (tS mg C W (S.asgC i p fs f)) := PS.to hs fun Dn σ H x => by
  obtain ⟨B, Fc, F, ρ, S0, x⟩ := x
  unfold S.asgC at x
  refine ⟨F, ρ, S0.fh, S0.sh, ?_⟩
  cases e1 : p ρ with
  | bad => rw [e1] at x; exact x
  | exc c => rw [e1] at x; exact fun a ha H' s => x a ha σ H' F (S0.only s)
  | ok t =>
    rw [e1] at x
    intro H1 s1
    have S1 := S0.only s1
    cases t with
    | true =>
      dsimp only at x
      rw [if_pos rfl]
      refine evL_run S1 x fun ds p xs H' F' S' s np bp fp hl r y => y _ _ _ (S'.setO hl fp bp (fun j es e z => ?_) r)
      obtain ⟨p', xs', h1, h2, _⟩ := S1.own j es e
      rw [h1] at z
      cases z
      rw [np] at h2
      cases h2
    | false =>
      dsimp only at x
      rw [if_neg Bool.false_ne_true]
      exact ev_run S1 x fun d v H' F' S' s r y => y _ _ _ (S'.set r)
open Classical in
theorem s_asgA {i : Nat} (hs : PS X st (tAsg (tD mg C W f) (gName i))) : PS X st (tS mg C W (S.asgA i f)) := PS.to hs fun Dn σ H x => by
  obtain ⟨B, Fc, F, ρ, S0, x⟩ := x
  unfold S.asgA at x
  obtain ⟨F2, S2, ff, lim⟩ := S0.full2
  refine ⟨F2, full ρ, S2.fh, S2.sh, ?_⟩
  cases e1 : f (full ρ) with
  | bad => rw [e1] at x; exact x
  | exc c => rw [e1] at x; exact fun a ha H' s => x a ha σ H' F (S0.only s)
  | ok d =>
    rw [e1] at x
    dsimp only at x
    by_cases hk : okA ρ d = true
    · rw [if_pos hk] at x
      intro v H' F' n r
      by_cases hf : flat d = true
      · exact x _ _ _ ((S0.only n.hh).set (flat_go hf r))
      · -- a shop
        obtain ⟨n0, ns, p0, ps, rfl⟩ : ∃ n0 ns p0 ps, d = .shop (n0 :: ns) (p0 :: ps) := by
          unfold okA at hk
          split at hk
          · exact ⟨_, _, _, _, rfl⟩
          · exact absurd hk hf
        simp only [okA, Bool.and_eq_true] at hk
        obtain ⟨k1, k2, k3⟩ := hk
        let own (a : Addr) : Prop := ∃ (i : Nat) (ds : List D), ρ[i]? = some (.own ds) ∧ σ[i]? = some (some (.ref a))
        let G : Hp := fun a => if own a then none else F' a
        have gOwn : ∀ {a}, own a → G a = none := fun {a} h => by
          show (if own a then none else F' a) = none
          rw [if_pos h]
        have gNot : ∀ {a}, ¬ own a → G a = F' a := fun {a} h => by
          show (if own a then none else F' a) = F' a
          rw [if_neg h]
        -- what an own list is
        have ownL : ∀ {a}, own a → ∃ q zs, F' a = some (.lst (.ref q :: zs)) := fun {a} h => by
          obtain ⟨j, ds, g1, g2⟩ := h
          have al := List.all_eq_true.mp k3 (.own ds) (List.mem_of_getElem? g1)
          have fl : (full ρ)[j]? = some (.sh (.lst ds)) := by
            unfold TB.full
            rw [List.getElem?_map, g1]
            rfl
          obtain ⟨u, h1, r1⟩ := S2.sh.2 j _ fl
          rw [g2] at h1
          cases h1
          have r1 := r1.mono n.ff
          simp only [Rep] at r1
          obtain ⟨a', zs, e, h2, r2⟩ := r1
          cases e
          match ds, al with
          | .tup ts :: ds, _ =>
            simp only [Reps, Rep] at r2
            obtain ⟨v1, r, rfl, ⟨a1, xs1, rfl, _, _⟩, _⟩ := r2
            exact ⟨_, _, h2⟩
        have nx : Nx F H G H' := by
          refine ⟨fun b o q => ?_, n.hh, fun b o q => ?_, fun a h => ?_⟩
          · have : ¬ own b := fun z => by
              obtain ⟨j, ds, g1, g2⟩ := z
              obtain ⟨p', xs, h1, h2, h3, _⟩ := S0.own j ds g1
              rw [g2] at h1
              cases h1
              rw [q] at h3
              cases h3
            rw [gNot this]
            exact n.ff _ _ (ff _ _ q)
          · by_cases z : own b
            · rw [gOwn z] at q; cases q
            · rw [gNot z] at q
              exact n.fh _ _ q
          · by_cases z : own a
            · exact absurd (gOwn z) h
            · rw [gNot z] at h
              rcases n.new a h with w | w
              · rcases lim a w with y | y
                · exact .inl y
                · exact absurd y z
              · exact .inr w
        have S3 := S0.grow nx
        refine x _ _ _ (S3.set ?_)
        simp only [Rep] at r ⊢
        obtain ⟨a0, dx, fl, an, ap, xs, ys, rfl, q1, f1, f2, f3, q2, r2, q3, r3⟩ := r
        have head : ∀ {b : Addr} {d0 : D} {dl : List D} {zs : List V}, flat d0 = true → F' b = some (.lst zs) → Reps C F' (d0 :: dl) zs → ¬ own b := fun {b d0 dl zs} hd0 hb hr z => by
          obtain ⟨q, us, hq⟩ := ownL z
          rw [hb] at hq
          cases hq
          simp only [Reps] at hr
          obtain ⟨v1, r', e, hv, _⟩ := hr
          cases e
          have := flat_eq hd0 hv
          cases d0 <;> simp [toV, flat] at this hd0
        have hn0 : flat n0 = true := by
          simp only [List.all_cons, Bool.and_eq_true] at k1
          exact k1.1
        have hp0 : flat p0 = true := by
          simp only [List.all_cons, Bool.and_eq_true] at k2
          exact k2.1
        have o1 : ¬ own a0 := fun z => by
          obtain ⟨q, us, hq⟩ := ownL z
          rw [q1] at hq
          cases hq
        refine ⟨a0, dx, fl, an, ap, xs, ys, rfl, by rw [gNot o1]; exact q1, f1, f2, f3, by rw [gNot (head hn0 q2 r2)]; exact q2, flats_go k1 r2, by rw [gNot (head hp0 q3 r3)]; exact q3, flats_go k2 r3⟩
    · rw [if_neg hk] at x
      exact x.elim
end

/-! ### upper -/
def dUpper : D → R D
  | .str a => if a.length ≤ 1000000 then .ok (.str (Txt.upper a)) else .bad
  | _ => .bad
section
variable {X : Cx} {mg : Str → Option Value} {C : Addr} {W : WX} {a : Expr} {pos apos : Pos} {f : Ev → R D}
theorem upper_D : Op1 C dUpper (fun x H Q => (∃ a, x = .str a) ∧ ∃ a, x = .str a ∧ ([] : List V) = [] ∧ a.length ≤ 5592405 ∧ Q (.str (Txt.upper a)) H) := fun d F H v Q s r => by
  cases d <;> simp only [dUpper] <;> try trivial
  split
  · rename_i hl
    split at hl
    · rename_i hz
      cases hl
      intro q
      simp only [Rep] at r
      exact ⟨⟨_, r⟩, _, r, (by first | rfl | trivial), by omega, q _ H F (.rfl s) (by simp only [Rep])⟩
    · cases hl
  · trivial
theorem upper_calm : Calm1 dUpper := fun x c => by cases x <;> simp only [dUpper] <;> (try split) <;> exact fun e => nomatch e
theorem d_upper (ha : PE X a (tD mg C W f)) (hb : attributeBase a "upper" X.env (eval a X.env) = eval a X.env := by rfl) (hl : (apos.endLine == pos.line) = true := by rfl) : PE X (.Call (.Attribute a "upper" apos) [] [] pos) (tD mg C W (E.un dUpper f)) :=
  PE.to (pe_upper ha hb hl) fun σ H Q x => seq1 upper_D upper_calm x
/-! ### list(range(n)) -/
def dListRange : List D → R (List D)
  | [.int n] => if 0 ≤ n ∧ n ≤ 1000 then .ok ((List.range n.toNat).map fun (k : Nat) => .int k) else .bad
  | _ => .bad
/-! ### not in, any depth -/
def dNiD : D → D → R D
  | x, .lst ds => if wide 9 x && wide 9 (.lst ds) then .ok (.bl (!(D.pys ds).any fun z => PyData.eqv z x.py)) else .bad
  | _, _ => .bad
theorem niD_D {K : PySem.W.Frag} : Op2 C dNiD (rNotInD K) := by
  intro x y F H v u Q s rv ru
  cases y <;> simp only [dNiD] <;> try trivial
  rename_i ds
  split
  · rename_i hl
    split at hl
    · rename_i h
      cases hl
      intro q
      rw [Bool.and_eq_true] at h
      exact ⟨_, _, Rep.dp 9 x v h.1 (rv.mono s), Rep.dp 9 (.lst ds) u h.2 (ru.mono s), wide_shaped h.1, wide_shaped h.2, q _ H F (.rfl s) (by simp only [Rep])⟩
    · cases hl
  · trivial
theorem niD_calm : Calm2 dNiD := fun x y c => by cases y <;> simp only [dNiD] <;> (try split) <;> exact fun e => nomatch e
theorem b_niD {b : Expr} {h : Ev → R D} {k : Nat} (hr : Room k X.A) (ha : PE X a (tD mg C W f)) (hb : PE X b (tD mg C W h)) (hm : behindInMarks .NotIn b = false := by rfl) : PT X (.Compare a [.NotIn] [b] pos) (tB mg C W (E.tst (E.bin dNiD f h))) :=
  b_cmp (op_notInD (by have := hr.un; omega)) niD_D niD_calm ha hb (hm := hm)
theorem units65 {k : Nat} {A : Around} (r : Room k A) : A.units + 65 < cLine := by have := r.un; omega
end

def tListRange (te : TE) : TE := fun σ H Q => te σ H fun v H1 => ∃ n : Int, v = .int n ∧ 0 ≤ n ∧ n ≤ 1000 ∧ ∀ q, H1 q = none → Q (.ref q) (upd H1 q (.lst ((List.range n.toNat).map fun (k : Nat) => V.int k)))
theorem rng_list : ∀ (us : List Value) (k : Nat), (∀ (j : Nat) v, us[j]? = some v → ∃ t, v = .int ((k + j : Nat) : Int) t) → Vals ((List.range' k us.length).map fun (k : Nat) => V.int k) us
  | [], _, _ => .nil
  | u :: us, k, h => by
    rw [List.length_cons, List.range'_succ, List.map_cons]
    refine .cons ?_ (rng_list us (k + 1) fun j v e => ?_)
    · obtain ⟨t, e⟩ := h 0 u rfl
      exact ⟨t, e⟩
    · obtain ⟨t, e2⟩ := h (j + 1) v (by simpa using e)
      exact ⟨t, by rw [e2, show k + (j + 1) = k + 1 + j by omega]⟩
theorem rng_items {n : Nat} {acc : Array Value} (h : ItemsOf (fun i v => ∃ t, v = .int (0 + (i : Int) * 1) t) acc n) : Vals ((List.range n).map fun (k : Nat) => V.int k) acc.toList := by
  have q := rng_list acc.toList 0 fun j v e => by
    obtain ⟨t, e2⟩ := h.2 j v (by simpa using e)
    exact ⟨t, by rw [e2]; congr 1; omega⟩
  have l : acc.toList.length = n := by simpa using h.1
  rw [l, ← List.range_eq_range'] at q
  exact q
section
variable {X : Cx} {mg : Str → Option Value} {C : Addr} {W : WX} {e : Expr} {f : Ev → R D}
theorem pe_listRange {te : TE} {p p2 pos pos2 : Pos} (hc : X.calm = true) (hg : Gl X "list") (hm : X.mg "list" = none) (hg2 : Gl X "range") (hm2 : X.mg "range" = none) (he : PE X e te)
    (hs : starEach [e] X.env = (false, eval e X.env) :: starEach [] X.env := by rfl)
    (hs2 : starEach [.Call (.Name "range" p2) [e] [] pos2] X.env = (false, eval (.Call (.Name "range" p2) [e] [] pos2) X.env) :: starEach [] X.env := by rfl) :
    PE X (.Call (.Name "list" p) [.Call (.Name "range" p2) [e] [] pos2] [] pos) (tListRange te) := by
  refine ⟨fun pins s σ H Q I h => ?_⟩
  refine Call_ (ld_blt I hg hm boot_list (PyProof.Rows.callWith_type1 (args_cons (Call_ (ld_blt I hg2 hm2 boot_range (PyProof.Rows.callWith_type1 (args_cons (thn (he.run pins s σ H _ I h) fun u s1 ⟨v, H1, I1, r1, q1⟩ => args_nil ?_) hs) hs rfl))) hs2) hs2 rfl))
  obtain ⟨n, ev, n0, n1, q⟩ := q1
  subst ev
  obtain ⟨t, rfl⟩ := r1
  refine call_range_1 (args_nil ?_)
  have k0 : ∀ b o, s1.heap.get? b = some o → (s1.heap.push { cls := .type "range", data := .fields #[.int 0 s1.toks, .int n t, .int 1 (s1.toks + 1)] }).get? b = some o := fun b o e => Heap.get?_push_of_some _ e
  have I2 : Inv X pins σ H1 { s1 with heap := s1.heap.push { cls := .type "range", data := .fields #[.int 0 s1.toks, .int n t, .int 1 (s1.toks + 1)] }, toks := s1.toks + 1 + 1 } := I1.kept (t' := s1.toks + 1 + 1) k0
  have hn : Builtin.Range.rangeSize 0 n 1 = (n.toNat : Int) := by
    rw [rangeSize_one]
    split <;> omega
  have hr : IsRange (s1.heap.push { cls := .type "range", data := .fields #[.int 0 s1.toks, .int n t, .int 1 (s1.toks + 1)] }) s1.heap.objs.size 0 n 1 s1.toks t (s1.toks + 1) := Heap.get?_push_size _ rfl
  refine call_list_range (n := n.toNat) (I1.ok.hd hc) hr (small_one (by omega) (by omega) (by omega) (by omega)) hn (by omega) fun h' tk acc c' hk hS hi => ?_
  have I3 := I2.laid (t' := tk) (a := (s1.heap.push { cls := .type "range", data := .fields #[.int 0 s1.toks, .int n t, .int 1 (s1.toks + 1)] }).objs.size) (h' := h') (o := .lst ((List.range n.toNat).map fun (k : Nat) => V.int k)) hk (Nat.le_refl _)
    (show ObjOk X.prog X.w _ h' _ (.lst _) from ⟨by rw [List.length_map, List.length_range]; exact Nat.le_trans (show n.toNat ≤ 1000 by omega) (by decide), acc.toList, c', rng_items hi, by rw [Array.toArray_toList]; exact hS⟩)
  exact ⟨.ref _, _, I3, rfl, q _ (I2.hok.fresh (Nat.le_refl _))⟩
theorem l_listRange {p p2 pos pos2 : Pos} (hc : X.calm = true) (hg : Gl X "list") (hm : X.mg "list" = none) (hg2 : Gl X "range") (hm2 : X.mg "range" = none) (he : PE X e (tD mg C W f))
    (hs : starEach [e] X.env = (false, eval e X.env) :: starEach [] X.env := by rfl)
    (hs2 : starEach [.Call (.Name "range" p2) [e] [] pos2] X.env = (false, eval (.Call (.Name "range" p2) [e] [] pos2) X.env) :: starEach [] X.env := by rfl) :
    PE X (.Call (.Name "list" p) [.Call (.Name "range" p2) [e] [] pos2] [] pos) (tL mg C W (E.appL dListRange (E.cons f E.nil))) := by
  refine PE.to (pe_listRange hc hg hm hg2 hm2 he hs hs2) fun σ H Q x => ?_
  obtain ⟨F, ρ, s, ok, q⟩ := x
  refine ⟨F, ρ, s, ok, ?_⟩
  have e0 : E.appL dListRange (E.cons f E.nil) ρ = (f ρ).bind fun d => dListRange [d] := by
    show R.bind (R.bind (f ρ) fun a => R.bind (.ok []) fun b => .ok (a :: b)) dListRange = _
    cases f ρ <;> rfl
  rw [e0] at q
  cases e1 : f ρ with
  | bad => rw [e1] at q; exact q
  | exc c => rw [e1] at q; exact q
  | ok d =>
    rw [e1, R.bind_ok] at q
    intro v H1 F1 n1 r1
    cases d with
    | int n =>
      have e2 : dListRange [.int n] = if 0 ≤ n ∧ n ≤ 1000 then .ok ((List.range n.toNat).map fun (k : Nat) => .int k) else .bad := rfl
      rw [e2] at q
      by_cases hz : 0 ≤ n ∧ n ≤ 1000
      · rw [if_pos hz] at q
        simp only [Rep] at r1
        refine ⟨n, r1, hz.1, hz.2, fun l nl => ?_⟩
        have nl0 : H l = none := by
          cases e : H l with
          | none => rfl
          | some o => rw [n1.hh _ _ e] at nl; cases nl
        have rp : ∀ ks : List Nat, Reps C F1 (ks.map fun (k : Nat) => D.int k) (ks.map fun (k : Nat) => V.int k) := fun ks => by
          induction ks with
          | nil => simp only [List.map_nil, Reps]
          | cons k ks ih =>
            simp only [List.map_cons, Reps]
            exact ⟨_, _, rfl, by simp only [Rep], ih⟩
        exact q l _ (upd H1 l (.lst ((List.range n.toNat).map fun (k : Nat) => V.int k))) F1 (n1.tr (.hid n1.fh nl)) nl0 (n1.fh.non nl) upd_same (rp _)
      · rw [if_neg hz] at q
        exact q.elim
    | _ => exact q.elim
end
end TB
namespace TB
open PySem PySem.Spec PyProof.Rows L2
/-! ### isinstance(x, Shop) -/
structure ShIs (K : PySem.W.Frag) : Prop where
  ha : PySem.W.findIn K (.ref (shopC K)) "__class__" = some (some (.builtin "object.__class__"))
  hn : PySem.W.specialIn K (.builtin "object.__class__") "__get__" = some (some (.builtin "getset_descriptor.__get__"))
  ht : PySem.W.takesIn K (.builtin "object.__class__") = some true
  hm : PySem.W.mroIn K (shopC K) (.type "object") = some true
def shopB (K : PySem.W.Frag) : Bool := He.eqO (PySem.W.findIn K (.ref (shopC K)) "__class__") (some (some (.builtin "object.__class__"))) && (He.eqO (PySem.W.specialIn K (.builtin "object.__class__") "__get__") (some (some (.builtin "getset_descriptor.__get__"))) &&
  (oB (PySem.W.takesIn K (.builtin "object.__class__")) true && oB (PySem.W.mroIn K (shopC K) (.type "object")) true))
theorem shis_of {K : PySem.W.Frag} (h : shopB K = true) : ShIs K := by
  unfold shopB at h
  simp only [Bool.and_eq_true] at h
  exact ⟨He.eqO_ok h.1, He.eqO_ok h.2.1, oB_ok h.2.2.1, oB_ok h.2.2.2⟩
def dIsS : D → R D
  | .shop _ _ => .ok (.bl true)
  | _ => .bad
section
variable {X : Cx} {W : WX} {mg : Str → Option Value} {a : Expr} {pos : Pos} {f : Ev → R D} {stI stP : Stmt}
theorem d_isS {p1 p2 : Pos} (E0 : ShIs X.K) (T : Sh X.K mg stI stP) (gy : X.mg "Shop" = some (.ref (shopC X.K))) (hg : Gl X "isinstance") (hm : X.mg "isinstance" = none) (ht : Gl X "Shop") (ha : PE X a (tD mg (shopC X.K) W f))
    (he : starEach [a, .Name "Shop" p2] X.env = (false, eval a X.env) :: starEach [.Name "Shop" p2] X.env := by rfl) (he2 : starEach [.Name "Shop" p2] X.env = [(false, eval (.Name "Shop" p2) X.env)] := by rfl) (hpl : (backTo pos (starEach [.Name "Shop" p2] X.env)).any (·.1) = false := by rfl) :
    PE X (.Call (.Name "isinstance" p1) [a, .Name "Shop" p2] [] pos) (tD mg (shopC X.K) W (E.un dIsS f)) := by
  have h2 : PE X (.Name "Shop" p2) (tC (.ref (shopC X.K))) := pe_glob (v := .ref (shopC X.K)) ht gy rfl
  refine PE.to (pe_callB call_isi hg hm boot_isinstance (pa_cons ha (pa_cons h2 pa_nil he2) he) (by decide) (by decide) he hpl) fun σ H Q x => ?_
  refine seq1 (C := shopC X.K) (g := dIsS) (r := fun x H Q => rIsi X.K [x, .ref (shopC X.K)] H Q) (fun d F H v Q s r => ?_) (fun d c => by cases d <;> simp only [dIsS] <;> exact fun e => nomatch e) x
  cases d <;> simp only [dIsS] <;> try trivial
  intro q
  simp only [Rep] at r
  obtain ⟨b, dx, fs, an, ap, xs, ys, rfl, h1, _⟩ := r
  refine ⟨.ref b, .ref (shopC X.K), .ref (shopC X.K), .ref (shopC X.K), true, rfl, .own _, .base (.ins (s _ _ h1) T.cl E0.ha E0.hn E0.ht E0.hm), ?_, q _ H F (.rfl s) (by simp only [Rep])⟩
  unfold PySem.W.kitOne
  rw [if_pos (beq_self_eq_true _)]
end
/-! ### the head -/
def exShop (K : PySem.W.Frag) : Bool := exAll K && shopB K
def obsLS (n : Nat) (fa : List He.Fa) (fn : List He.FnD) (g : Addr → Option Obj) : AlLX :=
  let K := noL (He.frG g (He.asG g n))
  (He.obsE fa fn K, exShop K)
structure SaysLS (fa : List He.Fa) (fn : List He.FnD) (h : Heap) (K : PySem.W.Frag) : Prop extends SaysL fa fn h K where
  xs : exShop K = true
theorem SaysLS.xx {fa : List He.Fa} {fn : List He.FnD} {h : Heap} {K : PySem.W.Frag} (c : SaysLS fa fn h K) : exAll K = true := (Bool.and_eq_true_iff.mp c.xs).1
theorem SaysLS.sh {fa : List He.Fa} {fn : List He.FnD} {h : Heap} {K : PySem.W.Frag} (c : SaysLS fa fn h K) : ShIs K := shis_of (Bool.and_eq_true_iff.mp c.xs).2
def hookLS (n : Nat) (fa : List He.Fa) (fn : List He.FnD) : PySem.W.Hook where
  α := AlLX
  obs := fun s => obsLS n fa fn s.heap.get?
  val := fun _ => (He.valE fn, true)
  says := fun _ h => ∃ K : PySem.W.Frag, SaysLS fa fn h K
  of := fun _ _ e => ⟨_, ⟨fun _ _ q => (noL_at q).1, fun _ _ q => (noL_at q).2, congrArg (fun z : AlLX => z.1) e⟩, congrArg (fun z : AlLX => z.2) e⟩
  keeps := fun _ _ _ ⟨K, c⟩ k => ⟨K, { c with kin := PySem.W.Frag.In.keeps c.kin k }⟩
theorem obsLS_eq {n : Nat} {fa : List He.Fa} {fn : List He.FnD} {g : Addr → Option Obj} {s : Shared} (h : ∀ a, g a = s.heap.get? a) : obsLS n fa fn g = (hookLS n fa fn).obs s := by
  have e : g = s.heap.get? := funext h
  subst e
  rfl
abbrev AlLS : Type := AlLX
theorem law_endLS {l : PySem.W.OpenLaw} {n k N : Nat} {q : Program} {loose : List Str} {XP : (Str → Option Value) → Heap → Prop} {fa : List He.Fa} {fn : List He.FnD} {d : DefRec} {x : Str} {g : List D → R D}
    (hn : l.most = some n) (hn2 : n ≤ sizeLine) (hdf : d.params.defaults = []) (hdn : d.name = "law") (hr : Room k callerA)
    (F : ∀ (w : World) (K : PySem.W.Frag) (mg : Str → Option Value) (h : Heap), SaysLS fa fn h K → h.Ns mainGlobals mg → mg "law" = some (.ref (He.ga K "law")) ∧
      (∀ (s : Shared) (u : Value), BindsTo s (fdOf K (He.ga K "law")) ⟨[u], []⟩ [(x, u)]) ∧ ∀ base : Heap, OkD l.prog w K mg base k "law" [x] g)
    (law : ∀ ns : List Int, ns.length ≤ n → g [.scr ns] = .ok (.bl true)) :
    PySem.W.WalkO q loose XP (hookLS N fa fn).says l.row.toRowW d [] (fun f vs => PySem.call f vs) :=
  law_endG (G0 := fun _ h K => SaysLS fa fn h K) (fun _ _ h => h) (fun _ _ _ c => c.kin) (fun _ _ _ c => c.no) hn hn2 hdf hdn hr F law
end TB
/-! tuple + tuple, the left one may be empty -/
namespace TB
open PySem PySem.Spec PyProof.Rows L2
def dAddT (x y : D) : R D := match x, y with
  | .tup xs, .tup ys => if xs.length + ys.length ≤ LINE then .ok (.tup (xs ++ ys)) else .bad
  | x, y => dAdd x y
def rAddT (K : PySem.W.Frag) : R2 := fun x y H Q => rAddD K x y H Q ∨ rCatA K x y H Q
theorem op_addT {X : Cx} : OpR X (binaryOp .Add) (rAddT X.K) := op_addD.or op_catA
theorem addT_calm : Calm2 dAddT := fun x y c => by
  cases x <;> cases y <;> simp only [dAddT] <;> first | exact add_calm _ _ c | skip
  split <;> exact fun e => nomatch e
theorem addT_D {C : Addr} {K : PySem.W.Frag} : Op2 C dAddT (rAddT K) := by
  intro x y F H v u Q s rv ru
  have old := add_D (K := K) x y F H v u Q s rv ru
  by_cases ht : ∃ xs ys, x = .tup xs ∧ y = .tup ys
  · obtain ⟨xs, ys, rfl, rfl⟩ := ht
    simp only [dAddT]
    split
    · rename_i hl
      split at hl
      · rename_i hz
        cases hl
        intro q
        simp only [Rep] at rv ru
        obtain ⟨a, us, e1, h1, r1⟩ := rv
        obtain ⟨b, ws, e2, h2, r2⟩ := ru
        have l1 := r1.len
        have l2 := r2.len
        refine .inr ⟨a, b, us, ws, e1, e2, SqT.of (s _ _ h1), SqT.of (s _ _ h2), by rw [l1, l2]; exact line_ok hz, fun z => ?_, fun _ z => ?_, fun z z2 p np => ?_⟩
        · subst z
          have e3 : xs = [] := List.length_eq_zero_iff.mp l1.symm
          subst e3
          rw [List.nil_append] at q
          refine q _ H F (.rfl s) ?_
          simp only [Rep]
          exact ⟨b, ws, e2.symm ▸ rfl, h2, r2⟩
        · subst z
          have e3 : ys = [] := List.length_eq_zero_iff.mp l2.symm
          subst e3
          rw [List.append_nil] at q
          refine q _ H F (.rfl s) ?_
          simp only [Rep]
          exact ⟨a, us, e1.symm ▸ rfl, h1, r1⟩
        · refine q _ _ (upd F p (.tup (us ++ ws))) (.add s np) ?_
          simp only [Rep]
          exact ⟨p, _, rfl, upd_same, Reps.mono (Sm.upd (s.non np)) _ _ (r1.app r2)⟩
      · cases hl
    · trivial
  · have e : dAddT x y = dAdd x y := by
      cases x <;> cases y <;> simp only [dAddT]
      exact absurd ⟨_, _, rfl, rfl⟩ ht
    rw [e]
    revert old
    cases dAdd x y with
    | ok d => exact fun old q => .inl (old q)
    | bad => exact fun _ => trivial
    | exc c => exact fun old => old
section
variable {X : Cx} {mg : Str → Option Value} {C : Addr} {W : WX} {a b : Expr} {pos : Pos} {f h : Ev → R D}
theorem d_addT (ha : PE X a (tD mg C W f)) (hb : PE X b (tD mg C W h)) : PE X (.BinOp a .Add b pos) (tD mg C W (E.bin dAddT f h)) := d_op op_addT addT_D addT_calm ha hb
end
end TB
/-! reckoning with the pure functions: rows for simp, loops, comprehensions -/
namespace TB
open PySem PySem.Spec PyProof.Rows L2

/-! ### outcomes put together -/
namespace R
variable {α β : Type}
def bind2 (g : D → D → R D) (x y : R D) : R D := x.bind fun a => y.bind fun b => g a b
@[simp] theorem bind2_ok (g : D → D → R D) (a b : D) : bind2 g (.ok a) (.ok b) = g a b := (rfl)
@[simp] theorem bind2_exc (g : D → D → R D) (c : Str) (y : R D) : bind2 g (.exc c) y = .exc c := (rfl)
@[simp] theorem bind2_exc2 (g : D → D → R D) (a : D) (c : Str) : bind2 g (.ok a) (.exc c) = .exc c := (rfl)
def cons2 (x : R D) (y : R (List D)) : R (List D) := x.bind fun a => y.bind fun b => .ok (a :: b)
@[simp] theorem cons2_ok (a : D) (b : List D) : cons2 (.ok a) (.ok b) = .ok (a :: b) := (rfl)
@[simp] theorem cons2_exc (c : Str) (b : R (List D)) : cons2 (.exc c) b = .exc c := (rfl)
def tst (x : R D) : R Bool := x.bind fun d => match d with | .bl b => .ok b | _ => .bad
@[simp] theorem tst_ok (b : Bool) : tst (.ok (.bl b)) = .ok b := (rfl)
@[simp] theorem tst_exc (c : Str) : tst (.exc c) = .exc c := (rfl)
def andB (x y : R Bool) : R Bool := x.bind fun b => if b then y else .ok false
@[simp] theorem andB_t (y : R Bool) : andB (.ok true) y = y := (rfl)
@[simp] theorem andB_f (y : R Bool) : andB (.ok false) y = .ok false := (rfl)
@[simp] theorem andB_exc (c : Str) (y : R Bool) : andB (.exc c) y = .exc c := (rfl)
@[simp] theorem andB_ok (a b : Bool) : andB (.ok a) (.ok b) = .ok (a && b) := by cases a <;> rfl
def orB (x y : R Bool) : R Bool := x.bind fun b => if b then .ok true else y
@[simp] theorem orB_t (y : R Bool) : orB (.ok true) y = .ok true := (rfl)
@[simp] theorem orB_f (y : R Bool) : orB (.ok false) y = y := (rfl)
@[simp] theorem orB_exc (c : Str) (y : R Bool) : orB (.exc c) y = .exc c := (rfl)
@[simp] theorem orB_ok (a b : Bool) : orB (.ok a) (.ok b) = .ok (a || b) := by cases a <;> rfl
def andV (x : R Bool) (y : R D) : R D := x.bind fun b => if b then y else .ok (.bl false)
@[simp] theorem andV_t (y : R D) : andV (.ok true) y = y := (rfl)
@[simp] theorem andV_f (y : R D) : andV (.ok false) y = .ok (.bl false) := (rfl)
@[simp] theorem andV_exc (c : Str) (y : R D) : andV (.exc c) y = .exc c := (rfl)
@[simp] theorem andV_ok (a b : Bool) : andV (.ok a) (.ok (.bl b)) = .ok (.bl (a && b)) := by cases a <;> rfl
def orV (x : R Bool) (y : R D) : R D := x.bind fun b => if b then .ok (.bl true) else y
@[simp] theorem orV_t (y : R D) : orV (.ok true) y = .ok (.bl true) := (rfl)
@[simp] theorem orV_f (y : R D) : orV (.ok false) y = y := (rfl)
@[simp] theorem orV_exc (c : Str) (y : R D) : orV (.exc c) y = .exc c := (rfl)
@[simp] theorem orV_ok (a b : Bool) : orV (.ok a) (.ok (.bl b)) = .ok (.bl (a || b)) := by cases a <;> rfl
def notV (x : R Bool) : R D := x.map fun b => .bl (!b)
@[simp] theorem notV_ok (b : Bool) : notV (.ok b) = .ok (.bl (!b)) := (rfl)
@[simp] theorem notV_exc (c : Str) : notV (.exc c) = .exc c := (rfl)
def iteB (c : R Bool) (f h : Ev → R D) (ρ : Ev) : R D := c.bind fun b => if b then f ρ else h ρ
@[simp] theorem iteB_t (f h : Ev → R D) (ρ : Ev) : iteB (.ok true) f h ρ = f ρ := (rfl)
@[simp] theorem iteB_f (f h : Ev → R D) (ρ : Ev) : iteB (.ok false) f h ρ = h ρ := (rfl)
@[simp] theorem iteB_exc (c : Str) (f h : Ev → R D) (ρ : Ev) : iteB (.exc c) f h ρ = .exc c := (rfl)
def chain2 (k : D → D → R D) (y : D) (z w : R D) : R D := z.bind fun z => match z with
  | .bl true => w.bind fun w => k y w
  | .bl false => .ok (.bl false)
  | _ => .bad
def chainB (g k : D → D → R D) (x y w : R D) : R D := x.bind fun x => y.bind fun y => chain2 k y (g x y) w
@[simp] theorem chainB_ok (g k : D → D → R D) (x y : D) (w : R D) : chainB g k (.ok x) (.ok y) w = chain2 k y (g x y) w := (rfl)
@[simp] theorem chain2_t (k : D → D → R D) (y w : D) : chain2 k y (.ok (.bl true)) (.ok w) = k y w := (rfl)
@[simp] theorem chain2_f (k : D → D → R D) (y : D) (w : R D) : chain2 k y (.ok (.bl false)) w = .ok (.bl false) := (rfl)
@[simp] theorem chain2_le (i n : Int) (b : Bool) : chain2 dLe (.int i) (.ok (.bl b)) (.ok (.int n)) = .ok (.bl (b && decide (i ≤ n))) := by cases b <;> rfl
def tupB (x : R (List D)) : R D := x.bind fun ds => if ds.length ≤ LINE then .ok (.tup ds) else .bad
@[simp] theorem tupB_ok {ds : List D} (h : ds.length ≤ LINE) : tupB (.ok ds) = .ok (.tup ds) := by unfold tupB; rw [bind_ok, if_pos h]
@[simp] theorem tupB_1 (a : D) : tupB (.ok [a]) = .ok (.tup [a]) := tupB_ok (by show 1 ≤ 1000000; decide)
@[simp] theorem tupB_2 (a b : D) : tupB (.ok [a, b]) = .ok (.tup [a, b]) := tupB_ok (by show 2 ≤ 1000000; decide)
@[simp] theorem tupB_3 (a b c : D) : tupB (.ok [a, b, c]) = .ok (.tup [a, b, c]) := tupB_ok (by show 3 ≤ 1000000; decide)
@[simp] theorem tupB_4 (a b c d : D) : tupB (.ok [a, b, c, d]) = .ok (.tup [a, b, c, d]) := tupB_ok (by show 4 ≤ 1000000; decide)
@[simp] theorem tupB_exc (c : Str) : tupB (.exc c) = .exc c := (rfl)
def lstB (x : R (List D)) : R (List D) := x.bind fun ds => if ds.length ≤ LINE then .ok ds else .bad
@[simp] theorem lstB_ok {ds : List D} (h : ds.length ≤ LINE) : lstB (.ok ds) = .ok ds := by unfold lstB; rw [bind_ok, if_pos h]
@[simp] theorem lstB_0 : lstB (.ok []) = .ok [] := (rfl)
@[simp] theorem lstB_1 (a : D) : lstB (.ok [a]) = .ok [a] := lstB_ok (by show 1 ≤ 1000000; decide)
@[simp] theorem lstB_2 (a b : D) : lstB (.ok [a, b]) = .ok [a, b] := lstB_ok (by show 2 ≤ 1000000; decide)
@[simp] theorem lstB_3 (a b c : D) : lstB (.ok [a, b, c]) = .ok [a, b, c] := lstB_ok (by show 3 ≤ 1000000; decide)
def compB (vs : List Nat) (g : D → R (List (Nat × D))) (p : Ev → R Bool) (f : Ev → R D) (ρ : Ev) (x : R (List D)) : R (List D) := x.bind fun ds => if ds.length ≤ LINE then compF g p f (wipeE vs ρ) ds else .bad
@[simp] theorem compB_ok {vs : List Nat} {g : D → R (List (Nat × D))} {p : Ev → R Bool} {f : Ev → R D} {ρ : Ev} {ds : List D} (h : ds.length ≤ LINE) : compB vs g p f ρ (.ok ds) = compF g p f (wipeE vs ρ) ds := by unfold compB; rw [bind_ok, if_pos h]
def catB (x y : R D) : R (List D) := x.bind fun x => y.bind fun y => match x, y with
  | .lst xs, .lst ys => if xs.length + ys.length ≤ LINE then .ok (xs ++ ys) else .bad
  | _, _ => .bad
@[simp] theorem catB_ok {xs ys : List D} (h : xs.length + ys.length ≤ LINE) : catB (.ok (.lst xs)) (.ok (.lst ys)) = .ok (xs ++ ys) := if_pos h
end R
section
variable (ρ : Ev) (f h j : Ev → R D) (p q : Ev → R Bool) (fs : Ev → R (List D))
/-- what stands in a slot -/
def look (s : Option Sl) : R D := match s with | some (.sh d) => .ok d | _ => .bad
@[simp] theorem look_sh (d : D) : look (some (.sh d)) = .ok d := (rfl)
@[simp] theorem var_ap (i : Nat) : E.var i ρ = look ρ[i]? := (rfl)
@[simp] theorem c_ap (d : D) : E.c d ρ = .ok d := (rfl)
@[simp] theorem bin_ap (g : D → D → R D) : E.bin g f h ρ = R.bind2 g (f ρ) (h ρ) := (rfl)
@[simp] theorem un_ap (g : D → R D) : E.un g f ρ = (f ρ).bind g := (rfl)
@[simp] theorem nil_ap : E.nil ρ = .ok [] := (rfl)
@[simp] theorem cons_ap : E.cons f fs ρ = R.cons2 (f ρ) (fs ρ) := (rfl)
@[simp] theorem app_ap (g : List D → R D) : E.app g fs ρ = (fs ρ).bind g := (rfl)
@[simp] theorem appL_ap (g : List D → R (List D)) : E.appL g fs ρ = (fs ρ).bind g := (rfl)
@[simp] theorem tst_ap : E.tst f ρ = R.tst (f ρ) := (rfl)
@[simp] theorem band_ap : E.band p q ρ = R.andB (p ρ) (q ρ) := (rfl)
@[simp] theorem bor_ap : E.bor p q ρ = R.orB (p ρ) (q ρ) := (rfl)
@[simp] theorem bnot_ap : E.bnot p ρ = (p ρ).map not := (rfl)
@[simp] theorem vand_ap : E.vand f h ρ = R.andV (R.tst (f ρ)) (h ρ) := (rfl)
@[simp] theorem vor_ap : E.vor f h ρ = R.orV (R.tst (f ρ)) (h ρ) := (rfl)
@[simp] theorem vnot_ap : E.vnot f ρ = R.notV (R.tst (f ρ)) := (rfl)
@[simp] theorem ite_ap : E.ite p f h ρ = R.iteB (p ρ) f h ρ := (rfl)
@[simp] theorem chain_ap (g k : D → D → R D) : E.chain g k f h j ρ = R.chainB g k (f ρ) (h ρ) (j ρ) := (rfl)
@[simp] theorem tup_ap : E.tup fs ρ = R.tupB (fs ρ) := (rfl)
@[simp] theorem lst_ap : E.lst fs ρ = R.lstB (fs ρ) := (rfl)
@[simp] theorem ofL_ap : E.ofL fs ρ = (fs ρ).map .lst := (rfl)
@[simp] theorem iter_ap : E.iter f ρ = (f ρ).bind dIter := (rfl)
@[simp] theorem iterA_ap (g : List D → R (List D)) : E.iterA g fs ρ = (fs ρ).bind g := (rfl)
@[simp] theorem comp_ap (vs : List Nat) (g : D → R (List (Nat × D))) : E.comp vs fs g p f ρ = R.compB vs g p f ρ (fs ρ) := (rfl)
@[simp] theorem yes_ap : yes ρ = .ok true := (rfl)
@[simp] theorem cat_ap : E.cat f h ρ = R.catB (f ρ) (h ρ) := (rfl)
end
@[simp] theorem one_ap (i : Nat) (d : D) : G.one i d = .ok [(i, d)] := (rfl)
@[simp] theorem gnil_ap : G.nil [] = .ok [] := (rfl)
@[simp] theorem gcons_ap (g : D → R (List (Nat × D))) (h : List D → R (List (Nat × D))) (d : D) (ds : List D) : G.cons g h (d :: ds) = (g d).bind fun ps => (h ds).bind fun qs => .ok (ps ++ qs) := (rfl)
@[simp] theorem gtup_ap (n : Nat) (h : List D → R (List (Nat × D))) (ds : List D) : G.tup n h (.tup ds) = if ds.length = n then h ds else .bad := (rfl)
@[simp] theorem setD_nil (ρ : Ev) : setD [] ρ = ρ := (rfl)
@[simp] theorem setD_cons (q : Nat × D) (qs : List (Nat × D)) (ρ : Ev) : setD (q :: qs) ρ = setD qs (ρ.set q.1 (.sh q.2)) := (rfl)
@[simp] theorem wipe_nil (ρ : Ev) : wipeE [] ρ = ρ := (rfl)
@[simp] theorem wipe_cons (v : Nat) (vs : List Nat) (ρ : Ev) : wipeE (v :: vs) ρ = (wipeE vs ρ).set v .no := (rfl)
@[simp] theorem fz_sh (d : D) : Sl.fz (.sh d) = .sh d := (rfl)
@[simp] theorem fz_no : Sl.fz .no = .no := (rfl)
@[simp] theorem fz_own (ds : List D) : Sl.fz (.own ds) = .sh (.lst ds) := (rfl)
@[simp] theorem full_nil : full [] = [] := (rfl)
@[simp] theorem full_cons (s : Sl) (ρ : Ev) : full (s :: ρ) = s.fz :: full ρ := (rfl)
@[simp] theorem frz_ap (i : Nat) (ρ : Ev) : frz i ρ = match ρ[i]? with | some (.own ds) => ρ.set i (.sh (.lst ds)) | _ => ρ := (rfl)
/-! ### statements -/
def then_ (o : Out) (k : Ev → Out) : Out := match o with | .nx ρ' => k ρ' | o => o
@[simp] theorem then_nx (ρ : Ev) (k : Ev → Out) : then_ (.nx ρ) k = k ρ := (rfl)
@[simp] theorem then_rt (d : D) (k : Ev → Out) : then_ (.rt d) k = .rt d := (rfl)
@[simp] theorem then_ro (d : List D) (k : Ev → Out) : then_ (.ro d) k = .ro d := (rfl)
@[simp] theorem then_ex (c : Str) (ρ : Ev) (k : Ev → Out) : then_ (.ex c ρ) k = .ex c ρ := (rfl)
def put_ (i : Nat) (ρ : Ev) (r : R D) : Out := match r with | .ok d => .nx (ρ.set i (.sh d)) | .exc c => .ex c ρ | .bad => .bad
@[simp] theorem put_ok_ (i : Nat) (ρ : Ev) (d : D) : put_ i ρ (.ok d) = .nx (ρ.set i (.sh d)) := (rfl)
@[simp] theorem put_exc (i : Nat) (ρ : Ev) (c : Str) : put_ i ρ (.exc c) = .ex c ρ := (rfl)
def putO (i : Nat) (ρ : Ev) (r : R (List D)) : Out := match r with | .ok d => .nx (ρ.set i (.own d)) | .exc c => .ex c ρ | .bad => .bad
@[simp] theorem putO_ok (i : Nat) (ρ : Ev) (d : List D) : putO i ρ (.ok d) = .nx (ρ.set i (.own d)) := (rfl)
@[simp] theorem putO_exc (i : Nat) (ρ : Ev) (c : Str) : putO i ρ (.exc c) = .ex c ρ := (rfl)
def flatR (r : R D) : R D := r.bind fun d => if flat d then .ok d else .bad
@[simp] theorem flatR_i (i : Int) : flatR (.ok (.int i)) = .ok (.int i) := (rfl)
@[simp] theorem flatR_s (i : Str) : flatR (.ok (.str i)) = .ok (.str i) := (rfl)
@[simp] theorem flatR_b (i : Bool) : flatR (.ok (.bl i)) = .ok (.bl i) := (rfl)
@[simp] theorem flatR_exc (c : Str) : flatR (.exc c) = .exc c := (rfl)
def flatsR (r : R (List D)) : R (List D) := r.bind fun ds => if ds.all flat then .ok ds else .bad
theorem flatsR_ok {ds : List D} (h : ds.all flat = true) : flatsR (.ok ds) = .ok ds := if_pos h
def ret_ (ρ : Ev) (r : R D) : Out := match r with | .ok d => .rt d | .exc c => .ex c ρ | .bad => .bad
@[simp] theorem ret_ok (ρ : Ev) (d : D) : ret_ ρ (.ok d) = .rt d := (rfl)
@[simp] theorem ret_exc (ρ : Ev) (c : Str) : ret_ ρ (.exc c) = .ex c ρ := (rfl)
def retL_ (ρ : Ev) (r : R (List D)) : Out := match r with | .ok d => .ro d | .exc c => .ex c ρ | .bad => .bad
@[simp] theorem retL_ok (ρ : Ev) (d : List D) : retL_ ρ (.ok d) = .ro d := (rfl)
@[simp] theorem retL_exc (ρ : Ev) (c : Str) : retL_ ρ (.exc c) = .ex c ρ := (rfl)
def drop_ (ρ : Ev) (r : R D) : Out := match r with | .ok _ => .nx ρ | .exc c => .ex c ρ | .bad => .bad
@[simp] theorem drop_ok (ρ : Ev) (d : D) : drop_ ρ (.ok d) = .nx ρ := (rfl)
@[simp] theorem drop_exc (ρ : Ev) (c : Str) : drop_ ρ (.exc c) = .ex c ρ := (rfl)
def ifs_ (g k : Ev → Out) (ρ : Ev) (r : R Bool) : Out := match r with | .ok b => if b then g ρ else k ρ | .exc c => .ex c ρ | .bad => .bad
@[simp] theorem ifs_t (g k : Ev → Out) (ρ : Ev) : ifs_ g k ρ (.ok true) = g ρ := (rfl)
@[simp] theorem ifs_f (g k : Ev → Out) (ρ : Ev) : ifs_ g k ρ (.ok false) = k ρ := (rfl)
@[simp] theorem ifs_exc (g k : Ev → Out) (ρ : Ev) (c : Str) : ifs_ g k ρ (.exc c) = .ex c ρ := (rfl)
def for_ (t : D → R (List (Nat × D))) (ws : List Nat) (g : Ev → Out) (ρ : Ev) (r : R (List D)) : Out := match r with | .ok ds => S.forF t ws g ds ρ | .exc c => .ex c ρ | .bad => .bad
@[simp] theorem for_ok (t : D → R (List (Nat × D))) (ws : List Nat) (g : Ev → Out) (ρ : Ev) (ds : List D) : for_ t ws g ρ (.ok ds) = S.forF t ws g ds ρ := (rfl)
@[simp] theorem for_exc (t : D → R (List (Nat × D))) (ws : List Nat) (g : Ev → Out) (ρ : Ev) (c : Str) : for_ t ws g ρ (.exc c) = .ex c ρ := (rfl)
def asgT_ (t : D → R (List (Nat × D))) (ρ : Ev) (r : R D) : Out := match r with | .ok d => (match t d with | .ok ps => .nx (setD ps ρ) | _ => .bad) | .exc c => .ex c ρ | .bad => .bad
theorem asgT_ok {t : D → R (List (Nat × D))} {ρ : Ev} {d : D} {ps : List (Nat × D)} (h : t d = .ok ps) : asgT_ t ρ (.ok d) = .nx (setD ps ρ) := by
  show (match t d with | .ok ps => Out.nx (setD ps ρ) | _ => Out.bad) = _
  rw [h]
section
variable (ρ : Ev) (f h : Ev → R D) (p : Ev → R Bool) (fs : Ev → R (List D)) (g k : Ev → Out)
@[simp] theorem seq_ap : S.seq g k ρ = then_ (g ρ) k := (rfl)
@[simp] theorem skip_ap : S.skip ρ = .nx ρ := (rfl)
@[simp] theorem pre_ap (t : Ev → Ev) : S.pre t g ρ = g (t ρ) := (rfl)
@[simp] theorem asg_f (i : Nat) : S.asg false i f ρ = put_ i ρ (f ρ) := (rfl)
@[simp] theorem asg_t (i : Nat) : S.asg true i f ρ = put_ i ρ (flatR (f (full ρ))) := (rfl)
@[simp] theorem asgO_f (i : Nat) : S.asgO false i fs ρ = putO i ρ (fs ρ) := (rfl)
@[simp] theorem asgO_t (i : Nat) : S.asgO true i fs ρ = putO i ρ (flatsR (fs (full ρ))) := (rfl)
@[simp] theorem asgT_ap (t : D → R (List (Nat × D))) : S.asgT false t f ρ = asgT_ t ρ (f ρ) := (rfl)
@[simp] theorem drop_ap : S.drop f ρ = drop_ ρ (f (full ρ)) := (rfl)
@[simp] theorem ret_ap : S.ret f ρ = ret_ ρ (f (full ρ)) := (rfl)
@[simp] theorem retL_ap : S.retL fs ρ = retL_ ρ (fs (full ρ)) := (rfl)
@[simp] theorem retN_ap : S.retN ρ = .rt .non := (rfl)
def retO_ (s : Option Sl) : Out := match s with | some (.own ds) => .ro ds | _ => .bad
@[simp] theorem retO_ok (ds : List D) : retO_ (some (.own ds)) = .ro ds := (rfl)
@[simp] theorem retO_ap (i : Nat) : S.retO i ρ = retO_ ρ[i]? := (rfl)
@[simp] theorem ifs_ap : S.ifs p g k ρ = ifs_ g k ρ (p (full ρ)) := (rfl)
/-- a value put behind a list of one's own -/
def push_ (i : Nat) (ρ : Ev) (s : Option Sl) (r : R D) : Out := match s with
  | some (.own ds) => (match r with | .ok d => if ds.length < LINE then .nx (ρ.set i (.own (ds ++ [d]))) else .bad | .exc c => .ex c ρ | .bad => .bad)
  | _ => .bad
@[simp] theorem push_ok {i : Nat} {ρ : Ev} {ds : List D} {d : D} (h : ds.length < LINE) : push_ i ρ (some (.own ds)) (.ok d) = .nx (ρ.set i (.own (ds ++ [d]))) := if_pos h
@[simp] theorem push_exc (i : Nat) (ρ : Ev) (ds : List D) (c : Str) : push_ i ρ (some (.own ds)) (.exc c) = .ex c ρ := (rfl)
@[simp] theorem push_f (i : Nat) : S.push false i f ρ = push_ i ρ ρ[i]? (f ρ) := by
  simp only [S.push, S.run, S.ev, S.onO, Bool.false_eq_true, if_false, push_]
  cases e : ρ[i]? with
  | none => rfl
  | some s =>
    cases s with
    | own ds =>
      cases f ρ with
      | ok d => dsimp only; by_cases hz : ds.length < LINE <;> simp [hz]
      | exc c => rfl
      | bad => rfl
    | _ => rfl
@[simp] theorem push_t (i : Nat) : S.push true i f ρ = push_ i ρ ρ[i]? (flatR (f (full ρ))) := by
  simp only [S.push, S.run, S.ev, S.onO, if_true, push_, flatR]
  cases e : ρ[i]? with
  | none => rfl
  | some s =>
    cases s with
    | own ds =>
      cases f (full ρ) with
      | ok d =>
        simp only [R.bind_ok]
        by_cases hf : flat d = true
        · simp only [hf, if_true]; by_cases hz : ds.length < LINE <;> simp [hz]
        · simp [hf]
      | exc c => rfl
      | bad => rfl
    | _ => rfl
theorem put_ok {i : Nat} {ds : List D} {d : D} {n : Nat} {z : Int} (hi : ρ[i]? = some (.own ds)) (hf : f (full ρ) = .ok d) (hd : flat d = true) (hk : h (full ρ) = .ok (.int z)) (hn : ixN ds.length z = some n) : S.put i h f ρ = .nx (ρ.set i (.own (ds.set n d))) := by
  have e : flat (.int z) = true := rfl
  simp only [S.put, S.run, S.ev, S.onO, if_true, hf, R.bind_ok, hd, hi, hk, e, hn]
@[simp] theorem rev_ap (i : Nat) : S.rev i ρ = match ρ[i]? with | some (.own ds) => .nx (ρ.set i (.own ds.reverse)) | _ => .bad := (rfl)
@[simp] theorem clr_ap (i : Nat) : S.clr i ρ = match ρ[i]? with | some (.own ds) => .nx (ρ.set i (.own [])) | _ => .bad := (rfl)
@[simp] theorem forS_ap (t : D → R (List (Nat × D))) (ws : List Nat) : S.forS false fs t ws g ρ = for_ t ws g ρ (fs ρ) := (rfl)
@[simp] theorem wh_ap (fu : Ev → Nat) : S.wh fu p g ρ = S.whF p g (fu ρ) ρ := (rfl)
@[simp] theorem whF_succ (n : Nat) : S.whF p g (n + 1) ρ = match p (full ρ) with
    | .ok true => (match g ρ with
      | .nx ρ' => S.whF p g n ρ'
      | o => o)
    | .ok false => .nx ρ
    | .exc c => .ex c ρ
    | .bad => .bad := rfl
end
@[simp] theorem fin_rt (d : D) : fin (.rt d) = .ok d := (rfl)
@[simp] theorem fin_ro (d : List D) : fin (.ro d) = .ok (.lst d) := (rfl)
@[simp] theorem fin_nx (ρ : Ev) : fin (.nx ρ) = .ok .non := (rfl)
@[simp] theorem fin_ex (c : Str) (ρ : Ev) : fin (.ex c ρ) = .exc c := (rfl)
@[simp] theorem finL_ro (d : List D) : finL (.ro d) = .ok d := (rfl)
@[simp] theorem finL_ex (c : Str) (ρ : Ev) : finL (.ex c ρ) = .exc c := (rfl)
/-! ### data -/
@[simp] theorem add_ii (i j : Int) : dAdd (.int i) (.int j) = .ok (.int (i + j)) := (rfl)
@[simp] theorem sub_ii (i j : Int) : dSub (.int i) (.int j) = .ok (.int (i - j)) := (rfl)
theorem mul_ii {i j : Int} (h : (-(2 ^ 64) < i ∧ i < 2 ^ 64) ∨ (-(2 ^ 64) < j ∧ j < 2 ^ 64)) : dMul (.int i) (.int j) = .ok (.int (i * j)) := by
  show (if cMul i j = true then _ else _) = _
  exact if_pos (decide_eq_true h)
theorem div_ii {i j : Int} (h : 0 < j ∧ j < 1073741824) : dDiv (.int i) (.int j) = .ok (.int (i / j)) := by
  show (if cDiv i j = true then _ else _) = _
  exact if_pos (decide_eq_true h)
theorem mod_ii {i j : Int} (h : 0 < j) : dMod (.int i) (.int j) = .ok (.int (i % j)) := by
  show (if cMod i j = true then _ else _) = _
  exact if_pos (decide_eq_true h)
@[simp] theorem lt_ii (i j : Int) : dLt (.int i) (.int j) = .ok (.bl (decide (i < j))) := (rfl)
@[simp] theorem le_ii (i j : Int) : dLe (.int i) (.int j) = .ok (.bl (decide (i ≤ j))) := (rfl)
@[simp] theorem gt_ii (i j : Int) : dGt (.int i) (.int j) = .ok (.bl (decide (j < i))) := (rfl)
@[simp] theorem ge_ii (i j : Int) : dGe (.int i) (.int j) = .ok (.bl (decide (j ≤ i))) := (rfl)
@[simp] theorem eq_ii (i j : Int) : dEq (.int i) (.int j) = .ok (.bl (i == j)) := (rfl)
@[simp] theorem ne_ii (i j : Int) : dNe (.int i) (.int j) = .ok (.bl (!(i == j))) := (rfl)
@[simp] theorem eq_ss (i j : Str) : dEq (.str i) (.str j) = .ok (.bl (i == j)) := (rfl)
@[simp] theorem ne_ss (i j : Str) : dNe (.str i) (.str j) = .ok (.bl (!(i == j))) := (rfl)
@[simp] theorem len_l (ds : List D) : dLen [.lst ds] = .ok (.int ds.length) := (rfl)
@[simp] theorem len_t (ds : List D) : dLen [.tup ds] = .ok (.int ds.length) := (rfl)
@[simp] theorem len_s (ns : List Int) : dLen [.scr ns] = .ok (.int ns.length) := (rfl)
theorem len_x {x : Str} (h : x.length ≤ LINE) : dLen [.str x] = .ok (.int x.length) := by
  show (if x.length ≤ LINE then _ else _) = _
  rw [if_pos h]
@[simp] theorem neg_i (i : Int) : dNeg (.int i) = .ok (.int (-i)) := (rfl)
@[simp] theorem isi_i (T : String) (i : Int) : dIsi T (.int i) = .ok (.bl (subT "int" T)) := (rfl)
@[simp] theorem isi_b (T : String) (i : Bool) : dIsi T (.bl i) = .ok (.bl (subT "bool" T)) := (rfl)
@[simp] theorem isi_n (T : String) : dIsi T .non = .ok (.bl (subT "NoneType" T)) := (rfl)
@[simp] theorem isi_s (T : String) (i : Str) : dIsi T (.str i) = .ok (.bl (subT "str" T)) := (rfl)
@[simp] theorem isi_l (T : String) (i : List D) : dIsi T (.lst i) = .ok (.bl (subT "list" T)) := (rfl)
@[simp] theorem isi_t (T : String) (i : List D) : dIsi T (.tup i) = .ok (.bl (subT "tuple" T)) := (rfl)
@[simp] theorem list_l (ds : List D) : dList [.lst ds] = .ok ds := (rfl)
@[simp] theorem list_t (ds : List D) : dList [.tup ds] = .ok ds := (rfl)
@[simp] theorem tuple_l (ds : List D) : dTuple [.lst ds] = .ok (.tup ds) := (rfl)
@[simp] theorem iter_l (ds : List D) : dIter (.lst ds) = .ok ds := (rfl)
@[simp] theorem iter_t (ds : List D) : dIter (.tup ds) = .ok ds := (rfl)
@[simp] theorem int_b (b : Bool) : dInt [.bl b] = .ok (.int (if b then 1 else 0)) := (rfl)
@[simp] theorem zip_ll (ds es : List D) : dZip [.lst ds, .lst es] = .ok (pairs ds es) := (rfl)
@[simp] theorem zip_lt (ds es : List D) : dZip [.lst ds, .tup es] = .ok (pairs ds es) := (rfl)
@[simp] theorem enum_l (ds : List D) : dEnum [.lst ds] = .ok (numbered ds) := (rfl)
theorem ixN_nat {n i : Nat} (h : i < n) : ixN n (i : Int) = some i := by
  unfold ixN
  simp [h]
theorem atI_nat' {α : Type} (l : List α) (i : Nat) : atI l (i : Int) = l[i]? := by
  unfold atI
  by_cases h : i < l.length
  · rw [ixN_nat h]; rfl
  · unfold ixN
    simp [h]
theorem ix_l (ds : List D) (i : Int) : dIx (.lst ds) (.int i) = match atI ds i with | some d => .ok d | none => .bad := rfl
theorem ix_t (ds : List D) (i : Int) : dIx (.tup ds) (.int i) = match atI ds i with | some d => .ok d | none => .bad := rfl
theorem ix_s (ns : List Int) (i : Int) : dIx (.scr ns) (.int i) = match atI ns i with | some d => .ok (.int d) | none => .bad := rfl
theorem ix_ln {ds : List D} {i : Nat} {d : D} (h : ds[i]? = some d) : dIx (.lst ds) (.int i) = .ok d := by
  rw [ix_l, atI_nat', h]
theorem ix_tn {ds : List D} {i : Nat} {d : D} (h : ds[i]? = some d) : dIx (.tup ds) (.int i) = .ok d := by
  rw [ix_t, atI_nat', h]
theorem ix_sn {ns : List Int} {i : Nat} {d : Int} (h : ns[i]? = some d) : dIx (.scr ns) (.int i) = .ok (.int d) := by
  rw [ix_s, atI_nat', h]
theorem upTo_nat (n : Nat) : upTo 0 n = (List.range n).map fun (k : Nat) => D.int k := by
  unfold upTo
  exact List.map_congr_left fun k _ => by rw [Int.zero_add]
theorem range1_nat {n : Nat} (h : n < 1000000) : dRange1 [.int n] = .ok ((List.range n).map fun (k : Nat) => D.int k) := by
  have e : dRange1 [.int n] = if -(2 ^ 62) ≤ (n : Int) ∧ (n : Int) < 2 ^ 62 then .ok (upTo 0 (n : Int).toNat) else .bad := rfl
  rw [e, if_pos (by omega), Int.toNat_natCast, upTo_nat]
/-! ### == of the same -/
mutual
theorem eqv_same : ∀ (n : Nat) (d : D), wide n d = true → PyData.eqv d.py d.py = true
  | _, .non, _ => by simp [D.py, PyData.eqv]
  | _, .bl b, _ => by simp [D.py, PyData.eqv]
  | _, .int i, _ => by simp [D.py, PyData.eqv]
  | _, .str x, _ => by simp [D.py, PyData.eqv]
  | n, .lst ds, h => by
    simp only [wide] at h
    simp only [D.py, PyData.eqv]
    exact eqvs_same n ds h
  | n, .tup ds, h => by
    simp only [wide] at h
    simp only [D.py, PyData.eqv]
    exact eqvs_same n ds h
  | _, .shop _ _, h => by simp [wide] at h
  | _, .scr _, h => by simp [wide] at h
  | _, .exn _ _, h => by simp [wide] at h
  | _, .dic, h => by simp [wide] at h
theorem eqvs_same : ∀ (n : Nat) (ds : List D), wides n ds = true → PyData.eqvAll (D.pys ds) (D.pys ds) = true
  | _, [], _ => by simp [D.pys, PyData.eqvAll]
  | 0, _ :: _, h => by simp [wides] at h
  | n + 1, d :: ds, h => by
    simp only [wides, Bool.and_eq_true] at h
    simp only [D.pys, PyData.eqvAll, eqv_same n d h.1, eqvs_same (n + 1) ds h.2, Bool.and_self]
end
theorem eqF_same (d : D) (h : scalD d d = true) : eqF d d = true := by
  cases d <;> simp_all [scalD, eqF]
theorem eq_same {d : D} (h : wide 9 d = true) : dEq d d = .ok (.bl true) := by
  unfold dEq
  by_cases q : scalD d d = true
  · rw [if_pos q, eqF_same d q]
  · rw [if_neg q, h, eqv_same 9 d h]
    rfl
theorem ne_same {d : D} (h : wide 9 d = true) : dNe d d = .ok (.bl false) := by
  unfold dNe
  by_cases q : scalD d d = true
  · rw [if_pos q, eqF_same d q]
    rfl
  · rw [if_neg q, h, eqv_same 9 d h]
    rfl
theorem wides_map {α : Type} {n : Nat} {f : α → D} {l : List α} (h : ∀ x ∈ l, wide n (f x) = true) : wides (n + 1) (l.map f) = true := by
  rw [wides_iff, List.all_map, List.all_eq_true]
  exact fun x hx => h x hx
theorem wide_ints {n : Nat} (l : List Int) : wide (n + 1) (.lst (l.map .int)) = true := by
  simp only [wide]
  exact wides_map fun _ _ => by simp [wide]
theorem wide_tints {n : Nat} (l : List Int) : wide (n + 1) (.tup (l.map .int)) = true := by
  simp only [wide]
  exact wides_map fun _ _ => by simp [wide]
/-! ### loops -/
/-- one turn -/
def turn (g : D → R (List (Nat × D))) (ws : List Nat) (body : Ev → Out) (d : D) (ρ : Ev) : Out := match g d with
  | .ok ps => match body (setD ps ρ) with
    | .nx ρ' => .nx (wipeE ws ρ')
    | o => o
  | _ => .bad
theorem forF_cons {g : D → R (List (Nat × D))} {ws : List Nat} {body : Ev → Out} {d : D} {ds : List D} {ρ : Ev} : S.forF g ws body (d :: ds) ρ = match turn g ws body d ρ with
    | .nx ρ' => S.forF g ws body ds ρ'
    | o => o := by
  show (match g d with | .ok ps => (match body (setD ps ρ) with | .nx ρ' => S.forF g ws body ds (wipeE ws ρ') | o => o) | _ => .bad) = _
  unfold turn
  cases g d with
  | ok ps =>
    dsimp only
    cases body (setD ps ρ) <;> rfl
  | exc c => rfl
  | bad => rfl
theorem forF_fold {α σ : Type} {g : D → R (List (Nat × D))} {ws : List Nat} {body : Ev → Out} (k : α → D) (env : σ → Ev) (step : σ → α → σ) (I : σ → Prop) : ∀ (xs : List α) (s : σ), I s →
    (∀ s x, x ∈ xs → I s → turn g ws body (k x) (env s) = .nx (env (step s x)) ∧ I (step s x)) → S.forF g ws body (xs.map k) (env s) = .nx (env (xs.foldl step s)) ∧ I (xs.foldl step s)
  | [], s, i, _ => ⟨rfl, i⟩
  | x :: xs, s, i, h => by
    obtain ⟨h1, h2⟩ := h s x List.mem_cons_self i
    rw [List.map_cons, forF_cons, h1]
    exact forF_fold k env step I xs (step s x) h2 fun s y hy => h s y (List.mem_cons_of_mem _ hy)
/-- .. with the turn's number -/
theorem forF_foldN {α σ : Type} {g : D → R (List (Nat × D))} {ws : List Nat} {body : Ev → Out} (k : α → D) (env : σ → Ev) (step : σ → α → σ) (I : Nat → σ → Prop) (xs : List α) (s : σ) (h0 : I 0 s)
    (h : ∀ i s x, xs[i]? = some x → I i s → turn g ws body (k x) (env s) = .nx (env (step s x)) ∧ I (i + 1) (step s x)) : S.forF g ws body (xs.map k) (env s) = .nx (env (xs.foldl step s)) ∧ I xs.length (xs.foldl step s) := by
  have go : ∀ (ys : List α) (i : Nat) (s : σ), I i s → (∀ j s x, ys[j]? = some x → I (i + j) s → turn g ws body (k x) (env s) = .nx (env (step s x)) ∧ I (i + j + 1) (step s x)) →
      S.forF g ws body (ys.map k) (env s) = .nx (env (ys.foldl step s)) ∧ I (i + ys.length) (ys.foldl step s) := by
    intro ys
    induction ys with
    | nil => exact fun i s hi _ => ⟨rfl, hi⟩
    | cons y ys ih =>
      intro i s hi hh
      obtain ⟨h1, h2⟩ := hh 0 s y rfl hi
      rw [List.map_cons, forF_cons, h1]
      have z := ih (i + 1) (step s y) h2 fun j s x hj hI => by
        have q := hh (j + 1) s x hj (by rw [show i + (j + 1) = i + 1 + j by omega]; exact hI)
        rw [show i + (j + 1) + 1 = i + 1 + j + 1 by omega] at q
        exact q
      rw [show i + 1 + ys.length = i + (y :: ys).length by simp; omega] at z
      exact z
  have z := go xs 0 s h0 fun j s x hj hI => by
    rw [Nat.zero_add] at hI ⊢
    exact h j s x hj hI
  rw [Nat.zero_add] at z
  exact z
/-- a loop that changes nothing and may answer -/
theorem forF_ans {α : Type} {g : D → R (List (Nat × D))} {ws : List Nat} {body : Ev → Out} (k : α → D) (ρ : Ev) (p : α → Bool) (d : D) : ∀ xs : List α,
    (∀ x ∈ xs, turn g ws body (k x) ρ = if p x then .rt d else .nx ρ) → S.forF g ws body (xs.map k) ρ = if xs.any p then .rt d else .nx ρ
  | [], _ => rfl
  | x :: xs, h => by
    rw [List.map_cons, forF_cons, h x List.mem_cons_self]
    by_cases q : p x = true
    · simp [q]
    · rw [if_neg q]
      simp only [List.any_cons, q, Bool.false_or]
      exact forF_ans k ρ p d xs fun y hy => h y (List.mem_cons_of_mem _ hy)
theorem forF_all {α : Type} {g : D → R (List (Nat × D))} {ws : List Nat} {body : Ev → Out} (k : α → D) (ρ : Ev) (xs : List α)
    (h : ∀ x ∈ xs, turn g ws body (k x) ρ = .nx ρ) : S.forF g ws body (xs.map k) ρ = .nx ρ := by
  rw [forF_ans k ρ (fun _ => false) .non xs fun x hx => by simpa using h x hx]
  simp
theorem compF_map {α : Type} {g : D → R (List (Nat × D))} {tt : Ev → R Bool} {te : Ev → R D} {ρ : Ev} (k : α → D) (p : α → Bool) (f : α → D) : ∀ xs : List α,
    (∀ x ∈ xs, ∃ ps, g (k x) = .ok ps ∧ tt (setD ps ρ) = .ok (p x) ∧ (p x = true → te (setD ps ρ) = .ok (f x))) → compF g tt te ρ (xs.map k) = .ok ((xs.filter p).map f)
  | [], _ => rfl
  | x :: xs, h => by
    obtain ⟨ps, h1, h2, h3⟩ := h x List.mem_cons_self
    have ih := compF_map k p f xs fun y hy => h y (List.mem_cons_of_mem _ hy)
    rw [List.map_cons]
    unfold compF
    rw [h1]
    dsimp only
    rw [h2]
    by_cases q : p x = true
    · rw [q]
      dsimp only
      rw [h3 q]
      dsimp only
      rw [ih, List.filter_cons_of_pos q]
      rfl
    · have q' : p x = false := by simpa using q
      rw [q']
      dsimp only
      rw [ih, List.filter_cons_of_neg (by simp [q'])]
theorem compF_all {α : Type} {g : D → R (List (Nat × D))} {te : Ev → R D} {ρ : Ev} (k : α → D) (f : α → D) (xs : List α)
    (h : ∀ x ∈ xs, ∃ ps, g (k x) = .ok ps ∧ te (setD ps ρ) = .ok (f x)) : compF g yes te ρ (xs.map k) = .ok (xs.map f) := by
  rw [compF_map k (fun _ => true) f xs fun x hx => by
    obtain ⟨ps, h1, h2⟩ := h x hx
    exact ⟨ps, h1, rfl, fun _ => h2⟩]
  rw [List.filter_eq_self.mpr fun _ _ => rfl]
end TB
/-! reckoning: texts, slices, methods; loops by an invariant -/
namespace TB
open PySem PySem.Spec PyProof.Rows L2

/-! ### loops by an invariant -/
theorem forF_inv {α : Type} {g : D → R (List (Nat × D))} {ws : List Nat} {body : Ev → Out} (k : α → D) (I : Ev → Prop) : ∀ (xs : List α) (ρ : Ev), I ρ →
    (∀ x ∈ xs, ∀ ρ, I ρ → ∃ ρ', turn g ws body (k x) ρ = .nx ρ' ∧ I ρ') → ∃ ρ', S.forF g ws body (xs.map k) ρ = .nx ρ' ∧ I ρ'
  | [], ρ, i, _ => ⟨ρ, rfl, i⟩
  | x :: xs, ρ, i, h => by
    obtain ⟨ρ1, h1, i1⟩ := h x List.mem_cons_self ρ i
    rw [List.map_cons, forF_cons, h1]
    exact forF_inv k I xs ρ1 i1 fun y hy => h y (List.mem_cons_of_mem _ hy)
theorem forF_invN {α : Type} {g : D → R (List (Nat × D))} {ws : List Nat} {body : Ev → Out} (k : α → D) (I : Nat → Ev → Prop) (xs : List α) (ρ : Ev) (i0 : I 0 ρ)
    (h : ∀ i x, xs[i]? = some x → ∀ ρ, I i ρ → ∃ ρ', turn g ws body (k x) ρ = .nx ρ' ∧ I (i + 1) ρ') : ∃ ρ', S.forF g ws body (xs.map k) ρ = .nx ρ' ∧ I xs.length ρ' := by
  have go : ∀ (ys : List α) (j : Nat) (ρ : Ev), I j ρ → (∀ i x, ys[i]? = some x → ∀ ρ, I (j + i) ρ → ∃ ρ', turn g ws body (k x) ρ = .nx ρ' ∧ I (j + i + 1) ρ') →
      ∃ ρ', S.forF g ws body (ys.map k) ρ = .nx ρ' ∧ I (j + ys.length) ρ' := by
    intro ys
    induction ys with
    | nil => exact fun j ρ hi _ => ⟨ρ, rfl, hi⟩
    | cons y ys ih =>
      intro j ρ hi hh
      obtain ⟨ρ1, h1, i1⟩ := hh 0 y rfl ρ hi
      obtain ⟨ρ2, h2, i2⟩ := ih (j + 1) ρ1 i1 fun i x hx ρ hρ => by
        have q := hh (i + 1) x hx ρ (by rw [show j + (i + 1) = j + 1 + i by omega]; exact hρ)
        rw [show j + (i + 1) + 1 = j + 1 + i + 1 by omega] at q
        exact q
      refine ⟨ρ2, ?_, by rw [show j + (y :: ys).length = j + 1 + ys.length by simp; omega]; exact i2⟩
      rw [List.map_cons, forF_cons, h1]
      exact h2
  obtain ⟨ρ', h1, h2⟩ := go xs 0 ρ i0 fun i x hx ρ hρ => by
    rw [Nat.zero_add] at hρ ⊢
    exact h i x hx ρ hρ
  rw [Nat.zero_add] at h2
  exact ⟨ρ', h1, h2⟩
/-- .. by a state -/
theorem forF_st {α σ : Type} {g : D → R (List (Nat × D))} {ws : List Nat} {body : Ev → Out} (k : α → D) (env : σ → Ev) (I : Nat → σ → Prop) (xs : List α) (s : σ) (i0 : I 0 s)
    (h : ∀ i x, xs[i]? = some x → ∀ s, I i s → ∃ s', turn g ws body (k x) (env s) = .nx (env s') ∧ I (i + 1) s') : ∃ s', S.forF g ws body (xs.map k) (env s) = .nx (env s') ∧ I xs.length s' := by
  obtain ⟨ρ', h1, s', h2, h3⟩ := forF_invN k (fun i ρ => ∃ s, ρ = env s ∧ I i s) xs (env s) ⟨s, rfl, i0⟩ fun i x hx ρ hρ => by
    obtain ⟨s, e, hs⟩ := hρ
    obtain ⟨s', h1, h2⟩ := h i x hx s hs
    rw [e]
    exact ⟨env s', h1, s', rfl, h2⟩
  rw [h2] at h1
  exact ⟨s', h1, h3⟩
theorem range_at {n i x : Nat} (h : (List.range n)[i]? = some x) : i < n ∧ i = x := by
  obtain ⟨h1, h2⟩ := List.getElem?_eq_some_iff.mp h
  rw [List.length_range] at h1
  rw [List.getElem_range] at h2
  exact ⟨h1, h2⟩
theorem lt_line {n : Nat} (h : n < 100000) : n < LINE := by show n < 1000000; omega
theorem le_line {n : Nat} (h : n < 100000) : n ≤ LINE := by show n ≤ 1000000; omega
/-! ### one turn, without unfolding -/
def wipe_ (ws : List Nat) (o : Out) : Out := match o with
  | .nx ρ' => .nx (wipeE ws ρ')
  | o => o
@[simp] theorem wipe_nx (ws : List Nat) (ρ : Ev) : wipe_ ws (.nx ρ) = .nx (wipeE ws ρ) := (rfl)
@[simp] theorem wipe_rt (ws : List Nat) (d : D) : wipe_ ws (.rt d) = .rt d := (rfl)
@[simp] theorem wipe_ex (ws : List Nat) (c : Str) (ρ : Ev) : wipe_ ws (.ex c ρ) = .ex c ρ := (rfl)
theorem turn1 (i : Nat) (ws : List Nat) (body : Ev → Out) (d : D) (ρ : Ev) : turn (G.one i) ws body d ρ = wipe_ ws (body (ρ.set i (.sh d))) := by
  unfold turn wipe_
  rw [one_ap]
  rfl
theorem turn2 (i j : Nat) (ws : List Nat) (body : Ev → Out) (x y : D) (ρ : Ev) : turn (G.tup 2 (G.cons (G.one i) (G.cons (G.one j) G.nil))) ws body (.tup [x, y]) ρ = wipe_ ws (body ((ρ.set i (.sh x)).set j (.sh y))) := by
  unfold turn wipe_
  rw [show G.tup 2 (G.cons (G.one i) (G.cons (G.one j) G.nil)) (.tup [x, y]) = .ok [(i, x), (j, y)] from rfl]
  rfl
/-! ### more rows -/
namespace R
def mthB (g : D → D → R D) (x y : R D) : R D := x.bind fun x => match y with
  | .ok y => g x y
  | _ => .bad
@[simp] theorem mthB_ok (g : D → D → R D) (x y : D) : mthB g (.ok x) (.ok y) = g x y := (rfl)
def methB (g : List D → R D) (x y : R D) : R D := x.bind fun x => match x with
  | .shop ns ps => y.bind fun y => g [.shop ns ps, y]
  | _ => .bad
@[simp] theorem methB_ok (g : List D → R D) (ns ps : List D) (y : D) : methB g (.ok (.shop ns ps)) (.ok y) = g [.shop ns ps, y] := (rfl)
def optB (x : R D) : R (Option Int) := match x with
  | .ok (.int i) => .ok (some i)
  | _ => .bad
@[simp] theorem optB_ok (i : Int) : optB (.ok (.int i)) = .ok (some i) := (rfl)
def sliceB (x : R D) (l u : R (Option Int)) : R D := x.bind fun x => match l, u with
  | .ok lo, .ok hi => (match x with
    | .str z => if z.length ≤ LINE then .ok (.str (cutS z lo hi)) else .bad
    | .lst ds => .ok (.lst ((ds.drop (HT.sIx ds.length 0 lo)).take (HT.sIx ds.length ds.length hi - HT.sIx ds.length 0 lo)))
    | .tup ds => .ok (.tup ((ds.drop (HT.sIx ds.length 0 lo)).take (HT.sIx ds.length ds.length hi - HT.sIx ds.length 0 lo)))
    | _ => .bad)
  | _, _ => .bad
end R
section
variable (ρ : Ev) (f h j : Ev → R D) (l u : Ev → R (Option Int))
@[simp] theorem mth_ap (g : D → D → R D) : E.mth g f h ρ = R.mthB g (f ρ) (h ρ) := (rfl)
@[simp] theorem meth_ap (g : List D → R D) : E.meth g f h ρ = R.methB g (f ρ) (h ρ) := (rfl)
@[simp] theorem o0_ap : E.o0 ρ = .ok none := (rfl)
@[simp] theorem o1_ap : E.o1 f ρ = R.optB (f ρ) := (rfl)
@[simp] theorem slice_ap : E.slice f l u ρ = R.sliceB (f ρ) (l ρ) (u ρ) := (rfl)
@[simp] theorem raise_ap (c : Str) : S.raise c ρ = .ex c ρ := (rfl)
end
@[simp] theorem names_s (ns ps : List D) : dNames (.shop ns ps) = .ok (.lst ns) := (rfl)
@[simp] theorem prices_s (ns ps : List D) : dPrices (.shop ns ps) = .ok (.lst ps) := (rfl)
/-! ### items at a literal place -/
@[simp] theorem ix_t0 (a : D) (ds : List D) : dIx (.tup (a :: ds)) (.int 0) = .ok a := ix_tn (i := 0) (ds := a :: ds) rfl
@[simp] theorem ix_t1 (a b : D) (ds : List D) : dIx (.tup (a :: b :: ds)) (.int 1) = .ok b := ix_tn (i := 1) (ds := a :: b :: ds) rfl
@[simp] theorem ix_t2 (a b c : D) (ds : List D) : dIx (.tup (a :: b :: c :: ds)) (.int 2) = .ok c := ix_tn (i := 2) (ds := a :: b :: c :: ds) rfl
@[simp] theorem ix_t3 (a b c d : D) (ds : List D) : dIx (.tup (a :: b :: c :: d :: ds)) (.int 3) = .ok d := ix_tn (i := 3) (ds := a :: b :: c :: d :: ds) rfl
@[simp] theorem ix_l0 (a : D) (ds : List D) : dIx (.lst (a :: ds)) (.int 0) = .ok a := ix_ln (i := 0) (ds := a :: ds) rfl
@[simp] theorem ix_l1 (a b : D) (ds : List D) : dIx (.lst (a :: b :: ds)) (.int 1) = .ok b := ix_ln (i := 1) (ds := a :: b :: ds) rfl
@[simp] theorem ix_l2 (a b c : D) (ds : List D) : dIx (.lst (a :: b :: c :: ds)) (.int 2) = .ok c := ix_ln (i := 2) (ds := a :: b :: c :: ds) rfl
@[simp] theorem ix_l3 (a b c d : D) (ds : List D) : dIx (.lst (a :: b :: c :: d :: ds)) (.int 3) = .ok d := ix_ln (i := 3) (ds := a :: b :: c :: d :: ds) rfl
/-! ### texts -/
abbrev T (l : List Nat) : Str := ⟨l.toArray⟩
@[simp] theorem T_len (l : List Nat) : (T l).length = l.length := by show (l.toArray).size = _; simp
@[simp] theorem T_app (a b : List Nat) : T a ++ T b = T (a ++ b) := by
  show Str.append (T a) (T b) = _
  unfold Str.append
  simp
theorem T_inj {a b : List Nat} (h : T a = T b) : a = b := by
  have := congrArg (fun z : Str => z.cps.toList) h
  simpa using this
theorem T_of (x : Str) : x = T x.cps.toList := by
  cases x
  simp
theorem add_TT {a b : List Nat} (h : a.length + b.length < 100000) : dAdd (.str (T a)) (.str (T b)) = .ok (.str (T (a ++ b))) := by
  have e : dAdd (.str (T a)) (.str (T b)) = if (T a).length + (T b).length ≤ LINE then .ok (.str (T a ++ T b)) else .bad := rfl
  rw [e, T_len, T_len, if_pos (le_line h), T_app]
theorem ix_T {l : List Nat} {i : Nat} {c : Nat} (hl : l.length < 100000) (h : l[i]? = some c) : dIx (.str (T l)) (.int i) = .ok (.str (T [c])) := by
  have e : dIx (.str (T l)) (.int i) = if (T l).length ≤ LINE then match atI (T l).cps.toList i with
    | some c => .ok (.str ⟨#[c]⟩)
    | none => .bad
    else .bad := rfl
  rw [e, T_len, if_pos (le_line hl), atI_nat']
  simp [h]
theorem iter_T (l : List Nat) : dIter (.str (T l)) = .ok (l.map fun c => .str (T [c])) := by
  show R.ok (signs (T l)) = _
  unfold signs
  simp
theorem in_T (neg : Bool) (c : Nat) (l : List Nat) : dIn neg (.str (T [c])) (.str (T l)) = .ok (.bl (neg ^^ decide (c ∈ l))) := by
  simp [dIn, sign1]
theorem in_L {neg : Bool} {x : D} {ds : List D} (hx : flat x = true) (hd : ds.all flat = true) : dIn neg x (.lst ds) = .ok (.bl (neg ^^ ds.any fun y => eqF y x)) := by
  have e : dIn neg x (.lst ds) = if flat x && ds.all flat then .ok (.bl (neg ^^ ds.any fun y => eqF y x)) else .bad := by
    cases x <;> rfl
  rw [e, hx, hd]
  rfl
theorem all_str (xs : List Str) : (xs.map D.str).all flat = true := by
  simp [flat]
theorem all_int (xs : List Int) : (xs.map D.int).all flat = true := by
  simp [flat]
theorem in_S (neg : Bool) (x : Str) (xs : List Str) : dIn neg (.str x) (.lst (xs.map .str)) = .ok (.bl (neg ^^ decide (x ∈ xs))) := by
  rw [in_L rfl (all_str xs)]
  congr 3
  rw [List.any_map]
  simp only [eqF, Function.comp_def]
  rw [Bool.eq_iff_iff]
  simp
/-! ### a list's item set -/
def putS_ (i : Nat) (ρ : Ev) (s : Option Sl) (d k : R D) : Out := match flatR d with
  | .ok d => (match s with
    | some (.own ds) => (match flatR k with
      | .ok (.int z) => (match ixN ds.length z with
        | some n => .nx (ρ.set i (.own (ds.set n d)))
        | none => .bad)
      | .ok _ => .bad
      | .exc c => .ex c ρ
      | .bad => .bad)
    | _ => .bad)
  | .exc c => .ex c ρ
  | .bad => .bad
@[simp] theorem putS_ok {i : Nat} {ρ : Ev} {ds : List D} {v : Int} {n : Nat} (h : n < ds.length) : putS_ i ρ (some (.own ds)) (.ok (.int v)) (.ok (.int n)) = .nx (ρ.set i (.own (ds.set n (.int v)))) := by
  show (match ixN ds.length (n : Int) with
    | some n => Out.nx (ρ.set i (.own (ds.set n (.int v))))
    | none => .bad) = _
  rw [ixN_nat h]
theorem put_ap (i : Nat) (h f : Ev → R D) (ρ : Ev) : S.put i h f ρ = putS_ i ρ ρ[i]? (f (full ρ)) (h (full ρ)) := by
  have e1 : S.ev true f ρ = flatR (f (full ρ)) := rfl
  have e2 : S.ev true h ρ = flatR (h (full ρ)) := rfl
  unfold S.put S.run putS_
  rw [e1]
  cases flatR (f (full ρ)) with
  | ok d =>
    dsimp only
    cases e : ρ[i]? with
    | none => rfl
    | some s =>
      cases s with
      | own ds =>
        dsimp only
        rw [e2]
        cases flatR (h (full ρ)) with
        | ok k =>
          cases k with
          | int z =>
            dsimp only
            unfold S.onO
            rw [e]
            dsimp only
            cases ixN ds.length z <;> rfl
          | _ => (dsimp only; unfold S.onO; rw [e])
        | exc c => rfl
        | bad => rfl
      | _ => rfl
  | exc c => rfl
  | bad => rfl
end TB
/-! reckoning: refusals -/
namespace TB
open PySem PySem.Spec PyProof.Rows L2
noncomputable section
def tryAs_ (cat : Str → Option Bool) (i : Nat) (hnd : Addr → Str → Ev → Out) (o : Out) : Out := match o with
  | .ex c ρ' => match cat c with
    | some true => indep fun a => hnd a c (ρ'.set i (.sh (.exn a c)))
    | some false => .ex c ρ'
    | none => .bad
  | o => o
@[simp] theorem tryAs_ap (cat : Str → Option Bool) (i : Nat) (u : Ev → Out) (hnd : Addr → Str → Ev → Out) (ρ : Ev) : S.tryAs cat i u hnd ρ = tryAs_ cat i hnd (u ρ) := by
  unfold S.tryAs tryAs_
  cases u ρ <;> rfl
@[simp] theorem tryAs_nx (cat : Str → Option Bool) (i : Nat) (hnd : Addr → Str → Ev → Out) (ρ : Ev) : tryAs_ cat i hnd (.nx ρ) = .nx ρ := (rfl)
@[simp] theorem tryAs_rt (cat : Str → Option Bool) (i : Nat) (hnd : Addr → Str → Ev → Out) (d : D) : tryAs_ cat i hnd (.rt d) = .rt d := (rfl)
theorem tryAs_ex {cat : Str → Option Bool} {c : Str} (h : cat c = some true) (i : Nat) (hnd : Addr → Str → Ev → Out) (ρ : Ev) : tryAs_ cat i hnd (.ex c ρ) = indep fun a => hnd a c (ρ.set i (.sh (.exn a c))) := by
  unfold tryAs_
  dsimp only
  rw [h]
@[simp] theorem indep_c (d : D) : indep (fun _ => .rt d) = .rt d := indep_eq fun _ => rfl
@[simp] theorem isX_ap (a : Addr) (c : Str) (b : Bool) : dIsX a c b (.exn a c) = .ok (.bl b) := if_pos ⟨rfl, rfl⟩
@[simp] theorem mulS_0 (z : Str) : dMulS (.str z) (.int 0) = .ok (.str Str.empty) := (rfl)
@[simp] theorem mulS_1 (z : Str) : dMulS (.str z) (.int 1) = .ok (.str z) := (rfl)
theorem calmR_ok {g : List D → R D} {ds : List D} {d : D} (h : g ds = .ok d) : calmR g ds = .ok d := by
  unfold calmR
  rw [h]
@[simp] theorem cat_BadKinds : catTill "BadKinds" = some true := by simp [catTill, errL]
@[simp] theorem cat_BadName : catTill "BadName" = some true := by simp [catTill, errL]
@[simp] theorem cat_Twice : catTill "Twice" = some true := by simp [catTill, errL]
@[simp] theorem cat_BadPrice : catTill "BadPrice" = some true := by simp [catTill, errL]
@[simp] theorem cat_BadBasket : catTill "BadBasket" = some true := by simp [catTill, errL]
@[simp] theorem cat_TooMany : catTill "TooMany" = some true := by simp [catTill, errL]
@[simp] theorem cat_BadOffer : catTill "BadOffer" = some true := by simp [catTill, errL]
@[simp] theorem cat_NoKind : catTill "NoKind" = some true := by simp [catTill, errL]
@[simp] theorem cat_NoOffer : catTill "NoOffer" = some true := by simp [catTill, errL]
@[simp] theorem trx_BadKinds (i : Nat) (hnd : Addr → Str → Ev → Out) (ρ : Ev) : tryAs_ catTill i hnd (.ex "BadKinds" ρ) = indep fun a => hnd a "BadKinds" (ρ.set i (.sh (.exn a "BadKinds"))) := tryAs_ex cat_BadKinds _ _ _
@[simp] theorem trx_BadName (i : Nat) (hnd : Addr → Str → Ev → Out) (ρ : Ev) : tryAs_ catTill i hnd (.ex "BadName" ρ) = indep fun a => hnd a "BadName" (ρ.set i (.sh (.exn a "BadName"))) := tryAs_ex cat_BadName _ _ _
@[simp] theorem trx_Twice (i : Nat) (hnd : Addr → Str → Ev → Out) (ρ : Ev) : tryAs_ catTill i hnd (.ex "Twice" ρ) = indep fun a => hnd a "Twice" (ρ.set i (.sh (.exn a "Twice"))) := tryAs_ex cat_Twice _ _ _
@[simp] theorem trx_BadPrice (i : Nat) (hnd : Addr → Str → Ev → Out) (ρ : Ev) : tryAs_ catTill i hnd (.ex "BadPrice" ρ) = indep fun a => hnd a "BadPrice" (ρ.set i (.sh (.exn a "BadPrice"))) := tryAs_ex cat_BadPrice _ _ _
@[simp] theorem trx_BadBasket (i : Nat) (hnd : Addr → Str → Ev → Out) (ρ : Ev) : tryAs_ catTill i hnd (.ex "BadBasket" ρ) = indep fun a => hnd a "BadBasket" (ρ.set i (.sh (.exn a "BadBasket"))) := tryAs_ex cat_BadBasket _ _ _
@[simp] theorem trx_TooMany (i : Nat) (hnd : Addr → Str → Ev → Out) (ρ : Ev) : tryAs_ catTill i hnd (.ex "TooMany" ρ) = indep fun a => hnd a "TooMany" (ρ.set i (.sh (.exn a "TooMany"))) := tryAs_ex cat_TooMany _ _ _
@[simp] theorem trx_BadOffer (i : Nat) (hnd : Addr → Str → Ev → Out) (ρ : Ev) : tryAs_ catTill i hnd (.ex "BadOffer" ρ) = indep fun a => hnd a "BadOffer" (ρ.set i (.sh (.exn a "BadOffer"))) := tryAs_ex cat_BadOffer _ _ _
@[simp] theorem trx_NoKind (i : Nat) (hnd : Addr → Str → Ev → Out) (ρ : Ev) : tryAs_ catTill i hnd (.ex "NoKind" ρ) = indep fun a => hnd a "NoKind" (ρ.set i (.sh (.exn a "NoKind"))) := tryAs_ex cat_NoKind _ _ _
@[simp] theorem trx_NoOffer (i : Nat) (hnd : Addr → Str → Ev → Out) (ρ : Ev) : tryAs_ catTill i hnd (.ex "NoOffer" ρ) = indep fun a => hnd a "NoOffer" (ρ.set i (.sh (.exn a "NoOffer"))) := tryAs_ex cat_NoOffer _ _ _
@[simp] theorem is_BadKinds_BadKinds : isN "BadKinds" "BadKinds" = true := by decide +kernel
@[simp] theorem is_BadKinds_BadName : isN "BadKinds" "BadName" = false := by decide +kernel
@[simp] theorem is_BadKinds_Twice : isN "BadKinds" "Twice" = false := by decide +kernel
@[simp] theorem is_BadKinds_BadPrice : isN "BadKinds" "BadPrice" = false := by decide +kernel
@[simp] theorem is_BadKinds_BadBasket : isN "BadKinds" "BadBasket" = false := by decide +kernel
@[simp] theorem is_BadKinds_TooMany : isN "BadKinds" "TooMany" = false := by decide +kernel
@[simp] theorem is_BadKinds_BadOffer : isN "BadKinds" "BadOffer" = false := by decide +kernel
@[simp] theorem is_BadKinds_NoKind : isN "BadKinds" "NoKind" = false := by decide +kernel
@[simp] theorem is_BadKinds_NoOffer : isN "BadKinds" "NoOffer" = false := by decide +kernel
@[simp] theorem is_BadKinds_TillError : isN "BadKinds" "TillError" = true := by decide +kernel
@[simp] theorem is_BadName_BadKinds : isN "BadName" "BadKinds" = false := by decide +kernel
@[simp] theorem is_BadName_BadName : isN "BadName" "BadName" = true := by decide +kernel
@[simp] theorem is_BadName_Twice : isN "BadName" "Twice" = false := by decide +kernel
@[simp] theorem is_BadName_BadPrice : isN "BadName" "BadPrice" = false := by decide +kernel
@[simp] theorem is_BadName_BadBasket : isN "BadName" "BadBasket" = false := by decide +kernel
@[simp] theorem is_BadName_TooMany : isN "BadName" "TooMany" = false := by decide +kernel
@[simp] theorem is_BadName_BadOffer : isN "BadName" "BadOffer" = false := by decide +kernel
@[simp] theorem is_BadName_NoKind : isN "BadName" "NoKind" = false := by decide +kernel
@[simp] theorem is_BadName_NoOffer : isN "BadName" "NoOffer" = false := by decide +kernel
@[simp] theorem is_BadName_TillError : isN "BadName" "TillError" = true := by decide +kernel
@[simp] theorem is_Twice_BadKinds : isN "Twice" "BadKinds" = false := by decide +kernel
@[simp] theorem is_Twice_BadName : isN "Twice" "BadName" = false := by decide +kernel
@[simp] theorem is_Twice_Twice : isN "Twice" "Twice" = true := by decide +kernel
@[simp] theorem is_Twice_BadPrice : isN "Twice" "BadPrice" = false := by decide +kernel
@[simp] theorem is_Twice_BadBasket : isN "Twice" "BadBasket" = false := by decide +kernel
@[simp] theorem is_Twice_TooMany : isN "Twice" "TooMany" = false := by decide +kernel
@[simp] theorem is_Twice_BadOffer : isN "Twice" "BadOffer" = false := by decide +kernel
@[simp] theorem is_Twice_NoKind : isN "Twice" "NoKind" = false := by decide +kernel
@[simp] theorem is_Twice_NoOffer : isN "Twice" "NoOffer" = false := by decide +kernel
@[simp] theorem is_Twice_TillError : isN "Twice" "TillError" = true := by decide +kernel
@[simp] theorem is_BadPrice_BadKinds : isN "BadPrice" "BadKinds" = false := by decide +kernel
@[simp] theorem is_BadPrice_BadName : isN "BadPrice" "BadName" = false := by decide +kernel
@[simp] theorem is_BadPrice_Twice : isN "BadPrice" "Twice" = false := by decide +kernel
@[simp] theorem is_BadPrice_BadPrice : isN "BadPrice" "BadPrice" = true := by decide +kernel
@[simp] theorem is_BadPrice_BadBasket : isN "BadPrice" "BadBasket" = false := by decide +kernel
@[simp] theorem is_BadPrice_TooMany : isN "BadPrice" "TooMany" = false := by decide +kernel
@[simp] theorem is_BadPrice_BadOffer : isN "BadPrice" "BadOffer" = false := by decide +kernel
@[simp] theorem is_BadPrice_NoKind : isN "BadPrice" "NoKind" = false := by decide +kernel
@[simp] theorem is_BadPrice_NoOffer : isN "BadPrice" "NoOffer" = false := by decide +kernel
@[simp] theorem is_BadPrice_TillError : isN "BadPrice" "TillError" = true := by decide +kernel
@[simp] theorem is_BadBasket_BadKinds : isN "BadBasket" "BadKinds" = false := by decide +kernel
@[simp] theorem is_BadBasket_BadName : isN "BadBasket" "BadName" = false := by decide +kernel
@[simp] theorem is_BadBasket_Twice : isN "BadBasket" "Twice" = false := by decide +kernel
@[simp] theorem is_BadBasket_BadPrice : isN "BadBasket" "BadPrice" = false := by decide +kernel
@[simp] theorem is_BadBasket_BadBasket : isN "BadBasket" "BadBasket" = true := by decide +kernel
@[simp] theorem is_BadBasket_TooMany : isN "BadBasket" "TooMany" = false := by decide +kernel
@[simp] theorem is_BadBasket_BadOffer : isN "BadBasket" "BadOffer" = false := by decide +kernel
@[simp] theorem is_BadBasket_NoKind : isN "BadBasket" "NoKind" = false := by decide +kernel
@[simp] theorem is_BadBasket_NoOffer : isN "BadBasket" "NoOffer" = false := by decide +kernel
@[simp] theorem is_BadBasket_TillError : isN "BadBasket" "TillError" = true := by decide +kernel
@[simp] theorem is_TooMany_BadKinds : isN "TooMany" "BadKinds" = false := by decide +kernel
@[simp] theorem is_TooMany_BadName : isN "TooMany" "BadName" = false := by decide +kernel
@[simp] theorem is_TooMany_Twice : isN "TooMany" "Twice" = false := by decide +kernel
@[simp] theorem is_TooMany_BadPrice : isN "TooMany" "BadPrice" = false := by decide +kernel
@[simp] theorem is_TooMany_BadBasket : isN "TooMany" "BadBasket" = false := by decide +kernel
@[simp] theorem is_TooMany_TooMany : isN "TooMany" "TooMany" = true := by decide +kernel
@[simp] theorem is_TooMany_BadOffer : isN "TooMany" "BadOffer" = false := by decide +kernel
@[simp] theorem is_TooMany_NoKind : isN "TooMany" "NoKind" = false := by decide +kernel
@[simp] theorem is_TooMany_NoOffer : isN "TooMany" "NoOffer" = false := by decide +kernel
@[simp] theorem is_TooMany_TillError : isN "TooMany" "TillError" = true := by decide +kernel
@[simp] theorem is_BadOffer_BadKinds : isN "BadOffer" "BadKinds" = false := by decide +kernel
@[simp] theorem is_BadOffer_BadName : isN "BadOffer" "BadName" = false := by decide +kernel
@[simp] theorem is_BadOffer_Twice : isN "BadOffer" "Twice" = false := by decide +kernel
@[simp] theorem is_BadOffer_BadPrice : isN "BadOffer" "BadPrice" = false := by decide +kernel
@[simp] theorem is_BadOffer_BadBasket : isN "BadOffer" "BadBasket" = false := by decide +kernel
@[simp] theorem is_BadOffer_TooMany : isN "BadOffer" "TooMany" = false := by decide +kernel
@[simp] theorem is_BadOffer_BadOffer : isN "BadOffer" "BadOffer" = true := by decide +kernel
@[simp] theorem is_BadOffer_NoKind : isN "BadOffer" "NoKind" = false := by decide +kernel
@[simp] theorem is_BadOffer_NoOffer : isN "BadOffer" "NoOffer" = false := by decide +kernel
@[simp] theorem is_BadOffer_TillError : isN "BadOffer" "TillError" = true := by decide +kernel
@[simp] theorem is_NoKind_BadKinds : isN "NoKind" "BadKinds" = false := by decide +kernel
@[simp] theorem is_NoKind_BadName : isN "NoKind" "BadName" = false := by decide +kernel
@[simp] theorem is_NoKind_Twice : isN "NoKind" "Twice" = false := by decide +kernel
@[simp] theorem is_NoKind_BadPrice : isN "NoKind" "BadPrice" = false := by decide +kernel
@[simp] theorem is_NoKind_BadBasket : isN "NoKind" "BadBasket" = false := by decide +kernel
@[simp] theorem is_NoKind_TooMany : isN "NoKind" "TooMany" = false := by decide +kernel
@[simp] theorem is_NoKind_BadOffer : isN "NoKind" "BadOffer" = false := by decide +kernel
@[simp] theorem is_NoKind_NoKind : isN "NoKind" "NoKind" = true := by decide +kernel
@[simp] theorem is_NoKind_NoOffer : isN "NoKind" "NoOffer" = false := by decide +kernel
@[simp] theorem is_NoKind_TillError : isN "NoKind" "TillError" = true := by decide +kernel
@[simp] theorem is_NoOffer_BadKinds : isN "NoOffer" "BadKinds" = false := by decide +kernel
@[simp] theorem is_NoOffer_BadName : isN "NoOffer" "BadName" = false := by decide +kernel
@[simp] theorem is_NoOffer_Twice : isN "NoOffer" "Twice" = false := by decide +kernel
@[simp] theorem is_NoOffer_BadPrice : isN "NoOffer" "BadPrice" = false := by decide +kernel
@[simp] theorem is_NoOffer_BadBasket : isN "NoOffer" "BadBasket" = false := by decide +kernel
@[simp] theorem is_NoOffer_TooMany : isN "NoOffer" "TooMany" = false := by decide +kernel
@[simp] theorem is_NoOffer_BadOffer : isN "NoOffer" "BadOffer" = false := by decide +kernel
@[simp] theorem is_NoOffer_NoKind : isN "NoOffer" "NoKind" = false := by decide +kernel
@[simp] theorem is_NoOffer_NoOffer : isN "NoOffer" "NoOffer" = true := by decide +kernel
@[simp] theorem is_NoOffer_TillError : isN "NoOffer" "TillError" = true := by decide +kernel
@[simp] theorem count_b (bs : List Bool) : dCount (.lst (bs.map .bl)) (.bl true) = .ok (.int ((bs.countP fun b => b : Nat) : Int)) := by
  have f : (bs.map D.bl).all flat = true := by simp [flat]
  show (if flat (.bl true) && (bs.map D.bl).all flat then R.ok (D.int ((bs.map D.bl).countP fun z => eqF z (.bl true) : Nat)) else .bad) = _
  rw [f, List.countP_map]
  show R.ok (D.int ((bs.countP ((fun z => eqF z (.bl true)) ∘ D.bl) : Nat) : Int)) = _
  congr 4
  funext b
  cases b <;> rfl
namespace R
def compXB (vs : List Nat) (g : D → R (List (Nat × D))) (p : Ev → R Bool) (f : Ev → R D) (ρ : Ev) (x : R (List D)) : R (List D) := x.bind fun ds => if ds.length ≤ LINE then TB.compX g p f (wipeE vs ρ) ds else .bad
@[simp] theorem compXB_ok {vs : List Nat} {g : D → R (List (Nat × D))} {p : Ev → R Bool} {f : Ev → R D} {ρ : Ev} {ds : List D} (h : ds.length ≤ LINE) : compXB vs g p f ρ (.ok ds) = TB.compX g p f (wipeE vs ρ) ds := by unfold compXB; rw [bind_ok, if_pos h]
@[simp] theorem compXB_exc (vs : List Nat) (g : D → R (List (Nat × D))) (p : Ev → R Bool) (f : Ev → R D) (ρ : Ev) (c : Str) : compXB vs g p f ρ (.exc c) = .exc c := (rfl)
@[simp] theorem compB_exc (vs : List Nat) (g : D → R (List (Nat × D))) (p : Ev → R Bool) (f : Ev → R D) (ρ : Ev) (c : Str) : compB vs g p f ρ (.exc c) = .exc c := (rfl)
@[simp] theorem compXB_1 (vs : List Nat) (g : D → R (List (Nat × D))) (p : Ev → R Bool) (f : Ev → R D) (ρ : Ev) (a : D) : compXB vs g p f ρ (.ok [a]) = TB.compX g p f (wipeE vs ρ) [a] := compXB_ok (by show 1 ≤ 1000000; decide)
@[simp] theorem compB_1 (vs : List Nat) (g : D → R (List (Nat × D))) (p : Ev → R Bool) (f : Ev → R D) (ρ : Ev) (a : D) : compB vs g p f ρ (.ok [a]) = compF g p f (wipeE vs ρ) [a] := compB_ok (by show 1 ≤ 1000000; decide)
@[simp] theorem compXB_2 (vs : List Nat) (g : D → R (List (Nat × D))) (p : Ev → R Bool) (f : Ev → R D) (ρ : Ev) (a b : D) : compXB vs g p f ρ (.ok [a, b]) = TB.compX g p f (wipeE vs ρ) [a, b] := compXB_ok (by show 2 ≤ 1000000; decide)
end R
@[simp] theorem compX_ap (vs : List Nat) (g : D → R (List (Nat × D))) (p : Ev → R Bool) (f : Ev → R D) (fs : Ev → R (List D)) (ρ : Ev) : E.compX vs fs g p f ρ = R.compXB vs g p f ρ (fs ρ) := (rfl)
theorem one_line (a : D) : ([a] : List D).length ≤ LINE := by show 1 ≤ 1000000; decide
/-- a loop that is refused -/
theorem forF_ex {α : Type} {g : D → R (List (Nat × D))} {ws : List Nat} {body : Ev → Out} (k : α → D) (ρ : Ev) (p : α → Bool) (c : Str) : ∀ xs : List α,
    (∀ x ∈ xs, p x = true → ∃ ρ', turn g ws body (k x) ρ = .ex c ρ') → (∀ x ∈ xs, p x = false → turn g ws body (k x) ρ = .nx ρ) → xs.any p = true → ∃ ρ', S.forF g ws body (xs.map k) ρ = .ex c ρ'
  | [], _, _, h => by simp at h
  | x :: xs, h1, h2, h => by
    rw [List.map_cons, forF_cons]
    cases q : p x with
    | true =>
      obtain ⟨ρ', e⟩ := h1 x List.mem_cons_self q
      rw [e]
      exact ⟨ρ', rfl⟩
    | false =>
      rw [h2 x List.mem_cons_self q]
      rw [List.any_cons, q, Bool.false_or] at h
      exact forF_ex k ρ p c xs (fun y hy => h1 y (List.mem_cons_of_mem _ hy)) (fun y hy => h2 y (List.mem_cons_of_mem _ hy)) h
end
end TB
namespace TB
open PySem PySem.Spec PyProof.Rows L2
noncomputable section
def PARTS : Tab := [("more", 4), ("set", 3), ("share", 3), ("slip", 4)]

def u_is_number : Ev → Out :=
    S.ret (E.vand (E.un (dIsi "int") (E.var 0)) (E.vand (E.vnot (E.un (dIsi "bool") (E.var 0))) (E.chain dLe dLe (E.var 1) (E.var 0) (E.var 2))))
def f_is_number (ds : List D) : R D := fin (u_is_number (start 3 ds))

def u_is_name : Ev → Out :=
    S.seq (S.ifs (E.bor (E.bnot (E.tst (E.un (dIsi "str") (E.var 0)))) (E.bnot (E.tst (E.chain dLe dLe (E.c (.int 1)) (E.app dLen (E.cons (E.var 0) E.nil)) (E.c (.int 8)))))) (S.ret (E.c (.bl false))) S.skip)
    (S.seq (S.pre (wipeE [1]) (S.forS false (E.iter (E.var 0)) (G.one 1) [1]
      (S.ifs (E.tst (E.bin (dIn true) (E.var 1) (E.c (.str "abcdefghijklmnopqrstuvwxyz")))) (S.ret (E.c (.bl false))) S.skip)))
    (S.ret (E.c (.bl true))))
def f_is_name (ds : List D) : R D := fin (u_is_name (start 2 ds))

def f_Shop : List D → R D := shopOf f_is_name f_is_number

def u_place : Ev → Out :=
    S.seq (S.ifs (E.bor (E.bnot (E.tst (E.un (dIsi "str") (E.var 1)))) (E.tst (E.bin (dIn true) (E.var 1) (E.un dNames (E.var 0))))) (S.raise "NoKind") S.skip)
    (S.ret (E.mth dIndex (E.un dNames (E.var 0)) (E.var 1)))
def f_place (ds : List D) : R D := fin (u_place (start 2 ds))

def u_need_form : Ev → Out :=
    S.seq (S.ifs (E.bor (E.bnot (E.tst (E.un (dIsi "tuple") (E.var 0)))) (E.bor (E.tst (E.bin dEq (E.app dLen (E.cons (E.var 0) E.nil)) (E.c (.int 0)))) (E.bnot (E.tst (E.un (dIsi "str") (E.bin dIx (E.var 0) (E.c (.int 0)))))))) (S.raise "BadOffer") S.skip)
    (S.ifs (E.bor (E.tst (E.un (dInTab true PARTS) (E.bin dIx (E.var 0) (E.c (.int 0))))) (E.tst (E.bin dNe (E.app dLen (E.cons (E.var 0) E.nil)) (E.un (dTab PARTS) (E.bin dIx (E.var 0) (E.c (.int 0))))))) (S.raise "BadOffer") S.skip)
def f_need_form (ds : List D) : R D := fin (u_need_form (start 1 ds))

def u_need : Ev → Out :=
    S.ifs (E.bnot (E.tst (E.var 0))) (S.raise "BadOffer") S.skip
def f_need (ds : List D) : R D := fin (u_need (start 1 ds))

def u_is_wants : Ev → Out :=
    S.seq (S.ifs (E.bnot (E.tst (E.un (dIsi "tuple") (E.var 0)))) (S.ret (E.c (.bl false))) S.skip)
    (S.seq (S.pre (wipeE [1]) (S.forS false (E.iter (E.var 0)) (G.one 1) [1]
      (S.ifs (E.bor (E.bnot (E.tst (E.un (dIsi "tuple") (E.var 1)))) (E.tst (E.bin dNe (E.app dLen (E.cons (E.var 1) E.nil)) (E.c (.int 2))))) (S.ret (E.c (.bl false))) S.skip)))
    (S.ret (E.c (.bl true))))
def f_is_wants (ds : List D) : R D := fin (u_is_wants (start 2 ds))

def u_names_in : Ev → Out :=
    S.seq (S.ifs (E.tst (E.bin dEq (E.bin dIx (E.var 0) (E.c (.int 0))) (E.c (.str "set")))) (S.seq (S.ifs (E.bnot (E.tst (E.app f_is_wants (E.cons (E.bin dIx (E.var 0) (E.c (.int 1))) E.nil)))) (S.ret (E.ofL (E.lst E.nil))) S.skip)
    (S.ret (E.ofL (E.comp [1] (E.iter (E.bin dIx (E.var 0) (E.c (.int 1)))) (G.one 1) yes (E.bin dIx (E.var 1) (E.c (.int 0))))))) S.skip)
    (S.seq (S.ifs (E.tst (E.bin dEq (E.bin dIx (E.var 0) (E.c (.int 0))) (E.c (.str "slip")))) (S.ret (E.ofL (E.lst (E.cons (E.bin dIx (E.var 0) (E.c (.int 1))) (E.cons (E.bin dIx (E.var 0) (E.c (.int 2))) E.nil))))) S.skip)
    (S.ret (E.ofL (E.lst (E.cons (E.bin dIx (E.var 0) (E.c (.int 1))) E.nil)))))
def f_names_in (ds : List D) : R D := fin (u_names_in (start 2 ds))

def u_need_parts : Ev → Out :=
    S.ifs (E.tst (E.bin dEq (E.bin dIx (E.var 0) (E.c (.int 0))) (E.c (.str "more")))) (S.drop (E.app f_need (E.cons (E.vand (E.app f_is_number (E.cons (E.bin dIx (E.var 0) (E.c (.int 2))) (E.cons (E.c (.int 2)) (E.cons (E.c (.int 9)) E.nil)))) (E.vand (E.app f_is_number (E.cons (E.bin dIx (E.var 0) (E.c (.int 3))) (E.cons (E.c (.int 1)) (E.cons (E.c (.int 9)) E.nil)))) (E.bin dLt (E.bin dIx (E.var 0) (E.c (.int 3))) (E.bin dIx (E.var 0) (E.c (.int 2)))))) E.nil))) (S.ifs (E.tst (E.bin dEq (E.bin dIx (E.var 0) (E.c (.int 0))) (E.c (.str "set")))) (S.seq (S.drop (E.app f_need (E.cons (E.vand (E.app f_is_wants (E.cons (E.bin dIx (E.var 0) (E.c (.int 1))) E.nil)) (E.vand (E.chain dLe dLe (E.c (.int 1)) (E.app dLen (E.cons (E.bin dIx (E.var 0) (E.c (.int 1))) E.nil)) (E.c (.int 5))) (E.app f_is_number (E.cons (E.bin dIx (E.var 0) (E.c (.int 2))) (E.cons (E.c (.int 0)) (E.cons (E.c (.int 100000)) E.nil)))))) E.nil)))
    (S.seq (S.pre (wipeE [1]) (S.forS false (E.iter (E.bin dIx (E.var 0) (E.c (.int 1)))) (G.one 1) [1]
      (S.drop (E.app f_need (E.cons (E.app f_is_number (E.cons (E.bin dIx (E.var 1) (E.c (.int 1))) (E.cons (E.c (.int 1)) (E.cons (E.c (.int 9)) E.nil)))) E.nil)))))
    (S.seq (S.asg false 2 (E.app f_names_in (E.cons (E.var 0) E.nil)))
    (S.drop (E.app f_need (E.cons (E.bin dEq (E.app dLen (E.cons (E.ofL (E.comp [3] (E.iter (E.var 2)) (G.one 3) (E.tst (E.bin dGt (E.mth dCount (E.var 2) (E.var 3)) (E.c (.int 1)))) (E.var 3))) E.nil)) (E.c (.int 0))) E.nil)))))) (S.ifs (E.tst (E.bin dEq (E.bin dIx (E.var 0) (E.c (.int 0))) (E.c (.str "share")))) (S.drop (E.app f_need (E.cons (E.app f_is_number (E.cons (E.bin dIx (E.var 0) (E.c (.int 2))) (E.cons (E.c (.int 1)) (E.cons (E.c (.int 100)) E.nil)))) E.nil))) (S.drop (E.app f_need (E.cons (E.vand (E.bin dNe (E.bin dIx (E.var 0) (E.c (.int 1))) (E.bin dIx (E.var 0) (E.c (.int 2)))) (E.app f_is_number (E.cons (E.bin dIx (E.var 0) (E.c (.int 3))) (E.cons (E.c (.int 1)) (E.cons (E.c (.int 100000)) E.nil))))) E.nil)))))
def f_need_parts (ds : List D) : R D := fin (u_need_parts (start 4 ds))

def u_wanted : Ev → Out :=
    S.seq (S.asgO false 2 (E.comp [5] (E.iter (E.un dNames (E.var 0))) (G.one 5) yes (E.c (.int 0))))
    (S.seq (S.pre (wipeE [3, 4]) (S.forS false (E.iter (E.var 1)) (G.tup 2 (G.cons (G.one 3) (G.cons (G.one 4) G.nil))) [3, 4]
      (S.put 2 (E.var 3) (E.bin dAdd (E.bin dIx (E.var 2) (E.var 3)) (E.var 4)))))
    (S.ret (E.app dTuple (E.cons (E.var 2) E.nil))))
def f_wanted (ds : List D) : R D := fin (u_wanted (start 6 ds))

def u_deal_of : Ev → Out :=
    S.seq (S.drop (E.app f_need_form (E.cons (E.var 1) E.nil)))
    (S.seq (S.asg false 2 (E.ofL (E.compX [5] (E.iter (E.app f_names_in (E.cons (E.var 1) E.nil))) (G.one 5) yes (E.meth f_place (E.var 0) (E.var 5)))))
    (S.seq (S.drop (E.app f_need_parts (E.cons (E.var 1) E.nil)))
    (S.seq (S.ifs (E.tst (E.bin dEq (E.bin dIx (E.var 1) (E.c (.int 0))) (E.c (.str "more")))) (S.ret (E.tup (E.cons (E.app f_wanted (E.cons (E.var 0) (E.cons (E.ofL (E.lst (E.cons (E.tup (E.cons (E.bin dIx (E.var 2) (E.c (.int 0))) (E.cons (E.bin dIx (E.var 1) (E.c (.int 2))) E.nil))) E.nil))) E.nil))) (E.cons (E.bin dMul (E.bin dIx (E.var 1) (E.c (.int 3))) (E.bin dIx (E.un dPrices (E.var 0)) (E.bin dIx (E.var 2) (E.c (.int 0))))) E.nil)))) S.skip)
    (S.seq (S.ifs (E.tst (E.bin dEq (E.bin dIx (E.var 1) (E.c (.int 0))) (E.c (.str "set")))) (S.seq (S.asg false 3 (E.ofL (E.compX [6, 7] (E.iterA dZip (E.cons (E.var 2) (E.cons (E.bin dIx (E.var 1) (E.c (.int 1))) E.nil))) (G.tup 2 (G.cons (G.one 6) (G.cons (G.one 7) G.nil))) yes (E.tup (E.cons (E.var 6) (E.cons (E.bin dIx (E.var 7) (E.c (.int 1))) E.nil))))))
    (S.ret (E.tup (E.cons (E.app f_wanted (E.cons (E.var 0) (E.cons (E.var 3) E.nil))) (E.cons (E.bin dIx (E.var 1) (E.c (.int 2))) E.nil))))) S.skip)
    (S.seq (S.ifs (E.tst (E.bin dEq (E.bin dIx (E.var 1) (E.c (.int 0))) (E.c (.str "share")))) (S.seq (S.asg false 4 (E.bin dIx (E.un dPrices (E.var 0)) (E.bin dIx (E.var 2) (E.c (.int 0)))))
    (S.ret (E.tup (E.cons (E.app f_wanted (E.cons (E.var 0) (E.cons (E.ofL (E.lst (E.cons (E.tup (E.cons (E.bin dIx (E.var 2) (E.c (.int 0))) (E.cons (E.c (.int 1)) E.nil))) E.nil))) E.nil))) (E.cons (E.bin dSub (E.var 4) (E.bin dDiv (E.bin dMul (E.var 4) (E.bin dIx (E.var 1) (E.c (.int 2)))) (E.c (.int 100)))) E.nil))))) S.skip)
    (S.seq (S.asg false 4 (E.bin dIx (E.un dPrices (E.var 0)) (E.bin dIx (E.var 2) (E.c (.int 1)))))
    (S.ret (E.tup (E.cons (E.app f_wanted (E.cons (E.var 0) (E.cons (E.ofL (E.lst (E.cons (E.tup (E.cons (E.bin dIx (E.var 2) (E.c (.int 0))) (E.cons (E.c (.int 1)) E.nil))) (E.cons (E.tup (E.cons (E.bin dIx (E.var 2) (E.c (.int 1))) (E.cons (E.c (.int 1)) E.nil))) E.nil)))) E.nil))) (E.cons (E.app dMax2 (E.cons (E.c (.int 0)) (E.cons (E.bin dSub (E.var 4) (E.bin dIx (E.var 1) (E.c (.int 3)))) E.nil))) E.nil))))))))))
def f_deal_of (ds : List D) : R D := fin (u_deal_of (start 8 ds))

def u_deals : Ev → Out :=
    S.seq (S.asgO false 2 (E.lst E.nil))
    (S.seq (S.pre (wipeE [3]) (S.forS false (E.iterA dRange1 (E.cons (E.app dLen (E.cons (E.un dNames (E.var 0)) E.nil)) E.nil)) (G.one 3) [3]
      (S.push false 2 (E.tup (E.cons (E.app f_wanted (E.cons (E.var 0) (E.cons (E.ofL (E.lst (E.cons (E.tup (E.cons (E.var 3) (E.cons (E.c (.int 1)) E.nil))) E.nil))) E.nil))) (E.cons (E.bin dIx (E.un dPrices (E.var 0)) (E.var 3)) E.nil))))))
    (S.seq (S.pre (wipeE [4]) (S.forS false (E.iter (E.var 1)) (G.one 4) [4]
      (S.push false 2 (E.app f_deal_of (E.cons (E.var 0) (E.cons (E.var 4) E.nil))))))
    (S.retO 2)))
def fl_deals (ds : List D) : R (List D) := finL (u_deals (start 5 ds))
def f_deals (ds : List D) : R D := (fl_deals ds).map .lst

def u__law_cell_at : Ev → Out :=
    S.seq (S.ifs (E.tst (E.bin dLt (E.var 1) (E.app dLen (E.cons (E.var 0) E.nil)))) (S.ret (E.bin dIx (E.var 0) (E.var 1))) S.skip)
    (S.ret (E.c (.int 0)))
def f__law_cell_at (ds : List D) : R D := fin (u__law_cell_at (start 2 ds))

def u__law_number : Ev → Out :=
    S.seq (S.ifs (E.tst (E.bin dEq (E.app dLen (E.cons (E.var 0) E.nil)) (E.c (.int 0)))) (S.ret (E.bin dMul (E.c (.int 5003)) (E.var 1))) S.skip)
    (S.seq (S.asg false 2 (E.bin dAdd (E.bin dAdd (E.bin dIx (E.var 0) (E.bin dMod (E.var 1) (E.app dLen (E.cons (E.var 0) E.nil)))) (E.bin dMul (E.c (.int 7919)) (E.bin dDiv (E.var 1) (E.app dLen (E.cons (E.var 0) E.nil))))) (E.bin dMul (E.c (.int 101)) (E.var 1))))
    (S.ret (E.bin dMod (E.bin dMul (E.var 2) (E.c (.int 48271))) (E.c (.int 2147483647)))))
def f__law_number (ds : List D) : R D := fin (u__law_number (start 3 ds))

def u__law_name_by : Ev → Out :=
    S.seq (S.asg false 2 (E.c (.str "abcdefghijklmnopqrstuvwxyz")))
    (S.seq (S.asg false 3 (E.bin dEq (E.bin dMod (E.bin dDiv (E.app f__law_cell_at (E.cons (E.var 0) (E.cons (E.c (.int 0)) E.nil))) (E.c (.int 5))) (E.c (.int 2))) (E.c (.int 1))))
    (S.seq (S.asg false 4 (E.app f__law_number (E.cons (E.var 0) (E.cons (E.bin dAdd (E.c (.int 1)) (E.bin dMul (E.bin dMul (E.c (.int 3)) (E.var 1)) (E.app dInt (E.cons (E.vnot (E.var 3)) E.nil)))) E.nil))))
    (S.seq (S.asg false 5 (E.bin dAdd (E.c (.int 1)) (E.bin dMod (E.bin dDiv (E.var 4) (E.c (.int 5408))) (E.c (.int 25)))))
    (S.seq (S.asg false 6 (E.c (.str "")))
    (S.seq (S.pre (wipeE [7]) (S.forS false (E.iterA dRange1 (E.cons (E.bin dAdd (E.c (.int 1)) (E.bin dMod (E.var 4) (E.c (.int 8)))) E.nil)) (G.one 7) [7]
      (S.asg false 6 (E.bin dAdd (E.var 6) (E.bin dIx (E.var 2) (E.bin dMod (E.bin dAdd (E.bin dDiv (E.var 4) (E.c (.int 208))) (E.bin dMul (E.var 7) (E.var 5))) (E.c (.int 26))))))))
    (S.seq (S.ifs (E.tst (E.var 3)) (S.seq (S.asg false 8 (E.bin dMod (E.bin dDiv (E.var 4) (E.c (.int 8))) (E.app dLen (E.cons (E.var 6) E.nil))))
    (S.seq (S.asg false 9 (E.bin dIx (E.var 2) (E.bin dMod (E.bin dAdd (E.bin dDiv (E.var 4) (E.c (.int 64))) (E.bin dMul (E.c (.int 5)) (E.var 1))) (E.c (.int 26)))))
    (S.asg false 6 (E.bin dAdd (E.bin dAdd (E.slice (E.var 6) E.o0 (E.o1 (E.var 8))) (E.var 9)) (E.slice (E.var 6) (E.o1 (E.bin dAdd (E.var 8) (E.c (.int 1)))) E.o0))))) S.skip)
    (S.ret (E.var 6))))))))
def f__law_name_by (ds : List D) : R D := fin (u__law_name_by (start 10 ds))

def u__law_kinds : Ev → Out :=
    S.seq (S.asgO false 1 (E.lst E.nil))
    (S.seq (S.asgO false 2 (E.lst E.nil))
    (S.seq (S.pre (wipeE [3, 4, 5, 6]) (S.forS false (E.iterA dRange1 (E.cons (E.bin dAdd (E.c (.int 1)) (E.bin dMod (E.app f__law_cell_at (E.cons (E.var 0) (E.cons (E.c (.int 0)) E.nil))) (E.c (.int 5)))) E.nil)) (G.one 3) [3, 4, 5, 6]
      (S.seq (S.asg false 4 (E.app f__law_number (E.cons (E.var 0) (E.cons (E.bin dAdd (E.bin dMul (E.c (.int 3)) (E.var 3)) (E.c (.int 2))) E.nil))))
    (S.seq (S.asg false 5 (E.app f__law_name_by (E.cons (E.var 0) (E.cons (E.var 3) E.nil))))
    (S.seq (S.asg false 6 (E.bin dMod (E.bin dDiv (E.var 4) (E.c (.int 1009))) (E.c (.int 100))))
    (S.seq (S.ifs (E.tst (E.bin dEq (E.bin dMod (E.var 4) (E.c (.int 3))) (E.c (.int 0)))) (S.asg false 6 (E.bin dMod (E.bin dDiv (E.var 4) (E.c (.int 1009))) (E.c (.int 100001)))) S.skip)
    (S.seq (S.ifs (E.tst (E.bin (dIn false) (E.var 5) (E.var 2))) (S.asg false 5 (E.bin dAdd (E.slice (E.var 5) E.o0 (E.o1 (E.c (.int 7)))) (E.bin dIx (E.c (.str "abcde")) (E.var 3)))) S.skip)
    (S.ifs (E.tst (E.bin (dIn true) (E.var 5) (E.var 2))) (S.seq (S.push false 2 (E.var 5))
    (S.push false 1 (E.tup (E.cons (E.var 5) (E.cons (E.var 6) E.nil))))) S.skip))))))))
    (S.ret (E.var 1))))
def f__law_kinds (ds : List D) : R D := fin (u__law_kinds (start 7 ds))

def u__law_offer : Ev → Out :=
    S.seq (S.asg false 2 (E.bin dIx (E.bin dIx (E.var 0) (E.bin dMod (E.bin dDiv (E.var 1) (E.c (.int 4))) (E.app dLen (E.cons (E.var 0) E.nil)))) (E.c (.int 0))))
    (S.seq (S.asg false 3 (E.bin dIx (E.bin dIx (E.var 0) (E.bin dMod (E.bin dDiv (E.var 1) (E.c (.int 20))) (E.app dLen (E.cons (E.var 0) E.nil)))) (E.c (.int 0))))
    (S.seq (S.asg false 4 (E.bin dDiv (E.var 1) (E.c (.int 100))))
    (S.seq (S.ifs (E.band (E.tst (E.bin dEq (E.bin dMod (E.var 1) (E.c (.int 4))) (E.c (.int 1)))) (E.tst (E.bin dNe (E.var 3) (E.var 2)))) (S.ret (E.tup (E.cons (E.c (.str "slip")) (E.cons (E.var 3) (E.cons (E.var 2) (E.cons (E.bin dAdd (E.c (.int 1)) (E.bin dMod (E.var 4) (E.bin dIx (E.ofL (E.lst (E.cons (E.c (.int 100)) (E.cons (E.c (.int 100000)) E.nil)))) (E.bin dMod (E.bin dDiv (E.var 4) (E.c (.int 100))) (E.c (.int 2)))))) E.nil)))))) S.skip)
    (S.seq (S.ifs (E.tst (E.bin dEq (E.bin dMod (E.var 1) (E.c (.int 4))) (E.c (.int 2)))) (S.ret (E.tup (E.cons (E.c (.str "share")) (E.cons (E.var 2) (E.cons (E.bin dAdd (E.c (.int 1)) (E.bin dMod (E.var 4) (E.c (.int 100)))) E.nil))))) S.skip)
    (S.seq (S.ifs (E.tst (E.bin dEq (E.bin dMod (E.var 1) (E.c (.int 4))) (E.c (.int 3)))) (S.seq (S.asg false 5 (E.bin dAdd (E.c (.int 2)) (E.bin dMod (E.var 4) (E.c (.int 8)))))
    (S.ret (E.tup (E.cons (E.c (.str "more")) (E.cons (E.var 2) (E.cons (E.var 5) (E.cons (E.bin dAdd (E.c (.int 1)) (E.bin dMod (E.bin dDiv (E.var 4) (E.c (.int 8))) (E.bin dSub (E.var 5) (E.c (.int 1))))) E.nil))))))) S.skip)
    (S.seq (S.asgO false 6 (E.lst (E.cons (E.tup (E.cons (E.var 2) (E.cons (E.bin dAdd (E.c (.int 1)) (E.bin dMod (E.var 4) (E.bin dIx (E.ofL (E.lst (E.cons (E.c (.int 2)) (E.cons (E.c (.int 9)) E.nil)))) (E.bin dMod (E.bin dDiv (E.var 4) (E.c (.int 9))) (E.c (.int 2)))))) E.nil))) E.nil)))
    (S.seq (S.pre (wipeE [7]) (S.forS false (E.iter (E.var 0)) (G.one 7) [7]
      (S.seq (S.ifs (E.band (E.tst (E.bin dNe (E.bin dIx (E.var 7) (E.c (.int 0))) (E.var 2))) (E.tst (E.bin dGt (E.bin dMod (E.bin dDiv (E.var 4) (E.c (.int 18))) (E.c (.int 3))) (E.c (.int 0))))) (S.push false 6 (E.tup (E.cons (E.bin dIx (E.var 7) (E.c (.int 0))) (E.cons (E.bin dAdd (E.c (.int 1)) (E.bin dMod (E.bin dDiv (E.var 4) (E.c (.int 54))) (E.bin dIx (E.ofL (E.lst (E.cons (E.c (.int 1)) (E.cons (E.c (.int 2)) (E.cons (E.c (.int 9)) E.nil))))) (E.bin dMod (E.bin dDiv (E.var 4) (E.c (.int 486))) (E.c (.int 3)))))) E.nil)))) S.skip)
    (S.asg false 4 (E.bin dDiv (E.var 4) (E.c (.int 3)))))))
    (S.seq (S.ifs (E.tst (E.bin dEq (E.bin dMod (E.bin dDiv (E.var 1) (E.c (.int 11))) (E.c (.int 3))) (E.c (.int 1)))) (S.rev 6) S.skip)
    (S.ret (E.tup (E.cons (E.c (.str "set")) (E.cons (E.app dTuple (E.cons (E.var 6) E.nil)) (E.cons (E.bin dMod (E.bin dDiv (E.var 1) (E.c (.int 700))) (E.bin dIx (E.ofL (E.lst (E.cons (E.c (.int 300)) (E.cons (E.c (.int 100001)) E.nil)))) (E.bin dMod (E.bin dDiv (E.var 1) (E.c (.int 11))) (E.c (.int 2))))) E.nil)))))))))))))
def f__law_offer (ds : List D) : R D := fin (u__law_offer (start 8 ds))

def u__law_offers : Ev → Out :=
    S.seq (S.asg false 3 (E.bin dMod (E.app f__law_cell_at (E.cons (E.var 0) (E.cons (E.c (.int 2)) E.nil))) (E.c (.int 7))))
    (S.seq (S.ifs (E.tst (E.bin dEq (E.bin dMod (E.bin dDiv (E.app f__law_cell_at (E.cons (E.var 0) (E.cons (E.c (.int 2)) E.nil))) (E.c (.int 7))) (E.c (.int 8))) (E.c (.int 1)))) (S.asg false 3 (E.bin dAdd (E.var 3) (E.c (.int 6)))) S.skip)
    (S.ret (E.ofL (E.comp [4] (E.iterA dRange1 (E.cons (E.var 3) E.nil)) (G.one 4) yes (E.app f__law_offer (E.cons (E.var 1) (E.cons (E.app f__law_number (E.cons (E.var 0) (E.cons (E.bin dAdd (E.var 2) (E.var 4)) E.nil))) E.nil)))))))
def f__law_offers (ds : List D) : R D := fin (u__law_offers (start 5 ds))

def u__law_deal : Ev → Out :=
    S.seq (S.asg false 2 (E.ofL (E.comp [7] (E.iter (E.var 0)) (G.one 7) yes (E.bin dIx (E.var 7) (E.c (.int 0))))))
    (S.seq (S.asgO false 3 (E.comp [7] (E.iter (E.var 0)) (G.one 7) yes (E.c (.int 0))))
    (S.seq (S.ifs (E.tst (E.bin dEq (E.bin dIx (E.var 1) (E.c (.int 0))) (E.c (.str "set")))) (S.seq (S.pre (wipeE [4, 5]) (S.forS false (E.iter (E.bin dIx (E.var 1) (E.c (.int 1)))) (G.tup 2 (G.cons (G.one 4) (G.cons (G.one 5) G.nil))) [4, 5]
      (S.put 3 (E.mth dIndex (E.var 2) (E.var 4)) (E.var 5))))
    (S.ret (E.tup (E.cons (E.app dTuple (E.cons (E.var 3) E.nil)) (E.cons (E.bin dIx (E.var 1) (E.c (.int 2))) E.nil))))) S.skip)
    (S.seq (S.asg false 6 (E.mth dIndex (E.var 2) (E.bin dIx (E.var 1) (E.c (.int 1)))))
    (S.seq (S.ifs (E.tst (E.bin dEq (E.bin dIx (E.var 1) (E.c (.int 0))) (E.c (.str "slip")))) (S.seq (S.put 3 (E.var 6) (E.c (.int 1)))
    (S.seq (S.asg false 6 (E.mth dIndex (E.var 2) (E.bin dIx (E.var 1) (E.c (.int 2)))))
    (S.seq (S.put 3 (E.var 6) (E.c (.int 1)))
    (S.ret (E.tup (E.cons (E.app dTuple (E.cons (E.var 3) E.nil)) (E.cons (E.app dMax2 (E.cons (E.c (.int 0)) (E.cons (E.bin dSub (E.bin dIx (E.bin dIx (E.var 0) (E.var 6)) (E.c (.int 1))) (E.bin dIx (E.var 1) (E.c (.int 3)))) E.nil))) E.nil))))))) S.skip)
    (S.seq (S.ifs (E.tst (E.bin dEq (E.bin dIx (E.var 1) (E.c (.int 0))) (E.c (.str "more")))) (S.seq (S.put 3 (E.var 6) (E.bin dIx (E.var 1) (E.c (.int 2))))
    (S.ret (E.tup (E.cons (E.app dTuple (E.cons (E.var 3) E.nil)) (E.cons (E.bin dMul (E.bin dIx (E.var 1) (E.c (.int 3))) (E.bin dIx (E.bin dIx (E.var 0) (E.var 6)) (E.c (.int 1)))) E.nil))))) S.skip)
    (S.seq (S.put 3 (E.var 6) (E.c (.int 1)))
    (S.ret (E.tup (E.cons (E.app dTuple (E.cons (E.var 3) E.nil)) (E.cons (E.bin dSub (E.bin dIx (E.bin dIx (E.var 0) (E.var 6)) (E.c (.int 1))) (E.bin dDiv (E.bin dMul (E.bin dIx (E.bin dIx (E.var 0) (E.var 6)) (E.c (.int 1))) (E.bin dIx (E.var 1) (E.c (.int 2)))) (E.c (.int 100)))) E.nil))))))))))
def f__law_deal (ds : List D) : R D := fin (u__law_deal (start 8 ds))

def u__law_deals : Ev → Out :=
    S.seq (S.asgO false 2 (E.lst E.nil))
    (S.seq (S.pre (wipeE [3]) (S.forS false (E.iterA dRange1 (E.cons (E.app dLen (E.cons (E.var 0) E.nil)) E.nil)) (G.one 3) [3]
      (S.push false 2 (E.tup (E.cons (E.app dTuple (E.cons (E.ofL (E.comp [5] (E.iterA dRange1 (E.cons (E.app dLen (E.cons (E.var 0) E.nil)) E.nil)) (G.one 5) yes (E.app dInt (E.cons (E.bin dEq (E.var 3) (E.var 5)) E.nil)))) E.nil)) (E.cons (E.bin dIx (E.bin dIx (E.var 0) (E.var 3)) (E.c (.int 1))) E.nil))))))
    (S.ret (E.bin dAdd (E.var 2) (E.ofL (E.comp [4] (E.iter (E.var 1)) (G.one 4) yes (E.app f__law_deal (E.cons (E.var 0) (E.cons (E.var 4) E.nil))))))))
def f__law_deals (ds : List D) : R D := fin (u__law_deals (start 6 ds))

def u__law_whole : Ev → Out :=
    S.ret (E.vand (E.un (dIsi "int") (E.var 0)) (E.vnot (E.un (dIsi "bool") (E.var 0))))
def f__law_whole (ds : List D) : R D := fin (u__law_whole (start 1 ds))

def u__law_listed : Ev → Out :=
    S.seq (S.ifs (E.bor (E.bnot (E.tst (E.un (dIsi "list") (E.var 0)))) (E.tst (E.bin dNe (E.app dLen (E.cons (E.var 0) E.nil)) (E.app dLen (E.cons (E.var 1) E.nil))))) (S.ret (E.c (.bl false))) S.skip)
    (S.seq (S.pre (wipeE [2]) (S.forS false (E.iter (E.var 0)) (G.one 2) [2]
      (S.ifs (E.bnot (E.tst (E.app f__law_whole (E.cons (E.var 2) E.nil)))) (S.ret (E.c (.bl false))) S.skip)))
    (S.ret (E.bin dEq (E.var 0) (E.var 1))))
def f__law_listed (ds : List D) : R D := fin (u__law_listed (start 3 ds))

def u__law_deal_is : Ev → Out :=
    S.seq (S.ifs (E.bor (E.bnot (E.tst (E.un (dIsi "tuple") (E.var 0)))) (E.bor (E.tst (E.bin dNe (E.app dLen (E.cons (E.var 0) E.nil)) (E.c (.int 2)))) (E.bnot (E.tst (E.un (dIsi "tuple") (E.bin dIx (E.var 0) (E.c (.int 0)))))))) (S.ret (E.c (.bl false))) S.skip)
    (S.seq (S.ifs (E.bnot (E.tst (E.app f__law_whole (E.cons (E.bin dIx (E.var 0) (E.c (.int 1))) E.nil)))) (S.ret (E.c (.bl false))) S.skip)
    (S.ret (E.vand (E.bin dEq (E.app dLen (E.cons (E.ofL (E.comp [2] (E.iter (E.bin dIx (E.var 0) (E.c (.int 0)))) (G.one 2) (E.bnot (E.tst (E.app f__law_whole (E.cons (E.var 2) E.nil)))) (E.var 2))) E.nil)) (E.c (.int 0))) (E.bin dEq (E.var 0) (E.var 1)))))
def f__law_deal_is (ds : List D) : R D := fin (u__law_deal_is (start 3 ds))

def u__law_changed : Ev → Out :=
    S.seq (S.asg false 2 (E.bin dMod (E.var 1) (E.c (.int 8))))
    (S.seq (S.asg false 3 (E.bin dMod (E.bin dDiv (E.var 1) (E.c (.int 8))) (E.app dLen (E.cons (E.var 0) E.nil))))
    (S.seq (S.asg false 4 (E.bin dIx (E.ofL (E.lst (E.cons (E.c (.int 0)) (E.cons (E.un dNeg (E.c (.int 1))) (E.cons (E.c (.int 10)) (E.cons (E.c (.int 101)) (E.cons (E.c (.int 100001)) (E.cons (E.c (.bl true)) (E.cons (E.c .non) (E.cons (E.c (.str "zzzzzzzzz")) (E.cons (E.tup E.nil) (E.cons (E.tup (E.cons (E.tup E.nil) E.nil)) (E.cons (E.tup (E.cons (E.tup (E.cons (E.c (.str "zzzzzzzzz")) (E.cons (E.c (.int 1)) E.nil))) (E.cons (E.c (.int 5)) E.nil))) E.nil))))))))))))) (E.bin dMod (E.bin dDiv (E.var 1) (E.c (.int 64))) (E.c (.int 11)))))
    (S.seq (S.ifs (E.tst (E.bin dEq (E.var 2) (E.c (.int 0)))) (S.ret (E.bin dAddT (E.slice (E.slice (E.ofL (E.lst (E.cons (E.c (.str "sets")) (E.cons (E.c (.str "")) (E.cons (E.c (.int 5)) (E.cons (E.c (.str "More")) E.nil)))))) (E.o1 (E.bin dMod (E.bin dDiv (E.var 1) (E.c (.int 64))) (E.c (.int 4)))) E.o0) E.o0 (E.o1 (E.c (.int 1)))) (E.ofL (E.lst (E.cons (E.var 0) E.nil))))) S.skip)
    (S.seq (S.ifs (E.tst (E.bin dEq (E.var 2) (E.c (.int 1)))) (S.ret (E.bin dAddT (E.tup (E.cons (E.bin dIx (E.ofL (E.lst (E.cons (E.c (.str "sets")) (E.cons (E.c (.str "")) (E.cons (E.c (.int 5)) (E.cons (E.c (.str "More")) E.nil)))))) (E.bin dMod (E.bin dDiv (E.var 1) (E.c (.int 64))) (E.c (.int 4)))) E.nil)) (E.slice (E.var 0) (E.o1 (E.c (.int 1))) E.o0))) S.skip)
    (S.seq (S.ifs (E.tst (E.bin dEq (E.var 2) (E.c (.int 2)))) (S.ret (E.bin dAddT (E.slice (E.var 0) E.o0 (E.o1 (E.var 3))) (E.slice (E.var 0) (E.o1 (E.bin dAddT (E.var 3) (E.c (.int 1)))) E.o0))) S.skip)
    (S.seq (S.ifs (E.tst (E.bin dEq (E.var 2) (E.c (.int 3)))) (S.ret (E.bin dAddT (E.var 0) (E.tup (E.cons (E.c (.int 1)) E.nil)))) S.skip)
    (S.seq (S.ifs (E.band (E.tst (E.bin dEq (E.var 2) (E.c (.int 4)))) (E.tst (E.bin dEq (E.bin dIx (E.var 0) (E.c (.int 0))) (E.c (.str "set"))))) (S.ret (E.tup (E.cons (E.c (.str "set")) (E.cons (E.bin dAddT (E.bin dIx (E.var 0) (E.c (.int 1))) (E.slice (E.bin dIx (E.var 0) (E.c (.int 1))) E.o0 (E.o1 (E.c (.int 1))))) (E.cons (E.bin dIx (E.var 0) (E.c (.int 2))) E.nil))))) S.skip)
    (S.seq (S.ifs (E.band (E.tst (E.bin dEq (E.var 2) (E.c (.int 5)))) (E.tst (E.bin dEq (E.bin dIx (E.var 0) (E.c (.int 0))) (E.c (.str "set"))))) (S.ret (E.tup (E.cons (E.c (.str "set")) (E.cons (E.bin dAddT (E.tup (E.cons (E.tup (E.cons (E.bin dIx (E.bin dIx (E.bin dIx (E.var 0) (E.c (.int 1))) (E.c (.int 0))) (E.c (.int 0))) (E.cons (E.var 4) E.nil))) E.nil)) (E.slice (E.bin dIx (E.var 0) (E.c (.int 1))) (E.o1 (E.c (.int 1))) E.o0)) (E.cons (E.bin dIx (E.var 0) (E.c (.int 2))) E.nil))))) S.skip)
    (S.seq (S.ifs (E.band (E.tst (E.bin dEq (E.var 2) (E.c (.int 6)))) (E.tst (E.bin dEq (E.bin dIx (E.var 0) (E.c (.int 0))) (E.c (.str "slip"))))) (S.ret (E.tup (E.cons (E.c (.str "slip")) (E.cons (E.bin dIx (E.var 0) (E.c (.int 1))) (E.cons (E.bin dIx (E.var 0) (E.c (.int 1))) (E.cons (E.bin dIx (E.var 0) (E.c (.int 3))) E.nil)))))) S.skip)
    (S.seq (S.ifs (E.band (E.tst (E.bin dEq (E.var 2) (E.c (.int 4)))) (E.band (E.tst (E.bin dNe (E.bin dIx (E.var 0) (E.c (.int 0))) (E.c (.str "set")))) (E.tst (E.un (dIsi "str") (E.bin dIx (E.var 0) (E.c (.int 1))))))) (S.seq (S.asg false 5 (E.bin dIx (E.var 0) (E.c (.int 1))))
    (S.seq (S.asg false 6 (E.bin dIx (E.ofL (E.lst (E.cons (E.un dUpper (E.var 5)) (E.cons (E.bin dAddT (E.var 5) (E.c (.str " "))) (E.cons (E.bin dAddT (E.c (.str " ")) (E.var 5)) (E.cons (E.bin dAddT (E.var 5) (E.var 5)) (E.cons (E.bin dAddT (E.slice (E.var 5) E.o0 (E.o1 (E.c (.int 1)))) (E.var 5)) E.nil))))))) (E.bin dMod (E.bin dDiv (E.var 1) (E.c (.int 8))) (E.c (.int 5)))))
    (S.ret (E.bin dAddT (E.tup (E.cons (E.bin dIx (E.var 0) (E.c (.int 0))) (E.cons (E.var 6) E.nil))) (E.slice (E.var 0) (E.o1 (E.c (.int 2))) E.o0))))) S.skip)
    (S.seq (S.ifs (E.band (E.tst (E.bin dGt (E.var 2) (E.c (.int 3)))) (E.tst (E.bin dEq (E.bin dIx (E.var 0) (E.c (.int 0))) (E.c (.str "more"))))) (S.ret (E.bin dIx (E.ofL (E.lst (E.cons (E.bin dAddT (E.slice (E.var 0) E.o0 (E.o1 (E.c (.int 3)))) (E.tup (E.cons (E.bin dIx (E.var 0) (E.c (.int 2))) E.nil))) (E.cons (E.tup (E.cons (E.c (.str "more")) (E.cons (E.c (.str "zzzzzzzzz")) (E.cons (E.c (.int 5)) (E.cons (E.c (.int 5)) E.nil))))) (E.cons (E.tup (E.cons (E.c (.str "more")) (E.cons (E.bin dIx (E.var 0) (E.c (.int 1))) (E.cons (E.c (.int 1)) (E.cons (E.c (.int 1)) E.nil))))) E.nil))))) (E.bin dMod (E.var 2) (E.c (.int 3))))) S.skip)
    (S.seq (S.ifs (E.tst (E.bin dEq (E.var 2) (E.c (.int 7)))) (S.ret (E.bin dAddT (E.bin dAddT (E.tup (E.cons (E.bin dIx (E.var 0) (E.c (.int 0))) E.nil)) (E.app dTuple (E.cons (E.ofL (E.comp [7] (E.iter (E.slice (E.var 0) (E.o1 (E.c (.int 1))) (E.o1 (E.un dNeg (E.c (.int 1)))))) (G.one 7) yes (E.c (.str "zzzzzzzzz")))) E.nil))) (E.tup (E.cons (E.un dNeg (E.c (.int 1))) E.nil)))) S.skip)
    (S.ret (E.bin dAddT (E.bin dAddT (E.slice (E.var 0) E.o0 (E.o1 (E.var 3))) (E.tup (E.cons (E.var 4) E.nil))) (E.slice (E.var 0) (E.o1 (E.bin dAddT (E.var 3) (E.c (.int 1)))) E.o0)))))))))))))))
def f__law_changed (ds : List D) : R D := fin (u__law_changed (start 8 ds))

def u__law_in : Ev → Out :=
    S.ret (E.vand (E.app f__law_whole (E.cons (E.var 0) E.nil)) (E.chain dLe dLe (E.var 1) (E.var 0) (E.var 2)))
def f__law_in (ds : List D) : R D := fin (u__law_in (start 3 ds))

def u__law_sound : Ev → Out :=
    S.seq (S.ifs (E.tst (E.bin dEq (E.bin dIx (E.var 0) (E.c (.int 0))) (E.c (.str "more")))) (S.ret (E.vand (E.app f__law_in (E.cons (E.bin dIx (E.var 0) (E.c (.int 2))) (E.cons (E.c (.int 2)) (E.cons (E.c (.int 9)) E.nil)))) (E.app f__law_in (E.cons (E.bin dIx (E.var 0) (E.c (.int 3))) (E.cons (E.c (.int 1)) (E.cons (E.bin dSub (E.bin dIx (E.var 0) (E.c (.int 2))) (E.c (.int 1))) E.nil)))))) S.skip)
    (S.seq (S.ifs (E.tst (E.bin dEq (E.bin dIx (E.var 0) (E.c (.int 0))) (E.c (.str "share")))) (S.ret (E.app f__law_in (E.cons (E.bin dIx (E.var 0) (E.c (.int 2))) (E.cons (E.c (.int 1)) (E.cons (E.c (.int 100)) E.nil))))) S.skip)
    (S.seq (S.ifs (E.tst (E.bin dEq (E.bin dIx (E.var 0) (E.c (.int 0))) (E.c (.str "slip")))) (S.ret (E.vand (E.app f__law_in (E.cons (E.bin dIx (E.var 0) (E.c (.int 3))) (E.cons (E.c (.int 1)) (E.cons (E.c (.int 100000)) E.nil)))) (E.bin dNe (E.bin dIx (E.var 0) (E.c (.int 1))) (E.bin dIx (E.var 0) (E.c (.int 2)))))) S.skip)
    (S.seq (S.ifs (E.bor (E.bnot (E.tst (E.un (dIsi "tuple") (E.bin dIx (E.var 0) (E.c (.int 1)))))) (E.bor (E.bnot (E.tst (E.chain dLe dLe (E.c (.int 1)) (E.app dLen (E.cons (E.bin dIx (E.var 0) (E.c (.int 1))) E.nil)) (E.c (.int 5))))) (E.bnot (E.tst (E.app f__law_in (E.cons (E.bin dIx (E.var 0) (E.c (.int 2))) (E.cons (E.c (.int 0)) (E.cons (E.c (.int 100000)) E.nil)))))))) (S.ret (E.c (.bl false))) S.skip)
    (S.seq (S.asgO false 1 (E.lst E.nil))
    (S.seq (S.pre (wipeE [2]) (S.forS false (E.iter (E.bin dIx (E.var 0) (E.c (.int 1)))) (G.one 2) [2]
      (S.seq (S.ifs (E.bor (E.bnot (E.tst (E.un (dIsi "tuple") (E.var 2)))) (E.bor (E.tst (E.bin dNe (E.app dLen (E.cons (E.var 2) E.nil)) (E.c (.int 2)))) (E.bor (E.bnot (E.tst (E.app f__law_in (E.cons (E.bin dIx (E.var 2) (E.c (.int 1))) (E.cons (E.c (.int 1)) (E.cons (E.c (.int 9)) E.nil)))))) (E.tst (E.bin (dIn false) (E.bin dIx (E.var 2) (E.c (.int 0))) (E.var 1)))))) (S.ret (E.c (.bl false))) S.skip)
    (S.push false 1 (E.bin dIx (E.var 2) (E.c (.int 0)))))))
    (S.ret (E.c (.bl true))))))))
def f__law_sound (ds : List D) : R D := fin (u__law_sound (start 3 ds))

def u__law_names : Ev → Out :=
    S.seq (S.ifs (E.tst (E.bin dEq (E.bin dIx (E.var 0) (E.c (.int 0))) (E.c (.str "slip")))) (S.ret (E.ofL (E.lst (E.cons (E.bin dIx (E.var 0) (E.c (.int 1))) (E.cons (E.bin dIx (E.var 0) (E.c (.int 2))) E.nil))))) S.skip)
    (S.seq (S.ifs (E.tst (E.bin dNe (E.bin dIx (E.var 0) (E.c (.int 0))) (E.c (.str "set")))) (S.ret (E.ofL (E.lst (E.cons (E.bin dIx (E.var 0) (E.c (.int 1))) E.nil)))) S.skip)
    (S.seq (S.ifs (E.bnot (E.tst (E.un (dIsi "tuple") (E.bin dIx (E.var 0) (E.c (.int 1)))))) (S.ret (E.ofL (E.lst E.nil))) S.skip)
    (S.seq (S.ifs (E.tst (E.bin dGt (E.app dLen (E.cons (E.ofL (E.comp [1] (E.iter (E.bin dIx (E.var 0) (E.c (.int 1)))) (G.one 1) (E.bor (E.bnot (E.tst (E.un (dIsi "tuple") (E.var 1)))) (E.tst (E.bin dNe (E.app dLen (E.cons (E.var 1) E.nil)) (E.c (.int 2))))) (E.var 1))) E.nil)) (E.c (.int 0)))) (S.ret (E.ofL (E.lst E.nil))) S.skip)
    (S.ret (E.ofL (E.comp [1] (E.iter (E.bin dIx (E.var 0) (E.c (.int 1)))) (G.one 1) yes (E.bin dIx (E.var 1) (E.c (.int 0)))))))))
def f__law_names (ds : List D) : R D := fin (u__law_names (start 2 ds))

def u__law_due : Ev → Out :=
    S.seq (S.ifs (E.bor (E.bnot (E.tst (E.un (dIsi "tuple") (E.var 1)))) (E.bor (E.tst (E.bin dEq (E.app dLen (E.cons (E.var 1) E.nil)) (E.c (.int 0)))) (E.bnot (E.tst (E.un (dIsi "str") (E.bin dIx (E.var 1) (E.c (.int 0)))))))) (S.ret (E.c (.str "offer"))) S.skip)
    (S.seq (S.ifs (E.tst (E.bin (dIn true) (E.bin dIx (E.var 1) (E.c (.int 0))) (E.tup (E.cons (E.c (.str "more")) (E.cons (E.c (.str "set")) (E.cons (E.c (.str "share")) (E.cons (E.c (.str "slip")) E.nil))))))) (S.ret (E.c (.str "offer"))) S.skip)
    (S.seq (S.ifs (E.tst (E.bin dNe (E.app dLen (E.cons (E.var 1) E.nil)) (E.bin dAdd (E.c (.int 3)) (E.app dInt (E.cons (E.bin (dIn false) (E.bin dIx (E.var 1) (E.c (.int 0))) (E.tup (E.cons (E.c (.str "more")) (E.cons (E.c (.str "slip")) E.nil)))) E.nil))))) (S.ret (E.c (.str "offer"))) S.skip)
    (S.seq (S.asg false 2 (E.ofL (E.comp [4] (E.iter (E.var 0)) (G.one 4) yes (E.bin dIx (E.var 4) (E.c (.int 0))))))
    (S.seq (S.pre (wipeE [3]) (S.forS false (E.iter (E.app f__law_names (E.cons (E.var 1) E.nil))) (G.one 3) [3]
      (S.ifs (E.tst (E.bin dNiD (E.var 3) (E.var 2))) (S.ret (E.c (.str "kind"))) S.skip)))
    (S.ret (E.ite (E.tst (E.app f__law_sound (E.cons (E.var 1) E.nil))) (E.app f__law_deal (E.cons (E.var 0) (E.cons (E.var 1) E.nil))) (E.c (.str "offer"))))))))
def f__law_due (ds : List D) : R D := fin (u__law_due (start 5 ds))

def u__law_one_class (a : Addr) (c : Str) : Ev → Out :=
    S.seq (S.asg false 1 (E.ofL (E.lst (E.cons (E.un (dIsX a c (isN c "BadKinds")) (E.var 0)) (E.cons (E.un (dIsX a c (isN c "BadName")) (E.var 0)) (E.cons (E.un (dIsX a c (isN c "Twice")) (E.var 0)) (E.cons (E.un (dIsX a c (isN c "BadPrice")) (E.var 0)) E.nil)))))))
    (S.seq (S.asg false 1 (E.bin dAdd (E.var 1) (E.ofL (E.lst (E.cons (E.un (dIsX a c (isN c "BadBasket")) (E.var 0)) (E.cons (E.un (dIsX a c (isN c "TooMany")) (E.var 0)) (E.cons (E.un (dIsX a c (isN c "BadOffer")) (E.var 0)) E.nil)))))))
    (S.seq (S.asg false 1 (E.bin dAdd (E.var 1) (E.ofL (E.lst (E.cons (E.un (dIsX a c (isN c "NoKind")) (E.var 0)) (E.cons (E.un (dIsX a c (isN c "NoOffer")) (E.var 0)) E.nil))))))
    (S.ret (E.vand (E.bin dEq (E.mth dCount (E.var 1) (E.c (.bl true))) (E.c (.int 1))) (E.vand (E.un (dIsX a c (isN c "TillError")) (E.var 0)) (E.un (dIsX a c true) (E.var 0)))))))
def f__law_one_class (a : Addr) (c : Str) (ds : List D) : R D := fin (u__law_one_class a c (start 2 ds))

def u__law_told : Ev → Out :=
    S.tryAs catTill 4 (S.seq (S.ifs (E.tst (E.bin dEq (E.var 3) (E.c (.int 0)))) (S.ret (E.app f_deal_of (E.cons (E.var 0) (E.cons (E.var 1) E.nil)))) S.skip)
    (S.ret (E.bin dIx (E.ofL (E.appL fl_deals (E.cons (E.var 0) (E.cons (E.var 2) E.nil)))) (E.bin dSub (E.bin dAdd (E.app dLen (E.cons (E.var 2) E.nil)) (E.app dLen (E.cons (E.un dNames (E.var 0)) E.nil))) (E.c (.int 1))))))
      (fun a c => S.seq (S.ifs (E.band (E.tst (E.un (dIsX a c (isN c "BadOffer")) (E.var 4))) (E.tst (E.app (calmR (f__law_one_class a c)) (E.cons (E.var 4) E.nil)))) (S.ret (E.c (.str "offer"))) S.skip)
    (S.ret (E.ite (E.band (E.tst (E.un (dIsX a c (isN c "NoKind")) (E.var 4))) (E.tst (E.app (calmR (f__law_one_class a c)) (E.cons (E.var 4) E.nil)))) (E.c (.str "kind")) (E.c (.str "other")))))
def f__law_told (ds : List D) : R D := fin (u__law_told (start 5 ds))

def u_law : Ev → Out :=
    S.seq (S.asg false 1 (E.app f__law_kinds (E.cons (E.var 0) E.nil)))
    (S.seq (S.asg false 2 (E.app f_Shop (E.cons (E.ofL (E.appL dList (E.cons (E.var 1) E.nil))) E.nil)))
    (S.seq (S.asg false 3 (E.app f__law_offers (E.cons (E.var 0) (E.cons (E.var 1) (E.cons (E.c (.int 20)) E.nil)))))
    (S.seq (S.asg false 4 (E.ofL (E.appL dList (E.cons (E.var 3) E.nil))))
    (S.seq (S.drop (E.ofL (E.appL fl_deals (E.cons (E.var 2) (E.cons (E.ofL (E.appL dListRev (E.cons (E.var 4) E.nil))) E.nil)))))
    (S.seq (S.asgO false 5 (E.appL fl_deals (E.cons (E.var 2) (E.cons (E.var 4) E.nil))))
    (S.seq (S.push false 5 (E.c (.int 0)))
    (S.seq (S.asg false 6 (E.ofL (E.appL fl_deals (E.cons (E.var 2) (E.cons (E.var 4) E.nil)))))
    (S.seq (S.asg false 7 (E.app f__law_deals (E.cons (E.var 1) (E.cons (E.var 3) E.nil))))
    (S.seq (S.ifs (E.bor (E.bnot (E.tst (E.un (dIsi "list") (E.var 6)))) (E.bor (E.tst (E.bin dNe (E.app dLen (E.cons (E.var 6) E.nil)) (E.app dLen (E.cons (E.var 7) E.nil)))) (E.tst (E.bin dNe (E.var 4) (E.var 3))))) (S.ret (E.c (.bl false))) S.skip)
    (S.seq (S.ifs (E.tst (E.bin dNe (E.var 5) (E.bin dAdd (E.var 7) (E.ofL (E.lst (E.cons (E.c (.int 0)) E.nil)))))) (S.ret (E.c (.bl false))) S.skip)
    (S.seq (S.pre (wipeE [8, 9]) (S.forS false (E.iterA dZip (E.cons (E.var 6) (E.cons (E.var 7) E.nil))) (G.tup 2 (G.cons (G.one 8) (G.cons (G.one 9) G.nil))) [8, 9]
      (S.ifs (E.bnot (E.tst (E.app f__law_deal_is (E.cons (E.var 8) (E.cons (E.var 9) E.nil))))) (S.ret (E.c (.bl false))) S.skip)))
    (S.seq (S.asg false 10 (E.app f__law_offer (E.cons (E.var 1) (E.cons (E.app f__law_number (E.cons (E.var 0) (E.cons (E.c (.int 40)) E.nil))) E.nil))))
    (S.seq (S.asgO false 11 (E.appL dList (E.cons (E.var 3) E.nil)))
    (S.seq (S.pre (wipeE [12]) (S.forS false (E.iterA dRange1 (E.cons (E.bin dMod (E.app f__law_cell_at (E.cons (E.var 0) (E.cons (E.c (.int 3)) E.nil))) (E.c (.int 3))) E.nil)) (G.one 12) [12]
      (S.ifs (E.band (E.tst (E.un (dIsi "tuple") (E.var 10))) (E.band (E.tst (E.bin dGt (E.app dLen (E.cons (E.var 10) E.nil)) (E.c (.int 1)))) (E.tst (E.bin dNe (E.app f__law_due (E.cons (E.var 1) (E.cons (E.var 10) E.nil))) (E.c (.str "offer")))))) (S.seq (S.asg false 10 (E.app f__law_changed (E.cons (E.var 10) (E.cons (E.bin dAdd (E.app f__law_number (E.cons (E.var 0) (E.cons (E.bin dAdd (E.c (.int 50)) (E.var 12)) E.nil))) (E.bin dMod (E.app f__law_cell_at (E.cons (E.var 0) (E.cons (E.c (.int 4)) E.nil))) (E.c (.int 1009)))) E.nil))))
    (S.ifs (E.tst (E.bin dEq (E.bin dMod (E.app f__law_cell_at (E.cons (E.var 0) (E.cons (E.c (.int 5)) E.nil))) (E.c (.int 4))) (E.c (.int 1)))) (S.push false 11 (E.var 10)) S.skip)) S.skip)))
    (S.seq (S.pre (wipeE [8, 9]) (S.forS false (E.iterA dZip (E.cons (E.var 3) (E.cons (E.slice (E.var 7) (E.o1 (E.app dLen (E.cons (E.var 1) E.nil))) E.o0) E.nil))) (G.tup 2 (G.cons (G.one 8) (G.cons (G.one 9) G.nil))) [8, 9]
      (S.ifs (E.bnot (E.tst (E.app f__law_deal_is (E.cons (E.app f_deal_of (E.cons (E.var 2) (E.cons (E.var 8) E.nil))) (E.cons (E.var 9) E.nil))))) (S.ret (E.c (.bl false))) S.skip)))
    (S.seq (S.asg false 7 (E.app f__law_due (E.cons (E.var 1) (E.cons (E.var 10) E.nil))))
    (S.seq (S.pre (frz 11) (S.pre (wipeE [8]) (S.forS false (E.iterA dRev (E.cons (E.var 11) E.nil)) (G.one 8) [8]
      (S.ifs (E.tst (E.un (dIsi "str") (E.app f__law_due (E.cons (E.var 1) (E.cons (E.var 8) E.nil))))) (S.asg false 7 (E.app f__law_due (E.cons (E.var 1) (E.cons (E.var 8) E.nil)))) S.skip))))
    (S.seq (S.asg false 13 (E.bin dMod (E.bin dDiv (E.app f__law_cell_at (E.cons (E.var 0) (E.cons (E.c (.int 5)) E.nil))) (E.c (.int 4))) (E.c (.int 2))))
    (S.seq (S.ifs (E.tst (E.bin dEq (E.var 13) (E.c (.int 0)))) (S.asg false 7 (E.app f__law_due (E.cons (E.var 1) (E.cons (E.var 10) E.nil)))) S.skip)
    (S.seq (S.asg false 14 (E.app f__law_told (E.cons (E.var 2) (E.cons (E.var 10) (E.cons (E.bin dAdd (E.var 11) (E.ofL (E.lst (E.cons (E.var 10) E.nil)))) (E.cons (E.var 13) E.nil))))))
    (S.seq (S.ifs (E.tst (E.un (dIsi "str") (E.var 7))) (S.ret (E.vand (E.un (dIsi "str") (E.var 14)) (E.bin dEq (E.var 14) (E.var 7)))) S.skip)
    (S.ret (E.app f__law_deal_is (E.cons (E.var 14) (E.cons (E.var 7) E.nil)))))))))))))))))))))))))
def f_law (ds : List D) : R D := fin (u_law (start 15 ds))

end
end TB
namespace TB
open PySem PySem.Spec PyProof.Rows L2
def cellAt (ns : List Int) (k : Nat) : Int := ns.getD k 0
theorem cell_at_ok (ns : List Int) (k : Nat) : f__law_cell_at [.scr ns, .int k] = .ok (.int (cellAt ns k)) := by
  unfold f__law_cell_at u__law_cell_at start cellAt
  simp
  by_cases h : k < ns.length
  · simp [h, ix_sn (List.getElem?_eq_getElem h)]
  · simp [h]
def numAt (ns : List Int) (k : Nat) : Int := if ns.length = 0 then 5003 * k else (ns.getD (k % ns.length) 0 + 7919 * ((k / ns.length : Nat) : Int) + 101 * k) * 48271 % 2147483647
theorem numAt_nonneg (ns : List Int) (k : Nat) : 0 ≤ numAt ns k := by
  unfold numAt
  split
  · omega
  · exact Int.emod_nonneg _ (by decide)
theorem number_ok (ns : List Int) (k : Nat) (hl : ns.length ≤ 63) : f__law_number [.scr ns, .int k] = .ok (.int (numAt ns k)) := by
  unfold f__law_number u__law_number start numAt
  simp
  by_cases h : ns.length = 0
  · have h' : ns = [] := List.length_eq_zero_iff.mp h
    simp [h', mul_ii (i := 5003) (j := (k : Int)) (.inl ⟨by decide, by decide⟩)]
  · have hp : 0 < ns.length := by omega
    have lt : k % ns.length < ns.length := Nat.mod_lt _ hp
    have h' : ns ≠ [] := fun z => h (by rw [z]; rfl)
    have e3 := ix_sn (List.getElem?_eq_getElem lt)
    rw [Int.natCast_emod] at e3
    have e1 := mod_ii (i := k) (j := ns.length) (by omega)
    have e2 := div_ii (i := k) (j := ns.length) (by omega)
    have e4 : (((ns.length : Nat) : Int) == 0) = false := by simpa using h'
    simp [h, e1, e2, e3, e4, h', mul_ii (i := 7919) (.inl ⟨by decide, by decide⟩), mul_ii (i := 101) (.inl ⟨by decide, by decide⟩), mul_ii (j := 48271) (.inr ⟨by decide, by decide⟩), mod_ii (j := 2147483647) (by decide), List.getElem?_eq_getElem lt]
abbrev iL (ns : List Int) : List D := ns.map .int
end TB
namespace TB
open PySem PySem.Spec PyProof.Rows L2
/-! ### names -/
def abc : List Nat := (List.range 26).map (· + 97)
theorem abc_s : ("abcdefghijklmnopqrstuvwxyz" : Str) = T abc := by decide +kernel
theorem mem_abc {c : Nat} : c ∈ abc ↔ 97 ≤ c ∧ c ≤ 122 := by
  unfold abc
  simp only [List.mem_map, List.mem_range]
  constructor
  · rintro ⟨a, h, rfl⟩
    omega
  · intro h
    exact ⟨c - 97, by omega, by omega⟩
def Lt (l : List Nat) : Prop := ∀ c ∈ l, 97 ≤ c ∧ c ≤ 122
/-- a name: one to eight letters -/
structure Nm (l : List Nat) : Prop where
  one : 1 ≤ l.length
  most : l.length ≤ 8
  lt : Lt l
theorem is_name_ok {l : List Nat} (h : Nm l) : f_is_name [.str (T l)] = .ok (.bl true) := by
  have key : S.forF (G.one 1) [1] (S.ifs (E.tst (E.bin (dIn true) (E.var 1) (E.c (.str "abcdefghijklmnopqrstuvwxyz")))) (S.ret (E.c (.bl false))) S.skip) (l.map fun c => .str (T [c])) [.sh (.str (T l)), .no] = .nx [.sh (.str (T l)), .no] := by
    refine forF_all (fun c => .str (T [c])) _ l fun c hc => ?_
    have e := mem_abc.mpr (h.lt c hc)
    rw [abc_s]
    have e2 := in_T true c abc
    rw [turn1]
    simp only [e, decide_true, Bool.xor_self] at e2
    simp [e2]
  have hn : (T l).length ≤ LINE := by rw [T_len]; exact le_line (by have := h.most; omega)
  have e1 := len_x hn
  rw [T_len] at e1
  have o := h.one
  have m := h.most
  have e3 : (decide ((1 : Int) ≤ (l.length : Int))) = true := by simp; omega
  have e4 : (decide ((l.length : Int) ≤ (8 : Int))) = true := by simp; omega
  have it := iter_T l
  unfold f_is_name u_is_name start
  simp [e1, e3, e4, subT, it, key]
theorem letter_at {z : Int} (h0 : 0 ≤ z) (h1 : z < 26) : ∃ c, (97 ≤ c ∧ c ≤ 122) ∧ dIx (.str (T abc)) (.int z) = .ok (.str (T [c])) := by
  refine ⟨z.toNat + 97, by omega, ?_⟩
  rw [show z = ((z.toNat : Nat) : Int) by omega]
  refine ix_T (by decide) ?_
  unfold abc
  rw [List.getElem?_map, List.getElem?_range (by omega)]
  simp
  omega
theorem slice_to {l : List Nat} (p : Nat) (hl : l.length < 100000) : R.sliceB (.ok (.str (T l))) (.ok none) (.ok (some (p : Int))) = .ok (.str (T (l.take p))) := by
  show (if (T l).length ≤ LINE then R.ok (D.str (cutS (T l) none (some (p : Int)))) else .bad) = _
  rw [T_len, if_pos (le_line hl)]
  unfold cutS
  rw [HT.sIx_nat, HT.sIx_none, T_len]
  congr 3
  simp [List.take_eq_take_iff]
theorem slice_from {l : List Nat} (p : Nat) (hl : l.length < 100000) : R.sliceB (.ok (.str (T l))) (.ok (some (p : Int))) (.ok none) = .ok (.str (T (l.drop p))) := by
  show (if (T l).length ≤ LINE then R.ok (D.str (cutS (T l) (some (p : Int)) none)) else .bad) = _
  rw [T_len, if_pos (le_line hl)]
  unfold cutS
  rw [HT.sIx_nat, HT.sIx_none, T_len]
  rw [List.take_of_length_le (by simp)]
  refine congrArg (fun z : List Nat => R.ok (D.str (T z))) ?_
  show l.drop _ = _
  by_cases h : p ≤ l.length
  · rw [Nat.min_eq_left h]
  · rw [Nat.min_eq_right (by omega), List.drop_of_length_le (Nat.le_refl _), List.drop_of_length_le (by omega)]
theorem no_T : ("" : Str) = T [] := by decide +kernel
theorem no_Lt : Lt [] := fun c h => by cases h
def nameBody : Ev → Out := S.asg false 6 (E.bin dAdd (E.var 6) (E.bin dIx (E.var 2) (E.bin dMod (E.bin dAdd (E.bin dDiv (E.var 4) (E.c (.int 208))) (E.bin dMul (E.var 7) (E.var 5))) (E.c (.int 26)))))
theorem name_loop {d0 d1 d3 : D} {n s : Int} (hs : 0 ≤ s ∧ s < 1000) (N : Nat) (hN : N ≤ 8) : ∃ l, S.forF (G.one 7) [7] nameBody ((List.range N).map fun (k : Nat) => D.int k) [.sh d0, .sh d1, .sh (.str (T abc)), .sh d3, .sh (.int n), .sh (.int s), .sh (.str (T [])), .no, .no, .no] =
    .nx [.sh d0, .sh d1, .sh (.str (T abc)), .sh d3, .sh (.int n), .sh (.int s), .sh (.str (T l)), .no, .no, .no] ∧ l.length = N ∧ Lt l := by
  have z := forF_st (g := G.one 7) (ws := [7]) (body := nameBody) (fun (k : Nat) => D.int k) (fun l => [.sh d0, .sh d1, .sh (.str (T abc)), .sh d3, .sh (.int n), .sh (.int s), .sh (.str (T l)), .no, .no, .no])
    (fun i l => l.length = i ∧ Lt l) (List.range N) [] ⟨rfl, no_Lt⟩ ?_
  · rw [List.length_range] at z
    exact z
  · rintro i x hx l ⟨hl, ht⟩
    obtain ⟨hi, rfl⟩ := range_at hx
    obtain ⟨c, hc, e⟩ := letter_at (z := (n / 208 + (i : Int) * s) % 26) (Int.emod_nonneg _ (by decide)) (Int.emod_lt_of_pos _ (by decide))
    have e1 := add_TT (a := l) (b := [c]) (by show l.length + 1 < _; omega)
    refine ⟨l ++ [c], ?_, by simp [hl], fun a ha => ?_⟩
    · rw [turn1]
      unfold nameBody
      simp [div_ii (i := n) (j := 208) (by decide), mul_ii (i := (i : Int)) (j := s) (.inl ⟨by omega, by omega⟩), mod_ii (j := 26) (by decide), e, e1]
    · rcases List.mem_append.mp ha with h | h
      · exact ht a h
      · rw [List.mem_singleton.mp h]
        exact hc
theorem name_by_ok (ns : List Int) (hl : ns.length ≤ 63) (k : Nat) (hk : k < 5) : ∃ l, Nm l ∧ f__law_name_by [.scr ns, .int k] = .ok (.str (T l)) := by
  have c0 : f__law_cell_at [.scr ns, .int 0] = _ := cell_at_ok ns 0
  cases ea : (cellAt ns 0 / 5 % 2 == 1) with
  | false =>
    have n1 : f__law_number [.scr ns, .int (1 + 3 * (k : Int))] = .ok (.int (numAt ns (1 + 3 * k))) := by
      have := number_ok ns (1 + 3 * k) hl
      simpa using this
    have h0 := numAt_nonneg ns (1 + 3 * k)
    generalize numAt ns (1 + 3 * k) = n at *
    obtain ⟨l, z1, z2, z3⟩ := name_loop (d0 := .scr ns) (d1 := .int k) (d3 := .bl false) (n := n) (s := 1 + n / 5408 % 25) (by omega) (1 + n % 8).toNat (by omega)
    have r1 := range1_nat (n := (1 + n % 8).toNat) (by omega)
    rw [show (((1 + n % 8).toNat : Nat) : Int) = 1 + n % 8 by omega] at r1
    refine ⟨l, ⟨by omega, by omega, z3⟩, ?_⟩
    unfold nameBody at z1
    unfold f__law_name_by u__law_name_by start
    rw [abc_s, no_T]
    simp [c0, div_ii (j := 5) (by decide), div_ii (j := 5408) (by decide), mod_ii (j := 2) (by decide), mod_ii (j := 25) (by decide), mod_ii (j := 8) (by decide), ea, mul_ii (i := 3) (.inl ⟨by decide, by decide⟩), mul_ii (j := 1) (.inr ⟨by decide, by decide⟩), n1, r1, z1]
  | true =>
    have n1 : f__law_number [.scr ns, .int 1] = .ok (.int (numAt ns 1)) := number_ok ns 1 hl
    have h0 := numAt_nonneg ns 1
    generalize numAt ns 1 = n at *
    obtain ⟨l, z1, z2, z3⟩ := name_loop (d0 := .scr ns) (d1 := .int k) (d3 := .bl true) (n := n) (s := 1 + n / 5408 % 25) (by omega) (1 + n % 8).toNat (by omega)
    have r1 := range1_nat (n := (1 + n % 8).toNat) (by omega)
    rw [show (((1 + n % 8).toNat : Nat) : Int) = 1 + n % 8 by omega] at r1
    have ll : l.length < 100000 := by omega
    have lp : (0 : Int) < (l.length : Int) := by omega
    have ln := len_x (x := T l) (by rw [T_len]; exact le_line ll)
    rw [T_len] at ln
    have q0 := Int.emod_nonneg (n / 8) (show (l.length : Int) ≠ 0 by omega)
    have q1 := Int.emod_lt_of_pos (n / 8) lp
    obtain ⟨p, hp⟩ : ∃ p : Nat, n / 8 % (l.length : Int) = p := ⟨(n / 8 % (l.length : Int)).toNat, by omega⟩
    obtain ⟨c, hc, e⟩ := letter_at (z := (n / 64 + 5 * (k : Int)) % 26) (Int.emod_nonneg _ (by decide)) (Int.emod_lt_of_pos _ (by decide))
    have s1 := slice_to (l := l) p ll
    have s2 := slice_from (l := l) (p + 1) ll
    rw [show (((p + 1 : Nat)) : Int) = (p : Int) + 1 by omega] at s2
    rw [hp] at q1
    have a1 := add_TT (a := l.take p) (b := [c]) (by simp; omega)
    have a2 := add_TT (a := l.take p ++ [c]) (b := l.drop (p + 1)) (by simp; omega)
    obtain ⟨m, hm⟩ : ∃ m, m = l.take p ++ [c] ++ l.drop (p + 1) := ⟨_, rfl⟩
    have ml : m.length = l.length := by rw [hm]; simp; omega
    rw [← hm] at a2
    refine ⟨m, ⟨by omega, by omega, ?_⟩, ?_⟩
    · intro a ha
      rw [hm] at ha
      rcases List.mem_append.mp ha with h | h
      · rcases List.mem_append.mp h with h | h
        · exact z3 a (List.mem_of_mem_take h)
        · rw [List.mem_singleton.mp h]
          exact hc
      · exact z3 a (List.mem_of_mem_drop h)
    · unfold nameBody at z1
      unfold f__law_name_by u__law_name_by start
      rw [abc_s, no_T]
      simp [c0, div_ii (j := 5) (by decide), div_ii (j := 8) (by decide), div_ii (j := 64) (by decide), div_ii (j := 5408) (by decide), mod_ii (j := 2) (by decide), mod_ii (j := 25) (by decide), mod_ii (j := 26) (by decide), mod_ii (j := 8) (by decide), ea,
        mul_ii (i := 3) (.inl ⟨by decide, by decide⟩), mul_ii (j := 0) (.inr ⟨by decide, by decide⟩), mul_ii (i := 5) (.inl ⟨by decide, by decide⟩), n1, r1, z1, ln, mod_ii lp, hp, e, s1, s2, a1, a2]
end TB
namespace TB
open PySem PySem.Spec PyProof.Rows L2
/-! ### kinds -/
abbrev kD (p : List Nat × Int) : D := .tup [.str (T p.1), .int p.2]
abbrev nD (p : List Nat × Int) : D := .str (T p.1)
structure Kinds (ks : List (List Nat × Int)) : Prop where
  one : 1 ≤ ks.length
  most : ks.length ≤ 5
  nm : ∀ p ∈ ks, Nm p.1
  pr : ∀ p ∈ ks, 0 ≤ p.2 ∧ p.2 ≤ 100000
  nd : (ks.map (·.1)).Nodup
theorem in_names (neg : Bool) (l : List Nat) (ks : List (List Nat × Int)) : dIn neg (.str (T l)) (.lst (ks.map nD)) = .ok (.bl (neg ^^ decide (l ∈ ks.map (·.1)))) := by
  have e : ks.map nD = (ks.map fun p => T p.1).map D.str := by rw [List.map_map]; rfl
  rw [e, in_S]
  refine congrArg (fun b => R.ok (D.bl (neg ^^ b))) ?_
  rw [Bool.eq_iff_iff]
  simp only [decide_eq_true_eq, List.mem_map]
  constructor
  · rintro ⟨p, hp, h⟩
    exact ⟨p, hp, T_inj h⟩
  · rintro ⟨p, hp, h⟩
    exact ⟨p, hp, by rw [h]⟩
theorem abcde_at {i : Nat} (h : i < 5) : ∃ c, (97 ≤ c ∧ c ≤ 122) ∧ dIx (.str "abcde") (.int i) = .ok (.str (T [c])) := by
  rw [show ("abcde" : Str) = T [97, 98, 99, 100, 101] by decide +kernel]
  refine ⟨97 + i, by omega, ix_T (by decide) ?_⟩
  match i, h with
  | 0, _ => rfl
  | 1, _ => rfl
  | 2, _ => rfl
  | 3, _ => rfl
  | 4, _ => rfl
theorem kinds_turn (ns : List Int) (hl : ns.length ≤ 63) (i : Nat) (hi : i < 5) (ks : List (List Nat × Int)) (kl : ks.length ≤ i) (nm : ∀ p ∈ ks, Nm p.1) (pr : ∀ p ∈ ks, 0 ≤ p.2 ∧ p.2 ≤ 100000) (nd : (ks.map (·.1)).Nodup) (one : 0 < i → 1 ≤ ks.length) :
    ∃ ks' : List (List Nat × Int), turn (G.one 3) [3, 4, 5, 6] (S.seq (S.asg false 4 (E.app f__law_number (E.cons (E.var 0) (E.cons (E.bin dAdd (E.bin dMul (E.c (.int 3)) (E.var 3)) (E.c (.int 2))) E.nil))))
    (S.seq (S.asg false 5 (E.app f__law_name_by (E.cons (E.var 0) (E.cons (E.var 3) E.nil))))
    (S.seq (S.asg false 6 (E.bin dMod (E.bin dDiv (E.var 4) (E.c (.int 1009))) (E.c (.int 100))))
    (S.seq (S.ifs (E.tst (E.bin dEq (E.bin dMod (E.var 4) (E.c (.int 3))) (E.c (.int 0)))) (S.asg false 6 (E.bin dMod (E.bin dDiv (E.var 4) (E.c (.int 1009))) (E.c (.int 100001)))) S.skip)
    (S.seq (S.ifs (E.tst (E.bin (dIn false) (E.var 5) (E.var 2))) (S.asg false 5 (E.bin dAdd (E.slice (E.var 5) E.o0 (E.o1 (E.c (.int 7)))) (E.bin dIx (E.c (.str "abcde")) (E.var 3)))) S.skip)
    (S.ifs (E.tst (E.bin (dIn true) (E.var 5) (E.var 2))) (S.seq (S.push false 2 (E.var 5))
    (S.push false 1 (E.tup (E.cons (E.var 5) (E.cons (E.var 6) E.nil))))) S.skip)))))) (.int i) [.sh (.scr ns), .own (ks.map kD), .own (ks.map nD), .no, .no, .no, .no] =
      .nx [.sh (.scr ns), .own (ks'.map kD), .own (ks'.map nD), .no, .no, .no, .no] ∧ ks'.length ≤ i + 1 ∧ (∀ p ∈ ks', Nm p.1) ∧ (∀ p ∈ ks', 0 ≤ p.2 ∧ p.2 ≤ 100000) ∧ (ks'.map (·.1)).Nodup ∧ 1 ≤ ks'.length := by
  obtain ⟨l, hlm, e1⟩ := name_by_ok ns hl i hi
  have n1 : f__law_number [.scr ns, .int (3 * (i : Int) + 2)] = .ok (.int (numAt ns (3 * i + 2))) := by
    have := number_ok ns (3 * i + 2) hl
    simpa using this
  have h0 := numAt_nonneg ns (3 * i + 2)
  generalize numAt ns (3 * i + 2) = n at *
  obtain ⟨c, hc, e2⟩ := abcde_at hi
  have lm := hlm.most
  have s1 := slice_to (l := l) 7 (by omega)
  rw [show ((7 : Nat) : Int) = 7 from rfl] at s1
  have a1 := add_TT (a := l.take 7) (b := [c]) (by simp; omega)
  obtain ⟨m, hm⟩ : ∃ m, m = l.take 7 ++ [c] := ⟨_, rfl⟩
  rw [← hm] at a1
  have hmm : Nm m := by
    rw [hm]
    refine ⟨by simp, by simp; omega, fun a ha => ?_⟩
    rcases List.mem_append.mp ha with h | h
    · exact hlm.lt a (List.mem_of_mem_take h)
    · rw [List.mem_singleton.mp h]
      exact hc
  clear hm
  obtain ⟨p, hp, ep⟩ : ∃ p, (0 ≤ p ∧ p ≤ 100000) ∧ p = if (n % 3 == 0) = true then n / 1009 % 100001 else n / 1009 % 100 := ⟨_, by split <;> omega, rfl⟩
  have hs : ks.length < LINE := lt_line (by omega)
  have i1 := in_names false l ks
  have i2 := in_names true l ks
  have i3 := in_names true m ks
  have add : ∀ x, Nm x → x ∉ ks.map (·.1) → (ks ++ [(x, p)]).length ≤ i + 1 ∧ (∀ q ∈ ks ++ [(x, p)], Nm q.1) ∧ (∀ q ∈ ks ++ [(x, p)], 0 ≤ q.2 ∧ q.2 ≤ 100000) ∧ ((ks ++ [(x, p)]).map (·.1)).Nodup ∧ 1 ≤ (ks ++ [(x, p)]).length := fun x hx hn => by
    refine ⟨by simp; omega, ?_, ?_, ?_, by simp⟩
    · intro q hq
      rcases List.mem_append.mp hq with h | h
      · exact nm q h
      · rw [List.mem_singleton.mp h]
        exact hx
    · intro q hq
      rcases List.mem_append.mp hq with h | h
      · exact pr q h
      · rw [List.mem_singleton.mp h]
        exact hp
    · rw [List.map_append, List.nodup_append]
      refine ⟨nd, by simp, ?_⟩
      intro a ha b hb e
      simp at hb
      subst e
      rw [hb] at ha
      exact hn ha
  by_cases h1 : l ∈ ks.map (·.1)
  · by_cases h2 : m ∈ ks.map (·.1)
    · refine ⟨ks, ?_, by omega, nm, pr, nd, ?_⟩
      · rw [turn1]
        simp only [h1, h2, decide_true] at i1 i2 i3
        cases h3 : (n % 3 == 0) <;>
        simp [e1, n1, mul_ii (i := 3) (.inl ⟨by decide, by decide⟩), div_ii (j := 1009) (by decide), mod_ii (j := 100) (by decide), mod_ii (j := 100001) (by decide), mod_ii (j := 3) (by decide), h3, i1, i2, i3, s1, e2, a1]
      · cases ks with
        | nil => cases h1
        | cons => simp
    · refine ⟨ks ++ [(m, p)], ?_, add m hmm h2⟩
      rw [turn1, ep]
      simp only [h1, h2, decide_true, decide_false] at i1 i2 i3
      cases h3 : (n % 3 == 0) <;>
      simp [e1, n1, mul_ii (i := 3) (.inl ⟨by decide, by decide⟩), div_ii (j := 1009) (by decide), mod_ii (j := 100) (by decide), mod_ii (j := 100001) (by decide), mod_ii (j := 3) (by decide), h3, i1, i2, i3, s1, e2, a1, hs]
  · refine ⟨ks ++ [(l, p)], ?_, add l hlm h1⟩
    rw [turn1, ep]
    simp only [h1, decide_true, decide_false] at i1 i2
    cases h3 : (n % 3 == 0) <;>
    simp [e1, n1, mul_ii (i := 3) (.inl ⟨by decide, by decide⟩), div_ii (j := 1009) (by decide), mod_ii (j := 100) (by decide), mod_ii (j := 100001) (by decide), mod_ii (j := 3) (by decide), h3, i1, i2, hs]
theorem kinds_ok (ns : List Int) (hl : ns.length ≤ 63) : ∃ ks, Kinds ks ∧ f__law_kinds [.scr ns] = .ok (.lst (ks.map kD)) := by
  have c0 : f__law_cell_at [.scr ns, .int 0] = _ := cell_at_ok ns 0
  have r1 := range1_nat (n := (1 + cellAt ns 0 % 5).toNat) (by omega)
  rw [show (((1 + cellAt ns 0 % 5).toNat : Nat) : Int) = 1 + cellAt ns 0 % 5 by omega] at r1
  obtain ⟨ks, h1, h2, h3, h4, h5, h6⟩ := forF_st (fun (k : Nat) => D.int k) (fun ks : List (List Nat × Int) => [.sh (.scr ns), .own (ks.map kD), .own (ks.map nD), .no, .no, .no, .no])
    (fun i ks => ks.length ≤ i ∧ (∀ p ∈ ks, Nm p.1) ∧ (∀ p ∈ ks, 0 ≤ p.2 ∧ p.2 ≤ 100000) ∧ (ks.map (·.1)).Nodup ∧ (0 < i → 1 ≤ ks.length)) (List.range (1 + cellAt ns 0 % 5).toNat) [] ⟨Nat.le_refl _, by simp, by simp, by simp, fun h => absurd h (Nat.lt_irrefl _)⟩
    fun i x hx ks ⟨h1, h2, h3, h4, h5⟩ => by
      obtain ⟨hi, rfl⟩ := range_at hx
      obtain ⟨ks', q1, q2, q3, q4, q5, q6⟩ := kinds_turn ns hl i (by omega) ks h1 h2 h3 h4 h5
      exact ⟨ks', q1, q2, q3, q4, q5, fun _ => q6⟩
  rw [List.length_range] at h2 h6
  refine ⟨ks, ⟨h6 (by omega), by omega, h3, h4, h5⟩, ?_⟩
  simp only [List.map_nil] at h1
  unfold f__law_kinds u__law_kinds start
  simp [c0, mod_ii (j := 5) (by decide), r1, h1]
end TB
namespace TB
open PySem PySem.Spec PyProof.Rows L2
/-! ### the shop -/
abbrev pD (p : List Nat × Int) : D := .int p.2
abbrev shopD (ks : List (List Nat × Int)) : D := .shop (ks.map nD) (ks.map pD)
@[simp] theorem is_number_i (i a b : Int) : f_is_number [.int i, .int a, .int b] = .ok (.bl (decide (a ≤ i) && decide (i ≤ b))) := by
  unfold f_is_number u_is_number start
  simp [subT]
theorem initL_ok {k : D} : ∀ (rest done : List (List Nat × Int)), (∀ p ∈ rest, Nm p.1) → (∀ p ∈ rest, 0 ≤ p.2 ∧ p.2 ≤ 100000) → ((done ++ rest).map (·.1)).Nodup →
    initL f_is_name f_is_number k (rest.map kD) (done.map nD) (done.map pD) = .ok ((done ++ rest).map nD, (done ++ rest).map pD)
  | [], done, _, _, _ => by simp [initL]
  | p :: rest, done, nm, pr, nd => by
    have h1 := is_name_ok (nm p List.mem_cons_self)
    have h2 := pr p List.mem_cons_self
    have ih := initL_ok (k := k) rest (done ++ [p]) (fun q hq => nm q (List.mem_cons_of_mem _ hq)) (fun q hq => pr q (List.mem_cons_of_mem _ hq)) (by simpa using nd)
    have c1 : I.c1 f_is_name [.no, .sh k, .sh (kD p)] = .ok false := by
      unfold I.c1
      simp [subT, h1]
    have a0 : I.at0 [.no, .sh k, .sh (kD p)] = .ok (.str (T p.1)) := by
      unfold I.at0
      simp
    have a1 : I.at1 [.no, .sh k, .sh (kD p)] = .ok (.int p.2) := by
      unfold I.at1
      simp
    have c3 : I.c3 f_is_number [.no, .sh k, .sh (kD p)] = .ok false := by
      unfold I.c3
      simp [h2.1, h2.2]
    have nin : p.1 ∉ done.map (·.1) := by
      rw [List.map_append, List.nodup_append] at nd
      intro h
      exact nd.2.2 _ h p.1 (by simp) rfl
    have any : ((done.map nD).any fun y => eqF y (.str (T p.1))) = false := by
      rw [List.any_eq_false]
      intro y hy
      obtain ⟨q, hq, rfl⟩ := List.mem_map.mp hy
      simp only [eqF, beq_iff_eq]
      intro e
      exact nin (List.mem_map.mpr ⟨q, hq, T_inj e⟩)
    have f1 : (done.map nD).all flat = true := by simp [flat]
    have f2 : (done.map pD).all flat = true := by simp [flat]
    rw [List.map_cons, initL_cons, c1]
    dsimp only
    rw [a0]
    dsimp only
    rw [show flat (.str (T p.1)) = true from rfl, f1, any, c3]
    dsimp only
    rw [a1]
    dsimp only
    rw [show flat (.int p.2) = true from rfl, f2]
    simp only [List.map_append, List.map_cons, List.map_nil, List.append_assoc, List.cons_append, List.nil_append] at ih ⊢
    exact ih
theorem Shop_ok {ks : List (List Nat × Int)} (h : Kinds ks) : f_Shop [.lst (ks.map kD)] = .ok (shopD ks) := by
  have o := h.one
  have m := h.most
  have c0 : I.c0 [.no, .sh (.lst (ks.map kD)), .no] = .ok false := by
    unfold I.c0
    simp [subT]
    omega
  have z := initL_ok (k := .lst (ks.map kD)) ks [] h.nm h.pr (by simpa using h.nd)
  have l : (ks.map kD).length < 1000 := by simp; omega
  show R.map (fun q => D.shop q.1 q.2) (initF f_is_name f_is_number (.lst (ks.map kD))) = _
  unfold initF
  rw [c0]
  dsimp only
  rw [if_pos l]
  simp only [List.map_nil, List.nil_append] at z
  rw [z]
  rfl
theorem firstF_nD : ∀ {ks : List (List Nat × Int)} {i : Nat} {p : List Nat × Int}, (ks.map (·.1)).Nodup → ks[i]? = some p → firstF (.str (T p.1)) (ks.map nD) = some i
  | [], i, p, _, h => by simp at h
  | q :: ks, 0, p, _, h => by
    have e : q = p := by simpa using h
    subst e
    simp [firstF, eqF]
  | q :: ks, i + 1, p, nd, h => by
    have h' : ks[i]? = some p := by simpa using h
    have nd' : (ks.map (·.1)).Nodup := by
      rw [List.map_cons, List.nodup_cons] at nd
      exact nd.2
    have ne : ¬ (q.1 = p.1) := fun e => by
      rw [List.map_cons, List.nodup_cons] at nd
      exact nd.1 (by rw [e]; exact List.mem_map.mpr ⟨p, List.mem_of_getElem? h', rfl⟩)
    have ih := firstF_nD nd' h'
    have e : eqF (nD q) (.str (T p.1)) = false := by
      simp only [eqF, beq_eq_false_iff_ne]
      exact fun e => ne (T_inj e)
    rw [List.map_cons, firstF, e]
    simp [ih]
theorem place_ok {ks : List (List Nat × Int)} (h : Kinds ks) {i : Nat} {p : List Nat × Int} (hp : ks[i]? = some p) : f_place [shopD ks, .str (T p.1)] = .ok (.int i) := by
  have e1 := in_names true p.1 ks
  have hin : p.1 ∈ ks.map (·.1) := List.mem_map.mpr ⟨p, List.mem_of_getElem? hp, rfl⟩
  simp only [hin, decide_true] at e1
  have e2 := firstF_nD h.nd hp
  have f1 : (ks.map nD).all flat = true := by simp [flat]
  have e3 : dIndex (.lst (ks.map nD)) (.str (T p.1)) = .ok (.int i) := by
    show (if flat (.str (T p.1)) && (ks.map nD).all flat then match firstF (.str (T p.1)) (ks.map nD) with
      | some j => R.ok (D.int j)
      | none => .bad
      else .bad) = _
    rw [f1, e2]
    rfl
  unfold f_place u_place start
  simp [subT, e1, e3]
end TB
namespace TB
open PySem PySem.Spec PyProof.Rows L2
/-! ### offers, typed -/
abbrev Ks := List (List Nat × Int)
def nAt (ks : Ks) (i : Nat) : List Nat := (ks.getD i ([], 0)).1
def prAt (ks : Ks) (i : Nat) : Int := (ks.getD i ([], 0)).2
abbrev nmD (ks : Ks) (i : Nat) : D := .str (T (nAt ks i))
inductive Of where
  | slip (i j : Nat) (d : Int) | share (i : Nat) (p : Int) | more (i : Nat) (m c : Int) | set (ws : List (Nat × Int)) (c : Int)
abbrev wD (ks : Ks) (w : Nat × Int) : D := .tup [nmD ks w.1, .int w.2]
def ofD (ks : Ks) : Of → D
  | .slip i j d => .tup [.str "slip", nmD ks i, nmD ks j, .int d]
  | .share i p => .tup [.str "share", nmD ks i, .int p]
  | .more i m c => .tup [.str "more", nmD ks i, .int m, .int c]
  | .set ws c => .tup [.str "set", .tup (ws.map (wD ks)), .int c]
def OfOk (n : Nat) : Of → Prop
  | .slip i j d => i < n ∧ j < n ∧ i ≠ j ∧ 1 ≤ d ∧ d ≤ 100000
  | .share i p => i < n ∧ 1 ≤ p ∧ p ≤ 100
  | .more i m c => i < n ∧ 2 ≤ m ∧ m ≤ 9 ∧ 1 ≤ c ∧ c < m
  | .set ws c => 1 ≤ ws.length ∧ ws.length ≤ 5 ∧ (∀ w ∈ ws, w.1 < n ∧ 1 ≤ w.2 ∧ w.2 ≤ 9) ∧ (ws.map (·.1)).Nodup ∧ 0 ≤ c ∧ c ≤ 100000
theorem ks_at {ks : Ks} {i : Nat} (h : i < ks.length) : ks[i]? = some (nAt ks i, prAt ks i) := by
  unfold nAt prAt
  rw [List.getD_eq_getElem?_getD, List.getElem?_eq_getElem h]
  rfl
theorem nAt_eq {ks : Ks} (h : Kinds ks) {i j : Nat} (hi : i < ks.length) (hj : j < ks.length) : (T (nAt ks i) == T (nAt ks j)) = decide (i = j) := by
  rw [Bool.eq_iff_iff, beq_iff_eq, decide_eq_true_eq]
  constructor
  · intro e
    have e := T_inj e
    have n := h.nd
    rw [List.Nodup, List.pairwise_iff_getElem] at n
    have g : ∀ {i : Nat} (hi : i < ks.length), (ks.map (·.1))[i]'(by simpa using hi) = nAt ks i := fun {i} hi => by
      have a := ks_at hi
      rw [List.getElem?_eq_getElem hi] at a
      rw [List.getElem_map, Option.some.inj a]
    rcases Nat.lt_trichotomy i j with q | q | q
    · exact absurd ((g hi).trans (e.trans (g hj).symm)) (n i j _ _ q)
    · exact q
    · exact absurd ((g hj).trans (e.symm.trans (g hi).symm)) (n j i _ _ q)
  · rintro rfl
    rfl
theorem pick2 (x y : Int) {z : Int} (h0 : 0 ≤ z) (h1 : z < 2) : ∃ v, (v = x ∨ v = y) ∧ dIx (.lst [.int x, .int y]) (.int z) = .ok (.int v) := by
  rcases (show z = 0 ∨ z = 1 by omega) with rfl | rfl
  · exact ⟨x, .inl rfl, by simp⟩
  · exact ⟨y, .inr rfl, by simp⟩
theorem pick3 (x y u : Int) {z : Int} (h0 : 0 ≤ z) (h1 : z < 3) : ∃ v, (v = x ∨ v = y ∨ v = u) ∧ dIx (.lst [.int x, .int y, .int u]) (.int z) = .ok (.int v) := by
  rcases (show z = 0 ∨ z = 1 ∨ z = 2 by omega) with rfl | rfl | rfl
  · exact ⟨x, .inl rfl, by simp⟩
  · exact ⟨y, .inr (.inl rfl), by simp⟩
  · exact ⟨u, .inr (.inr rfl), by simp⟩
theorem kind_at {ks : Ks} {i : Nat} (h : i < ks.length) : dIx (.lst (ks.map kD)) (.int i) = .ok (.tup [nmD ks i, .int (prAt ks i)]) := by
  refine ix_ln ?_
  rw [List.getElem?_map, ks_at h]
  rfl
theorem set_loop {ks : Ks} (h : Kinds ks) {a : Nat} (ha : a < ks.length) {d1 d3 d5 : D} (m0 w0 : Int) (hm : 0 ≤ m0) (hw : 1 ≤ w0 ∧ w0 ≤ 9) :
    ∃ s : List (Nat × Int) × Int, S.forF (G.one 7) [7] (S.seq (S.ifs (E.band (E.tst (E.bin dNe (E.bin dIx (E.var 7) (E.c (.int 0))) (E.var 2))) (E.tst (E.bin dGt (E.bin dMod (E.bin dDiv (E.var 4) (E.c (.int 18))) (E.c (.int 3))) (E.c (.int 0))))) (S.push false 6 (E.tup (E.cons (E.bin dIx (E.var 7) (E.c (.int 0))) (E.cons (E.bin dAdd (E.c (.int 1)) (E.bin dMod (E.bin dDiv (E.var 4) (E.c (.int 54))) (E.bin dIx (E.ofL (E.lst (E.cons (E.c (.int 1)) (E.cons (E.c (.int 2)) (E.cons (E.c (.int 9)) E.nil))))) (E.bin dMod (E.bin dDiv (E.var 4) (E.c (.int 486))) (E.c (.int 3)))))) E.nil)))) S.skip)
    (S.asg false 4 (E.bin dDiv (E.var 4) (E.c (.int 3))))) (ks.map kD) [.sh (.lst (ks.map kD)), .sh d1, .sh (nmD ks a), .sh d3, .sh (.int m0), .no, .own [wD ks (a, w0)], .no] =
      .nx [.sh (.lst (ks.map kD)), .sh d1, .sh (nmD ks a), .sh d3, .sh (.int s.2), .no, .own (s.1.map (wD ks)), .no] ∧
      1 ≤ s.1.length ∧ s.1.length ≤ 5 ∧ (∀ w ∈ s.1, w.1 < ks.length ∧ 1 ≤ w.2 ∧ w.2 ≤ 9) ∧ (s.1.map (·.1)).Nodup := by
  have z := forF_st (g := G.one 7) (ws := [7]) kD (fun s : List (Nat × Int) × Int => [.sh (.lst (ks.map kD)), .sh d1, .sh (nmD ks a), .sh d3, .sh (.int s.2), .no, .own (s.1.map (wD ks)), .no])
    (fun i s => 1 ≤ s.1.length ∧ s.1.length + (if a < i then 1 else 0) ≤ 1 + i ∧ (∀ w ∈ s.1, w.1 < ks.length ∧ 1 ≤ w.2 ∧ w.2 ≤ 9) ∧ (s.1.map (·.1)).Nodup ∧ (∀ w ∈ s.1, w.1 = a ∨ w.1 < i)) ks ([(a, w0)], m0)
    ⟨by simp, by simp, fun w q => by
      rw [List.mem_singleton.mp q]
      exact ⟨ha, hw⟩, by simp, fun w q => by
      rw [List.mem_singleton.mp q]
      exact .inl rfl⟩
    (body := (S.seq (S.ifs (E.band (E.tst (E.bin dNe (E.bin dIx (E.var 7) (E.c (.int 0))) (E.var 2))) (E.tst (E.bin dGt (E.bin dMod (E.bin dDiv (E.var 4) (E.c (.int 18))) (E.c (.int 3))) (E.c (.int 0))))) (S.push false 6 (E.tup (E.cons (E.bin dIx (E.var 7) (E.c (.int 0))) (E.cons (E.bin dAdd (E.c (.int 1)) (E.bin dMod (E.bin dDiv (E.var 4) (E.c (.int 54))) (E.bin dIx (E.ofL (E.lst (E.cons (E.c (.int 1)) (E.cons (E.c (.int 2)) (E.cons (E.c (.int 9)) E.nil))))) (E.bin dMod (E.bin dDiv (E.var 4) (E.c (.int 486))) (E.c (.int 3)))))) E.nil)))) S.skip)
    (S.asg false 4 (E.bin dDiv (E.var 4) (E.c (.int 3)))))) ?_
  · obtain ⟨s, q1, q2, q3, q4, q5, _⟩ := z
    rw [if_pos ha] at q3
    have := h.most
    exact ⟨s, q1, q2, by omega, q4, q5⟩
  · rintro i x hx ⟨ws, m⟩ ⟨h1, h2, h3, h4, h5⟩
    simp only at h1 h2 h3 h4 h5
    have hi : i < ks.length := (List.getElem?_eq_some_iff.mp hx).1
    have ex : x = (nAt ks i, prAt ks i) := by
      have := ks_at hi
      rw [hx] at this
      exact Option.some.inj this
    subst ex
    have km := h.most
    have ne := nAt_eq h hi ha
    have next : ∀ w ∈ ws, w.1 = a ∨ w.1 < i + 1 := fun w q => (h5 w q).imp id fun q => by omega
    have hd : dDiv (.int m) (.int 3) = _ := div_ii (by decide)
    by_cases c : i ≠ a ∧ 0 < m / 18 % 3
    · obtain ⟨c1, c2⟩ := c
      obtain ⟨v, hv, ev⟩ := pick3 1 2 9 (z := m / 486 % 3) (Int.emod_nonneg _ (by decide)) (Int.emod_lt_of_pos _ (by decide))
      have v0 : 0 < v := by omega
      have q0 := Int.emod_nonneg (m / 54) (show v ≠ 0 by omega)
      have q1 := Int.emod_lt_of_pos (m / 54) v0
      have hz : ws.length < LINE := lt_line (by split at h2 <;> omega)
      refine ⟨(ws ++ [(i, 1 + m / 54 % v)], m / 3), ?_, ?_, ?_, ?_, ?_, ?_⟩
      · rw [turn1]
        simp only [c1, decide_false] at ne
        simp [ne, div_ii (j := 18) (by decide), div_ii (j := 54) (by decide), div_ii (j := 486) (by decide), mod_ii (j := 3) (by decide), c2, ev, mod_ii v0, hz, hd]
      · simp
      · simp only [List.length_append, List.length_singleton]
        split at h2 <;> split <;> omega
      · intro w q
        rcases List.mem_append.mp q with q | q
        · exact h3 w q
        · rw [List.mem_singleton.mp q]
          exact ⟨hi, by show (1 : Int) ≤ 1 + m / 54 % v; omega, by show 1 + m / 54 % v ≤ (9 : Int); omega⟩
      · rw [List.map_append, List.nodup_append]
        refine ⟨h4, by simp, ?_⟩
        intro b hb b' hb' e
        simp at hb'
        subst e
        obtain ⟨w, q, e⟩ := List.mem_map.mp hb
        have := h5 w q
        omega
      · intro w q
        rcases List.mem_append.mp q with q | q
        · exact next w q
        · rw [List.mem_singleton.mp q]
          exact .inr (Nat.lt_succ_self i)
    · refine ⟨(ws, m / 3), ?_, h1, ?_, h3, h4, next⟩
      · rw [turn1]
        by_cases c1 : i = a
        · subst c1
          simp [hd]
        · have c2 : ¬ 0 < m / 18 % 3 := fun q => c ⟨c1, q⟩
          simp only [c1, decide_false] at ne
          simp [ne, div_ii (j := 18) (by decide), mod_ii (j := 3) (by decide), c2, hd]
      · show ws.length + _ ≤ _
        split at h2 <;> split <;> omega
end TB
namespace TB
open PySem PySem.Spec PyProof.Rows L2
theorem list_lit2 (x y : Int) (ρ : Ev) : E.ofL (E.lst (E.cons (E.c (.int x)) (E.cons (E.c (.int y)) E.nil))) ρ = .ok (.lst [.int x, .int y]) := by simp
theorem law_offer_ok {ks : Ks} (h : Kinds ks) {n : Int} (hn : 0 ≤ n) : ∃ o, OfOk ks.length o ∧ f__law_offer [.lst (ks.map kD), .int n] = .ok (ofD ks o) := by
  have km := h.most
  have ko := h.one
  have lp : (0 : Int) < (ks.length : Int) := by omega
  have q0 := Int.emod_nonneg (n / 4) (show (ks.length : Int) ≠ 0 by omega)
  have q1 := Int.emod_lt_of_pos (n / 4) lp
  have r0 := Int.emod_nonneg (n / 20) (show (ks.length : Int) ≠ 0 by omega)
  have r1 := Int.emod_lt_of_pos (n / 20) lp
  obtain ⟨a, ea⟩ : ∃ a : Nat, n / 4 % (ks.length : Int) = a := ⟨(n / 4 % (ks.length : Int)).toNat, by omega⟩
  obtain ⟨b, eb⟩ : ∃ a : Nat, n / 20 % (ks.length : Int) = a := ⟨(n / 20 % (ks.length : Int)).toNat, by omega⟩
  have ha : a < ks.length := by omega
  have hb : b < ks.length := by omega
  have ka := kind_at ha
  have kb := kind_at hb
  have ne := nAt_eq h hb ha
  have d4 : dDiv (.int n) (.int 4) = _ := div_ii (by decide)
  have d20 : dDiv (.int n) (.int 20) = _ := div_ii (by decide)
  have d100 : dDiv (.int n) (.int 100) = _ := div_ii (by decide)
  have m4 : dMod (.int n) (.int 4) = _ := mod_ii (by decide)
  have ml := fun i : Int => mod_ii (i := i) lp
  have m2 := fun i : Int => mod_ii (i := i) (j := 2) (by decide)
  have m3 := fun i : Int => mod_ii (i := i) (j := 3) (by decide)
  have m8 := fun i : Int => mod_ii (i := i) (j := 8) (by decide)
  have m100 := fun i : Int => mod_ii (i := i) (j := 100) (by decide)
  have b0 := Int.emod_nonneg (n / 100 / 100) (show (2 : Int) ≠ 0 by decide)
  have b1 := Int.emod_lt_of_pos (n / 100 / 100) (show (0 : Int) < 2 by decide)
  have dd := div_ii (i := n / 100) (j := 100) (by decide)
  have m0 : 0 ≤ n / 100 := by omega
  have c4 : n % 4 = 0 ∨ n % 4 = 1 ∨ n % 4 = 2 ∨ n % 4 = 3 := by omega
  -- the set
  obtain ⟨v, hv, ev⟩ := pick2 2 9 (z := n / 100 / 9 % 2) (Int.emod_nonneg _ (by decide)) (Int.emod_lt_of_pos _ (by decide))
  have v0 : 0 < v := by omega
  have w0 := Int.emod_nonneg (n / 100) (show v ≠ 0 by omega)
  have w1 := Int.emod_lt_of_pos (n / 100) v0
  obtain ⟨⟨ws, m⟩, z1, z2, z3, z4, z5⟩ := set_loop h ha (d1 := .int n) (d3 := nmD ks b) (d5 := .non) (n / 100) (1 + n / 100 % v) m0 ⟨by omega, by omega⟩
  simp only at z2 z3 z4 z5
  obtain ⟨u, hu, eu⟩ := pick2 300 100001 (z := n / 11 % 2) (Int.emod_nonneg _ (by decide)) (Int.emod_lt_of_pos _ (by decide))
  have u0 : 0 < u := by omega
  have c0 := Int.emod_nonneg (n / 700) (show u ≠ 0 by omega)
  have c1 := Int.emod_lt_of_pos (n / 700) u0
  have d9 : dDiv (.int (n / 100)) (.int 9) = _ := div_ii (by decide)
  have d11 : dDiv (.int n) (.int 11) = _ := div_ii (by decide)
  have d700 : dDiv (.int n) (.int 700) = _ := div_ii (by decide)
  have mv := mod_ii (i := n / 100) v0
  have mu := mod_ii (i := n / 700) u0
  have wl : (ws.map (wD ks)).length ≤ LINE := le_line (by simp; omega)
  have setc : ((n % 4 == 1) = false ∨ b = a) → (n % 4 == 2) = false → (n % 4 == 3) = false → ∃ o, OfOk ks.length o ∧ f__law_offer [.lst (ks.map kD), .int n] = .ok (ofD ks o) := fun t1 t2 t3 => by
    have t1' : ((n % 4 == 1) && !decide (b = a)) = false := by
      rcases t1 with q | q <;> simp [q]
    cases rv : (n / 11 % 3 == 1) with
    | true =>
      refine ⟨.set ws.reverse (n / 700 % u), ⟨by simpa using z2, by simpa using z3, fun w q => z4 w (by simpa using q), ?_, c0, by omega⟩, ?_⟩
      · rw [List.map_reverse]
        exact (List.reverse_perm _).nodup_iff.mpr z5
      · unfold f__law_offer u__law_offer start
        simp only [ofD, List.map_cons, List.map_nil] at z1 ⊢
        simp [ml, d4, d20, d100, m4, ea, eb, ka, kb, ne, t1', t2, t3, m2, m3, d9, ev, mv, z1, d11, d700, rv, eu, mu]
    | false =>
      refine ⟨.set ws (n / 700 % u), ⟨z2, z3, z4, z5, c0, by omega⟩, ?_⟩
      unfold f__law_offer u__law_offer start
      simp only [ofD, List.map_cons, List.map_nil] at z1 ⊢
      simp [ml, d4, d20, d100, m4, ea, eb, ka, kb, ne, t1', t2, t3, m2, m3, d9, ev, mv, z1, d11, d700, rv, eu, mu]
  rcases c4 with c4 | c4 | c4 | c4
  · exact setc (.inl (by simp [c4])) (by simp [c4]) (by simp [c4])
  · by_cases hba : b = a
    · exact setc (.inr hba) (by simp [c4]) (by simp [c4])
    · obtain ⟨v, hv, ev⟩ := pick2 100 100000 b0 b1
      have v0 : 0 < v := by omega
      have w0 := Int.emod_nonneg (n / 100) (show v ≠ 0 by omega)
      have w1 := Int.emod_lt_of_pos (n / 100) v0
      refine ⟨.slip b a (1 + n / 100 % v), ⟨hb, ha, hba, by omega, by omega⟩, ?_⟩
      have mv := mod_ii (i := n / 100) v0
      unfold f__law_offer u__law_offer start
      simp [ml, d4, d20, d100, m4, ea, eb, ka, kb, ne, hba, c4, m2, dd, ev, mv, ofD]
  · refine ⟨.share a (1 + n / 100 % 100), ⟨ha, by omega, by omega⟩, ?_⟩
    unfold f__law_offer u__law_offer start
    simp [ml, d4, d20, d100, m4, ea, eb, ka, kb, ne, c4, m100, ofD]
  · have e0 := Int.emod_nonneg (n / 100) (show (8 : Int) ≠ 0 by decide)
    have e1 := Int.emod_lt_of_pos (n / 100) (show (0 : Int) < 8 by decide)
    have p0 : (0 : Int) < 2 + n / 100 % 8 - 1 := by omega
    have f0 := Int.emod_nonneg (n / 100 / 8) (show 2 + n / 100 % 8 - 1 ≠ 0 by omega)
    have f1 := Int.emod_lt_of_pos (n / 100 / 8) p0
    have d8 : dDiv (.int (n / 100)) (.int 8) = _ := div_ii (by decide)
    refine ⟨.more a (2 + n / 100 % 8) (1 + n / 100 / 8 % (2 + n / 100 % 8 - 1)), ⟨ha, by omega, by omega, by omega, by omega⟩, ?_⟩
    unfold f__law_offer u__law_offer start
    simp [ml, d4, d20, d100, m4, ea, eb, ka, kb, ne, c4, m8, d8, mod_ii p0, ofD]
theorem law_offers_ok {ks : Ks} (h : Kinds ks) (ns : List Int) (hl : ns.length ≤ 63) (s : Nat) : ∃ os : List Of, (∀ o ∈ os, OfOk ks.length o) ∧ os.length ≤ 12 ∧ f__law_offers [.scr ns, .lst (ks.map kD), .int s] = .ok (.lst (os.map (ofD ks))) := by
  have c2 : f__law_cell_at [.scr ns, .int 2] = _ := cell_at_ok ns 2
  have m7 := fun i : Int => mod_ii (i := i) (j := 7) (by decide)
  have m8 := fun i : Int => mod_ii (i := i) (j := 8) (by decide)
  have d7 := fun i : Int => div_ii (i := i) (j := 7) (by decide)
  generalize cellAt ns 2 = c at *
  have ex : ∀ k : Nat, ∃ o, OfOk ks.length o ∧ f__law_offer [.lst (ks.map kD), .int (numAt ns (s + k))] = .ok (ofD ks o) := fun k => law_offer_ok h (numAt_nonneg ns _)
  have nk : ∀ k : Nat, f__law_number [.scr ns, .int ((s : Int) + (k : Int))] = .ok (.int (numAt ns (s + k))) := fun k => by
    have := number_ok ns (s + k) hl
    simpa using this
  obtain ⟨of, hof⟩ := Classical.axiomOfChoice ex
  have cm : ∀ (N : Nat) (d : D), compF (G.one 4) yes (E.app f__law_offer (E.cons (E.var 1) (E.cons (E.app f__law_number (E.cons (E.var 0) (E.cons (E.bin dAdd (E.var 2) (E.var 4)) E.nil))) E.nil))) [.sh (.scr ns), .sh (.lst (ks.map kD)), .sh (.int s), .sh d, .no] ((List.range N).map fun (k : Nat) => D.int k) = .ok ((List.range N).map fun k => ofD ks (of k)) := fun N d => by
    refine compF_all _ _ _ fun k _ => ⟨_, rfl, ?_⟩
    simp [nk, (hof k).2]
  have fin : ∀ (N : Nat), N ≤ 12 → (∀ o ∈ (List.range N).map of, OfOk ks.length o) ∧ ((List.range N).map of).length ≤ 12 := fun N hN => ⟨fun o ho => by
    obtain ⟨k, _, rfl⟩ := List.mem_map.mp ho
    exact (hof k).1, by simpa using hN⟩
  cases h1 : (c / 7 % 8 == 1) with
  | true =>
    obtain ⟨N, hN⟩ : ∃ N : Nat, c % 7 + 6 = N := ⟨(c % 7 + 6).toNat, by omega⟩
    have r1 := range1_nat (n := N) (by omega)
    have cm := cm N (.int N)
    refine ⟨(List.range N).map of, (fin N (by omega)).1, (fin N (by omega)).2, ?_⟩
    unfold f__law_offers u__law_offers start
    simp [c2, m7, m8, d7, h1, hN, r1, cm, le_line (show N < 100000 by omega), Function.comp_def]
  | false =>
    obtain ⟨N, hN⟩ : ∃ N : Nat, c % 7 = N := ⟨(c % 7).toNat, by omega⟩
    have r1 := range1_nat (n := N) (by omega)
    have cm := cm N (.int N)
    refine ⟨(List.range N).map of, (fin N (by omega)).1, (fin N (by omega)).2, ?_⟩
    unfold f__law_offers u__law_offers start
    simp [c2, m7, m8, d7, h1, hN, r1, cm, le_line (show N < 100000 by omega), Function.comp_def]
end TB
namespace TB
open PySem PySem.Spec PyProof.Rows L2
/-! ### deals -/
@[simp] theorem tg_more_set : (("more" : Str) == ("set" : Str)) = false := by decide +kernel
@[simp] theorem tg_more_share : (("more" : Str) == ("share" : Str)) = false := by decide +kernel
@[simp] theorem tg_more_slip : (("more" : Str) == ("slip" : Str)) = false := by decide +kernel
@[simp] theorem tg_set_more : (("set" : Str) == ("more" : Str)) = false := by decide +kernel
@[simp] theorem tg_set_share : (("set" : Str) == ("share" : Str)) = false := by decide +kernel
@[simp] theorem tg_set_slip : (("set" : Str) == ("slip" : Str)) = false := by decide +kernel
@[simp] theorem tg_share_more : (("share" : Str) == ("more" : Str)) = false := by decide +kernel
@[simp] theorem tg_share_set : (("share" : Str) == ("set" : Str)) = false := by decide +kernel
@[simp] theorem tg_share_slip : (("share" : Str) == ("slip" : Str)) = false := by decide +kernel
@[simp] theorem tg_slip_more : (("slip" : Str) == ("more" : Str)) = false := by decide +kernel
@[simp] theorem tg_slip_set : (("slip" : Str) == ("set" : Str)) = false := by decide +kernel
@[simp] theorem tg_slip_share : (("slip" : Str) == ("share" : Str)) = false := by decide +kernel
@[simp] theorem inT_more : dInTab true PARTS (.str "more") = .ok (.bl false) := by
  show R.ok (D.bl (true ^^ (List.lookup ("more" : Str) PARTS).isSome)) = _
  rw [show List.lookup ("more" : Str) PARTS = some 4 by decide +kernel]
  rfl
@[simp] theorem tab_more : dTab PARTS (.str "more") = .ok (.int 4) := by
  show (match List.lookup ("more" : Str) PARTS with
    | some i => R.ok (D.int i)
    | none => .bad) = _
  rw [show List.lookup ("more" : Str) PARTS = some 4 by decide +kernel]
@[simp] theorem inT_set : dInTab true PARTS (.str "set") = .ok (.bl false) := by
  show R.ok (D.bl (true ^^ (List.lookup ("set" : Str) PARTS).isSome)) = _
  rw [show List.lookup ("set" : Str) PARTS = some 3 by decide +kernel]
  rfl
@[simp] theorem tab_set : dTab PARTS (.str "set") = .ok (.int 3) := by
  show (match List.lookup ("set" : Str) PARTS with
    | some i => R.ok (D.int i)
    | none => .bad) = _
  rw [show List.lookup ("set" : Str) PARTS = some 3 by decide +kernel]
@[simp] theorem inT_share : dInTab true PARTS (.str "share") = .ok (.bl false) := by
  show R.ok (D.bl (true ^^ (List.lookup ("share" : Str) PARTS).isSome)) = _
  rw [show List.lookup ("share" : Str) PARTS = some 3 by decide +kernel]
  rfl
@[simp] theorem tab_share : dTab PARTS (.str "share") = .ok (.int 3) := by
  show (match List.lookup ("share" : Str) PARTS with
    | some i => R.ok (D.int i)
    | none => .bad) = _
  rw [show List.lookup ("share" : Str) PARTS = some 3 by decide +kernel]
@[simp] theorem inT_slip : dInTab true PARTS (.str "slip") = .ok (.bl false) := by
  show R.ok (D.bl (true ^^ (List.lookup ("slip" : Str) PARTS).isSome)) = _
  rw [show List.lookup ("slip" : Str) PARTS = some 4 by decide +kernel]
  rfl
@[simp] theorem tab_slip : dTab PARTS (.str "slip") = .ok (.int 4) := by
  show (match List.lookup ("slip" : Str) PARTS with
    | some i => R.ok (D.int i)
    | none => .bad) = _
  rw [show List.lookup ("slip" : Str) PARTS = some 4 by decide +kernel]
abbrev Deal := List Int × Int
abbrev dD (d : Deal) : D := .tup [.tup (iL d.1), .int d.2]
def wantL (n : Nat) (ws : List (Nat × Int)) : List Int := ws.foldl (fun l w => l.set w.1 (l[w.1]?.getD 0 + w.2)) (List.replicate n 0)
def dealOf (ks : Ks) : Of → Deal
  | .more i m c => (wantL ks.length [(i, m)], c * prAt ks i)
  | .set ws c => (wantL ks.length ws, c)
  | .share i p => (wantL ks.length [(i, 1)], prAt ks i - prAt ks i * p / 100)
  | .slip i j d => (wantL ks.length [(i, 1), (j, 1)], max 0 (prAt ks j - d))
abbrev iwD (w : Nat × Int) : D := .tup [.int w.1, .int w.2]
theorem wanted_ok {ks : Ks} (h : Kinds ks) {ws : List (Nat × Int)} (hw : ∀ w ∈ ws, w.1 < ks.length) : f_wanted [shopD ks, .lst (ws.map iwD)] = .ok (.tup (iL (wantL ks.length ws))) := by
  have km := h.most
  have c0 : compF (G.one 5) yes (E.c (.int 0)) [.sh (shopD ks), .sh (.lst (ws.map iwD)), .no, .no, .no, .no] (ks.map nD) = .ok (ks.map fun _ => .int 0) := compF_all _ _ _ fun k _ => ⟨_, rfl, rfl⟩
  have e0 : (ks.map fun _ => D.int 0) = iL (List.replicate ks.length 0) := by
    rw [iL, List.map_replicate]
    exact List.eq_replicate_iff.mpr ⟨by simp, fun b hb => by simp at hb; exact hb.2.symm⟩
  have z := (forF_fold (g := G.tup 2 (G.cons (G.one 3) (G.cons (G.one 4) G.nil))) (ws := [3, 4]) (body := S.put 2 (E.var 3) (E.bin dAdd (E.bin dIx (E.var 2) (E.var 3)) (E.var 4))) iwD
    (fun l : List Int => [.sh (shopD ks), .sh (.lst (ws.map iwD)), .own (iL l), .no, .no, .no]) (fun l w => l.set w.1 (l[w.1]?.getD 0 + w.2)) (fun l => l.length = ks.length) ws (List.replicate ks.length 0) (by simp) ?_).1
  · unfold f_wanted u_wanted start
    rw [e0] at c0
    simp only [iL, List.map_replicate] at z c0
    simp [c0, le_line (show ks.length < 100000 by omega), z, wantL]
  · intro l w hx hl
    refine ⟨?_, by simpa using hl⟩
    have hi : w.1 < l.length := by rw [hl]; exact hw w hx
    have ix : dIx (.lst (iL l)) (.int w.1) = .ok (.int (l[w.1]?.getD 0)) := by
      refine ix_ln ?_
      rw [List.getElem?_map, List.getElem?_eq_getElem hi]
      rfl
    rw [turn2]
    have e := put_ok (i := 2) (h := E.var 3) (f := E.bin dAdd (E.bin dIx (E.var 2) (E.var 3)) (E.var 4)) (ρ := [.sh (shopD ks), .sh (.lst (ws.map iwD)), .own (iL l), .sh (.int w.1), .sh (.int w.2), .no]) (ds := iL l) (d := .int (l[w.1]?.getD 0 + w.2)) (n := w.1) (z := w.1) rfl (by simp [ix]) rfl rfl (ixN_nat (by simpa using hi))
    show wipe_ [3, 4] (S.put 2 (E.var 3) (E.bin dAdd (E.bin dIx (E.var 2) (E.var 3)) (E.var 4)) [.sh (shopD ks), .sh (.lst (ws.map iwD)), .own (iL l), .sh (.int w.1), .sh (.int w.2), .no]) = _
    rw [e]
    simp [iL, List.map_set]
@[simp] theorem need_t : f_need [.bl true] = .ok .non := by
  unfold f_need u_need start
  simp
theorem need_form_ok (ks : Ks) (o : Of) : f_need_form [ofD ks o] = .ok .non := by
  unfold f_need_form u_need_form start
  cases o <;> simp [ofD, subT]
theorem is_wants_ok (ks : Ks) (ws : List (Nat × Int)) : f_is_wants [.tup (ws.map (wD ks))] = .ok (.bl true) := by
  have key : S.forF (G.one 1) [1] (S.ifs (E.bor (E.bnot (E.tst (E.un (dIsi "tuple") (E.var 1)))) (E.tst (E.bin dNe (E.app dLen (E.cons (E.var 1) E.nil)) (E.c (.int 2))))) (S.ret (E.c (.bl false))) S.skip) (ws.map (wD ks)) [.sh (.tup (ws.map (wD ks))), .no] = .nx [.sh (.tup (ws.map (wD ks))), .no] := by
    refine forF_all (wD ks) _ ws fun w _ => ?_
    rw [turn1]
    simp [subT]
  unfold f_is_wants u_is_wants start
  simp [subT, key]
/-- the places that an offer names -/
def placesOf : Of → List Nat
  | .more i _ _ => [i]
  | .set ws _ => ws.map (·.1)
  | .share i _ => [i]
  | .slip i j _ => [i, j]
theorem names_in_ok (ks : Ks) (o : Of) (h : OfOk ks.length o) : f_names_in [ofD ks o] = .ok (.lst ((placesOf o).map (nmD ks))) := by
  cases o with
  | set ws c =>
    have w := is_wants_ok ks ws
    have c0 : ∀ d : D, compF (G.one 1) yes (E.bin dIx (E.var 1) (E.c (.int 0))) [.sh d, .no] (ws.map (wD ks)) = .ok (ws.map fun w => nmD ks w.1) := fun d => compF_all _ _ _ fun k _ => ⟨_, rfl, by simp⟩
    have wl : ws.length ≤ LINE := le_line (by have := h.2.1; omega)
    unfold f_names_in u_names_in start
    simp [ofD, w, c0, wl, placesOf, Function.comp_def]
  | _ =>
    unfold f_names_in u_names_in start
    simp [ofD, placesOf]
theorem count_nm {ks : Ks} (h : Kinds ks) {L : List Nat} (hL : ∀ i ∈ L, i < ks.length) (nd : L.Nodup) {i : Nat} (hi : i < ks.length) : (L.map (nmD ks)).countP (fun z => eqF z (nmD ks i)) ≤ 1 := by
  rw [List.countP_map]
  have e : L.countP ((fun z => eqF z (nmD ks i)) ∘ nmD ks) = L.countP fun j => j == i := by
    refine List.countP_congr fun j hj => ?_
    have := nAt_eq h (hL j hj) hi
    simp only [Function.comp_def, eqF, this]
    simp
  rw [e]
  exact List.nodup_iff_count.mp nd i
end TB
namespace TB
open PySem PySem.Spec PyProof.Rows L2
theorem need_parts_ok {ks : Ks} (h : Kinds ks) (o : Of) (ho : OfOk ks.length o) : f_need_parts [ofD ks o] = .ok .non := by
  cases o with
  | more i m c =>
    obtain ⟨_, h1, h2, h3, h4⟩ := ho
    unfold f_need_parts u_need_parts start
    simp [ofD, h1, h2, h3, h4, show c ≤ 9 by omega]
  | share i p =>
    obtain ⟨_, h1, h2⟩ := ho
    unfold f_need_parts u_need_parts start
    simp [ofD, h1, h2]
  | slip i j d =>
    obtain ⟨hi, hj, h0, h1, h2⟩ := ho
    have ne := nAt_eq h hi hj
    simp only [h0, decide_false] at ne
    unfold f_need_parts u_need_parts start
    simp [ofD, h1, h2, ne]
  | set ws c =>
    have nin := names_in_ok ks (.set ws c) ho
    obtain ⟨h1, h2, h3, h4, h5, h6⟩ := ho
    have w := is_wants_ok ks ws
    have key : ∀ d : D, S.forF (G.one 1) [1] (S.drop (E.app f_need (E.cons (E.app f_is_number (E.cons (E.bin dIx (E.var 1) (E.c (.int 1))) (E.cons (E.c (.int 1)) (E.cons (E.c (.int 9)) E.nil)))) E.nil))) (ws.map (wD ks)) [.sh d, .no, .no, .no] = .nx [.sh d, .no, .no, .no] := fun d => by
      refine forF_all (wD ks) _ ws fun w hw => ?_
      obtain ⟨_, q1, q2⟩ := h3 w hw
      rw [turn1]
      simp [q1, q2]
    have cnt : ∀ d : D, compF (G.one 3) (E.tst (E.bin dGt (E.mth dCount (E.var 2) (E.var 3)) (E.c (.int 1)))) (E.var 3) [.sh d, .no, .sh (.lst ((ws.map (·.1)).map (nmD ks))), .no] ((ws.map (·.1)).map (nmD ks)) = .ok [] := fun d => by
      have z := compF_map (g := G.one 3) (tt := E.tst (E.bin dGt (E.mth dCount (E.var 2) (E.var 3)) (E.c (.int 1)))) (te := E.var 3) (ρ := [.sh d, .no, .sh (.lst ((ws.map (·.1)).map (nmD ks))), .no]) (nmD ks) (fun _ => false) (nmD ks) (ws.map (·.1)) fun i hi => ⟨_, rfl, ?_, fun q => by cases q⟩
      · rw [z]
        simp
      · have hL : ∀ i ∈ ws.map (·.1), i < ks.length := fun i hi => by
          obtain ⟨w, hw, rfl⟩ := List.mem_map.mp hi
          exact (h3 w hw).1
        have c := count_nm h hL h4 (hL i hi)
        have f1 : ((ws.map (·.1)).map (nmD ks)).all flat = true := by simp [flat]
        have e : dCount (.lst ((ws.map (·.1)).map (nmD ks))) (nmD ks i) = .ok (.int (((ws.map (·.1)).map (nmD ks)).countP (fun z => eqF z (nmD ks i)) : Nat)) := by
          show (if flat (nmD ks i) && ((ws.map (·.1)).map (nmD ks)).all flat then R.ok (D.int (((ws.map (·.1)).map (nmD ks)).countP (fun z => eqF z (nmD ks i)) : Nat)) else .bad) = _
          rw [f1]
          rfl
        generalize ((ws.map (·.1)).map (nmD ks)).countP (fun z => eqF z (nmD ks i)) = k at *
        generalize (ws.map (·.1)).map (nmD ks) = L at *
        simp [e]
        omega
    unfold f_need_parts u_need_parts start
    simp only [ofD, placesOf] at nin ⊢
    have wl : (ws.map (·.1)).length ≤ LINE := le_line (by simp; omega)
    have w1 : (decide ((1 : Int) ≤ (ws.length : Int))) = true := by simp; omega
    have w5 : (decide ((ws.length : Int) ≤ (5 : Int))) = true := by simp; omega
    simp only [List.map_map] at *
    simp at wl
    simp [w, h5, h6, w1, w5, key, nin, cnt, wl]
theorem deal_of_ok {ks : Ks} (h : Kinds ks) (o : Of) (ho : OfOk ks.length o) : f_deal_of [shopD ks, ofD ks o] = .ok (dD (dealOf ks o)) := by
  have nf := need_form_ok ks o
  have np := need_parts_ok h o ho
  have nin := names_in_ok ks o ho
  have pl : ∀ i, i < ks.length → f_place [shopD ks, nmD ks i] = .ok (.int i) := fun i hi => place_ok h (ks_at hi)
  have pr : ∀ i, i < ks.length → dIx (.lst (ks.map pD)) (.int i) = .ok (.int (prAt ks i)) := fun i hi => by
    refine ix_ln ?_
    rw [List.getElem?_map, ks_at hi]
    rfl
  have lP : ∀ i ∈ placesOf o, i < ks.length := fun i hi => by
    cases o with
    | more j _ _ => rw [List.mem_singleton.mp hi]; exact ho.1
    | share j _ => rw [List.mem_singleton.mp hi]; exact ho.1
    | slip i' j _ =>
      rcases List.mem_cons.mp hi with rfl | hi
      · exact ho.1
      · rw [List.mem_singleton.mp hi]; exact ho.2.1
    | set ws c =>
      obtain ⟨w, hw, rfl⟩ := List.mem_map.mp hi
      exact (ho.2.2.1 w hw).1
  have cp : ∀ d, compF (G.one 5) yes (E.meth f_place (E.var 0) (E.var 5)) [.sh (shopD ks), .sh d, .no, .no, .no, .no, .no, .no] ((placesOf o).map (nmD ks)) = .ok ((placesOf o).map fun (i : Nat) => D.int (i : Int)) := fun d => compF_all _ _ _ fun i hi => ⟨_, rfl, by simp [pl i (lP i hi)]⟩
  have cpX := fun d => compX_ok (cp d)
  have ll : (placesOf o).length ≤ LINE := le_line (by
    cases o with
    | set ws c =>
      have := ho.2.1
      show (ws.map _).length < _
      simp
      omega
    | _ => simp [placesOf])
  have l1 : 1 ≤ LINE := le_line (by omega)
  have l2 : 2 ≤ LINE := le_line (by omega)
  cases o with
  | more i m c =>
    obtain ⟨hi, h1, h2, h3, h4⟩ := ho
    have w := wanted_ok h (ws := [(i, m)]) (by simpa using hi)
    simp only [ofD, placesOf, List.map_cons, List.map_nil] at *
    unfold f_deal_of u_deal_of start
    simp [l1, l2, nf, np, nin, cp, cpX, w, pr i hi, mul_ii (i := c) (j := prAt ks i) (.inl ⟨by omega, by omega⟩), dealOf]
  | share i p =>
    obtain ⟨hi, h1, h2⟩ := ho
    have w := wanted_ok h (ws := [(i, 1)]) (by simpa using hi)
    simp only [ofD, placesOf, List.map_cons, List.map_nil] at *
    unfold f_deal_of u_deal_of start
    simp [l1, l2, nf, np, nin, cp, cpX, w, pr i hi, mul_ii (i := prAt ks i) (j := p) (.inr ⟨by omega, by omega⟩), div_ii (j := 100) (by decide), dealOf]
  | slip i j d =>
    obtain ⟨hi, hj, h0, h1, h2⟩ := ho
    have w := wanted_ok h (ws := [(i, 1), (j, 1)]) (by simpa using ⟨hi, hj⟩)
    have mx : dMax2 [.int 0, .int (prAt ks j - d)] = .ok (.int (max 0 (prAt ks j - d))) := by
      show R.ok (D.int (if prAt ks j - d > 0 then prAt ks j - d else 0)) = _
      congr 2
      split <;> omega
    simp only [ofD, placesOf, List.map_cons, List.map_nil] at *
    unfold f_deal_of u_deal_of start
    simp [l1, l2, nf, np, nin, cp, cpX, w, pr j hj, mx, dealOf]
  | set ws c =>
    obtain ⟨h1, h2, h3, h4, h5, h6⟩ := ho
    have w := wanted_ok h (ws := ws) fun w hw => (h3 w hw).1
    have c2 : ∀ (d e : D), compF (G.tup 2 (G.cons (G.one 6) (G.cons (G.one 7) G.nil))) yes (E.tup (E.cons (E.var 6) (E.cons (E.bin dIx (E.var 7) (E.c (.int 1))) E.nil))) [.sh (shopD ks), .sh d, .sh e, .no, .no, .no, .no, .no] (pairs (ws.map fun w => D.int w.1) (ws.map (wD ks))) = .ok (ws.map iwD) := fun d e => by
      rw [show pairs (ws.map fun w => D.int w.1) (ws.map (wD ks)) = ws.map fun w => .tup [.int w.1, wD ks w] by
        unfold pairs
        rw [List.zipWith_map, List.zipWith_self]]
      exact compF_all _ _ _ fun w hw => ⟨[(6, .int w.1), (7, wD ks w)], rfl, by simp⟩
    have c2X := fun d e => compX_ok (c2 d e)
    have pll : (pairs (ws.map fun w => D.int w.1) (ws.map (wD ks))).length ≤ LINE := le_line (by
      unfold pairs
      simp
      omega)
    simp only [ofD, placesOf, List.map_map, Function.comp_def] at *
    simp at ll
    unfold f_deal_of u_deal_of start
    simp [l1, l2, nf, np, nin, cp, cpX, ll, w, c2, c2X, pll, dealOf]
end TB
namespace TB
open PySem PySem.Spec PyProof.Rows L2
/-! ### all deals -/
def setL (n : Nat) (ws : List (Nat × Int)) : List Int := ws.foldl (fun l w => l.set w.1 w.2) (List.replicate n 0)
theorem want_fold : ∀ (ws : List (Nat × Int)) (l : List Int), (ws.map (·.1)).Nodup → (∀ w ∈ ws, l[w.1]?.getD 0 = 0) → ws.foldl (fun l w => l.set w.1 (l[w.1]?.getD 0 + w.2)) l = ws.foldl (fun l w => l.set w.1 w.2) l
  | [], _, _, _ => rfl
  | w :: ws, l, nd, z => by
    rw [List.map_cons, List.nodup_cons] at nd
    rw [List.foldl_cons, List.foldl_cons, z w List.mem_cons_self, Int.zero_add]
    refine want_fold ws _ nd.2 fun u hu => ?_
    have ne : w.1 ≠ u.1 := fun e => nd.1 (by rw [e]; exact List.mem_map.mpr ⟨u, hu, rfl⟩)
    rw [List.getElem?_set_ne ne]
    exact z u (List.mem_cons_of_mem _ hu)
theorem want_set {n : Nat} {ws : List (Nat × Int)} (nd : (ws.map (·.1)).Nodup) : wantL n ws = setL n ws := by
  refine want_fold ws _ nd fun w _ => ?_
  rw [List.getElem?_replicate]
  split <;> rfl
theorem set_facts : ∀ (ws : List (Nat × Int)) (l : List Int), (∀ w ∈ ws, w.1 < l.length ∧ 1 ≤ w.2 ∧ w.2 ≤ 9) → (∀ x ∈ l, 0 ≤ x ∧ x ≤ 9) → (ws ≠ [] ∨ ∃ x ∈ l, 1 ≤ x) →
    (ws.foldl (fun l w => l.set w.1 w.2) l).length = l.length ∧ (∀ x ∈ ws.foldl (fun l w => l.set w.1 w.2) l, 0 ≤ x ∧ x ≤ 9) ∧ ∃ x ∈ ws.foldl (fun l w => l.set w.1 w.2) l, 1 ≤ x
  | [], l, _, h, o => ⟨rfl, h, o.resolve_left fun q => q rfl⟩
  | w :: ws, l, hw, h, _ => by
    obtain ⟨h1, h2, h3⟩ := hw w List.mem_cons_self
    have z := set_facts ws (l.set w.1 w.2) (fun u hu => by rw [List.length_set]; exact hw u (List.mem_cons_of_mem _ hu)) (fun x hx => by
      rcases List.mem_or_eq_of_mem_set hx with q | q
      · exact h x q
      · rw [q]; omega) (.inr ⟨w.2, List.mem_set h1 _, h2⟩)
    rw [List.length_set] at z
    exact z
structure Good (n : Nat) (d : Deal) : Prop where
  len : d.1.length = n
  rng : ∀ x ∈ d.1, 0 ≤ x ∧ x ≤ 9
  one : ∃ x ∈ d.1, 1 ≤ x
  low : 0 ≤ d.2
  top : d.2 ≤ 1000000
theorem good_of {n : Nat} {ws : List (Nat × Int)} {c : Int} (h1 : ws ≠ []) (h2 : ∀ w ∈ ws, w.1 < n ∧ 1 ≤ w.2 ∧ w.2 ≤ 9) (nd : (ws.map (·.1)).Nodup) (c0 : 0 ≤ c) (c1 : c ≤ 1000000) : Good n (wantL n ws, c) := by
  have z := set_facts ws (List.replicate n 0) (fun w hw => by rw [List.length_replicate]; exact h2 w hw) (fun x hx => by rw [(List.mem_replicate.mp hx).2]; omega) (.inl h1)
  rw [List.length_replicate] at z
  have e := want_set (n := n) nd
  refine ⟨?_, ?_, ?_, c0, c1⟩
  · show (wantL n ws).length = n
    rw [e]; exact z.1
  · show ∀ x ∈ wantL n ws, _
    rw [e]; exact z.2.1
  · show ∃ x ∈ wantL n ws, _
    rw [e]; exact z.2.2
theorem prAt_rng {ks : Ks} (h : Kinds ks) {i : Nat} (hi : i < ks.length) : 0 ≤ prAt ks i ∧ prAt ks i ≤ 100000 := h.pr _ (List.mem_of_getElem? (ks_at hi))
theorem deal_good {ks : Ks} (h : Kinds ks) {o : Of} (ho : OfOk ks.length o) : Good ks.length (dealOf ks o) := by
  cases o with
  | more i m c =>
    obtain ⟨hi, h1, h2, h3, h4⟩ := ho
    have p := prAt_rng h hi
    refine good_of (by simp) (by simpa using ⟨hi, by omega, h2⟩) (by simp) (Int.mul_nonneg (by omega) p.1) ?_
    have : c * prAt ks i ≤ 9 * 100000 := Int.mul_le_mul (by omega) p.2 p.1 (by decide)
    omega
  | share i q =>
    obtain ⟨hi, h1, h2⟩ := ho
    have p := prAt_rng h hi
    have a : prAt ks i * q ≤ prAt ks i * 100 := Int.mul_le_mul_of_nonneg_left h2 p.1
    have b : 0 ≤ prAt ks i * q := Int.mul_nonneg p.1 (by omega)
    exact good_of (by simp) (by simpa using hi) (by simp) (by omega) (by omega)
  | slip i j d =>
    obtain ⟨hi, hj, h0, h1, h2⟩ := ho
    have p := prAt_rng h hj
    exact good_of (by simp) (by simpa using ⟨hi, hj⟩) (by simpa using h0) (by omega) (by omega)
  | set ws c =>
    obtain ⟨h1, h2, h3, h4, h5, h6⟩ := ho
    exact good_of (fun e => by rw [e] at h1; cases h1) h3 h4 h5 (by omega)
def plainOf (ks : Ks) (k : Nat) : Deal := (wantL ks.length [(k, 1)], prAt ks k)
def dealsOf (ks : Ks) (os : List Of) : List Deal := (List.range ks.length).map (plainOf ks) ++ os.map (dealOf ks)
theorem plain_good {ks : Ks} (h : Kinds ks) {k : Nat} (hk : k < ks.length) : Good ks.length (plainOf ks k) := by
  have p := prAt_rng h hk
  exact good_of (by simp) (by simpa using hk) (by simp) p.1 (by omega)
theorem deals_good {ks : Ks} (h : Kinds ks) {os : List Of} (ho : ∀ o ∈ os, OfOk ks.length o) : ∀ d ∈ dealsOf ks os, Good ks.length d := fun d hd => by
  rcases List.mem_append.mp hd with q | q
  · obtain ⟨k, hk, rfl⟩ := List.mem_map.mp q
    exact plain_good h (List.mem_range.mp hk)
  · obtain ⟨o, hq, rfl⟩ := List.mem_map.mp q
    exact deal_good h (ho o hq)
theorem fold_push {α β : Type} (f : α → β) : ∀ (xs : List α) (l : List β), xs.foldl (fun l x => l ++ [f x]) l = l ++ xs.map f
  | [], l => by simp
  | x :: xs, l => by rw [List.foldl_cons, fold_push f xs]; simp
theorem deals_ok {ks : Ks} (h : Kinds ks) {os : List Of} (ho : ∀ o ∈ os, OfOk ks.length o) (hl : os.length ≤ 20) : fl_deals [shopD ks, .lst (os.map (ofD ks))] = .ok ((dealsOf ks os).map dD) := by
  have km := h.most
  have pr : ∀ i, i < ks.length → dIx (.lst (ks.map pD)) (.int i) = .ok (.int (prAt ks i)) := fun i hi => by
    refine ix_ln ?_
    rw [List.getElem?_map, ks_at hi]
    rfl
  have z1 := (forF_foldN (g := G.one 3) (ws := [3]) (body := S.push false 2 (E.tup (E.cons (E.app f_wanted (E.cons (E.var 0) (E.cons (E.ofL (E.lst (E.cons (E.tup (E.cons (E.var 3) (E.cons (E.c (.int 1)) E.nil))) E.nil))) E.nil))) (E.cons (E.bin dIx (E.un dPrices (E.var 0)) (E.var 3)) E.nil)))) (fun (k : Nat) => D.int k)
    (fun l : List Deal => [.sh (shopD ks), .sh (.lst (os.map (ofD ks))), .own (l.map dD), .no, .no]) (fun l k => l ++ [plainOf ks k]) (fun i l => l.length = i) (List.range ks.length) [] rfl ?_).1
  · have z2 := (forF_foldN (g := G.one 4) (ws := [4]) (body := S.push false 2 (E.app f_deal_of (E.cons (E.var 0) (E.cons (E.var 4) E.nil)))) (ofD ks)
      (fun l : List Deal => [.sh (shopD ks), .sh (.lst (os.map (ofD ks))), .own (l.map dD), .no, .no]) (fun l o => l ++ [dealOf ks o]) (fun i l => l.length = ks.length + i) os ((List.range ks.length).map (plainOf ks)) (by simp) ?_).1
    · rw [fold_push, List.nil_append] at z1
      rw [fold_push] at z2
      have r1 := range1_nat (n := ks.length) (by omega)
      simp only [List.map_nil] at z1
      unfold fl_deals u_deals start dealsOf
      simp only [List.map_append, List.map_map] at z1 z2 ⊢
      simp [r1, z1, z2]
    · rintro i l o hx hi
      have m := List.mem_of_getElem? hx
      have hi' : i < os.length := (List.getElem?_eq_some_iff.mp hx).1
      have e := deal_of_ok h o (ho o m)
      refine ⟨?_, by simp [hi]; omega⟩
      rw [turn1]
      simp [e, lt_line (show l.length < 100000 by omega)]
  · rintro i l k hx hi
    obtain ⟨hk, rfl⟩ := range_at hx
    have w := wanted_ok h (ws := [(i, 1)]) (by simpa using hk)
    simp only [List.map_cons, List.map_nil] at w
    refine ⟨?_, by simp [hi]⟩
    rw [turn1]
    simp [w, pr i hk, lt_line (show l.length < 100000 by omega), plainOf]
end TB
namespace TB
open PySem PySem.Spec PyProof.Rows L2
/-! ### the law's own deals -/
theorem index_at {ks : Ks} (h : Kinds ks) {i : Nat} (hi : i < ks.length) : dIndex (.lst (ks.map nD)) (nmD ks i) = .ok (.int i) := by
  have e2 := firstF_nD h.nd (ks_at hi)
  have f1 : (ks.map nD).all flat = true := by simp [flat]
  show (if flat (nmD ks i) && (ks.map nD).all flat then match firstF (nmD ks i) (ks.map nD) with
    | some j => R.ok (D.int j)
    | none => .bad
    else .bad) = _
  rw [f1, e2]
  rfl
theorem law_deal_ok {ks : Ks} (h : Kinds ks) (o : Of) (ho : OfOk ks.length o) : f__law_deal [.lst (ks.map kD), ofD ks o] = .ok (dD (dealOf ks o)) := by
  have km := h.most
  have kl : ks.length ≤ LINE := le_line (by omega)
  have c0 : ∀ d : D, compF (G.one 7) yes (E.bin dIx (E.var 7) (E.c (.int 0))) [.sh (.lst (ks.map kD)), .sh d, .no, .no, .no, .no, .no, .no] (ks.map kD) = .ok (ks.map nD) := fun d => compF_all _ _ _ fun k _ => ⟨_, rfl, by simp⟩
  have c1 : ∀ d : D, compF (G.one 7) yes (E.c (.int 0)) [.sh (.lst (ks.map kD)), .sh d, .sh (.lst (ks.map nD)), .no, .no, .no, .no, .no] (ks.map kD) = .ok (iL (List.replicate ks.length 0)) := fun d => by
    have e0 : iL (List.replicate ks.length 0) = ks.map fun _ => D.int 0 := by
      rw [iL, List.map_replicate]
      exact (List.eq_replicate_iff.mpr ⟨by simp, fun b hb => by simp at hb; exact hb.2.symm⟩).symm
    rw [e0]
    exact compF_all _ _ _ fun k _ => ⟨_, rfl, rfl⟩
  have rl : (iL (List.replicate ks.length 0)).length = ks.length := by simp [iL]
  cases o with
  | more i m c =>
    obtain ⟨hi, h1, h2, h3, h4⟩ := ho
    have ix := index_at h hi
    have kx := kind_at hi
    have w : (iL (List.replicate ks.length 0)).set i (.int m) = iL (wantL ks.length [(i, m)]) := by
      rw [want_set (by simp), iL, ← List.map_set]
      rfl
    unfold f__law_deal u__law_deal start
    simp only [ofD, dealOf, dD]
    generalize iL (List.replicate ks.length 0) = L at *
    generalize iL (wantL ks.length [(i, m)]) = L2 at *
    simp [put_ap, kl, c0, c1, ix, kx, rl, hi, mul_ii (i := c) (j := prAt ks i) (.inl ⟨by omega, by omega⟩), w]
  | share i p =>
    obtain ⟨hi, h1, h2⟩ := ho
    have ix := index_at h hi
    have kx := kind_at hi
    have w : (iL (List.replicate ks.length 0)).set i (.int 1) = iL (wantL ks.length [(i, 1)]) := by
      rw [want_set (by simp), iL, ← List.map_set]
      rfl
    unfold f__law_deal u__law_deal start
    simp only [ofD, dealOf, dD]
    generalize iL (List.replicate ks.length 0) = L at *
    generalize iL (wantL ks.length [(i, 1)]) = L2 at *
    simp [put_ap, kl, c0, c1, ix, kx, rl, hi, mul_ii (i := prAt ks i) (j := p) (.inr ⟨by omega, by omega⟩), div_ii (j := 100) (by decide), w]
  | slip i j d =>
    obtain ⟨hi, hj, h0, h1, h2⟩ := ho
    have ix := index_at h hi
    have jx := index_at h hj
    have kx := kind_at hj
    have w : ((iL (List.replicate ks.length 0)).set i (.int 1)).set j (.int 1) = iL (wantL ks.length [(i, 1), (j, 1)]) := by
      rw [want_set (by simpa using h0), iL, ← List.map_set, ← List.map_set]
      rfl
    have mx : dMax2 [.int 0, .int (prAt ks j - d)] = .ok (.int (max 0 (prAt ks j - d))) := by
      show R.ok (D.int (if prAt ks j - d > 0 then prAt ks j - d else 0)) = _
      congr 2
      split <;> omega
    have rl2 : ((iL (List.replicate ks.length 0)).set i (.int 1)).length = ks.length := by rw [List.length_set, rl]
    unfold f__law_deal u__law_deal start
    simp only [ofD, dealOf, dD]
    generalize iL (List.replicate ks.length 0) = L at *
    generalize iL (wantL ks.length [(i, 1), (j, 1)]) = L2 at *
    simp [put_ap, kl, c0, c1, ix, jx, kx, rl, hi, hj, mx, w]
  | set ws c =>
    obtain ⟨h1, h2, h3, h4, h5, h6⟩ := ho
    have z := (forF_fold (g := G.tup 2 (G.cons (G.one 4) (G.cons (G.one 5) G.nil))) (ws := [4, 5]) (body := S.put 3 (E.mth dIndex (E.var 2) (E.var 4)) (E.var 5)) (wD ks)
      (fun l : List Int => [.sh (.lst (ks.map kD)), .sh (ofD ks (.set ws c)), .sh (.lst (ks.map nD)), .own (iL l), .no, .no, .no, .no]) (fun l w => l.set w.1 w.2) (fun l => l.length = ks.length) ws (List.replicate ks.length 0) (by simp) ?_).1
    · have w : ws.foldl (fun l w => l.set w.1 w.2) (List.replicate ks.length 0) = wantL ks.length ws := by rw [want_set h4]; rfl
      rw [w] at z
      unfold f__law_deal u__law_deal start
      simp only [ofD, dealOf, dD] at z ⊢
      generalize iL (List.replicate ks.length 0) = L at *
      generalize iL (wantL ks.length ws) = L2 at *
      simp [kl, c0, c1, z]
    · intro l w hx hl
      refine ⟨?_, by simpa using hl⟩
      have hi := (h3 w hx).1
      have ix := index_at h hi
      have e : (iL l).set w.1 (.int w.2) = iL (l.set w.1 w.2) := by rw [iL, ← List.map_set]
      have hn : w.1 < (iL l).length := by simpa [iL, hl] using hi
      rw [turn2, put_ap]
      generalize iL l = L at *
      simp [ix, hn, e]
theorem law_deals_ok {ks : Ks} (h : Kinds ks) {os : List Of} (ho : ∀ o ∈ os, OfOk ks.length o) (hol : os.length ≤ 20) : f__law_deals [.lst (ks.map kD), .lst (os.map (ofD ks))] = .ok (.lst ((dealsOf ks os).map dD)) := by
  have km := h.most
  have kl : ks.length ≤ LINE := le_line (by omega)
  have r1 := range1_nat (n := ks.length) (by omega)
  have z1 := (forF_foldN (g := G.one 3) (ws := [3]) (body := S.push false 2 (E.tup (E.cons (E.app dTuple (E.cons (E.ofL (E.comp [5] (E.iterA dRange1 (E.cons (E.app dLen (E.cons (E.var 0) E.nil)) E.nil)) (G.one 5) yes (E.app dInt (E.cons (E.bin dEq (E.var 3) (E.var 5)) E.nil)))) E.nil)) (E.cons (E.bin dIx (E.bin dIx (E.var 0) (E.var 3)) (E.c (.int 1))) E.nil)))) (fun (k : Nat) => D.int k)
    (fun l : List Deal => [.sh (.lst (ks.map kD)), .sh (.lst (os.map (ofD ks))), .own (l.map dD), .no, .no, .no]) (fun l k => l ++ [plainOf ks k]) (fun i l => l.length = i) (List.range ks.length) [] rfl ?_).1
  · rw [fold_push, List.nil_append] at z1
    have c1 : ∀ d : D, compF (G.one 4) yes (E.app f__law_deal (E.cons (E.var 0) (E.cons (E.var 4) E.nil))) [.sh (.lst (ks.map kD)), .sh (.lst (os.map (ofD ks))), .sh d, .no, .no, .no] (os.map (ofD ks)) = .ok (os.map fun o => dD (dealOf ks o)) := fun d => compF_all _ _ _ fun o hm => ⟨_, rfl, by simp [law_deal_ok h o (ho o hm)]⟩
    have ad : dAdd (.lst (((List.range ks.length).map (plainOf ks)).map dD)) (.lst (os.map fun o => dD (dealOf ks o))) = .ok (.lst ((dealsOf ks os).map dD)) := by
      have e : (dealsOf ks os).map dD = ((List.range ks.length).map (plainOf ks)).map dD ++ os.map fun o => dD (dealOf ks o) := by
        simp [dealsOf, Function.comp_def]
      rw [e]
      exact if_pos (le_line (by simp; omega))
    have ol : os.length ≤ LINE := le_line (by omega)
    simp only [List.map_nil] at z1
    generalize ((List.range ks.length).map (plainOf ks)).map dD = L1 at *
    generalize (dealsOf ks os).map dD = L3 at *
    unfold f__law_deals u__law_deals start
    simp [r1, z1, c1, ol, ad]
  · rintro i l k hx hi
    obtain ⟨hk, rfl⟩ := range_at hx
    refine ⟨?_, by simp [hi]⟩
    have e : iL (wantL ks.length [(i, 1)]) = (List.range ks.length).map fun (j : Nat) => D.int (if i = j then 1 else 0) := by
      rw [want_set (by simp)]
      show ((List.replicate ks.length (0 : Int)).set i 1).map D.int = _
      refine List.ext_getElem (by simp) fun j h1 h2 => ?_
      rw [List.getElem_map, List.getElem_set, List.getElem_map, List.getElem_range]
      split
      · rfl
      · rw [List.getElem_replicate]
    have c1 : compF (G.one 5) yes (E.app dInt (E.cons (E.bin dEq (E.var 3) (E.var 5)) E.nil)) [.sh (.lst (ks.map kD)), .sh (.lst (os.map (ofD ks))), .sh (.lst (l.map dD)), .sh (.int i), .no, .no] ((List.range ks.length).map fun (k : Nat) => D.int k) = .ok (iL (wantL ks.length [(i, 1)])) := by
      rw [e]
      refine compF_all _ _ _ fun j _ => ⟨_, rfl, ?_⟩
      by_cases q : i = j
      · subst q
        simp
      · have q' : ((i : Int) == (j : Int)) = false := by rw [beq_eq_false_iff_ne]; omega
        simp [q, q']
    have c2 : compF (G.one 5) yes (E.app dInt (E.cons (E.bin dEq (E.var 3) (E.var 5)) E.nil)) [.sh (.lst (ks.map kD)), .sh (.lst (os.map (ofD ks))), .own (l.map dD), .sh (.int i), .no, .no] ((List.range ks.length).map fun (k : Nat) => D.int k) = .ok (iL (wantL ks.length [(i, 1)])) := by
      rw [e]
      refine compF_all _ _ _ fun j _ => ⟨_, rfl, ?_⟩
      by_cases q : i = j
      · subst q
        simp
      · have q' : ((i : Int) == (j : Int)) = false := by rw [beq_eq_false_iff_ne]; omega
        simp [q, q']
    have kx := kind_at hk
    have hz := lt_line (show l.length < 100000 by omega)
    rw [turn1]
    unfold plainOf
    simp only [List.map_append, List.map_cons, List.map_nil]
    generalize hW : iL (wantL ks.length [(i, 1)]) = W at *
    simp [r1, kl, c1, c2, kx, hz, hW]
end TB
namespace TB
open PySem PySem.Spec PyProof.Rows L2
/-! ### the caught class -/
theorem one_class_ok (a : Addr) {c : Str} (hc : c ∈ errL) : f__law_one_class a c [.exn a c] = .ok (.bl true) := by
  have ll : ∀ xs ys : List D, xs.length + ys.length < 1000 → dAdd (.lst xs) (.lst ys) = .ok (.lst (xs ++ ys)) := fun xs ys h => if_pos (le_line (by omega))
  have l7 : ∀ b1 b2 b3 b4 b5 b6 b7 : Bool, dAdd (.lst [.bl b1, .bl b2, .bl b3, .bl b4]) (.lst [.bl b5, .bl b6, .bl b7]) = .ok (.lst [.bl b1, .bl b2, .bl b3, .bl b4, .bl b5, .bl b6, .bl b7]) := fun _ _ _ _ _ _ _ => ll [_, _, _, _] [_, _, _] (by show 4 + 3 < 1000; decide)
  have l9 : ∀ b1 b2 b3 b4 b5 b6 b7 b8 b9 : Bool, dAdd (.lst [.bl b1, .bl b2, .bl b3, .bl b4, .bl b5, .bl b6, .bl b7]) (.lst [.bl b8, .bl b9]) = .ok (.lst ([b1, b2, b3, b4, b5, b6, b7, b8, b9].map .bl)) := fun _ _ _ _ _ _ _ _ _ => ll [_, _, _, _, _, _, _] [_, _] (by show 7 + 2 < 1000; decide)
  have l4 : ∀ b1 b2 b3 b4 : D, R.lstB (.ok [b1, b2, b3, b4]) = .ok [b1, b2, b3, b4] := fun _ _ _ _ => R.lstB_ok (by show 4 ≤ 1000000; decide)
  simp only [errL, List.mem_cons, List.not_mem_nil, or_false] at hc
  rcases hc with rfl | rfl | rfl | rfl | rfl | rfl | rfl | rfl | rfl <;> unfold f__law_one_class u__law_one_class start <;> simp [l4, l7, l9, -List.map_cons, -List.map_nil]
/-- the word for a class -/
inductive WordK : Str → Str → Prop
  | offer : WordK "BadOffer" "offer"
  | kind : WordK "NoKind" "kind"
theorem told_0x {s x a : D} {c w : Str} (hw : WordK c w) (h : f_deal_of [s, x] = .exc c) : f__law_told [s, x, a, .int 0] = .ok (.str w) := by
  cases hw <;> unfold f__law_told u__law_told start <;>
    simp [h, calmR_ok (one_class_ok _ (c := "BadOffer") (by simp)), calmR_ok (one_class_ok _ (c := "NoKind") (by simp))]
theorem told_0 {s x a d : D} (h : f_deal_of [s, x] = .ok d) : f__law_told [s, x, a, .int 0] = .ok d := by
  unfold f__law_told u__law_told start
  simp [h]
theorem told_1x {s x a : D} {c w : Str} (hw : WordK c w) (h : fl_deals [s, a] = .exc c) : f__law_told [s, x, a, .int 1] = .ok (.str w) := by
  cases hw <;> unfold f__law_told u__law_told start <;>
    simp [h, calmR_ok (one_class_ok _ (c := "BadOffer") (by simp)), calmR_ok (one_class_ok _ (c := "NoKind") (by simp))]
theorem told_1 {ns ps : List D} {x d : D} {as L : List D} (h : fl_deals [.shop ns ps, .lst as] = .ok L) (hd : dIx (.lst L) (.int ((as.length : Int) + (ns.length : Int) - 1)) = .ok d) : f__law_told [.shop ns ps, x, .lst as, .int 1] = .ok d := by
  unfold f__law_told u__law_told start
  simp [h, hd]
/-! ### numbers -/
def numB : D → Int → Int → Bool
  | .int c, lo, hi => decide (lo ≤ c) && decide (c ≤ hi)
  | _, _, _ => false
def intB : D → Bool
  | .int _ => true
  | _ => false
theorem is_num {n : Nat} {y : D} (h : wide n y = true) (lo hi : Int) : f_is_number [y, .int lo, .int hi] = .ok (.bl (numB y lo hi)) := by
  cases y <;> simp only [wide] at h <;> try cases h
  all_goals
    unfold f_is_number u_is_number start
    simp [subT, numB]
theorem whole_w {n : Nat} {y : D} (h : wide n y = true) : f__law_whole [y] = .ok (.bl (intB y)) := by
  cases y <;> simp only [wide] at h <;> try cases h
  all_goals
    unfold f__law_whole u__law_whole start
    simp [subT, intB]
theorem law_num {n : Nat} {y : D} (h : wide n y = true) (lo hi : Int) : f__law_in [y, .int lo, .int hi] = .ok (.bl (numB y lo hi)) := by
  have w := whole_w h
  cases y <;> simp only [wide] at h <;> try cases h
  all_goals
    unfold f__law_in u__law_in start
    simp only [intB] at w
    simp [w, numB]
theorem num_of {y : D} {lo hi : Int} (h : numB y lo hi = true) : ∃ c, y = .int c ∧ lo ≤ c ∧ c ≤ hi := by
  cases y <;> simp only [numB] at h <;> try cases h
  rw [Bool.and_eq_true, decide_eq_true_eq, decide_eq_true_eq] at h
  exact ⟨_, rfl, h⟩
/-! ### names -/
theorem t_str {l : List Nat} (h : ∀ c ∈ l, c < 1000) : PyData.strOk (T l) = true := by
  show (l.toArray.all fun c => decide (c < 0x110000)) = true
  rw [List.all_toArray, List.all_eq_true]
  intro c hc
  have := h c hc
  exact decide_eq_true (by omega)
theorem nm_lt {l : List Nat} (h : Nm l) : ∀ c ∈ l, c < 1000 := fun c hc => by
  have := h.lt c hc
  omega
theorem wide_l {n : Nat} {ds : List D} (h : ∀ d ∈ ds, wide n d = true) : wide (n + 1) (.lst ds) = true := by
  simp only [wide]
  rw [wides_iff, List.all_eq_true]
  exact h
theorem wide_t {n : Nat} {ds : List D} (h : ∀ d ∈ ds, wide n d = true) : wide (n + 1) (.tup ds) = true := by
  simp only [wide]
  rw [wides_iff, List.all_eq_true]
  exact h
def inN (ks : Ks) (x : D) : Bool := (D.pys (ks.map nD)).any fun z => PyData.eqv z x.py
theorem pys_names : ∀ ks : Ks, D.pys (ks.map nD) = ks.map fun p => PyData.str (T p.1)
  | [] => rfl
  | p :: ks => by
    show _ :: D.pys (ks.map nD) = _
    rw [pys_names ks]
    rfl
theorem in_str (ks : Ks) (l : List Nat) : inN ks (.str (T l)) = decide (l ∈ ks.map (·.1)) := by
  unfold inN
  rw [pys_names, List.any_map, Bool.eq_iff_iff, List.any_eq_true, decide_eq_true_eq, List.mem_map]
  constructor
  · rintro ⟨p, hp, e⟩
    refine ⟨p, hp, ?_⟩
    simp only [Function.comp_def, D.py, PyData.eqv, beq_iff_eq] at e
    exact T_inj e
  · rintro ⟨p, hp, rfl⟩
    exact ⟨p, hp, by simp [D.py, PyData.eqv]⟩
theorem in_not (ks : Ks) {x : D} (h : ∀ z, x ≠ .str z) {n : Nat} (w : wide n x = true) : inN ks x = false := by
  unfold inN
  rw [pys_names, List.any_map, List.any_eq_false]
  intro p _
  cases x <;> simp only [wide] at w <;> first | cases w; done | exact absurd rfl (h _) | simp [D.py, PyData.eqv]
section
variable {ks : Ks} (h : Kinds ks)
include h
theorem wide_names : wide 9 (.lst (ks.map nD)) = true := wide_l fun d hd => by
  obtain ⟨p, hp, rfl⟩ := List.mem_map.mp hd
  simp [wide, t_str (nm_lt (h.nm p hp))]
theorem niD_ok {x : D} (hx : wide 9 x = true) : dNiD x (.lst (ks.map nD)) = .ok (.bl (!inN ks x)) := by
  show (if wide 9 x && wide 9 (.lst (ks.map nD)) then R.ok (D.bl (!(D.pys (ks.map nD)).any fun z => PyData.eqv z x.py)) else .bad) = _
  rw [hx, wide_names h]
  rfl
theorem part_name {a : D} (ha : wide 9 a = true) : (∃ i, i < ks.length ∧ a = nmD ks i ∧ f_place [shopD ks, a] = .ok (.int i) ∧ dNiD a (.lst (ks.map nD)) = .ok (.bl false)) ∨ (f_place [shopD ks, a] = .exc "NoKind" ∧ dNiD a (.lst (ks.map nD)) = .ok (.bl true)) := by
  rw [niD_ok h ha]
  by_cases hs : ∃ z, a = .str z
  · obtain ⟨z, rfl⟩ := hs
    rw [T_of z, in_str]
    by_cases m : z.cps.toList ∈ ks.map (·.1)
    · obtain ⟨p, hp, e⟩ := List.mem_map.mp m
      obtain ⟨i, hi⟩ := List.mem_iff_getElem?.mp hp
      have lt : i < ks.length := (List.getElem?_eq_some_iff.mp hi).1
      have ep : (nAt ks i, prAt ks i) = p := by
        have := ks_at lt
        rw [hi] at this
        exact (Option.some.inj this).symm
      refine .inl ⟨i, lt, ?_, ?_, by simp [m]⟩
      · rw [← e, ← ep]
      · have := place_ok h hi
        rw [e] at this
        exact this
    · refine .inr ⟨?_, by simp [m]⟩
      have e1 := in_names true z.cps.toList ks
      simp only [m, decide_false] at e1
      unfold f_place u_place start
      simp [subT, e1]
  · have hs' : ∀ z, a ≠ .str z := fun z e => hs ⟨z, e⟩
    rw [in_not ks hs' ha]
    refine .inr ⟨?_, rfl⟩
    have hi : dIsi "str" a = .ok (.bl false) := by
      cases a <;> simp only [wide] at ha <;> first | cases ha; done | exact absurd rfl (hs' _) | simp [subT]
    unfold f_place u_place start
    simp [hi]
end
/-! ### what has no form -/
section
variable {k s : D}
theorem form_exc {x : D} (h : f_need_form [x] = .exc "BadOffer") : f_deal_of [s, x] = .exc "BadOffer" := by
  unfold f_deal_of u_deal_of start
  simp [h]
/-- both refuse it -/
def NoForm (x : D) : Prop := f_need_form [x] = .exc "BadOffer" ∧ ∀ k, f__law_due [k, x] = .ok (.str "offer")
theorem nf_isi {x : D} (h : dIsi "tuple" x = .ok (.bl false)) : NoForm x := by
  refine ⟨?_, fun k => ?_⟩
  · unfold f_need_form u_need_form start
    simp [h]
  · unfold f__law_due u__law_due start
    simp [h]
theorem nf_nil : NoForm (.tup []) := by
  refine ⟨?_, fun k => ?_⟩
  · unfold f_need_form u_need_form start
    simp [subT]
  · unfold f__law_due u__law_due start
    simp [subT]
theorem nf_first {p : D} {ps : List D} (h : dIsi "str" p = .ok (.bl false)) : NoForm (.tup (p :: ps)) := by
  have e : (((ps.length : Int) + 1) == 0) = false := by
    rw [beq_eq_false_iff_ne]
    omega
  refine ⟨?_, fun k => ?_⟩
  · unfold f_need_form u_need_form start
    simp [subT, h, e]
  · unfold f__law_due u__law_due start
    simp [subT, h, e]
theorem in_t {neg : Bool} {x : D} {ds : List D} (hx : flat x = true) (hd : ds.all flat = true) : dIn neg x (.tup ds) = .ok (.bl (neg ^^ ds.any fun y => eqF y x)) := by
  have e : dIn neg x (.tup ds) = if flat x && ds.all flat then .ok (.bl (neg ^^ ds.any fun y => eqF y x)) else .bad := by
    cases x <;> rfl
  rw [e, hx, hd]
  rfl
theorem tn1 : ("set" : Str) ≠ "more" := by decide +kernel
theorem tn2 : ("set" : Str) ≠ "slip" := by decide +kernel
theorem tn3 : ("share" : Str) ≠ "more" := by decide +kernel
theorem tn4 : ("share" : Str) ≠ "slip" := by decide +kernel
theorem tab_list : ∀ z : Str, List.lookup z PARTS = if z = "more" ∨ z = "slip" then some 4 else if z = "set" ∨ z = "share" then some 3 else none := fun z => by
  unfold PARTS
  simp only [List.lookup]
  by_cases h1 : z = "more"
  · subst h1; simp
  · by_cases h2 : z = "set"
    · subst h2; simp [tn1, tn2]
    · by_cases h3 : z = "share"
      · subst h3; simp [tn3, tn4]
      · by_cases h4 : z = "slip"
        · subst h4; simp
        · have b1 : (z == "more") = false := by simpa using h1
          have b2 : (z == "set") = false := by simpa using h2
          have b3 : (z == "share") = false := by simpa using h3
          have b4 : (z == "slip") = false := by simpa using h4
          simp [b1, b2, b3, b4, h1, h2, h3, h4]
/-- the length that a first part asks -/
def askL (z : Str) : Nat := if z = "more" ∨ z = "slip" then 4 else 3
theorem nf_tag {z : Str} {ps : List D} (h : ¬ (z = "more" ∨ z = "slip" ∨ z = "set" ∨ z = "share")) : NoForm (.tup (.str z :: ps)) := by
  have e : (((ps.length : Int) + 1) == 0) = false := by
    rw [beq_eq_false_iff_ne]
    omega
  simp only [not_or] at h
  obtain ⟨h1, h2, h3, h4⟩ := h
  have t : dInTab true PARTS (.str z) = .ok (.bl true) := by
    show R.ok (D.bl (true ^^ (List.lookup z PARTS).isSome)) = _
    rw [tab_list]
    simp [h1, h2, h3, h4]
  have b1 : (("more" : Str) == z) = false := by simpa using fun q : ("more" : Str) = z => h1 q.symm
  have b2 : (("slip" : Str) == z) = false := by simpa using fun q : ("slip" : Str) = z => h2 q.symm
  have b3 : (("set" : Str) == z) = false := by simpa using fun q : ("set" : Str) = z => h3 q.symm
  have b4 : (("share" : Str) == z) = false := by simpa using fun q : ("share" : Str) = z => h4 q.symm
  have i4 : dIn true (.str z) (.tup [.str "more", .str "set", .str "share", .str "slip"]) = .ok (.bl true) := by
    rw [in_t rfl rfl]
    simp [eqF, b1, b2, b3, b4]
  refine ⟨?_, fun k => ?_⟩
  · unfold f_need_form u_need_form start
    simp [subT, e, t]
  · unfold f__law_due u__law_due start
    simp [subT, e, i4]
theorem tag_i4 {z : Str} (h : z = "more" ∨ z = "slip" ∨ z = "set" ∨ z = "share") : dIn true (.str z) (.tup [.str "more", .str "set", .str "share", .str "slip"]) = .ok (.bl false) := by
  rw [in_t rfl rfl]
  rcases h with rfl | rfl | rfl | rfl <;> simp [eqF]
theorem tag_i2 {z : Str} (h : z = "more" ∨ z = "slip" ∨ z = "set" ∨ z = "share") : dIn false (.str z) (.tup [.str "more", .str "slip"]) = .ok (.bl (decide (z = "more" ∨ z = "slip"))) := by
  rw [in_t rfl rfl]
  rcases h with rfl | rfl | rfl | rfl <;> simp [eqF, tn1, tn2, tn3, tn4]
theorem tag_tab {z : Str} (h : z = "more" ∨ z = "slip" ∨ z = "set" ∨ z = "share") : dInTab true PARTS (.str z) = .ok (.bl false) ∧ dTab PARTS (.str z) = .ok (.int (askL z)) := by
  rcases h with rfl | rfl | rfl | rfl <;> simp [askL, tn1, tn2, tn3, tn4]
theorem nf_len {z : Str} {ps : List D} (h : z = "more" ∨ z = "slip" ∨ z = "set" ∨ z = "share") (hl : ps.length + 1 ≠ askL z) : NoForm (.tup (.str z :: ps)) := by
  have e : (((ps.length : Int) + 1) == 0) = false := by
    rw [beq_eq_false_iff_ne]
    omega
  have t := tag_tab h
  have i4 := tag_i4 h
  have i2 := tag_i2 h
  have ne : (((ps.length : Int) + 1) == (askL z : Int)) = false := by
    rw [beq_eq_false_iff_ne]
    omega
  have ne2 : (((ps.length : Int) + 1) == 3 + (if z = "more" ∨ z = "slip" then 1 else 0)) = false := by
    rw [beq_eq_false_iff_ne]
    unfold askL at hl
    by_cases q : z = "more" ∨ z = "slip"
    · rw [if_pos q] at hl ⊢
      omega
    · rw [if_neg q] at hl ⊢
      omega
  refine ⟨?_, fun k => ?_⟩
  · unfold f_need_form u_need_form start
    simp [subT, e, t.1, t.2, ne]
  · unfold f__law_due u__law_due start
    simp [subT, e, i4, i2, ne2]
end
end TB
namespace TB
open PySem PySem.Spec PyProof.Rows L2
/-! ### what is asked of an offer -/
theorem wide_up : ∀ (n : Nat) (d : D), wide n d = true → wide (n + 1) d = true := by
  have go : ∀ (n : Nat), (∀ d, wide n d = true → wide (n + 1) d = true) := fun n => by
    induction n with
    | zero =>
      intro d h
      cases d <;> simp only [wide] at h ⊢ <;> try exact h
      all_goals
        rename_i ds
        cases ds with
        | nil => rfl
        | cons d ds => simp [wides] at h
    | succ n ih =>
      intro d h
      cases d <;> simp only [wide] at h ⊢ <;> try exact h
      all_goals
        rename_i ds
        rw [wides_iff, List.all_eq_true] at h ⊢
        exact fun x hx => ih x (h x hx)
  exact go
theorem wide_le {n m : Nat} (h : n ≤ m) {d : D} (w : wide n d = true) : wide m d = true := by
  induction m with
  | zero => rw [Nat.le_zero.mp h] at w; exact w
  | succ m ih =>
    by_cases q : n = m + 1
    · rw [← q]; exact w
    · exact wide_up m d (ih (by omega))
theorem wide_tm {n : Nat} {ds : List D} (h : wide (n + 1) (.tup ds) = true) : ∀ d ∈ ds, wide n d = true := by
  simp only [wide] at h
  rw [wides_iff, List.all_eq_true] at h
  exact h
/-- what stands under the changed offers -/
inductive Form : D → Prop
  | more (a b c : D) : Form (.tup [.str "more", a, b, c])
  | slip (a b c : D) : Form (.tup [.str "slip", a, b, c])
  | share (a b : D) : Form (.tup [.str "share", a, b])
  | set (p : D × D) (ps : List (D × D)) (c : D) : Form (.tup [.str "set", .tup ((p :: ps).map fun p => .tup [p.1, p.2]), c])
inductive Vd (ks : Ks) (x : D) : Prop
  | offer : f_deal_of [shopD ks, x] = .exc "BadOffer" → f__law_due [.lst (ks.map kD), x] = .ok (.str "offer") → Vd ks x
  | kind : f_deal_of [shopD ks, x] = .exc "NoKind" → f__law_due [.lst (ks.map kD), x] = .ok (.str "kind") → Form x → Vd ks x
  | deal (o : Of) : OfOk ks.length o → x = ofD ks o → f__law_due [.lst (ks.map kD), x] = .ok (dD (dealOf ks o)) → Vd ks x
theorem vd_nf {ks : Ks} {x : D} (h : NoForm x) : Vd ks x := .offer (form_exc h.1) (h.2 _)
theorem compX_place {ks : Ks} (h : Kinds ks) : ∀ (L : List D) (e1 e2 e3 e4 e6 e7 : Sl), (∀ a ∈ L, wide 9 a = true) → L.any (fun a => !inN ks a) = true → compX (G.one 5) yes (E.meth f_place (E.var 0) (E.var 5)) [.sh (shopD ks), e1, e2, e3, e4, .no, e6, e7] L = .exc "NoKind"
  | [], _, _, _, _, _, _, _, q => by simp at q
  | a :: L, e1, e2, e3, e4, e6, e7, hw, q => by
    have ha := hw a List.mem_cons_self
    have na := niD_ok h ha
    unfold compX
    rcases part_name h ha with ⟨i, hi, rfl, p, n⟩ | ⟨p, n⟩
    · have q' : L.any (fun a => !inN ks a) = true := by
        rw [na] at n
        have : (!inN ks (nmD ks i)) = false := by simpa using n
        rw [List.any_cons, this, Bool.false_or] at q
        exact q
      have ih := compX_place h L e1 e2 e3 e4 e6 e7 (fun b hb => hw b (List.mem_cons_of_mem _ hb)) q'
      simp only [G.one, setD_cons, setD_nil]
      simp [p, ih, yes]
    · simp only [G.one, setD_cons, setD_nil]
      simp [p, yes]
section
variable {ks : Ks} (h : Kinds ks)
include h
theorem in_of {a : D} (ha : wide 9 a = true) (hi : inN ks a = true) : ∃ i, i < ks.length ∧ a = nmD ks i := by
  rcases part_name h ha with ⟨i, hi, e, _⟩ | ⟨_, n⟩
  · exact ⟨i, hi, e⟩
  · rw [niD_ok h ha, hi] at n
    simp at n
theorem formed {z : Str} {ps : List D} (ht : z = "more" ∨ z = "slip" ∨ z = "set" ∨ z = "share") (hl : ps.length + 1 = askL z) {L : List D} (hL : L.length < 1000) (hw : ∀ a ∈ L, wide 9 a = true)
    (n1 : f_names_in [.tup (.str z :: ps)] = .ok (.lst L)) (n2 : f__law_names [.tup (.str z :: ps)] = .ok (.lst L))
    (hF : L.any (fun a => !inN ks a) = true → Form (.tup (.str z :: ps)))
    (hS : (∀ a ∈ L, ∃ i, i < ks.length ∧ a = nmD ks i) → (∃ o, OfOk ks.length o ∧ .tup (.str z :: ps) = ofD ks o ∧ f__law_sound [.tup (.str z :: ps)] = .ok (.bl true)) ∨ (f_need_parts [.tup (.str z :: ps)] = .exc "BadOffer" ∧ f__law_sound [.tup (.str z :: ps)] = .ok (.bl false))) : Vd ks (.tup (.str z :: ps)) := by
  have km := h.most
  have LL : L.length ≤ LINE := le_line (by omega)
  have kl : (ks.map kD).length ≤ LINE := le_line (by simp; omega)
  have e : (((ps.length : Int) + 1) == 0) = false := by
    rw [beq_eq_false_iff_ne]
    omega
  have t := tag_tab ht
  have i4 := tag_i4 ht
  have i2 := tag_i2 ht
  have ne : (((ps.length : Int) + 1) == (askL z : Int)) = true := by
    rw [beq_iff_eq]
    omega
  have ne2 : (((ps.length : Int) + 1) == 3 + (if z = "more" ∨ z = "slip" then 1 else 0)) = true := by
    rw [beq_iff_eq]
    unfold askL at hl
    by_cases q : z = "more" ∨ z = "slip"
    · rw [if_pos q] at hl ⊢
      omega
    · rw [if_neg q] at hl ⊢
      omega
  have nf : f_need_form [.tup (.str z :: ps)] = .ok .non := by
    unfold f_need_form u_need_form start
    simp [subT, e, t.1, t.2, ne]
  have c0 : ∀ e1 e2 e3, compF (G.one 4) yes (E.bin dIx (E.var 4) (E.c (.int 0))) [e1, e2, e3, .no, .no] (ks.map kD) = .ok (ks.map nD) := fun e1 e2 e3 => compF_all kD nD ks fun p _ => ⟨_, rfl, by simp [kD]⟩
  have loop := forF_ans (g := G.one 3) (ws := [3]) (body := S.ifs (E.tst (E.bin dNiD (E.var 3) (E.var 2))) (S.ret (E.c (.str "kind"))) S.skip) id [.sh (.lst (ks.map kD)), .sh (.tup (.str z :: ps)), .sh (.lst (ks.map nD)), .no, .no] (fun a => !inN ks a) (.str "kind") L fun a ha => by
    have na := niD_ok h (hw a ha)
    rw [turn1]
    cases q : inN ks a <;> rw [q] at na <;> simp [na]
  rw [List.map_id] at loop
  cases b : L.any (fun a => !inN ks a) with
  | true =>
    rw [b] at loop
    simp only [if_true] at loop
    refine .kind ?_ ?_ (hF b)
    · have cx := fun e1 e2 e3 e4 e6 e7 => compX_place h L e1 e2 e3 e4 e6 e7 hw b
      unfold f_deal_of u_deal_of start
      simp [nf, n1, LL, cx]
    · generalize ks.map kD = LK at *
      generalize ks.map nD = LN at *
      unfold f__law_due u__law_due start
      simp [subT, e, i4, i2, ne2, n2, c0, loop, LL, kl]
  | false =>
    rw [b] at loop
    simp only [Bool.false_eq_true, if_false] at loop
    have al : ∀ a ∈ L, ∃ i, i < ks.length ∧ a = nmD ks i := fun a ha => by
      have q := List.any_eq_false.mp b a ha
      exact in_of h (hw a ha) (by simpa using q)
    rcases hS al with ⟨o, ho, eo, s1⟩ | ⟨s1, s2⟩
    · refine .deal o ho eo ?_
      have ld := law_deal_ok h o ho
      rw [← eo] at ld
      generalize dD (dealOf ks o) = dd at *
      generalize ks.map kD = LK at *
      generalize ks.map nD = LN at *
      unfold f__law_due u__law_due start
      simp [subT, e, i4, i2, ne2, n2, c0, loop, LL, kl, s1, ld]
    · refine .offer ?_ ?_
      · have pl : ∀ a ∈ L, ∃ d, f_place [shopD ks, a] = .ok d := fun a ha => by
          obtain ⟨i, hi, rfl⟩ := al a ha
          exact ⟨_, place_ok h (ks_at hi)⟩
        have cx : ∀ e1 e2 e3 e4 e6 e7, ∃ l, compX (G.one 5) yes (E.meth f_place (E.var 0) (E.var 5)) [.sh (shopD ks), e1, e2, e3, e4, .no, e6, e7] L = .ok l := fun e1 e2 e3 e4 e6 e7 => by
          clear hF hS n1 n2 loop b hw hL LL al
          induction L with
          | nil => exact ⟨[], rfl⟩
          | cons a L ih =>
            obtain ⟨d, hd⟩ := pl a List.mem_cons_self
            obtain ⟨l, hl⟩ := ih fun b hb => pl b (List.mem_cons_of_mem _ hb)
            refine ⟨d :: l, ?_⟩
            unfold compX
            simp only [G.one, setD_cons, setD_nil]
            simp [hd, hl, yes]
        obtain ⟨l, cx⟩ := cx (.sh (.tup (.str z :: ps))) .no .no .no .no .no
        unfold f_deal_of u_deal_of start
        simp [nf, n1, LL, cx, s1]
      · generalize ks.map kD = LK at *
        generalize ks.map nD = LN at *
        unfold f__law_due u__law_due start
        simp [subT, e, i4, i2, ne2, n2, c0, loop, LL, kl, s2]
end
end TB
namespace TB
open PySem PySem.Spec PyProof.Rows L2
/-! ### more, share, slip -/
@[simp] theorem need_b (b : Bool) : f_need [.bl b] = if b then .ok .non else .exc "BadOffer" := by
  cases b <;> unfold f_need u_need start <;> simp
@[simp] theorem b_more : (("more" : Str) == "more") = true := by decide +kernel
@[simp] theorem b_set : (("set" : Str) == "set") = true := by decide +kernel
@[simp] theorem b_share : (("share" : Str) == "share") = true := by decide +kernel
@[simp] theorem b_slip : (("slip" : Str) == "slip") = true := by decide +kernel
theorem ask_more : askL "more" = 4 := by simp [askL]
theorem ask_slip : askL "slip" = 4 := by simp [askL]
theorem ask_set : askL "set" = 3 := by simp [askL, tn1, tn2]
theorem ask_share : askL "share" = 3 := by simp [askL, tn3, tn4]
section
variable {ks : Ks} (h : Kinds ks)
include h
theorem vd_more {a b c : D} (ha : wide 9 a = true) (hb : wide 9 b = true) (hc : wide 9 c = true) : Vd ks (.tup [.str "more", a, b, c]) := by
  have nb := is_num hb 2 9
  have nc := is_num hc 1 9
  have lb := law_num hb 2 9
  refine formed h (.inl rfl) (by rw [ask_more]; rfl) (L := [a]) (by simp) (by simpa using ha) ?_ ?_ (fun _ => .more a b c) fun al => ?_
  · unfold f_names_in u_names_in start
    simp
  · unfold f__law_names u__law_names start
    simp
  · obtain ⟨i, hi, rfl⟩ := al a List.mem_cons_self
    cases qb : numB b 2 9 with
    | false =>
      rw [qb] at nb lb
      refine .inr ⟨?_, ?_⟩
      · unfold f_need_parts u_need_parts start
        simp [nb]
      · unfold f__law_sound u__law_sound start
        simp [lb]
    | true =>
      rw [qb] at nb lb
      obtain ⟨m, rfl, m1, m2⟩ := num_of qb
      have lc := law_num hc 1 (m - 1)
      cases qc : numB c 1 9 with
      | false =>
        have qc' : numB c 1 (m - 1) = false := by
          rw [Bool.eq_false_iff] at qc ⊢
          intro z
          obtain ⟨k, rfl, k1, k2⟩ := num_of z
          exact qc (by simp [numB]; omega)
        rw [qc] at nc
        rw [qc'] at lc
        refine .inr ⟨?_, ?_⟩
        · unfold f_need_parts u_need_parts start
          simp [nb, nc]
        · unfold f__law_sound u__law_sound start
          simp [lb, lc]
      | true =>
        rw [qc] at nc
        obtain ⟨k, rfl, k1, k2⟩ := num_of qc
        by_cases lt : k < m
        · refine .inl ⟨.more i m k, ⟨hi, m1, m2, k1, lt⟩, rfl, ?_⟩
          have qc' : numB (.int k) 1 (m - 1) = true := by
            simp [numB]
            omega
          rw [qc'] at lc
          unfold f__law_sound u__law_sound start
          simp [lb, lc]
        · have qc' : numB (.int k) 1 (m - 1) = false := by
            simp [numB]
            omega
          rw [qc'] at lc
          refine .inr ⟨?_, ?_⟩
          · unfold f_need_parts u_need_parts start
            simp [nb, nc, lt]
          · unfold f__law_sound u__law_sound start
            simp [lb, lc]
theorem vd_share {a b : D} (ha : wide 9 a = true) (hb : wide 9 b = true) : Vd ks (.tup [.str "share", a, b]) := by
  have nb := is_num hb 1 100
  have lb := law_num hb 1 100
  refine formed h (.inr (.inr (.inr rfl))) (by rw [ask_share]; rfl) (L := [a]) (by simp) (by simpa using ha) ?_ ?_ (fun _ => .share a b) fun al => ?_
  · unfold f_names_in u_names_in start
    simp
  · unfold f__law_names u__law_names start
    simp
  · obtain ⟨i, hi, rfl⟩ := al a List.mem_cons_self
    cases qb : numB b 1 100 with
    | false =>
      rw [qb] at nb lb
      refine .inr ⟨?_, ?_⟩
      · unfold f_need_parts u_need_parts start
        simp [nb]
      · unfold f__law_sound u__law_sound start
        simp [lb]
    | true =>
      obtain ⟨m, rfl, m1, m2⟩ := num_of qb
      rw [qb] at lb
      refine .inl ⟨.share i m, ⟨hi, m1, m2⟩, rfl, ?_⟩
      unfold f__law_sound u__law_sound start
      simp [lb]
theorem vd_slip {a b c : D} (ha : wide 9 a = true) (hb : wide 9 b = true) (hc : wide 9 c = true) : Vd ks (.tup [.str "slip", a, b, c]) := by
  have nc := is_num hc 1 100000
  have lc := law_num hc 1 100000
  refine formed h (.inr (.inl rfl)) (by rw [ask_slip]; rfl) (L := [a, b]) (by simp) (by simpa using ⟨ha, hb⟩) ?_ ?_ (fun _ => .slip a b c) fun al => ?_
  · unfold f_names_in u_names_in start
    simp
  · unfold f__law_names u__law_names start
    simp
  · obtain ⟨i, hi, rfl⟩ := al a List.mem_cons_self
    obtain ⟨j, hj, rfl⟩ := al b (by simp)
    have ne := nAt_eq h hi hj
    cases qc : numB c 1 100000 with
    | false =>
      rw [qc] at nc lc
      refine .inr ⟨?_, ?_⟩
      · unfold f_need_parts u_need_parts start
        simp [nc]
      · unfold f__law_sound u__law_sound start
        simp [lc]
    | true =>
      rw [qc] at nc lc
      obtain ⟨m, rfl, m1, m2⟩ := num_of qc
      by_cases e : i = j
      · rw [decide_eq_true e] at ne
        refine .inr ⟨?_, ?_⟩
        · unfold f_need_parts u_need_parts start
          simp [nc, ne]
        · unfold f__law_sound u__law_sound start
          simp [lc, ne]
      · rw [decide_eq_false e] at ne
        refine .inl ⟨.slip i j m, ⟨hi, hj, e, m1, m2⟩, rfl, ?_⟩
        unfold f__law_sound u__law_sound start
        simp [lc, ne]
end
end TB
namespace TB
open PySem PySem.Spec PyProof.Rows L2
/-! ### sets -/
def pairB : D → Bool
  | .tup [_, _] => true
  | _ => false
def wantsB : D → Bool
  | .tup qs => qs.all pairB
  | _ => false
abbrev pqD (p : D × D) : D := .tup [p.1, p.2]
theorem pair_of {q : D} (h : pairB q = true) : ∃ p, q = pqD p := by
  unfold pairB at h
  split at h
  · exact ⟨(_, _), rfl⟩
  · cases h
theorem pairs_of : ∀ {qs : List D}, qs.all pairB = true → ∃ ps : List (D × D), qs = ps.map pqD
  | [], _ => ⟨[], rfl⟩
  | q :: qs, h => by
    rw [List.all_cons, Bool.and_eq_true] at h
    obtain ⟨p, rfl⟩ := pair_of h.1
    obtain ⟨ps, rfl⟩ := pairs_of h.2
    exact ⟨p :: ps, rfl⟩
theorem shape {n : Nat} {q : D} (h : wide n q = true) : (∃ a b, q = .tup [a, b]) ∨ (∃ ds, q = .tup ds ∧ ((ds.length : Int) == 2) = false ∧ pairB q = false) ∨ (dIsi "tuple" q = .ok (.bl false) ∧ pairB q = false ∧ wantsB q = false) := by
  by_cases t : ∃ ds, q = .tup ds
  · obtain ⟨ds, rfl⟩ := t
    rcases ds with _ | ⟨a, _ | ⟨b, _ | ⟨c, ds⟩⟩⟩
    · exact .inr (.inl ⟨_, rfl, rfl, rfl⟩)
    · exact .inr (.inl ⟨_, rfl, rfl, rfl⟩)
    · exact .inl ⟨a, b, rfl⟩
    · refine .inr (.inl ⟨_, rfl, ?_, rfl⟩)
      rw [beq_eq_false_iff_ne]
      simp only [List.length_cons]
      omega
  · refine .inr (.inr ?_)
    cases q <;> simp only [wide] at h <;> first | cases h; done | exact absurd ⟨_, rfl⟩ t | exact ⟨by simp [subT], rfl, rfl⟩
theorem is_wants_w {n : Nat} {a : D} (h : wide (n + 1) a = true) : f_is_wants [a] = .ok (.bl (wantsB a)) := by
  by_cases t : ∃ qs, a = .tup qs
  · obtain ⟨qs, rfl⟩ := t
    have hw := wide_tm h
    have key := forF_ans (g := G.one 1) (ws := [1]) (body := S.ifs (E.bor (E.bnot (E.tst (E.un (dIsi "tuple") (E.var 1)))) (E.tst (E.bin dNe (E.app dLen (E.cons (E.var 1) E.nil)) (E.c (.int 2))))) (S.ret (E.c (.bl false))) S.skip) id [.sh (.tup qs), .no] (fun q => !pairB q) (.bl false) qs fun q hq => by
      rw [turn1]
      rcases shape (hw q hq) with ⟨x, y, rfl⟩ | ⟨ds, rfl, e, f⟩ | ⟨e, f, _⟩
      · simp [subT, pairB]
      · simp [subT, e, f]
      · simp [e, f]
    rw [List.map_id] at key
    have e : wantsB (.tup qs) = !(qs.any fun q => !pairB q) := by
      show qs.all pairB = _
      rw [List.all_eq_not_any_not]
    rw [e]
    unfold f_is_wants u_is_wants start
    cases b : qs.any (fun q => !pairB q) <;> rw [b] at key <;> simp only [if_true, Bool.false_eq_true, if_false] at key <;> simp [subT, key]
  · rcases shape h with ⟨x, y, rfl⟩ | ⟨ds, rfl, e, f⟩ | ⟨e, f, g⟩
    · exact absurd ⟨_, rfl⟩ t
    · exact absurd ⟨_, rfl⟩ t
    · unfold f_is_wants u_is_wants start
      simp [e, g]
/-- the names that a set tells -/
def firsts (a : D) : List D := match a with
  | .tup qs => if qs.all pairB then qs.map fun q => match q with
    | .tup (x :: _) => x
    | _ => .non
    else []
  | _ => []
theorem firsts_ps (ps : List (D × D)) : firsts (.tup (ps.map pqD)) = ps.map (·.1) := by
  have e : (ps.map pqD).all pairB = true := by
    rw [List.all_map, List.all_eq_true]
    intro p _
    rfl
  show (if (ps.map pqD).all pairB then _ else _) = _
  rw [if_pos e, List.map_map]
  rfl
theorem set_names {n : Nat} {a c : D} (h : wide (n + 1) a = true) (hl : ∀ qs, a = .tup qs → qs.length < 1000) : f_names_in [.tup [.str "set", a, c]] = .ok (.lst (firsts a)) ∧ f__law_names [.tup [.str "set", a, c]] = .ok (.lst (firsts a)) := by
  have w := is_wants_w h
  by_cases t : ∃ qs, a = .tup qs
  · obtain ⟨qs, rfl⟩ := t
    have hw := wide_tm h
    have ql : qs.length ≤ LINE := le_line (by have := hl qs rfl; omega)
    have cf : ∀ e0, compF (G.one 1) (E.bor (E.bnot (E.tst (E.un (dIsi "tuple") (E.var 1)))) (E.tst (E.bin dNe (E.app dLen (E.cons (E.var 1) E.nil)) (E.c (.int 2))))) (E.var 1) [e0, .no] qs = .ok (qs.filter fun q => !pairB q) := fun e0 => by
      have z := compF_map (g := G.one 1) (tt := E.bor (E.bnot (E.tst (E.un (dIsi "tuple") (E.var 1)))) (E.tst (E.bin dNe (E.app dLen (E.cons (E.var 1) E.nil)) (E.c (.int 2))))) (te := E.var 1) (ρ := [e0, .no]) id (fun q => !pairB q) id qs fun q hq => by
        refine ⟨_, rfl, ?_, fun _ => by simp⟩
        rcases shape (hw q hq) with ⟨x, y, rfl⟩ | ⟨ds, rfl, e, f⟩ | ⟨e, f, _⟩
        · simp [subT, pairB]
        · simp [subT, e, f]
        · simp [e, f]
      rw [List.map_id, List.map_id] at z
      exact z
    cases b : qs.all pairB with
    | true =>
      obtain ⟨ps, rfl⟩ := pairs_of b
      have fl : ((ps.map pqD).filter fun q => !pairB q) = [] := by
        rw [List.filter_eq_nil_iff]
        intro q hq
        rw [List.all_eq_true.mp b q hq]
        simp
      rw [fl] at cf
      have wt : wantsB (.tup (ps.map pqD)) = true := b
      rw [wt] at w
      have cg : ∀ e0, compF (G.one 1) yes (E.bin dIx (E.var 1) (E.c (.int 0))) [e0, .no] (ps.map pqD) = .ok (ps.map (·.1)) := fun e0 => compF_all pqD _ ps fun p _ => ⟨_, rfl, by simp⟩
      rw [firsts_ps]
      generalize ps.map pqD = Q at *
      refine ⟨?_, ?_⟩
      · unfold f_names_in u_names_in start
        simp [w, cg, ql]
      · unfold f__law_names u__law_names start
        simp [subT, cf, cg, ql]
    | false =>
      have wf : wantsB (.tup qs) = false := b
      have ff : firsts (.tup qs) = [] := by
        show (if qs.all pairB then _ else _) = _
        rw [b]
        rfl
      rw [wf] at w
      rw [ff]
      have ne : (((qs.filter fun q => !pairB q).length : Nat) : Int) > 0 := by
        have : (qs.filter fun q => !pairB q) ≠ [] := by
          intro z
          rw [List.filter_eq_nil_iff] at z
          rw [Bool.eq_false_iff] at b
          exact b (List.all_eq_true.mpr fun q hq => by simpa using z q hq)
        have := List.length_pos_iff.mpr this
        omega
      have ne' : decide ((0 : Int) < (((qs.filter fun q => !pairB q).length : Nat) : Int)) = true := decide_eq_true ne
      generalize (qs.filter fun q => !pairB q) = F at *
      refine ⟨?_, ?_⟩
      · unfold f_names_in u_names_in start
        simp [w]
      · unfold f__law_names u__law_names start
        have lf : 0 < F.length := by omega
        simp [subT, cf, ql, lf]
  · rcases shape h with ⟨x, y, rfl⟩ | ⟨ds, rfl, e, f⟩ | ⟨e, f, g⟩
    · exact absurd ⟨_, rfl⟩ t
    · exact absurd ⟨_, rfl⟩ t
    · have ff : firsts a = [] := by
        unfold firsts
        split
        · rename_i qs
          exact absurd ⟨_, rfl⟩ t
        · rfl
      rw [g] at w
      rw [ff]
      refine ⟨?_, ?_⟩
      · unfold f_names_in u_names_in start
        simp [w]
      · unfold f__law_names u__law_names start
        simp [e]

/-! ### the law's look at a set -/
def soundL : List D → List D → Bool
  | _, [] => true
  | N, q :: qs => match q with
    | .tup [n, y] => numB y 1 9 && (!(N.any fun z => eqF z n) && soundL (N ++ [n]) qs)
    | _ => false
theorem ints_of : ∀ ws : List (Nat × D), (∀ w ∈ ws, numB w.2 1 9 = true) → ∃ vs : List (Nat × Int), ws = vs.map (fun v => (v.1, D.int v.2)) ∧ ∀ v ∈ vs, 1 ≤ v.2 ∧ v.2 ≤ 9
  | [], _ => ⟨[], rfl, fun _ q => (nomatch q)⟩
  | w :: ws, nm => by
    obtain ⟨vs, e, hv⟩ := ints_of ws fun u hu => nm u (List.mem_cons_of_mem _ hu)
    obtain ⟨m, e2, m1, m2⟩ := num_of (nm w List.mem_cons_self)
    refine ⟨(w.1, m) :: vs, ?_, fun v hv' => ?_⟩
    · rw [List.map_cons, ← e, ← e2]
    · rcases List.mem_cons.mp hv' with rfl | q
      · exact ⟨m1, m2⟩
      · exact hv v q
theorem soundL_non {N qs : List D} {q : D} (h : pairB q = false) : soundL N (q :: qs) = false := by
  unfold soundL
  split
  · cases h
  · rfl
def soundBody : Ev → Out := (S.seq (S.ifs (E.bor (E.bnot (E.tst (E.un (dIsi "tuple") (E.var 2)))) (E.bor (E.tst (E.bin dNe (E.app dLen (E.cons (E.var 2) E.nil)) (E.c (.int 2)))) (E.bor (E.bnot (E.tst (E.app f__law_in (E.cons (E.bin dIx (E.var 2) (E.c (.int 1))) (E.cons (E.c (.int 1)) (E.cons (E.c (.int 9)) E.nil)))))) (E.tst (E.bin (dIn false) (E.bin dIx (E.var 2) (E.c (.int 0))) (E.var 1)))))) (S.ret (E.c (.bl false))) S.skip)
    (S.push false 1 (E.bin dIx (E.var 2) (E.c (.int 0)))))
theorem sound_loop (e0 : Sl) : ∀ (qs N : List D), (∀ q ∈ qs, wide 8 q = true) → (∀ n y, .tup [n, y] ∈ qs → flat n = true) → N.all flat = true → N.length + qs.length < 1000 →
    if soundL N qs = true then ∃ N', S.forF (G.one 2) [2] soundBody qs [e0, .own N, .no] = .nx [e0, .own N', .no] else S.forF (G.one 2) [2] soundBody qs [e0, .own N, .no] = .rt (.bl false)
  | [], N, _, _, _, _ => by
    rw [if_pos (by rfl)]
    exact ⟨N, rfl⟩
  | q :: qs, N, hw, hf, hN, hl => by
    have wq := hw q List.mem_cons_self
    have hl' : N.length + (qs.length + 1) < 1000 := hl
    rcases shape wq with ⟨x, y, rfl⟩ | ⟨ds, rfl, e, f⟩ | ⟨e, f, _⟩
    · have fx := hf x y List.mem_cons_self
      have wy : wide 7 y = true := wide_tm wq y (by simp)
      have ln := law_num wy 1 9
      have iN := in_L (neg := false) fx hN
      rw [Bool.false_xor] at iN
      have ih := sound_loop e0 qs (N ++ [x]) (fun r hr => hw r (List.mem_cons_of_mem _ hr)) (fun n y hm => hf n y (List.mem_cons_of_mem _ hm)) (by rw [List.all_append, hN]; simp [fx]) (by simp; omega)
      have es : soundL N (.tup [x, y] :: qs) = (numB y 1 9 && (!(N.any fun z => eqF z x) && soundL (N ++ [x]) qs)) := rfl
      rw [es]
      have hz : N.length < LINE := lt_line (by omega)
      cases b1 : numB y 1 9 with
      | false =>
        rw [b1] at ln
        rw [Bool.false_and, if_neg Bool.false_ne_true, forF_cons, turn1]
        unfold soundBody
        simp [subT, ln]
      | true =>
        rw [b1] at ln
        cases b2 : (N.any fun z => eqF z x) with
        | true =>
          rw [b2] at iN
          rw [Bool.true_and, Bool.not_true, Bool.false_and, if_neg Bool.false_ne_true, forF_cons, turn1]
          unfold soundBody
          simp [subT, ln, iN]
        | false =>
          rw [b2] at iN
          have tn : turn (G.one 2) [2] soundBody (.tup [x, y]) [e0, .own N, .no] = .nx [e0, .own (N ++ [x]), .no] := by
            rw [turn1]
            unfold soundBody
            simp [subT, ln, iN, hz]
          rw [Bool.true_and, Bool.not_false, Bool.true_and, forF_cons, tn]
          exact ih
    · rw [soundL_non f, if_neg Bool.false_ne_true, forF_cons, turn1]
      unfold soundBody
      simp [subT, e]
    · rw [soundL_non f, if_neg Bool.false_ne_true, forF_cons, turn1]
      unfold soundBody
      simp [e]
def setB (a c : D) : Bool := match a with
  | .tup qs => decide (1 ≤ qs.length ∧ qs.length ≤ 5) && (numB c 0 100000 && soundL [] qs)
  | _ => false
theorem setB_not {a : D} (h : ¬ ∃ qs, a = .tup qs) (c : D) : setB a c = false := by
  cases a <;> first | rfl | exact absurd ⟨_, rfl⟩ h
theorem law_sound_set {a c : D} (ha : wide 9 a = true) (hc : wide 9 c = true) (hl : ∀ qs, a = .tup qs → qs.length < 900 ∧ ∀ n y, .tup [n, y] ∈ qs → flat n = true) :
    f__law_sound [.tup [.str "set", a, c]] = .ok (.bl (setB a c)) := by
  have lc := law_num hc 0 100000
  by_cases t : ∃ qs, a = .tup qs
  · obtain ⟨qs, rfl⟩ := t
    obtain ⟨h1, h2⟩ := hl qs rfl
    have z := sound_loop (.sh (.tup [.str "set", .tup qs, c])) qs [] (wide_tm ha) h2 rfl (by simp; omega)
    show _ = R.ok (D.bl (decide (1 ≤ qs.length ∧ qs.length ≤ 5) && (numB c 0 100000 && soundL [] qs)))
    by_cases l5 : 1 ≤ qs.length ∧ qs.length ≤ 5
    · have a1 : decide ((1 : Int) ≤ (qs.length : Int)) = true := by simp; omega
      have a2 : decide ((qs.length : Int) ≤ (5 : Int)) = true := by simp; omega
      rw [decide_eq_true l5]
      cases b : numB c 0 100000 with
      | false =>
        rw [b] at lc
        unfold f__law_sound u__law_sound start
        simp [subT, a1, a2, lc]
      | true =>
        rw [b] at lc
        cases s : soundL [] qs with
        | false =>
          rw [s, if_neg Bool.false_ne_true] at z
          unfold soundBody at z
          unfold f__law_sound u__law_sound start
          simp [subT, a1, a2, lc, z]
        | true =>
          rw [s, if_pos rfl] at z
          obtain ⟨N', z⟩ := z
          unfold soundBody at z
          unfold f__law_sound u__law_sound start
          simp [subT, a1, a2, lc, z]
    · have e : (decide ((1 : Int) ≤ (qs.length : Int)) && decide ((qs.length : Int) ≤ (5 : Int))) = false := by
        rw [Bool.and_eq_false_iff, decide_eq_false_iff_not, decide_eq_false_iff_not]
        omega
      rw [decide_eq_false l5]
      unfold f__law_sound u__law_sound start
      simp [subT, e]
  · rcases shape ha with ⟨x, y, rfl⟩ | ⟨ds, rfl, e, f⟩ | ⟨e, f, g⟩
    · exact absurd ⟨_, rfl⟩ t
    · exact absurd ⟨_, rfl⟩ t
    · rw [setB_not t]
      unfold f__law_sound u__law_sound start
      simp [e]
/-! ### the program's look at a set -/
section
variable {ks : Ks} (h : Kinds ks)
include h
abbrev wyD (ks : Ks) (w : Nat × D) : D := .tup [nmD ks w.1, w.2]
omit h in
theorem any_nm (h : Kinds ks) {L : List Nat} (hL : ∀ i ∈ L, i < ks.length) {i : Nat} (hi : i < ks.length) : ((L.map (nmD ks)).any fun z => eqF z (nmD ks i)) = decide (i ∈ L) := by
  rw [List.any_map, Bool.eq_iff_iff, List.any_eq_true, decide_eq_true_eq]
  constructor
  · rintro ⟨j, hj, e⟩
    have := nAt_eq h (hL j hj) hi
    simp only [Function.comp_def, eqF, this, decide_eq_true_eq] at e
    rw [← e]
    exact hj
  · intro hm
    exact ⟨i, hm, by simp [eqF]⟩
theorem soundL_iff : ∀ (ws : List (Nat × D)) (L : List Nat), (∀ w ∈ ws, w.1 < ks.length) → (∀ i ∈ L, i < ks.length) → L.Nodup → (soundL (L.map (nmD ks)) (ws.map (wyD ks)) = true ↔ (∀ w ∈ ws, numB w.2 1 9 = true) ∧ (L ++ ws.map (·.1)).Nodup)
  | [], L, _, _, nd => ⟨fun _ => ⟨fun _ q => (nomatch q), by simpa using nd⟩, fun _ => rfl⟩
  | w :: ws, L, hw, hL, nd => by
    have hi := hw w List.mem_cons_self
    have es : soundL (L.map (nmD ks)) ((w :: ws).map (wyD ks)) = (numB w.2 1 9 && (!((L.map (nmD ks)).any fun z => eqF z (nmD ks w.1)) && soundL (L.map (nmD ks) ++ [nmD ks w.1]) (ws.map (wyD ks)))) := rfl
    rw [es, any_nm h hL hi, show L.map (nmD ks) ++ [nmD ks w.1] = (L ++ [w.1]).map (nmD ks) by simp, Bool.and_eq_true, Bool.and_eq_true]
    have hL' : ∀ i ∈ L ++ [w.1], i < ks.length := fun i hi' => by
      rcases List.mem_append.mp hi' with q | q
      · exact hL i q
      · rw [List.mem_singleton.mp q]; exact hi
    constructor
    · rintro ⟨q1, q2, q3⟩
      have nin : w.1 ∉ L := by simpa using q2
      have nd' : (L ++ [w.1]).Nodup := by
        rw [List.nodup_append]
        refine ⟨nd, by simp, fun a ha b hb e => ?_⟩
        rw [List.mem_singleton.mp hb] at e
        exact nin (e ▸ ha)
      obtain ⟨r1, r2⟩ := (soundL_iff ws (L ++ [w.1]) (fun u hu => hw u (List.mem_cons_of_mem _ hu)) hL' nd').mp q3
      refine ⟨fun u hu => ?_, by simpa using r2⟩
      rcases List.mem_cons.mp hu with rfl | hu
      · exact q1
      · exact r1 u hu
    · rintro ⟨q1, q2⟩
      have q2' : (L ++ [w.1] ++ ws.map (·.1)).Nodup := by simpa using q2
      have nd' : (L ++ [w.1]).Nodup := (List.nodup_append.mp q2').1
      have nin : w.1 ∉ L := fun z => (List.nodup_append.mp nd').2.2 w.1 z w.1 (by simp) rfl
      refine ⟨q1 w List.mem_cons_self, by simpa using nin, ?_⟩
      exact (soundL_iff ws (L ++ [w.1]) (fun u hu => hw u (List.mem_cons_of_mem _ hu)) hL' nd').mpr ⟨fun u hu => q1 u (List.mem_cons_of_mem _ hu), q2'⟩
theorem count_at {L : List Nat} (hL : ∀ i ∈ L, i < ks.length) {i : Nat} (hi : i < ks.length) : dCount (.lst (L.map (nmD ks))) (nmD ks i) = .ok (.int (L.count i : Nat)) := by
  have f1 : (L.map (nmD ks)).all flat = true := by simp [flat]
  show (if flat (nmD ks i) && (L.map (nmD ks)).all flat then R.ok (D.int ((L.map (nmD ks)).countP (fun z => eqF z (nmD ks i)) : Nat)) else .bad) = _
  rw [f1, List.countP_map]
  have e : L.countP ((fun z => eqF z (nmD ks i)) ∘ nmD ks) = L.count i := by
    rw [List.count]
    refine List.countP_congr fun j hj => ?_
    have := nAt_eq h (hL j hj) hi
    simp only [Function.comp_def, eqF, this]
    simp
  rw [e]
  rfl
theorem need_set {ws : List (Nat × D)} {c : D} (hw : ∀ w ∈ ws, w.1 < ks.length ∧ wide 7 w.2 = true) (hc : wide 9 c = true) (hl : ws.length < 900) (hb : setB (.tup (ws.map (wyD ks))) c = false) : f_need_parts [.tup [.str "set", .tup (ws.map (wyD ks)), c]] = .exc "BadOffer" := by
  have nc := is_num hc 0 100000
  have wt : ∀ q ∈ ws.map (wyD ks), wide 8 q = true := fun q hq => by
    obtain ⟨w, hm, rfl⟩ := List.mem_map.mp hq
    have := t_str (nm_lt (h.nm _ (List.mem_of_getElem? (ks_at (hw w hm).1))))
    simp [wyD, wide, wides, this, (hw w hm).2]
  have wa : wide 9 (.tup (ws.map (wyD ks))) = true := wide_t wt
  have iw := is_wants_w wa
  have wb : wantsB (.tup (ws.map (wyD ks))) = true := by
    show (ws.map (wyD ks)).all pairB = true
    rw [List.all_map, List.all_eq_true]
    intro w _
    rfl
  rw [wb] at iw
  have il : ∀ w ∈ ws, w.1 < ks.length := fun w hm => (hw w hm).1
  have si := soundL_iff h ws [] il (fun _ q => nomatch q) (by simp)
  rw [List.map_nil, List.nil_append] at si
  have ll : (ws.map (wyD ks)).length = ws.length := by simp
  by_cases l5 : 1 ≤ ws.length ∧ ws.length ≤ 5
  · have a1 : decide ((1 : Int) ≤ (ws.length : Int)) = true := by simp; omega
    have a2 : decide ((ws.length : Int) ≤ (5 : Int)) = true := by simp; omega
    cases bc : numB c 0 100000 with
    | false =>
      rw [bc] at nc
      generalize ws.map (wyD ks) = Q at *
      unfold f_need_parts u_need_parts start
      simp [iw, ll, a1, a2, nc]
    | true =>
      rw [bc] at nc
      have sf : ¬ (soundL [] (ws.map (wyD ks)) = true) := by
        intro z
        have e : setB (.tup (ws.map (wyD ks))) c = (decide (1 ≤ (ws.map (wyD ks)).length ∧ (ws.map (wyD ks)).length ≤ 5) && (numB c 0 100000 && soundL [] (ws.map (wyD ks)))) := rfl
        rw [e, ll, decide_eq_true l5, bc, z] at hb
        exact absurd hb (by decide)
      rw [si] at sf
      by_cases nums : ∀ w ∈ ws, numB w.2 1 9 = true
      · have nd : ¬ (ws.map (·.1)).Nodup := fun z => sf ⟨nums, z⟩
        have loop := fun e0 => forF_all (g := G.one 1) (ws := [1]) (body := S.drop (E.app f_need (E.cons (E.app f_is_number (E.cons (E.bin dIx (E.var 1) (E.c (.int 1))) (E.cons (E.c (.int 1)) (E.cons (E.c (.int 9)) E.nil)))) E.nil))) (wyD ks) [e0, .no, .no, .no] ws fun w hm => by
          have n := is_num (hw w hm).2 1 9
          rw [nums w hm] at n
          rw [turn1]
          simp [n]
        have nin := (set_names (n := 8) (c := c) wa (fun qs e => by cases e; rw [ll]; omega)).1
        have fs : firsts (.tup (ws.map (wyD ks))) = (ws.map (·.1)).map (nmD ks) := by
          have := firsts_ps (ws.map fun w => (nmD ks w.1, w.2))
          rw [List.map_map, List.map_map] at this
          rw [List.map_map]
          exact this
        rw [fs] at nin
        have iL' : ∀ i ∈ ws.map (·.1), i < ks.length := fun i hi => by
          obtain ⟨w, hm, rfl⟩ := List.mem_map.mp hi
          exact il w hm
        have cnt : ∀ e0 e1, compF (G.one 3) (E.tst (E.bin dGt (E.mth dCount (E.var 2) (E.var 3)) (E.c (.int 1)))) (E.var 3) [e0, e1, .sh (.lst ((ws.map (·.1)).map (nmD ks))), .no] ((ws.map (·.1)).map (nmD ks)) = .ok (((ws.map (·.1)).filter fun i => decide (1 < (ws.map (·.1)).count i)).map (nmD ks)) := fun e0 e1 => by
          refine compF_map (nmD ks) (fun i => decide (1 < (ws.map (·.1)).count i)) (nmD ks) _ fun i hi => ⟨_, rfl, ?_, fun _ => by simp⟩
          have := count_at h iL' (iL' i hi)
          generalize (ws.map (·.1)).map (nmD ks) = Q at *
          generalize (ws.map (·.1)).count i = k at *
          simp [this]
          omega
        have ne : 0 < ((ws.map (·.1)).filter fun i => decide (1 < (ws.map (·.1)).count i)).length := by
          refine List.length_pos_iff.mpr fun z => nd ?_
          rw [List.filter_eq_nil_iff] at z
          rw [List.nodup_iff_count]
          intro a
          by_cases m : a ∈ ws.map (·.1)
          · have := z a m
            simp at this
            omega
          · rw [List.count_eq_zero_of_not_mem m]
            omega
        have nz : ((((ws.map (·.1)).filter fun i => decide (1 < (ws.map (·.1)).count i)).length : Int) == 0) = false := by
          rw [beq_eq_false_iff_ne]
          omega
        have l1 : ((ws.map (·.1)).map (nmD ks)).length ≤ LINE := le_line (by simp; omega)
        have l2 : (((ws.map (·.1)).filter fun i => decide (1 < (ws.map (·.1)).count i)).map (nmD ks)).length = ((ws.map (·.1)).filter fun i => decide (1 < (ws.map (·.1)).count i)).length := by simp
        generalize (ws.map (·.1)).filter (fun i => decide (1 < (ws.map (·.1)).count i)) = F at *
        generalize F.map (nmD ks) = F2 at *
        generalize (ws.map (·.1)).map (nmD ks) = L at *
        generalize ws.map (wyD ks) = Q at *
        unfold f_need_parts u_need_parts start
        simp [iw, ll, a1, a2, nc, loop, nin, cnt, l1, l2, nz]
      · have any : ws.any (fun w => !numB w.2 1 9) = true := by
          rw [← Bool.not_eq_false', ← List.all_eq_not_any_not, Bool.eq_false_iff]
          intro z
          exact nums (List.all_eq_true.mp z)
        have loop := fun e0 => forF_ex (g := G.one 1) (ws := [1]) (body := S.drop (E.app f_need (E.cons (E.app f_is_number (E.cons (E.bin dIx (E.var 1) (E.c (.int 1))) (E.cons (E.c (.int 1)) (E.cons (E.c (.int 9)) E.nil)))) E.nil))) (wyD ks) [e0, .no, .no, .no] (fun w => !numB w.2 1 9) "BadOffer" ws (fun w hm q => by
          have n := is_num (hw w hm).2 1 9
          rw [show numB w.2 1 9 = false by simpa using q] at n
          rw [turn1]
          simp [n]) (fun w hm q => by
          have n := is_num (hw w hm).2 1 9
          rw [show numB w.2 1 9 = true by simpa using q] at n
          rw [turn1]
          simp [n]) any
        obtain ⟨ρ', loop⟩ := loop (.sh (.tup [.str "set", .tup (ws.map (wyD ks)), c]))
        generalize ws.map (wyD ks) = Q at *
        unfold f_need_parts u_need_parts start
        simp [iw, ll, a1, a2, nc, loop]
  · have e : (decide ((1 : Int) ≤ (ws.length : Int)) && decide ((ws.length : Int) ≤ (5 : Int))) = false := by
      rw [Bool.and_eq_false_iff, decide_eq_false_iff_not, decide_eq_false_iff_not]
      omega
    generalize ws.map (wyD ks) = Q at *
    unfold f_need_parts u_need_parts start
    simp [iw, ll, e]
theorem need_nowants {a c : D} (ha : wide 9 a = true) (hw : wantsB a = false) : f_need_parts [.tup [.str "set", a, c]] = .exc "BadOffer" := by
  have iw := is_wants_w (n := 8) ha
  rw [hw] at iw
  unfold f_need_parts u_need_parts start
  simp [iw]
theorem vd_set {a c : D} (ha : wide 9 a = true) (hc : wide 9 c = true) (hl : ∀ qs, a = .tup qs → qs.length < 900 ∧ ∀ n y, .tup [n, y] ∈ qs → flat n = true) : Vd ks (.tup [.str "set", a, c]) := by
  have sn := set_names (n := 8) (c := c) ha fun qs e => by have := (hl qs e).1; omega
  have ls := law_sound_set ha hc hl
  cases w : wantsB a with
  | false =>
    have ff : firsts a = [] := by
      unfold firsts
      split
      · rename_i qs
        have w' : qs.all pairB = false := w
        rw [w']
        rfl
      · rfl
    have sb : setB a c = false := by
      by_cases t : ∃ qs, a = .tup qs
      · obtain ⟨qs, rfl⟩ := t
        have e : setB (.tup qs) c = (decide (1 ≤ qs.length ∧ qs.length ≤ 5) && (numB c 0 100000 && soundL [] qs)) := rfl
        have sl : ∀ (qs N : List D), qs.all pairB = false → soundL N qs = false := fun qs => by
          induction qs with
          | nil => intro N z; exact absurd z (by decide)
          | cons q qs ih =>
            intro N z
            rw [List.all_cons] at z
            cases pq : pairB q with
            | false => exact soundL_non pq
            | true =>
              rw [pq, Bool.true_and] at z
              obtain ⟨p, rfl⟩ := pair_of pq
              show (numB p.2 1 9 && (!(N.any fun z => eqF z p.1) && soundL (N ++ [p.1]) qs)) = false
              rw [ih _ z]
              simp
        rw [e, sl qs [] w]
        simp
      · exact setB_not t c
    rw [ff] at sn
    rw [sb] at ls
    exact formed h (.inr (.inr (.inl rfl))) (by rw [ask_set]; rfl) (L := []) (by simp) (fun _ q => nomatch q) sn.1 sn.2 (fun z => by simp at z) fun _ => .inr ⟨need_nowants h ha w, ls⟩
  | true =>
    obtain ⟨qs, rfl⟩ : ∃ qs, a = .tup qs := by
      by_cases t : ∃ qs, a = .tup qs
      · exact t
      · exfalso
        unfold wantsB at w
        split at w
        · exact t ⟨_, rfl⟩
        · cases w
    obtain ⟨ps, rfl⟩ := pairs_of (show qs.all pairB = true from w)
    rw [firsts_ps] at sn
    have lp := (hl _ rfl).1
    rw [List.length_map] at lp
    have wp : ∀ p ∈ ps, wide 7 p.1 = true ∧ wide 7 p.2 = true := fun p hp => by
      have := wide_tm (wide_tm ha (pqD p) (List.mem_map.mpr ⟨p, hp, rfl⟩))
      exact ⟨this _ (by simp), this _ (by simp)⟩
    refine formed h (.inr (.inr (.inl rfl))) (by rw [ask_set]; rfl) (L := ps.map (·.1)) (by simp; omega) (fun x hx => ?_) sn.1 sn.2 (fun z => ?_) fun al => ?_
    · obtain ⟨p, hp, rfl⟩ := List.mem_map.mp hx
      exact wide_le (by decide) (wp p hp).1
    · cases ps with
      | nil => simp at z
      | cons p ps => exact .set p ps c
    · obtain ⟨ws, hws, ews⟩ : ∃ ws : List (Nat × D), (∀ w ∈ ws, w.1 < ks.length ∧ wide 7 w.2 = true) ∧ ps.map pqD = ws.map (wyD ks) := by
        clear ha hl w sn ls lp
        induction ps with
        | nil => exact ⟨[], fun _ q => (nomatch q), rfl⟩
        | cons p ps ih =>
          obtain ⟨ws, h1, h2⟩ := ih (fun q hq => wp q (List.mem_cons_of_mem _ hq)) fun x hx => al x (by rw [List.map_cons]; exact List.mem_cons_of_mem _ hx)
          obtain ⟨i, hi, e⟩ := al p.1 (by simp)
          refine ⟨(i, p.2) :: ws, fun u hu => ?_, ?_⟩
          · rcases List.mem_cons.mp hu with rfl | hu
            · exact ⟨hi, (wp p List.mem_cons_self).2⟩
            · exact h1 u hu
          · rw [List.map_cons, List.map_cons, h2]
            show D.tup [p.1, p.2] :: _ = D.tup [nmD ks i, p.2] :: _
            rw [e]
      have lw : ws.length = ps.length := by
        have := congrArg List.length ews
        simpa using this.symm
      rw [ews] at ls ⊢
      cases sb : setB (.tup (ws.map (wyD ks))) c with
      | false =>
        rw [sb] at ls
        exact .inr ⟨need_set h hws hc (by omega) sb, ls⟩
      | true =>
        have e : setB (.tup (ws.map (wyD ks))) c = (decide (1 ≤ (ws.map (wyD ks)).length ∧ (ws.map (wyD ks)).length ≤ 5) && (numB c 0 100000 && soundL [] (ws.map (wyD ks)))) := rfl
        rw [e, List.length_map, Bool.and_eq_true, Bool.and_eq_true, decide_eq_true_eq] at sb
        obtain ⟨⟨b1, b2⟩, b3, b4⟩ := sb
        obtain ⟨k, rfl, k0, k1⟩ := num_of b3
        have si := (soundL_iff h ws [] (fun w hm => (hws w hm).1) (fun _ q => nomatch q) (by simp)).mp b4
        obtain ⟨vs, ev, hv⟩ := ints_of ws si.1
        have ls1 : f__law_sound [.tup [.str "set", .tup (ws.map (wyD ks)), .int k]] = .ok (.bl true) := by
          rw [ls, e, List.length_map, decide_eq_true ⟨b1, b2⟩, b3, b4]
          rfl
        clear ls e
        subst ev
        refine .inl ⟨.set vs k, ⟨by simpa using b1, by simpa using b2, fun v hm => ⟨(hws (v.1, .int v.2) (List.mem_map.mpr ⟨v, hm, rfl⟩)).1, hv v hm⟩, ?_, k0, k1⟩, ?_, ls1⟩
        · have := si.2
          rw [List.nil_append, List.map_map] at this
          exact this
        · show _ = D.tup [.str "set", .tup (vs.map (wD ks)), .int k]
          rw [List.map_map]
          rfl
end
end TB
namespace TB
open PySem PySem.Spec PyProof.Rows L2

/-! ### all offers that are asked -/
structure Part (m : Nat) (d : D) : Prop where
  w : wide 4 d = true
  s : ∀ l, d = .str (T l) → l.length ≤ m ∧ ∀ c ∈ l, c < 128
  q : ∀ qs, d = .tup qs → qs.length ≤ m ∧ ∀ n y, .tup [n, y] ∈ qs → flat n = true
inductive Off (m : Nat) : D → Prop
  | no {x : D} : dIsi "tuple" x = .ok (.bl false) → Off m x
  | tup {ps : List D} : ps.length ≤ 6 → (∀ p ∈ ps, Part m p) → Off m (.tup ps)
theorem Part.le {m n : Nat} (h : m ≤ n) {d : D} (p : Part m d) : Part n d := ⟨p.w, fun l e => ⟨Nat.le_trans (p.s l e).1 h, (p.s l e).2⟩, fun qs e => ⟨Nat.le_trans (p.q qs e).1 h, (p.q qs e).2⟩⟩
theorem part_int (m : Nat) (i : Int) : Part m (.int i) := ⟨by simp [wide], (fun _ e => by cases e), (fun _ e => by cases e)⟩
theorem part_bl (m : Nat) (i : Bool) : Part m (.bl i) := ⟨by simp [wide], (fun _ e => by cases e), (fun _ e => by cases e)⟩
theorem part_non (m : Nat) : Part m .non := ⟨by simp [wide], (fun _ e => by cases e), (fun _ e => by cases e)⟩
theorem part_T {m : Nat} {l : List Nat} (h : l.length ≤ m) (hc : ∀ c ∈ l, c < 128) : Part m (.str (T l)) := ⟨by
  simp only [wide]
  exact t_str fun c hx => by have := hc c hx; omega, fun l' e => by
  have e' : T l = T l' := by injection e
  rw [← T_inj e']
  exact ⟨h, hc⟩, (fun _ e => by cases e)⟩
theorem part_t {m : Nat} {qs : List D} (h : qs.length ≤ m) (w : ∀ q ∈ qs, wide 3 q = true) (f : ∀ n y, .tup [n, y] ∈ qs → flat n = true) : Part m (.tup qs) := ⟨wide_t w, (fun _ e => by cases e), fun qs' e => by
  cases e
  exact ⟨h, f⟩⟩
theorem off_vd {ks : Ks} (h : Kinds ks) {m : Nat} (hm : m < 900) {x : D} (o : Off m x) : Vd ks x := by
  cases o with
  | no e => exact vd_nf (nf_isi e)
  | @tup ps hl hp =>
    cases ps with
    | nil => exact vd_nf nf_nil
    | cons p ps =>
      have pp := hp p List.mem_cons_self
      by_cases hs : ∃ z, p = .str z
      · obtain ⟨z, rfl⟩ := hs
        by_cases ht : z = "more" ∨ z = "slip" ∨ z = "set" ∨ z = "share"
        · by_cases len : ps.length + 1 = askL z
          · have w9 : ∀ q ∈ ps, wide 9 q = true := fun q hq => wide_le (by decide) (hp q (List.mem_cons_of_mem _ hq)).w
            rcases ht with rfl | rfl | rfl | rfl
            · rw [ask_more] at len
              match ps, len, w9 with
              | [a, b, c], _, w9 => exact vd_more h (w9 a (by simp)) (w9 b (by simp)) (w9 c (by simp))
            · rw [ask_slip] at len
              match ps, len, w9 with
              | [a, b, c], _, w9 => exact vd_slip h (w9 a (by simp)) (w9 b (by simp)) (w9 c (by simp))
            · rw [ask_set] at len
              match ps, len, w9, hp with
              | [a, c], _, w9, hp =>
                exact vd_set h (w9 a (by simp)) (w9 c (by simp)) fun qs e => ⟨by have := ((hp a (by simp)).q qs e).1; omega, ((hp a (by simp)).q qs e).2⟩
            · rw [ask_share] at len
              match ps, len, w9 with
              | [a, b], _, w9 => exact vd_share h (w9 a (by simp)) (w9 b (by simp))
          · exact vd_nf (nf_len ht len)
        · exact vd_nf (nf_tag ht)
      · refine vd_nf (nf_first ?_)
        have w := pp.w
        cases p <;> simp only [wide] at w <;> first | cases w; done | exact absurd ⟨_, rfl⟩ hs | simp [subT]
theorem nm_part {ks : Ks} (h : Kinds ks) {i : Nat} (hi : i < ks.length) : Part 9 (nmD ks i) := by
  have nm : Nm (nAt ks i) := h.nm _ (List.mem_of_getElem? (ks_at hi))
  have := nm.most
  exact part_T (by show (nAt ks i).length ≤ 9; omega) fun c hc => by
    have := nm.lt c hc
    omega
theorem s_more : ("more" : Str) = T [109, 111, 114, 101] := by decide +kernel
theorem s_slip : ("slip" : Str) = T [115, 108, 105, 112] := by decide +kernel
theorem s_set : ("set" : Str) = T [115, 101, 116] := by decide +kernel
theorem s_share : ("share" : Str) = T [115, 104, 97, 114, 101] := by decide +kernel
theorem p_more : Part 9 (.str "more") := by rw [s_more]; exact part_T (by decide) (by decide)
theorem p_slip : Part 9 (.str "slip") := by rw [s_slip]; exact part_T (by decide) (by decide)
theorem p_set : Part 9 (.str "set") := by rw [s_set]; exact part_T (by decide) (by decide)
theorem p_share : Part 9 (.str "share") := by rw [s_share]; exact part_T (by decide) (by decide)
theorem off_of {ks : Ks} (h : Kinds ks) {o : Of} (ho : OfOk ks.length o) : Off 9 (ofD ks o) ∧ Form (ofD ks o) := by
  cases o with
  | more i m c =>
    refine ⟨.tup (by simp) fun p hp => ?_, .more _ _ _⟩
    simp only [List.mem_cons, List.not_mem_nil, or_false] at hp
    rcases hp with rfl | rfl | rfl | rfl
    · exact p_more
    · exact nm_part h ho.1
    · exact part_int _ _
    · exact part_int _ _
  | slip i j d =>
    refine ⟨.tup (by simp) fun p hp => ?_, .slip _ _ _⟩
    simp only [List.mem_cons, List.not_mem_nil, or_false] at hp
    rcases hp with rfl | rfl | rfl | rfl
    · exact p_slip
    · exact nm_part h ho.1
    · exact nm_part h ho.2.1
    · exact part_int _ _
  | share i p =>
    refine ⟨.tup (by simp) fun p hp => ?_, .share _ _⟩
    simp only [List.mem_cons, List.not_mem_nil, or_false] at hp
    rcases hp with rfl | rfl | rfl
    · exact p_share
    · exact nm_part h ho.1
    · exact part_int _ _
  | set ws c =>
    obtain ⟨h1, h2, h3, _⟩ := ho
    refine ⟨.tup (by simp) fun p hp => ?_, ?_⟩
    · simp only [List.mem_cons, List.not_mem_nil, or_false] at hp
      rcases hp with rfl | rfl | rfl
      · exact p_set
      · refine part_t (by simp; omega) (fun q hq => ?_) fun n y hm => ?_
        · obtain ⟨w, hw, rfl⟩ := List.mem_map.mp hq
          have := (nm_part h (h3 w hw).1).w
          exact wide_t fun d hd => by
            simp only [List.mem_cons, List.not_mem_nil, or_false] at hd
            rcases hd with rfl | rfl
            · simp only [wide] at this ⊢
              exact this
            · simp [wide]
        · obtain ⟨w, hw, e⟩ := List.mem_map.mp hm
          cases e
          rfl
      · exact part_int _ _
    · cases ws with
      | nil => exact absurd h1 (by decide)
      | cons w ws =>
        have := Form.set (nmD ks w.1, .int w.2) (ws.map fun w => (nmD ks w.1, .int w.2)) (.int c)
        rw [List.map_cons, List.map_map] at this
        exact this
/-! ### a changed offer -/
noncomputable def u_ch : Ev → Out := (S.seq (S.ifs (E.tst (E.bin dEq (E.var 2) (E.c (.int 0)))) (S.ret (E.bin dAddT (E.slice (E.slice (E.ofL (E.lst (E.cons (E.c (.str "sets")) (E.cons (E.c (.str "")) (E.cons (E.c (.int 5)) (E.cons (E.c (.str "More")) E.nil)))))) (E.o1 (E.bin dMod (E.bin dDiv (E.var 1) (E.c (.int 64))) (E.c (.int 4)))) E.o0) E.o0 (E.o1 (E.c (.int 1)))) (E.ofL (E.lst (E.cons (E.var 0) E.nil))))) S.skip)
    (S.seq (S.ifs (E.tst (E.bin dEq (E.var 2) (E.c (.int 1)))) (S.ret (E.bin dAddT (E.tup (E.cons (E.bin dIx (E.ofL (E.lst (E.cons (E.c (.str "sets")) (E.cons (E.c (.str "")) (E.cons (E.c (.int 5)) (E.cons (E.c (.str "More")) E.nil)))))) (E.bin dMod (E.bin dDiv (E.var 1) (E.c (.int 64))) (E.c (.int 4)))) E.nil)) (E.slice (E.var 0) (E.o1 (E.c (.int 1))) E.o0))) S.skip)
    (S.seq (S.ifs (E.tst (E.bin dEq (E.var 2) (E.c (.int 2)))) (S.ret (E.bin dAddT (E.slice (E.var 0) E.o0 (E.o1 (E.var 3))) (E.slice (E.var 0) (E.o1 (E.bin dAddT (E.var 3) (E.c (.int 1)))) E.o0))) S.skip)
    (S.seq (S.ifs (E.tst (E.bin dEq (E.var 2) (E.c (.int 3)))) (S.ret (E.bin dAddT (E.var 0) (E.tup (E.cons (E.c (.int 1)) E.nil)))) S.skip)
    (S.seq (S.ifs (E.band (E.tst (E.bin dEq (E.var 2) (E.c (.int 4)))) (E.tst (E.bin dEq (E.bin dIx (E.var 0) (E.c (.int 0))) (E.c (.str "set"))))) (S.ret (E.tup (E.cons (E.c (.str "set")) (E.cons (E.bin dAddT (E.bin dIx (E.var 0) (E.c (.int 1))) (E.slice (E.bin dIx (E.var 0) (E.c (.int 1))) E.o0 (E.o1 (E.c (.int 1))))) (E.cons (E.bin dIx (E.var 0) (E.c (.int 2))) E.nil))))) S.skip)
    (S.seq (S.ifs (E.band (E.tst (E.bin dEq (E.var 2) (E.c (.int 5)))) (E.tst (E.bin dEq (E.bin dIx (E.var 0) (E.c (.int 0))) (E.c (.str "set"))))) (S.ret (E.tup (E.cons (E.c (.str "set")) (E.cons (E.bin dAddT (E.tup (E.cons (E.tup (E.cons (E.bin dIx (E.bin dIx (E.bin dIx (E.var 0) (E.c (.int 1))) (E.c (.int 0))) (E.c (.int 0))) (E.cons (E.var 4) E.nil))) E.nil)) (E.slice (E.bin dIx (E.var 0) (E.c (.int 1))) (E.o1 (E.c (.int 1))) E.o0)) (E.cons (E.bin dIx (E.var 0) (E.c (.int 2))) E.nil))))) S.skip)
    (S.seq (S.ifs (E.band (E.tst (E.bin dEq (E.var 2) (E.c (.int 6)))) (E.tst (E.bin dEq (E.bin dIx (E.var 0) (E.c (.int 0))) (E.c (.str "slip"))))) (S.ret (E.tup (E.cons (E.c (.str "slip")) (E.cons (E.bin dIx (E.var 0) (E.c (.int 1))) (E.cons (E.bin dIx (E.var 0) (E.c (.int 1))) (E.cons (E.bin dIx (E.var 0) (E.c (.int 3))) E.nil)))))) S.skip)
    (S.seq (S.ifs (E.band (E.tst (E.bin dEq (E.var 2) (E.c (.int 4)))) (E.band (E.tst (E.bin dNe (E.bin dIx (E.var 0) (E.c (.int 0))) (E.c (.str "set")))) (E.tst (E.un (dIsi "str") (E.bin dIx (E.var 0) (E.c (.int 1))))))) (S.seq (S.asg false 5 (E.bin dIx (E.var 0) (E.c (.int 1))))
    (S.seq (S.asg false 6 (E.bin dIx (E.ofL (E.lst (E.cons (E.un dUpper (E.var 5)) (E.cons (E.bin dAddT (E.var 5) (E.c (.str " "))) (E.cons (E.bin dAddT (E.c (.str " ")) (E.var 5)) (E.cons (E.bin dAddT (E.var 5) (E.var 5)) (E.cons (E.bin dAddT (E.slice (E.var 5) E.o0 (E.o1 (E.c (.int 1)))) (E.var 5)) E.nil))))))) (E.bin dMod (E.bin dDiv (E.var 1) (E.c (.int 8))) (E.c (.int 5)))))
    (S.ret (E.bin dAddT (E.tup (E.cons (E.bin dIx (E.var 0) (E.c (.int 0))) (E.cons (E.var 6) E.nil))) (E.slice (E.var 0) (E.o1 (E.c (.int 2))) E.o0))))) S.skip)
    (S.seq (S.ifs (E.band (E.tst (E.bin dGt (E.var 2) (E.c (.int 3)))) (E.tst (E.bin dEq (E.bin dIx (E.var 0) (E.c (.int 0))) (E.c (.str "more"))))) (S.ret (E.bin dIx (E.ofL (E.lst (E.cons (E.bin dAddT (E.slice (E.var 0) E.o0 (E.o1 (E.c (.int 3)))) (E.tup (E.cons (E.bin dIx (E.var 0) (E.c (.int 2))) E.nil))) (E.cons (E.tup (E.cons (E.c (.str "more")) (E.cons (E.c (.str "zzzzzzzzz")) (E.cons (E.c (.int 5)) (E.cons (E.c (.int 5)) E.nil))))) (E.cons (E.tup (E.cons (E.c (.str "more")) (E.cons (E.bin dIx (E.var 0) (E.c (.int 1))) (E.cons (E.c (.int 1)) (E.cons (E.c (.int 1)) E.nil))))) E.nil))))) (E.bin dMod (E.var 2) (E.c (.int 3))))) S.skip)
    (S.seq (S.ifs (E.tst (E.bin dEq (E.var 2) (E.c (.int 7)))) (S.ret (E.bin dAddT (E.bin dAddT (E.tup (E.cons (E.bin dIx (E.var 0) (E.c (.int 0))) E.nil)) (E.app dTuple (E.cons (E.ofL (E.comp [7] (E.iter (E.slice (E.var 0) (E.o1 (E.c (.int 1))) (E.o1 (E.un dNeg (E.c (.int 1)))))) (G.one 7) yes (E.c (.str "zzzzzzzzz")))) E.nil))) (E.tup (E.cons (E.un dNeg (E.c (.int 1))) E.nil)))) S.skip)
    (S.ret (E.bin dAddT (E.bin dAddT (E.slice (E.var 0) E.o0 (E.o1 (E.var 3))) (E.tup (E.cons (E.var 4) E.nil))) (E.slice (E.var 0) (E.o1 (E.bin dAddT (E.var 3) (E.c (.int 1)))) E.o0)))))))))))))
end TB
namespace TB
open PySem PySem.Spec PyProof.Rows L2
/-! ### a changed offer, kind by kind -/
@[simp] theorem tupB_0 : R.tupB (.ok []) = .ok (.tup []) := R.tupB_ok (by show 0 ≤ 1000000; decide)
@[simp] theorem addT_i (i j : Int) : dAddT (.int i) (.int j) = .ok (.int (i + j)) := (rfl)
theorem addT_t {xs ys : List D} (h : xs.length + ys.length < 1000) : dAddT (.tup xs) (.tup ys) = .ok (.tup (xs ++ ys)) := if_pos (le_line (by omega))
theorem addT_l {xs ys : List D} (h : xs.length + ys.length < 1000) : dAddT (.lst xs) (.lst ys) = .ok (.lst (xs ++ ys)) := if_pos (le_line (by omega))
theorem addT_s {a b : List Nat} (h : a.length + b.length < 100000) : dAddT (.str (T a)) (.str (T b)) = .ok (.str (T (a ++ b))) := add_TT h
theorem slice_toT {ds : List D} (p : Nat) : R.sliceB (.ok (.tup ds)) (.ok none) (.ok (some (p : Int))) = .ok (.tup (ds.take p)) := by
  show R.ok (D.tup ((ds.drop (HT.sIx ds.length 0 none)).take (HT.sIx ds.length ds.length (some (p : Int)) - HT.sIx ds.length 0 none))) = _
  rw [HT.sIx_nat, HT.sIx_none]
  congr 2
  simp [List.take_eq_take_iff]
theorem slice_fromT {ds : List D} (p : Nat) : R.sliceB (.ok (.tup ds)) (.ok (some (p : Int))) (.ok none) = .ok (.tup (ds.drop p)) := by
  show R.ok (D.tup ((ds.drop (HT.sIx ds.length 0 (some (p : Int)))).take (HT.sIx ds.length ds.length none - HT.sIx ds.length 0 (some (p : Int))))) = _
  rw [HT.sIx_nat, HT.sIx_none, List.take_of_length_le (by simp)]
  congr 2
  by_cases h : p ≤ ds.length
  · rw [Nat.min_eq_left h]
  · rw [Nat.min_eq_right (by omega), List.drop_of_length_le (Nat.le_refl _), List.drop_of_length_le (by omega)]
theorem slice_toL {ds : List D} (p : Nat) : R.sliceB (.ok (.lst ds)) (.ok none) (.ok (some (p : Int))) = .ok (.lst (ds.take p)) := by
  show R.ok (D.lst ((ds.drop (HT.sIx ds.length 0 none)).take (HT.sIx ds.length ds.length (some (p : Int)) - HT.sIx ds.length 0 none))) = _
  rw [HT.sIx_nat, HT.sIx_none]
  congr 2
  simp [List.take_eq_take_iff]
theorem slice_fromL {ds : List D} (p : Nat) : R.sliceB (.ok (.lst ds)) (.ok (some (p : Int))) (.ok none) = .ok (.lst (ds.drop p)) := by
  show R.ok (D.lst ((ds.drop (HT.sIx ds.length 0 (some (p : Int)))).take (HT.sIx ds.length ds.length none - HT.sIx ds.length 0 (some (p : Int))))) = _
  rw [HT.sIx_nat, HT.sIx_none, List.take_of_length_le (by simp)]
  congr 2
  by_cases h : p ≤ ds.length
  · rw [Nat.min_eq_left h]
  · rw [Nat.min_eq_right (by omega), List.drop_of_length_le (Nat.le_refl _), List.drop_of_length_le (by omega)]
theorem lst_3 (a b c : D) : R.lstB (.ok [a, b, c]) = .ok [a, b, c] := R.lstB_ok (by show 3 ≤ 1000000; decide)
theorem lst_4 (a b c d : D) : R.lstB (.ok [a, b, c, d]) = .ok [a, b, c, d] := R.lstB_ok (by show 4 ≤ 1000000; decide)
theorem lst_5 (a b c d e : D) : R.lstB (.ok [a, b, c, d, e]) = .ok [a, b, c, d, e] := R.lstB_ok (by show 5 ≤ 1000000; decide)
theorem lst_11 (a b c d e f g h i j k : D) : R.lstB (.ok [a, b, c, d, e, f, g, h, i, j, k]) = .ok [a, b, c, d, e, f, g, h, i, j, k] := R.lstB_ok (by show 11 ≤ 1000000; decide)
theorem s_nil : ("" : Str) = T [] := by decide +kernel
theorem s_sets : ("sets" : Str) = T [115, 101, 116, 115] := by decide +kernel
theorem s_More : ("More" : Str) = T [77, 111, 114, 101] := by decide +kernel
theorem s_sp : (" " : Str) = T [32] := by decide +kernel
theorem s_z9 : ("zzzzzzzzz" : Str) = T (List.replicate 9 122) := by decide +kernel
theorem p_z9 (m : Nat) (h : 9 ≤ m) : Part m (.str "zzzzzzzzz") := by
  rw [s_z9]
  exact part_T (by simpa using h) (by decide)
theorem w_z9 (n : Nat) : wide n (.str "zzzzzzzzz") = true := wide_le (Nat.zero_le n) (by rw [s_z9]; simp only [wide]; exact t_str (by decide))
theorem ok_z9 : PyData.strOk ("zzzzzzzzz" : Str) = true := by rw [s_z9]; exact t_str (by decide)
abbrev st (ps : List D) (n k : Int) (A : Nat) (bad : D) : Ev := [.sh (.tup ps), .sh (.int n), .sh (.int k), .sh (.int A), .sh bad, .no, .no, .no]
theorem ch_pre {ps : List D} (hl : 1 ≤ ps.length) {n : Int} (n0 : 0 ≤ n) : ∃ (A : Nat) (bad : D), A < ps.length ∧ Part 9 bad ∧ wide 2 bad = true ∧ f__law_changed [.tup ps, .int n] = fin (u_ch (st ps n (n % 8) A bad)) := by
  have h0 := Int.emod_nonneg (n / 8) (show (ps.length : Int) ≠ 0 by omega)
  have h1 := Int.emod_lt_of_pos (n / 8) (show (0 : Int) < ps.length by omega)
  obtain ⟨A, hA, eA⟩ : ∃ A : Nat, A < ps.length ∧ n / 8 % (ps.length : Int) = A := ⟨(n / 8 % (ps.length : Int)).toNat, by omega, by omega⟩
  have m8 : dMod (.int n) (.int 8) = .ok (.int (n % 8)) := mod_ii (by decide)
  have d8 : dDiv (.int n) (.int 8) = .ok (.int (n / 8)) := div_ii (by decide)
  have ml : dMod (.int (n / 8)) (.int (ps.length : Int)) = .ok (.int A) := by rw [mod_ii (by omega), eA]
  have d64 : dDiv (.int n) (.int 64) = .ok (.int (n / 64)) := div_ii (by decide)
  have m11 : dMod (.int (n / 64)) (.int 11) = .ok (.int (n / 64 % 11)) := mod_ii (by decide)
  obtain ⟨bad, pb, wb, eb⟩ : ∃ bad : D, Part 9 bad ∧ wide 2 bad = true ∧ dIx (.lst [.int 0, .int (-1), .int 10, .int 101, .int 100001, .bl true, .non, .str "zzzzzzzzz", .tup [], .tup [.tup []], .tup [.tup [.str "zzzzzzzzz", .int 1], .int 5]]) (.int (n / 64 % 11)) = .ok bad := by
    have z0 := Int.emod_nonneg (n / 64) (show (11 : Int) ≠ 0 by decide)
    have z1 := Int.emod_lt_of_pos (n / 64) (show (0 : Int) < 11 by decide)
    generalize n / 64 % 11 = z at *
    obtain ⟨j, rfl⟩ : ∃ j : Nat, z = j := ⟨z.toNat, by omega⟩
    rcases (show j = 0 ∨ j = 1 ∨ j = 2 ∨ j = 3 ∨ j = 4 ∨ j = 5 ∨ j = 6 ∨ j = 7 ∨ j = 8 ∨ j = 9 ∨ j = 10 by omega) with rfl | rfl | rfl | rfl | rfl | rfl | rfl | rfl | rfl | rfl | rfl
    · exact ⟨_, part_int _ _, by simp [wide], ix_ln rfl⟩
    · exact ⟨_, part_int _ _, by simp [wide], ix_ln rfl⟩
    · exact ⟨_, part_int _ _, by simp [wide], ix_ln rfl⟩
    · exact ⟨_, part_int _ _, by simp [wide], ix_ln rfl⟩
    · exact ⟨_, part_int _ _, by simp [wide], ix_ln rfl⟩
    · exact ⟨_, part_bl _ _, by simp [wide], ix_ln rfl⟩
    · exact ⟨_, part_non _, by simp [wide], ix_ln rfl⟩
    · exact ⟨_, p_z9 _ (by decide), w_z9 _, ix_ln rfl⟩
    · exact ⟨_, part_t (by decide) (by intro _ q; cases q) (by intro _ _ q; cases q), by simp [wide, wides], ix_ln rfl⟩
    · refine ⟨_, part_t (by decide) (fun d hd => ?_) (fun x y hm => ?_), by simp [wide, wides], ix_ln rfl⟩
      · rw [List.mem_singleton.mp hd]; simp [wide, wides]
      · have := List.mem_singleton.mp hm
        cases this
    · refine ⟨_, part_t (by decide) (fun d hd => ?_) (fun x y hm => ?_), by simp [wide, wides, ok_z9], ix_ln rfl⟩
      · simp only [List.mem_cons, List.not_mem_nil, or_false] at hd
        rcases hd with rfl | rfl <;> simp [wide, wides, ok_z9]
      · simp only [List.mem_cons, List.not_mem_nil, or_false] at hm
        rcases hm with e | e
        · cases e; rfl
        · cases e
  refine ⟨A, bad, hA, pb, wb, ?_⟩
  show fin (S.seq _ (S.seq _ (S.seq _ u_ch)) [.sh (.tup ps), .sh (.int n), .no, .no, .no, .no, .no, .no]) = _
  generalize u_ch = U at *
  simp [m8, d8, ml, d64, m11, lst_11, eb]
theorem four {n : Int} (n0 : 0 ≤ n) : ∃ B : Nat, B < 4 ∧ dDiv (.int n) (.int 64) = .ok (.int (n / 64)) ∧ dMod (.int (n / 64)) (.int 4) = .ok (.int B) := by
  have z0 := Int.emod_nonneg (n / 64) (show (4 : Int) ≠ 0 by decide)
  have z1 := Int.emod_lt_of_pos (n / 64) (show (0 : Int) < 4 by decide)
  exact ⟨(n / 64 % 4).toNat, by omega, div_ii (by decide), by rw [mod_ii (by decide)]; congr 2; omega⟩
abbrev L4 : List D := [.str "sets", .str "", .int 5, .str "More"]
theorem ch0 {ps : List D} {n : Int} (n0 : 0 ≤ n) (A : Nat) (bad : D) : ∃ x, u_ch (st ps n 0 A bad) = .rt x ∧ dIsi "tuple" x = .ok (.bl false) := by
  obtain ⟨B, hB, d, m⟩ := four n0
  have s1 := slice_fromL (ds := L4) B
  have s2 := slice_toL (ds := L4.drop B) 1
  rw [show ((1 : Nat) : Int) = 1 from rfl] at s2
  have ad : dAddT (.lst ((L4.drop B).take 1)) (.lst [.tup ps]) = .ok (.lst ((L4.drop B).take 1 ++ [.tup ps])) := addT_l (by
    have : ((L4.drop B).take 1).length ≤ 1 := by simp; omega
    simp only [List.length_cons, List.length_nil]
    omega)
  refine ⟨.lst ((L4.drop B).take 1 ++ [.tup ps]), ?_, by simp [subT]⟩
  generalize (L4.drop B).take 1 ++ [.tup ps] = R1 at *
  generalize (L4.drop B).take 1 = R2 at *
  generalize L4.drop B = R3 at *
  unfold u_ch
  simp [lst_4, d, m, s1, s2, ad]
theorem ch1 {ps : List D} {n : Int} (n0 : 0 ≤ n) (A : Nat) (bad : D) (hl : ps.length ≤ 6) : ∃ t, Part 9 t ∧ u_ch (st ps n 1 A bad) = .rt (.tup (t :: ps.drop 1)) := by
  obtain ⟨B, hB, d, m⟩ := four n0
  obtain ⟨t, pt, ht⟩ : ∃ t, Part 9 t ∧ dIx (.lst L4) (.int B) = .ok t := by
    rcases (show B = 0 ∨ B = 1 ∨ B = 2 ∨ B = 3 by omega) with rfl | rfl | rfl | rfl
    · exact ⟨_, by rw [s_sets]; exact part_T (by decide) (by decide), ix_ln rfl⟩
    · exact ⟨_, by rw [s_nil]; exact part_T (by decide) (fun _ q => (nomatch q)), ix_ln rfl⟩
    · exact ⟨_, part_int _ _, ix_ln rfl⟩
    · exact ⟨_, by rw [s_More]; exact part_T (by decide) (by decide), ix_ln rfl⟩
  have s1 := slice_fromT (ds := ps) 1
  rw [show ((1 : Nat) : Int) = 1 from rfl] at s1
  have ad : dAddT (.tup [t]) (.tup (ps.drop 1)) = .ok (.tup (t :: ps.drop 1)) := addT_t (by simp; omega)
  refine ⟨t, pt, ?_⟩
  generalize ps.drop 1 = R1 at *
  unfold u_ch
  simp [lst_4, d, m, ht, s1, ad]
theorem ch2 {ps : List D} {n : Int} (A : Nat) (bad : D) (hl : ps.length ≤ 6) : u_ch (st ps n 2 A bad) = .rt (.tup (ps.take A ++ ps.drop (A + 1))) := by
  have s1 := slice_toT (ds := ps) A
  have s2 := slice_fromT (ds := ps) (A + 1)
  rw [show (((A + 1 : Nat)) : Int) = (A : Int) + 1 by omega] at s2
  have ad : dAddT (.tup (ps.take A)) (.tup (ps.drop (A + 1))) = .ok (.tup (ps.take A ++ ps.drop (A + 1))) := addT_t (by simp; omega)
  generalize ps.take A ++ ps.drop (A + 1) = R1 at *
  generalize ps.take A = R2 at *
  generalize ps.drop (A + 1) = R3 at *
  unfold u_ch
  simp [s1, s2, ad]
theorem ch3 {ps : List D} {n : Int} (A : Nat) (bad : D) (hl : ps.length ≤ 6) : u_ch (st ps n 3 A bad) = .rt (.tup (ps ++ [.int 1])) := by
  have ad : dAddT (.tup ps) (.tup [.int 1]) = .ok (.tup (ps ++ [.int 1])) := addT_t (by simp; omega)
  generalize ps ++ [.int 1] = R1 at *
  unfold u_ch
  simp [ad]
theorem ch4set {q c : D} {qs : List D} {n : Int} (A : Nat) (bad : D) (hl : qs.length < 900) : u_ch (st [.str "set", .tup (q :: qs), c] n 4 A bad) = .rt (.tup [.str "set", .tup (q :: qs ++ [q]), c]) := by
  have s1 := slice_toT (ds := q :: qs) 1
  rw [show ((1 : Nat) : Int) = 1 from rfl, List.take_succ_cons, List.take_zero] at s1
  have ad : dAddT (.tup (q :: qs)) (.tup [q]) = .ok (.tup (q :: qs ++ [q])) := addT_t (by simp; omega)
  generalize q :: qs ++ [q] = R1 at *
  unfold u_ch
  simp [s1, ad]
theorem ch5set {a y c : D} {qs : List D} {n : Int} (A : Nat) (bad : D) (hl : qs.length < 900) : u_ch (st [.str "set", .tup (.tup [a, y] :: qs), c] n 5 A bad) = .rt (.tup [.str "set", .tup (.tup [a, bad] :: qs), c]) := by
  have s1 := slice_fromT (ds := .tup [a, y] :: qs) 1
  rw [show ((1 : Nat) : Int) = 1 from rfl, List.drop_succ_cons, List.drop_zero] at s1
  have ad : dAddT (.tup [.tup [a, bad]]) (.tup qs) = .ok (.tup (.tup [a, bad] :: qs)) := addT_t (by simp; omega)
  unfold u_ch
  simp [s1, ad]
theorem ch6slip {a b c : D} {n : Int} (A : Nat) (bad : D) : u_ch (st [.str "slip", a, b, c] n 6 A bad) = .rt (.tup [.str "slip", a, a, c]) := by
  unfold u_ch
  simp
theorem up_len {l : List Nat} (hc : ∀ c ∈ l, c < 128) (hl : l.length < 100000) : ∃ u : List Nat, dUpper (.str (T l)) = .ok (.str (T u)) ∧ (∀ c ∈ u, c < 128) ∧ u.length = l.length := by
  have e : Txt.upper (T l) = T (l.map PyProof.Rows.up1) := by
    rw [PyProof.Rows.upper_ascii (x := T l) (fun c hx => by
      have := hc c (by simpa using hx)
      omega)]
    show (⟨l.toArray.map PyProof.Rows.up1⟩ : Str) = ⟨(l.map PyProof.Rows.up1).toArray⟩
    simp
  refine ⟨l.map PyProof.Rows.up1, ?_, fun c hx => ?_, by simp⟩
  · show (if (T l).length ≤ 1000000 then R.ok (D.str (Txt.upper (T l))) else .bad) = _
    rw [e, T_len, if_pos (by omega)]
  · obtain ⟨a, ha, rfl⟩ := List.mem_map.mp hx
    have := hc a ha
    unfold PyProof.Rows.up1
    split <;> omega
theorem ch4str {t : Str} (ht : (t == "set") = false) {l : List Nat} (hl : l.length < 1000) (hc : ∀ c ∈ l, c < 128) {rs : List D} (hr : rs.length ≤ 6) {n : Int} (n0 : 0 ≤ n) (A : Nat) (bad : D) :
    ∃ l', l'.length ≤ 2 * l.length + 1 ∧ (∀ c ∈ l', c < 128) ∧ u_ch (st (.str t :: .str (T l) :: rs) n 4 A bad) = .rt (.tup (.str t :: .str (T l') :: rs)) := by
  obtain ⟨u, hu, uc, ul⟩ := up_len hc (by omega)
  have a1 : dAddT (.str (T l)) (.str " ") = .ok (.str (T (l ++ [32]))) := by rw [s_sp]; exact addT_s (by simp; omega)
  have a2 : dAddT (.str " ") (.str (T l)) = .ok (.str (T ([32] ++ l))) := by rw [s_sp]; exact addT_s (by simp; omega)
  have a3 : dAddT (.str (T l)) (.str (T l)) = .ok (.str (T (l ++ l))) := addT_s (by omega)
  have sl := slice_to (l := l) 1 (by omega)
  rw [show ((1 : Nat) : Int) = 1 from rfl] at sl
  have a4 : dAddT (.str (T (l.take 1))) (.str (T l)) = .ok (.str (T (l.take 1 ++ l))) := addT_s (by simp; omega)
  have z0 := Int.emod_nonneg (n / 8) (show (5 : Int) ≠ 0 by decide)
  have z1 := Int.emod_lt_of_pos (n / 8) (show (0 : Int) < 5 by decide)
  obtain ⟨B, hB, eB⟩ : ∃ B : Nat, B < 5 ∧ n / 8 % 5 = B := ⟨(n / 8 % 5).toNat, by omega, by omega⟩
  have d8 : dDiv (.int n) (.int 8) = .ok (.int (n / 8)) := div_ii (by decide)
  have m5 : dMod (.int (n / 8)) (.int 5) = .ok (.int B) := by rw [mod_ii (by decide), eB]
  obtain ⟨l', h1, h2, h3⟩ : ∃ l' : List Nat, l'.length ≤ 2 * l.length + 1 ∧ (∀ c ∈ l', c < 128) ∧ dIx (.lst [.str (T u), .str (T (l ++ [32])), .str (T ([32] ++ l)), .str (T (l ++ l)), .str (T (l.take 1 ++ l))]) (.int B) = .ok (.str (T l')) := by
    have app : ∀ {a b : List Nat}, (∀ c ∈ a, c < 128) → (∀ c ∈ b, c < 128) → ∀ c ∈ a ++ b, c < 128 := fun h1 h2 c q => (List.mem_append.mp q).elim (h1 c) (h2 c)
    have c32 : ∀ c ∈ ([32] : List Nat), c < 128 := by decide
    rcases (show B = 0 ∨ B = 1 ∨ B = 2 ∨ B = 3 ∨ B = 4 by omega) with rfl | rfl | rfl | rfl | rfl
    · exact ⟨_, by omega, uc, ix_ln rfl⟩
    · exact ⟨_, by simp; omega, app hc c32, ix_ln rfl⟩
    · exact ⟨_, by simp; omega, app c32 hc, ix_ln rfl⟩
    · exact ⟨_, by rw [List.length_append]; omega, app hc hc, ix_ln rfl⟩
    · exact ⟨_, by rw [List.length_append, List.length_take]; omega, app (fun c q => hc c (List.mem_of_mem_take q)) hc, ix_ln rfl⟩
  refine ⟨l', h1, h2, ?_⟩
  have s2 := slice_fromT (ds := .str t :: .str (T l) :: rs) 2
  rw [show ((2 : Nat) : Int) = 2 from rfl, List.drop_succ_cons, List.drop_succ_cons, List.drop_zero] at s2
  have ad : dAddT (.tup [.str t, .str (T l')]) (.tup rs) = .ok (.tup (.str t :: .str (T l') :: rs)) := addT_t (by simp; omega)
  generalize T (l ++ [32]) = S1 at *
  generalize T ([32] ++ l) = S2 at *
  generalize T (l ++ l) = S3 at *
  generalize T (l.take 1 ++ l) = S4 at *
  generalize T (l.take 1) = S5 at *
  unfold u_ch
  simp [subT, ht, hu, a1, a2, a3, sl, a4, lst_5, d8, m5, h3, s2, ad]
theorem chMore {a b c : D} {n k : Int} (hk : k = 4 ∧ dIsi "str" a = .ok (.bl false) ∨ k = 5 ∨ k = 6 ∨ k = 7) (A : Nat) (bad : D) : ∃ x, u_ch (st [.str "more", a, b, c] n k A bad) = .rt x ∧ (x = .tup [.str "more", a, b, b] ∨ x = .tup [.str "more", .str "zzzzzzzzz", .int 5, .int 5] ∨ x = .tup [.str "more", a, .int 1, .int 1]) := by
  have s3 := slice_toT (ds := [.str "more", a, b, c]) 3
  rw [show ((3 : Nat) : Int) = 3 from rfl, show ([.str "more", a, b, c] : List D).take 3 = [.str "more", a, b] from rfl] at s3
  have ad : dAddT (.tup [.str "more", a, b]) (.tup [b]) = .ok (.tup [.str "more", a, b, b]) := addT_t (by show 3 + 1 < 1000; decide)
  have m3 : ∀ k : Int, dMod (.int k) (.int 3) = .ok (.int (k % 3)) := fun k => mod_ii (by decide)
  rcases hk with ⟨rfl, e⟩ | rfl | rfl | rfl
  · refine ⟨_, ?_, .inr (.inl rfl)⟩
    unfold u_ch
    simp [e, s3, ad, lst_3, m3]
  · refine ⟨_, ?_, .inr (.inr rfl)⟩
    unfold u_ch
    simp [s3, ad, lst_3, m3]
  · refine ⟨_, ?_, .inl rfl⟩
    unfold u_ch
    simp [s3, ad, lst_3, m3]
  · refine ⟨_, ?_, .inr (.inl rfl)⟩
    unfold u_ch
    simp [s3, ad, lst_3, m3]
end TB
namespace TB
open PySem PySem.Spec PyProof.Rows L2
/-! ### a changed offer is one again that is asked -/
theorem mid3 (p a b : D) : R.sliceB (.ok (.tup [p, a, b])) (.ok (some 1)) (.ok (some (-1))) = .ok (.tup [a]) := (rfl)
theorem mid4 (p a b c : D) : R.sliceB (.ok (.tup [p, a, b, c])) (.ok (some 1)) (.ok (some (-1))) = .ok (.tup [a, b]) := (rfl)
theorem z_1 (ρ : Ev) (a : D) : compF (G.one 7) yes (E.c (.str "zzzzzzzzz")) ρ [a] = .ok [.str "zzzzzzzzz"] := (rfl)
theorem z_2 (ρ : Ev) (a b : D) : compF (G.one 7) yes (E.c (.str "zzzzzzzzz")) ρ [a, b] = .ok [.str "zzzzzzzzz", .str "zzzzzzzzz"] := (rfl)
theorem two_line : 2 ≤ LINE := le_line (by decide)
theorem ch7_3 {t : Str} (ht : (t == "more") = false) {a b : D} {n : Int} (A : Nat) (bad : D) : u_ch (st [.str t, a, b] n 7 A bad) = .rt (.tup [.str t, .str "zzzzzzzzz", .int (-1)]) := by
  have a1 : dAddT (.tup [.str t]) (.tup [.str "zzzzzzzzz"]) = .ok (.tup [.str t, .str "zzzzzzzzz"]) := addT_t (by show 1 + 1 < 1000; decide)
  have a2 : dAddT (.tup [.str t, .str "zzzzzzzzz"]) (.tup [.int (-1)]) = .ok (.tup [.str t, .str "zzzzzzzzz", .int (-1)]) := addT_t (by show 2 + 1 < 1000; decide)
  unfold u_ch
  simp [ht, mid3, z_1, a1, a2]
theorem ch7_4 {t : Str} (ht : (t == "more") = false) {a b c : D} {n : Int} (A : Nat) (bad : D) : u_ch (st [.str t, a, b, c] n 7 A bad) = .rt (.tup [.str t, .str "zzzzzzzzz", .str "zzzzzzzzz", .int (-1)]) := by
  have a1 : dAddT (.tup [.str t]) (.tup [.str "zzzzzzzzz", .str "zzzzzzzzz"]) = .ok (.tup [.str t, .str "zzzzzzzzz", .str "zzzzzzzzz"]) := addT_t (by show 1 + 2 < 1000; decide)
  have a2 : dAddT (.tup [.str t, .str "zzzzzzzzz", .str "zzzzzzzzz"]) (.tup [.int (-1)]) = .ok (.tup [.str t, .str "zzzzzzzzz", .str "zzzzzzzzz", .int (-1)]) := addT_t (by show 3 + 1 < 1000; decide)
  unfold u_ch
  simp [ht, mid4, z_2, a1, a2, two_line]
theorem chDef {t : Str} (ht : (t == "more") = false) {a : D} {rs : List D} (hl : rs.length ≤ 4) {n k : Int} (hk : k = 4 ∧ (t == "set") = false ∧ dIsi "str" a = .ok (.bl false) ∨ k = 5 ∧ (t == "set") = false ∨ k = 6 ∧ (t == "slip") = false) (A : Nat) (bad : D) :
    u_ch (st (.str t :: a :: rs) n k A bad) = .rt (.tup ((.str t :: a :: rs).take A ++ [bad] ++ (.str t :: a :: rs).drop (A + 1))) := by
  have s1 := slice_toT (ds := .str t :: a :: rs) A
  have s2 := slice_fromT (ds := .str t :: a :: rs) (A + 1)
  rw [show (((A + 1 : Nat)) : Int) = (A : Int) + 1 by omega] at s2
  have tl : ((.str t :: a :: rs).take A : List D).length ≤ 6 := by simp; omega
  have dl : ((.str t :: a :: rs).drop (A + 1) : List D).length ≤ 6 := by simp; omega
  have a1 : dAddT (.tup ((.str t :: a :: rs).take A)) (.tup [bad]) = .ok (.tup ((.str t :: a :: rs).take A ++ [bad])) := addT_t (by simp only [List.length_cons, List.length_nil]; omega)
  have a2 : dAddT (.tup ((.str t :: a :: rs).take A ++ [bad])) (.tup ((.str t :: a :: rs).drop (A + 1))) = .ok (.tup ((.str t :: a :: rs).take A ++ [bad] ++ (.str t :: a :: rs).drop (A + 1))) := addT_t (by simp only [List.length_append, List.length_cons, List.length_nil] at *; omega)
  generalize (.str t :: a :: rs).take A ++ [bad] ++ (.str t :: a :: rs).drop (A + 1) = R1 at *
  generalize (.str t :: a :: rs).take A ++ [bad] = R2 at *
  generalize (.str t :: a :: rs).take A = R3 at *
  generalize (.str t :: a :: rs).drop (A + 1) = R4 at *
  rcases hk with ⟨rfl, e, f⟩ | ⟨rfl, e⟩ | ⟨rfl, e⟩ <;> unfold u_ch
  · simp [ht, e, f, s1, s2, a1, a2]
  · simp [ht, e, s1, s2, a1, a2]
  · simp [ht, e, s1, s2, a1, a2]
section
variable {m : Nat} {ps : List D} (hp : ∀ p ∈ ps, Part m p)
include hp
theorem o_drop {t : D} (ht : Part 9 t) (hl : ps.length ≤ 5) : Off (2 * m + 10) (.tup (t :: ps.drop 1)) := .tup (by simp; omega) fun p q => by
  rcases List.mem_cons.mp q with rfl | q
  · exact ht.le (by omega)
  · exact (hp p (List.mem_of_mem_drop q)).le (by omega)
theorem o_cut {A : Nat} (hl : ps.length ≤ 5) : Off (2 * m + 10) (.tup (ps.take A ++ ps.drop (A + 1))) := .tup (by simp; omega) fun p q => by
  rcases List.mem_append.mp q with q | q
  · exact (hp p (List.mem_of_mem_take q)).le (by omega)
  · exact (hp p (List.mem_of_mem_drop q)).le (by omega)
theorem o_more (hl : ps.length ≤ 5) : Off (2 * m + 10) (.tup (ps ++ [.int 1])) := .tup (by simp; omega) fun p q => by
  rcases List.mem_append.mp q with q | q
  · exact (hp p q).le (by omega)
  · rw [List.mem_singleton.mp q]
    exact part_int _ _
theorem o_bad {A : Nat} {bad : D} (hb : Part 9 bad) (hl : ps.length ≤ 4) : Off (2 * m + 10) (.tup (ps.take A ++ [bad] ++ ps.drop (A + 1))) := .tup (by simp; omega) fun p q => by
  rcases List.mem_append.mp q with q | q
  · rcases List.mem_append.mp q with q | q
    · exact (hp p (List.mem_of_mem_take q)).le (by omega)
    · rw [List.mem_singleton.mp q]
      exact hb.le (by omega)
  · exact (hp p (List.mem_of_mem_drop q)).le (by omega)
end
theorem str_or {m : Nat} {a : D} (h : Part m a) : (∃ l, a = .str (T l) ∧ l.length ≤ m ∧ ∀ c ∈ l, c < 128) ∨ dIsi "str" a = .ok (.bl false) := by
  by_cases hs : ∃ z, a = .str z
  · obtain ⟨z, rfl⟩ := hs
    have e := T_of z
    rw [e] at h ⊢
    exact .inl ⟨_, rfl, h.s _ rfl⟩
  · have w := h.w
    refine .inr ?_
    cases a <;> simp only [wide] at w <;> first | cases w; done | exact absurd ⟨_, rfl⟩ hs | simp [subT]
theorem changed_ok {m : Nat} (hm : m ≤ 400) {x : D} (ho : Off m x) (hf : Form x) {n : Int} (n0 : 0 ≤ n) : ∃ y, f__law_changed [x, .int n] = .ok y ∧ Off (2 * m + 10) y := by
  have k0 := Int.emod_nonneg n (show (8 : Int) ≠ 0 by decide)
  have k1 := Int.emod_lt_of_pos n (show (0 : Int) < 8 by decide)
  have fin_ : ∀ {ps : List D} (h1 : 1 ≤ ps.length), (∀ (A : Nat) (bad : D), A < ps.length → Part 9 bad → wide 2 bad = true → ∃ y, u_ch (st ps n (n % 8) A bad) = .rt y ∧ Off (2 * m + 10) y) → ∃ y, f__law_changed [.tup ps, .int n] = .ok y ∧ Off (2 * m + 10) y := fun h1 g => by
    obtain ⟨A, bad, hA, hb, wb, e⟩ := ch_pre h1 n0
    obtain ⟨y, h2, h3⟩ := g A bad hA hb wb
    exact ⟨y, by rw [e, h2]; rfl, h3⟩
  -- the first four are for all
  have early : ∀ {ps : List D} (A : Nat) (bad : D), (∀ p ∈ ps, Part m p) → ps.length ≤ 4 → n % 8 < 4 → ∃ y, u_ch (st ps n (n % 8) A bad) = .rt y ∧ Off (2 * m + 10) y := fun {ps} A bad hp hl lt => by
    rcases (show n % 8 = 0 ∨ n % 8 = 1 ∨ n % 8 = 2 ∨ n % 8 = 3 by omega) with e | e | e | e <;> rw [e]
    · obtain ⟨y, h1, h2⟩ := ch0 n0 A bad
      exact ⟨y, h1, .no h2⟩
    · obtain ⟨t, h1, h2⟩ := ch1 (ps := ps) n0 A bad (by omega)
      exact ⟨_, h2, o_drop hp h1 (by omega)⟩
    · exact ⟨_, ch2 A bad (by omega), o_cut hp (by omega)⟩
    · exact ⟨_, ch3 A bad (by omega), o_more hp (by omega)⟩
  have z9 := p_z9 (2 * m + 10) (by omega)
  have all4 : ∀ {a b c d : D}, Part (2 * m + 10) a → Part (2 * m + 10) b → Part (2 * m + 10) c → Part (2 * m + 10) d → Off (2 * m + 10) (.tup [a, b, c, d]) := fun h1 h2 h3 h4 => .tup (by simp) fun p q => by
    simp only [List.mem_cons, List.not_mem_nil, or_false] at q
    rcases q with rfl | rfl | rfl | rfl <;> assumption
  have all3 : ∀ {a b c : D}, Part (2 * m + 10) a → Part (2 * m + 10) b → Part (2 * m + 10) c → Off (2 * m + 10) (.tup [a, b, c]) := fun h1 h2 h3 => .tup (by simp) fun p q => by
    simp only [List.mem_cons, List.not_mem_nil, or_false] at q
    rcases q with rfl | rfl | rfl <;> assumption
  have strange : ∀ {l l' : List Nat}, l.length ≤ m → l'.length ≤ 2 * l.length + 1 → (∀ c ∈ l', c < 128) → Part (2 * m + 10) (.str (T l')) := fun h1 h2 h3 => part_T (by omega) h3
  cases hf with
  | more a b c =>
    cases ho with
    | no e => simp [subT] at e
    | tup hl hp =>
      refine fin_ (by simp) fun A bad hA hb wb => ?_
      by_cases lt : n % 8 < 4
      · exact early A bad hp (by simp) lt
      · have pa := hp a (by simp)
        have go : (n % 8 = 4 ∧ dIsi "str" a = .ok (.bl false) ∨ n % 8 = 5 ∨ n % 8 = 6 ∨ n % 8 = 7) → ∃ y, u_ch (st [.str "more", a, b, c] n (n % 8) A bad) = .rt y ∧ Off (2 * m + 10) y := fun hk => by
          obtain ⟨y, h1, h2⟩ := chMore (c := c) (b := b) (n := n) hk A bad
          refine ⟨y, h1, ?_⟩
          have pt : Part (2 * m + 10) (.str "more") := p_more.le (by omega)
          rcases h2 with rfl | rfl | rfl
          · exact all4 pt (pa.le (by omega)) ((hp b (by simp)).le (by omega)) ((hp b (by simp)).le (by omega))
          · exact all4 pt z9 (part_int _ _) (part_int _ _)
          · exact all4 pt (pa.le (by omega)) (part_int _ _) (part_int _ _)
        by_cases k4 : n % 8 = 4
        · rcases str_or pa with ⟨l, rfl, l1, l2⟩ | e
          · obtain ⟨l', h1, h2, h3⟩ := ch4str tg_more_set (l := l) (by omega) l2 (rs := [b, c]) (by simp) n0 A bad
            rw [k4]
            exact ⟨_, h3, all4 (p_more.le (by omega)) (strange l1 h1 h2) ((hp b (by simp)).le (by omega)) ((hp c (by simp)).le (by omega))⟩
          · exact go (.inl ⟨k4, e⟩)
        · exact go (.inr (by omega))
  | slip a b c =>
    cases ho with
    | no e => simp [subT] at e
    | tup hl hp =>
      refine fin_ (by simp) fun A bad hA hb wb => ?_
      by_cases lt : n % 8 < 4
      · exact early A bad hp (by simp) lt
      · have pa := hp a (by simp)
        have pt : Part (2 * m + 10) (.str "slip") := p_slip.le (by omega)
        rcases (show n % 8 = 4 ∨ n % 8 = 5 ∨ n % 8 = 6 ∨ n % 8 = 7 by omega) with k | k | k | k
        · rcases str_or pa with ⟨l, rfl, l1, l2⟩ | e
          · obtain ⟨l', h1, h2, h3⟩ := ch4str tg_slip_set (l := l) (by omega) l2 (rs := [b, c]) (by simp) n0 A bad
            rw [k]
            exact ⟨_, h3, all4 pt (strange l1 h1 h2) ((hp b (by simp)).le (by omega)) ((hp c (by simp)).le (by omega))⟩
          · exact ⟨_, chDef tg_slip_more (rs := [b, c]) (by simp) (.inl ⟨k, tg_slip_set, e⟩) A bad, o_bad hp hb (by simp)⟩
        · exact ⟨_, chDef tg_slip_more (rs := [b, c]) (by simp) (.inr (.inl ⟨k, tg_slip_set⟩)) A bad, o_bad hp hb (by simp)⟩
        · rw [k]
          exact ⟨_, ch6slip A bad, all4 pt (pa.le (by omega)) (pa.le (by omega)) ((hp c (by simp)).le (by omega))⟩
        · rw [k]
          exact ⟨_, ch7_4 tg_slip_more A bad, all4 pt z9 z9 (part_int _ _)⟩
  | share a b =>
    cases ho with
    | no e => simp [subT] at e
    | tup hl hp =>
      refine fin_ (by simp) fun A bad hA hb wb => ?_
      by_cases lt : n % 8 < 4
      · exact early A bad hp (by simp) lt
      · have pa := hp a (by simp)
        have pt : Part (2 * m + 10) (.str "share") := p_share.le (by omega)
        rcases (show n % 8 = 4 ∨ n % 8 = 5 ∨ n % 8 = 6 ∨ n % 8 = 7 by omega) with k | k | k | k
        · rcases str_or pa with ⟨l, rfl, l1, l2⟩ | e
          · obtain ⟨l', h1, h2, h3⟩ := ch4str tg_share_set (l := l) (by omega) l2 (rs := [b]) (by simp) n0 A bad
            rw [k]
            exact ⟨_, h3, all3 pt (strange l1 h1 h2) ((hp b (by simp)).le (by omega))⟩
          · exact ⟨_, chDef tg_share_more (rs := [b]) (by simp) (.inl ⟨k, tg_share_set, e⟩) A bad, o_bad hp hb (by simp)⟩
        · exact ⟨_, chDef tg_share_more (rs := [b]) (by simp) (.inr (.inl ⟨k, tg_share_set⟩)) A bad, o_bad hp hb (by simp)⟩
        · exact ⟨_, chDef tg_share_more (rs := [b]) (by simp) (.inr (.inr ⟨k, tg_share_slip⟩)) A bad, o_bad hp hb (by simp)⟩
        · rw [k]
          exact ⟨_, ch7_3 tg_share_more A bad, all3 pt z9 (part_int _ _)⟩
  | set q qs c =>
    cases ho with
    | no e => simp [subT] at e
    | tup hl hp =>
      refine fin_ (by simp) fun A bad hA hb wb => ?_
      by_cases lt : n % 8 < 4
      · exact early A bad hp (by simp) lt
      · have pt : Part (2 * m + 10) (.str "set") := p_set.le (by omega)
        have pw := hp (.tup ((q :: qs).map fun p => .tup [p.1, p.2])) (by simp)
        obtain ⟨wl, wf⟩ := pw.q _ rfl
        have w3 := wide_tm pw.w
        rw [List.map_cons] at wl wf w3
        have wl' : (qs.map fun p => D.tup [p.1, p.2]).length + 1 ≤ m := wl
        rcases (show n % 8 = 4 ∨ n % 8 = 5 ∨ n % 8 = 6 ∨ n % 8 = 7 by omega) with k | k | k | k
        · rw [k]
          refine ⟨_, ch4set A bad (by omega), all3 pt (part_t ?_ (fun d hd => ?_) fun x y hm => ?_) ((hp c (by simp)).le (by omega))⟩
          · simp only [List.length_append, List.length_cons, List.length_nil]
            omega
          · rcases List.mem_append.mp hd with hd | hd
            · exact w3 d hd
            · exact w3 d (by rw [List.mem_singleton.mp hd]; exact List.mem_cons_self)
          · rcases List.mem_append.mp hm with hm | hm
            · exact wf x y hm
            · exact wf x y (by rw [List.mem_singleton.mp hm]; exact List.mem_cons_self)
        · rw [k]
          refine ⟨_, ch5set A bad (by omega), all3 pt (part_t ?_ (fun d hd => ?_) fun x y hm => ?_) ((hp c (by simp)).le (by omega))⟩
          · simp only [List.length_cons]
            omega
          · rcases List.mem_cons.mp hd with rfl | hd
            · have := wide_tm (w3 _ List.mem_cons_self) q.1 (by simp)
              exact wide_t fun d hd => by
                simp only [List.mem_cons, List.not_mem_nil, or_false] at hd
                rcases hd with rfl | rfl
                · exact this
                · exact wb
            · exact w3 d (List.mem_cons_of_mem _ hd)
          · rcases List.mem_cons.mp hm with hm | hm
            · cases hm
              exact wf q.1 q.2 List.mem_cons_self
            · exact wf x y (List.mem_cons_of_mem _ hm)
        · exact ⟨_, chDef tg_set_more (rs := [c]) (by simp) (.inr (.inr ⟨k, tg_set_slip⟩)) A bad, o_bad hp hb (by simp)⟩
        · rw [k]
          exact ⟨_, ch7_3 tg_set_more A bad, all3 pt z9 (part_int _ _)⟩
end TB
namespace TB
open PySem PySem.Spec PyProof.Rows L2
/-! ### deals of all offers, and the first that is refused -/
theorem forF_append {g : D → R (List (Nat × D))} {ws : List Nat} {body : Ev → Out} : ∀ (xs ys : List D) (ρ : Ev), S.forF g ws body (xs ++ ys) ρ = match S.forF g ws body xs ρ with
    | .nx ρ' => S.forF g ws body ys ρ'
    | o => o
  | [], ys, ρ => rfl
  | x :: xs, ys, ρ => by
    rw [List.cons_append, forF_cons, forF_cons]
    cases turn g ws body x ρ with
    | nx ρ' => exact forF_append xs ys ρ'
    | rt d => rfl
    | ro d => rfl
    | ex c ρ' => rfl
    | bad => rfl
/-- refused by both, and told alike -/
def Ref (ks : Ks) (c w : Str) (x : D) : Prop := WordK c w ∧ f_deal_of [shopD ks, x] = .exc c ∧ f__law_due [.lst (ks.map kD), x] = .ok (.str w)
theorem vd_cases {ks : Ks} {x : D} (v : Vd ks x) : (∃ c w, Ref ks c w x) ∨ ∃ o, OfOk ks.length o ∧ x = ofD ks o := by
  cases v with
  | offer h1 h2 => exact .inl ⟨_, _, .offer, h1, h2⟩
  | kind h1 h2 _ => exact .inl ⟨_, _, .kind, h1, h2⟩
  | deal o h1 h2 _ => exact .inr ⟨o, h1, h2⟩
theorem due_ok {ks : Ks} (h : Kinds ks) {o : Of} (ho : OfOk ks.length o) : f__law_due [.lst (ks.map kD), ofD ks o] = .ok (dD (dealOf ks o)) := by
  have d := deal_of_ok h o ho
  cases off_vd h (by decide) (off_of h ho).1 with
  | offer h1 h2 => rw [d] at h1; cases h1
  | kind h1 h2 _ => rw [d] at h1; cases h1
  | deal o' h1 h2 h3 =>
    have d' := deal_of_ok h o' h1
    rw [← h2, d] at d'
    rw [h3]
    exact d'.symm
theorem first_bad {ks : Ks} : ∀ xs : List D, (∀ x ∈ xs, Vd ks x) → (∃ os : List Of, (∀ o ∈ os, OfOk ks.length o) ∧ xs = os.map (ofD ks)) ∨ ∃ (os : List Of) (y : D) (zs : List D) (c w : Str), (∀ o ∈ os, OfOk ks.length o) ∧ xs = os.map (ofD ks) ++ y :: zs ∧ Ref ks c w y
  | [], _ => .inl ⟨[], (fun _ q => nomatch q), rfl⟩
  | x :: xs, h => by
    rcases vd_cases (h x List.mem_cons_self) with ⟨c, w, r⟩ | ⟨o, ho, rfl⟩
    · exact .inr ⟨[], x, xs, c, w, (fun _ q => nomatch q), rfl, r⟩
    · rcases first_bad xs fun y hy => h y (List.mem_cons_of_mem _ hy) with ⟨os, h1, rfl⟩ | ⟨os, y, zs, c, w, h1, rfl, h2⟩
      · exact .inl ⟨o :: os, fun p hp => (List.mem_cons.mp hp).elim (fun e => e ▸ ho) (h1 p), rfl⟩
      · exact .inr ⟨o :: os, y, zs, c, w, fun p hp => (List.mem_cons.mp hp).elim (fun e => e ▸ ho) (h1 p), rfl, h2⟩
theorem deals_x {ks : Ks} (h : Kinds ks) {os : List Of} (ho : ∀ o ∈ os, OfOk ks.length o) (hl : os.length ≤ 20) {y : D} {zs : List D} {c : Str} (hy : f_deal_of [shopD ks, y] = .exc c) (hc : c = "BadOffer" ∨ c = "NoKind") : fl_deals [shopD ks, .lst (os.map (ofD ks) ++ y :: zs)] = .exc c := by
  have km := h.most
  have pr : ∀ i, i < ks.length → dIx (.lst (ks.map pD)) (.int i) = .ok (.int (prAt ks i)) := fun i hi => by
    refine ix_ln ?_
    rw [List.getElem?_map, ks_at hi]
    rfl
  obtain ⟨X, hX⟩ : ∃ X, X = os.map (ofD ks) ++ y :: zs := ⟨_, rfl⟩
  have z1 := (forF_foldN (g := G.one 3) (ws := [3]) (body := S.push false 2 (E.tup (E.cons (E.app f_wanted (E.cons (E.var 0) (E.cons (E.ofL (E.lst (E.cons (E.tup (E.cons (E.var 3) (E.cons (E.c (.int 1)) E.nil))) E.nil))) E.nil))) (E.cons (E.bin dIx (E.un dPrices (E.var 0)) (E.var 3)) E.nil)))) (fun (k : Nat) => D.int k)
    (fun l : List Deal => [.sh (shopD ks), .sh (.lst X), .own (l.map dD), .no, .no]) (fun l k => l ++ [plainOf ks k]) (fun i l => l.length = i) (List.range ks.length) [] rfl ?_).1
  · have z2 := (forF_foldN (g := G.one 4) (ws := [4]) (body := S.push false 2 (E.app f_deal_of (E.cons (E.var 0) (E.cons (E.var 4) E.nil)))) (ofD ks)
      (fun l : List Deal => [.sh (shopD ks), .sh (.lst X), .own (l.map dD), .no, .no]) (fun l o => l ++ [dealOf ks o]) (fun i l => l.length = ks.length + i) os ((List.range ks.length).map (plainOf ks)) (by simp) ?_).1
    · have z3 : ∃ ρ', S.forF (G.one 4) [4] (S.push false 2 (E.app f_deal_of (E.cons (E.var 0) (E.cons (E.var 4) E.nil)))) X [.sh (shopD ks), .sh (.lst X), .own (((List.range ks.length).map (plainOf ks)).map dD), .no, .no] = .ex c ρ' := by
        conv => enter [1, ρ', 1, 4]; rw [hX]
        rw [forF_append, z2]
        dsimp only
        rw [forF_cons, turn1]
        have hz : ∀ l : List Of, 0 < 1 := fun _ => by decide
        rcases hc with rfl | rfl <;> simp [hy]
      obtain ⟨ρ', z3⟩ := z3
      rw [fold_push, List.nil_append] at z1
      have r1 := range1_nat (n := ks.length) (by omega)
      simp only [List.map_nil] at z1
      rw [← hX]
      generalize ((List.range ks.length).map (plainOf ks)).map dD = L1 at *
      unfold fl_deals u_deals start
      simp [r1, z1, z3]
    · rintro i l o hx hi
      have m := List.mem_of_getElem? hx
      have hi' : i < os.length := (List.getElem?_eq_some_iff.mp hx).1
      have e := deal_of_ok h o (ho o m)
      refine ⟨?_, by simp [hi]; omega⟩
      rw [turn1]
      simp [e, lt_line (show l.length < 100000 by omega)]
  · rintro i l k hx hi
    obtain ⟨hk, rfl⟩ := range_at hx
    have w := wanted_ok h (ws := [(i, 1)]) (by simpa using hk)
    simp only [List.map_cons, List.map_nil] at w
    refine ⟨?_, by simp [hi]⟩
    rw [turn1]
    simp [w, pr i hk, lt_line (show l.length < 100000 by omega), plainOf]
end TB
namespace TB
open PySem PySem.Spec PyProof.Rows L2
/-! ### the law's loops -/
theorem Off.le {m n : Nat} (h : m ≤ n) {x : D} (o : Off m x) : Off n x := by
  cases o with
  | no e => exact .no e
  | tup hl hp => exact .tup hl fun p q => (hp p q).le h
def mm : Nat → Nat
  | 0 => 9
  | i + 1 => 2 * mm i + 10
theorem mm_le {i : Nat} (h : i ≤ 2) : mm i ≤ 66 := by
  rcases (show i = 0 ∨ i = 1 ∨ i = 2 by omega) with rfl | rfl | rfl <;> decide
theorem ok_offer : PyData.strOk ("offer" : Str) = true := by decide +kernel
theorem ok_kind : PyData.strOk ("kind" : Str) = true := by decide +kernel
theorem wide_dD (d : Deal) : wide 9 (dD d) = true := by
  refine wide_t fun x hx => ?_
  simp only [List.mem_cons, List.not_mem_nil, or_false] at hx
  rcases hx with rfl | rfl
  · exact wide_t fun y hy => by
      obtain ⟨i, _, rfl⟩ := List.mem_map.mp hy
      simp [wide]
  · simp [wide]
theorem ne_deal (d : Deal) : dNe (dD d) (.str "offer") = .ok (.bl true) := by
  have w := wide_dD d
  have e : wide 9 (.str "offer") = true := by simp only [wide]; exact ok_offer
  show (if scalD (dD d) (.str "offer") then _ else if wide 9 (dD d) && wide 9 (.str "offer") then _ else _) = _
  rw [if_neg (by simp [scalD]), w, e]
  simp [dD, D.py, PyData.eqv]
theorem kind_offer : (("kind" : Str) == "offer") = false := by decide +kernel
theorem form_len {x : D} (h : Form x) : ∃ ps, x = .tup ps ∧ 1 < ps.length := by
  cases h with
  | more => exact ⟨_, rfl, by simp⟩
  | slip => exact ⟨_, rfl, by simp⟩
  | share => exact ⟨_, rfl, by simp⟩
  | set => exact ⟨_, rfl, by simp⟩
def gateT : Ev → R Bool := E.band (E.tst (E.un (dIsi "tuple") (E.var 10))) (E.band (E.tst (E.bin dGt (E.app dLen (E.cons (E.var 10) E.nil)) (E.c (.int 1)))) (E.tst (E.bin dNe (E.app f__law_due (E.cons (E.var 1) (E.cons (E.var 10) E.nil))) (E.c (.str "offer")))))
theorem gate {ks : Ks} (h : Kinds ks) {m : Nat} (hm : m < 900) {x : D} (o : Off m x) (e0 e2 e3 e4 e5 e6 e7 e8 e9 e11 e12 e13 e14 : Sl) :
    gateT [e0, .sh (.lst (ks.map kD)), e2, e3, e4, e5, e6, e7, e8, e9, .sh x, e11, e12, e13, e14] = .ok false ∨ (gateT [e0, .sh (.lst (ks.map kD)), e2, e3, e4, e5, e6, e7, e8, e9, .sh x, e11, e12, e13, e14] = .ok true ∧ Form x) := by
  have v := off_vd h hm o
  have f : ∀ {x : D}, Form x → Off m x → ∀ {d : D}, f__law_due [.lst (ks.map kD), x] = .ok d → dNe d (.str "offer") = .ok (.bl true) → gateT [e0, .sh (.lst (ks.map kD)), e2, e3, e4, e5, e6, e7, e8, e9, .sh x, e11, e12, e13, e14] = .ok true := fun {x} hf _ {d} h1 h2 => by
    obtain ⟨ps, rfl, hl⟩ := form_len hf
    generalize ks.map kD = LK at *
    unfold gateT
    simp [subT, h1, h2, hl]
    omega
  cases v with
  | kind h1 h2 hf => exact .inr ⟨f hf o h2 (by simp [kind_offer]), hf⟩
  | deal o' h1 h2 h3 => exact .inr ⟨f (h2 ▸ (off_of h h1).2) o h3 (ne_deal _), h2 ▸ (off_of h h1).2⟩
  | offer h1 h2 =>
    refine .inl ?_
    cases o with
    | no e =>
      unfold gateT
      simp [e]
    | @tup ps hl hp =>
      by_cases l1 : 1 < ps.length
      · generalize ks.map kD = LK at *
        unfold gateT
        simp [subT, h2, l1]
      · have ld : decide ((1 : Int) < (ps.length : Int)) = false := decide_eq_false (by omega)
        generalize ks.map kD = LK at *
        unfold gateT
        simp [subT, ld]
def chBody : Ev → Out := S.ifs gateT (S.seq (S.asg false 10 (E.app f__law_changed (E.cons (E.var 10) (E.cons (E.bin dAdd (E.app f__law_number (E.cons (E.var 0) (E.cons (E.bin dAdd (E.c (.int 50)) (E.var 12)) E.nil))) (E.bin dMod (E.app f__law_cell_at (E.cons (E.var 0) (E.cons (E.c (.int 4)) E.nil))) (E.c (.int 1009)))) E.nil))))
    (S.ifs (E.tst (E.bin dEq (E.bin dMod (E.app f__law_cell_at (E.cons (E.var 0) (E.cons (E.c (.int 5)) E.nil))) (E.c (.int 4))) (E.c (.int 1)))) (S.push false 11 (E.var 10)) S.skip)) S.skip
theorem ch_loop {ks : Ks} (h : Kinds ks) (ns : List Int) (hl : ns.length ≤ 63) (e2 e3 e4 e5 e6 e7 e8 e9 : Sl) {x0 : D} {ah0 : List D} (o0 : Off 9 x0) (oa : ∀ z ∈ ah0, Off 66 z) (la : ah0.length ≤ 12) {N : Nat} (hN : N ≤ 2) :
    ∃ s : D × List D, S.forF (G.one 12) [12] chBody ((List.range N).map fun (k : Nat) => D.int k) [.sh (.scr ns), .sh (.lst (ks.map kD)), e2, e3, e4, e5, e6, e7, e8, e9, .sh x0, .own ah0, .no, .no, .no] = .nx [.sh (.scr ns), .sh (.lst (ks.map kD)), e2, e3, e4, e5, e6, e7, e8, e9, .sh s.1, .own s.2, .no, .no, .no] ∧ Off 66 s.1 ∧ (∀ z ∈ s.2, Off 66 z) ∧ s.2.length ≤ 14 := by
  have v4 : f__law_cell_at [.scr ns, .int 4] = _ := cell_at_ok ns 4
  have v5 : f__law_cell_at [.scr ns, .int 5] = _ := cell_at_ok ns 5
  generalize cellAt ns 4 = c4 at *
  generalize cellAt ns 5 = c5 at *
  obtain ⟨s, h1, h2, h3, h4⟩ := forF_st (g := G.one 12) (ws := [12]) (body := chBody) (fun (k : Nat) => D.int k) (fun s : D × List D => [.sh (.scr ns), .sh (.lst (ks.map kD)), e2, e3, e4, e5, e6, e7, e8, e9, .sh s.1, .own s.2, .no, .no, .no])
    (fun i s => Off (mm i) s.1 ∧ (∀ z ∈ s.2, Off 66 z) ∧ s.2.length ≤ 12 + i) (List.range N) (x0, ah0) ⟨o0, oa, la⟩ (by
    rintro i k hk ⟨x, ah⟩ ⟨p1, p2, p3⟩
    obtain ⟨hi, rfl⟩ := range_at hk
    have p1 : Off (mm i) x := p1
    have p2 : ∀ z ∈ ah, Off 66 z := p2
    have p3 : ah.length ≤ 12 + i := p3
    have m66 : mm i ≤ 66 := mm_le (by omega)
    have m28 : mm i ≤ 400 := by omega
    rcases gate h (by omega) p1 (.sh (.scr ns)) e2.fz e3.fz e4.fz e5.fz e6.fz e7.fz e8.fz e9.fz (.sh (.lst ah)) (.sh (.int i)) .no .no with g | ⟨g, hf⟩
    · refine ⟨(x, ah), ?_, p1.le (by show mm i ≤ 2 * mm i + 10; omega), p2, by show ah.length ≤ 12 + (i + 1); omega⟩
      generalize ks.map kD = LK at *
      rw [turn1]
      unfold chBody
      simp [g]
    · have nb := number_ok ns (50 + i) hl
      rw [show (((50 + i : Nat)) : Int) = 50 + (i : Int) by omega] at nb
      have nn := numAt_nonneg ns (50 + i)
      have m9 : dMod (.int c4) (.int 1009) = .ok (.int (c4 % 1009)) := mod_ii (by decide)
      have m0 := Int.emod_nonneg c4 (show (1009 : Int) ≠ 0 by decide)
      have m4 : dMod (.int c5) (.int 4) = .ok (.int (c5 % 4)) := mod_ii (by decide)
      obtain ⟨y, hy, oy⟩ := changed_ok m28 p1 hf (n := numAt ns (50 + i) + c4 % 1009) (by omega)
      have y66 : Off 66 y := oy.le (mm_le (i := i + 1) (by omega))
      have lz : ah.length < LINE := lt_line (by omega)
      cases b : (c5 % 4 == 1) with
      | true =>
        refine ⟨(y, ah ++ [y]), ?_, oy, fun z hz => ?_, ?_⟩
        · generalize ks.map kD = LK at *
          rw [turn1]
          unfold chBody
          simp [g, nb, v4, v5, m9, m4, hy, b, lz]
        · rcases List.mem_append.mp hz with q | q
          · exact p2 z q
          · rw [List.mem_singleton.mp q]; exact y66
        · simp only [List.length_append, List.length_cons, List.length_nil]
          omega
      | false =>
        refine ⟨(y, ah), ?_, oy, p2, by show ah.length ≤ 12 + (i + 1); omega⟩
        generalize ks.map kD = LK at *
        rw [turn1]
        unfold chBody
        simp [g, nb, v4, v5, m9, m4, hy, b])
  rw [List.length_range] at h2 h4
  exact ⟨s, h1, h2.le (mm_le hN), h3, by omega⟩
/-! ### the first that is due -/
def rvBody : Ev → Out := S.ifs (E.tst (E.un (dIsi "str") (E.app f__law_due (E.cons (E.var 1) (E.cons (E.var 8) E.nil))))) (S.asg false 7 (E.app f__law_due (E.cons (E.var 1) (E.cons (E.var 8) E.nil)))) S.skip
section
variable {ks : Ks} (h : Kinds ks) (e0 e2 e3 e4 e5 e6 e9 e10 e11 e12 e13 e14 : Sl)
abbrev rvE (ks : Ks) (e0 e2 e3 e4 e5 e6 e9 e10 e11 e12 e13 e14 : Sl) (d : D) : Ev := [e0, .sh (.lst (ks.map kD)), e2, e3, e4, e5, e6, .sh d, .no, e9, e10, e11, e12, e13, e14]
include h
theorem rv_turn_deal {o : Of} (ho : OfOk ks.length o) (d : D) : turn (G.one 8) [8] rvBody (ofD ks o) (rvE ks e0 e2 e3 e4 e5 e6 e9 e10 e11 e12 e13 e14 d) = .nx (rvE ks e0 e2 e3 e4 e5 e6 e9 e10 e11 e12 e13 e14 d) := by
  have du := due_ok h ho
  have i : dIsi "str" (dD (dealOf ks o)) = .ok (.bl false) := by simp [subT]
  generalize dD (dealOf ks o) = dd at *
  generalize ofD ks o = oo at *
  rw [turn1]
  unfold rvBody rvE
  generalize ks.map kD = LK at *
  simp [du, i]
omit h in
theorem rv_turn_ref {c w : Str} {x : D} (r : Ref ks c w x) (d : D) : turn (G.one 8) [8] rvBody x (rvE ks e0 e2 e3 e4 e5 e6 e9 e10 e11 e12 e13 e14 d) = .nx (rvE ks e0 e2 e3 e4 e5 e6 e9 e10 e11 e12 e13 e14 (.str w)) := by
  have du := r.2.2
  rw [turn1]
  unfold rvBody rvE
  generalize ks.map kD = LK at *
  simp [du, subT]
theorem rv_any : ∀ (xs : List D), (∀ x ∈ xs, Vd ks x) → ∀ d, ∃ d', S.forF (G.one 8) [8] rvBody xs (rvE ks e0 e2 e3 e4 e5 e6 e9 e10 e11 e12 e13 e14 d) = .nx (rvE ks e0 e2 e3 e4 e5 e6 e9 e10 e11 e12 e13 e14 d')
  | [], _, d => ⟨d, rfl⟩
  | x :: xs, hv, d => by
    rw [forF_cons]
    rcases vd_cases (hv x List.mem_cons_self) with ⟨c, w, r⟩ | ⟨o, ho, rfl⟩
    · rw [rv_turn_ref e0 e2 e3 e4 e5 e6 e9 e10 e11 e12 e13 e14 r]
      exact rv_any xs (fun y hy => hv y (List.mem_cons_of_mem _ hy)) _
    · rw [rv_turn_deal h e0 e2 e3 e4 e5 e6 e9 e10 e11 e12 e13 e14 ho]
      exact rv_any xs (fun y hy => hv y (List.mem_cons_of_mem _ hy)) _
theorem rv_deals : ∀ (xs : List D), (∀ x ∈ xs, ∃ o, OfOk ks.length o ∧ x = ofD ks o) → ∀ d, S.forF (G.one 8) [8] rvBody xs (rvE ks e0 e2 e3 e4 e5 e6 e9 e10 e11 e12 e13 e14 d) = .nx (rvE ks e0 e2 e3 e4 e5 e6 e9 e10 e11 e12 e13 e14 d)
  | [], _, d => rfl
  | x :: xs, hv, d => by
    obtain ⟨o, ho, rfl⟩ := hv x List.mem_cons_self
    rw [forF_cons, rv_turn_deal h e0 e2 e3 e4 e5 e6 e9 e10 e11 e12 e13 e14 ho]
    exact rv_deals xs (fun y hy => hv y (List.mem_cons_of_mem _ hy)) d
theorem rv_first {os : List Of} (ho : ∀ o ∈ os, OfOk ks.length o) {y : D} {zs : List D} {c w : Str} (r : Ref ks c w y) (hz : ∀ z ∈ zs, Vd ks z) (d : D) :
    S.forF (G.one 8) [8] rvBody (os.map (ofD ks) ++ y :: zs).reverse (rvE ks e0 e2 e3 e4 e5 e6 e9 e10 e11 e12 e13 e14 d) = .nx (rvE ks e0 e2 e3 e4 e5 e6 e9 e10 e11 e12 e13 e14 (.str w)) := by
  have e : (os.map (ofD ks) ++ y :: zs).reverse = zs.reverse ++ (y :: (os.map (ofD ks)).reverse) := by simp
  obtain ⟨d', h1⟩ := rv_any h e0 e2 e3 e4 e5 e6 e9 e10 e11 e12 e13 e14 zs.reverse (fun z q => hz z (by simpa using q)) d
  rw [e, forF_append, h1]
  dsimp only
  rw [forF_cons, rv_turn_ref e0 e2 e3 e4 e5 e6 e9 e10 e11 e12 e13 e14 r]
  dsimp only
  refine rv_deals h e0 e2 e3 e4 e5 e6 e9 e10 e11 e12 e13 e14 _ (fun x hx => ?_) _
  obtain ⟨o, hm, rfl⟩ := List.mem_map.mp (List.mem_reverse.mp hx)
  exact ⟨o, ho o hm, rfl⟩
end
end TB
namespace TB
open PySem PySem.Spec PyProof.Rows L2

/-! ### deals compared -/
theorem deal_is_ok {n : Nat} {d : Deal} (g : Good n d) (hn : n ≤ 5) : f__law_deal_is [dD d, dD d] = .ok (.bl true) := by
  have es := eq_same (wide_dD d)
  have w1 : f__law_whole [.int d.2] = .ok (.bl true) := whole_w (n := 0) (by simp [wide])
  have fl : compF (G.one 2) (E.bnot (E.tst (E.app f__law_whole (E.cons (E.var 2) E.nil)))) (E.var 2) [.sh (dD d), .sh (dD d), .no] (iL d.1) = .ok [] := by
    have z := compF_map (g := G.one 2) (tt := E.bnot (E.tst (E.app f__law_whole (E.cons (E.var 2) E.nil)))) (te := E.var 2) (ρ := [.sh (dD d), .sh (dD d), .no]) D.int (fun _ => false) D.int d.1 fun i _ => ⟨_, rfl, by
      have : f__law_whole [.int i] = .ok (.bl true) := whole_w (n := 0) (by simp [wide])
      simp [this], fun q => by cases q⟩
    rw [show iL d.1 = d.1.map D.int from rfl, z]
    simp
  have ll : (iL d.1).length ≤ LINE := le_line (by simp [iL, g.len]; omega)
  simp only [dD] at *
  generalize iL d.1 = W at *
  unfold f__law_deal_is u__law_deal_is start
  simp [subT, w1, fl, ll, es]
noncomputable def u_fin : Ev → Out := (S.seq (S.pre (wipeE [8, 9]) (S.forS false (E.iterA dZip (E.cons (E.var 3) (E.cons (E.slice (E.var 7) (E.o1 (E.app dLen (E.cons (E.var 1) E.nil))) E.o0) E.nil))) (G.tup 2 (G.cons (G.one 8) (G.cons (G.one 9) G.nil))) [8, 9]
      (S.ifs (E.bnot (E.tst (E.app f__law_deal_is (E.cons (E.app f_deal_of (E.cons (E.var 2) (E.cons (E.var 8) E.nil))) (E.cons (E.var 9) E.nil))))) (S.ret (E.c (.bl false))) S.skip)))
    (S.seq (S.asg false 7 (E.app f__law_due (E.cons (E.var 1) (E.cons (E.var 10) E.nil))))
    (S.seq (S.pre (frz 11) (S.pre (wipeE [8]) (S.forS false (E.iterA dRev (E.cons (E.var 11) E.nil)) (G.one 8) [8]
      (S.ifs (E.tst (E.un (dIsi "str") (E.app f__law_due (E.cons (E.var 1) (E.cons (E.var 8) E.nil))))) (S.asg false 7 (E.app f__law_due (E.cons (E.var 1) (E.cons (E.var 8) E.nil)))) S.skip))))
    (S.seq (S.asg false 13 (E.bin dMod (E.bin dDiv (E.app f__law_cell_at (E.cons (E.var 0) (E.cons (E.c (.int 5)) E.nil))) (E.c (.int 4))) (E.c (.int 2))))
    (S.seq (S.ifs (E.tst (E.bin dEq (E.var 13) (E.c (.int 0)))) (S.asg false 7 (E.app f__law_due (E.cons (E.var 1) (E.cons (E.var 10) E.nil)))) S.skip)
    (S.seq (S.asg false 14 (E.app f__law_told (E.cons (E.var 2) (E.cons (E.var 10) (E.cons (E.bin dAdd (E.var 11) (E.ofL (E.lst (E.cons (E.var 10) E.nil)))) (E.cons (E.var 13) E.nil))))))
    (S.seq (S.ifs (E.tst (E.un (dIsi "str") (E.var 7))) (S.ret (E.vand (E.un (dIsi "str") (E.var 14)) (E.bin dEq (E.var 14) (E.var 7)))) S.skip)
    (S.ret (E.app f__law_deal_is (E.cons (E.var 14) (E.cons (E.var 7) E.nil)))))))))))
/-- the last: the first of the wrong ones, or the deal -/
theorem last_ok {ks : Ks} (h : Kinds ks) (ns : List Int) (os : List Of) (ho : ∀ o ∈ os, OfOk ks.length o) (hol : os.length ≤ 12) (e4 e5 e6 : Sl) {x : D} {ah : List D} (ox : Off 66 x) (oa : ∀ z ∈ ah, Off 66 z) (la : ah.length ≤ 14) :
    u_fin [.sh (.scr ns), .sh (.lst (ks.map kD)), .sh (shopD ks), .sh (.lst (os.map (ofD ks))), e4, e5, e6, .sh (.lst ((dealsOf ks os).map dD)), .no, .no, .sh x, .own ah, .no, .no, .no] = .rt (.bl true) := by
  have km := h.most
  have v5 : f__law_cell_at [.scr ns, .int 5] = _ := cell_at_ok ns 5
  generalize cellAt ns 5 = c5 at *
  have d4 : dDiv (.int c5) (.int 4) = .ok (.int (c5 / 4)) := div_ii (by decide)
  have m2 : dMod (.int (c5 / 4)) (.int 2) = .ok (.int (c5 / 4 % 2)) := mod_ii (by decide)
  have dl : ((dealsOf ks os).map dD).drop ks.length = os.map fun o => dD (dealOf ks o) := by
    unfold dealsOf
    rw [List.map_append, List.drop_left' (by simp), List.map_map]
    rfl
  have sl := slice_fromL (ds := (dealsOf ks os).map dD) ks.length
  rw [dl] at sl
  have zp : pairs (os.map (ofD ks)) (os.map fun o => dD (dealOf ks o)) = os.map fun o => .tup [ofD ks o, dD (dealOf ks o)] := by
    unfold pairs
    rw [List.zipWith_map, List.zipWith_self]
  have zl : ∀ (e0 e1 e3 e4 e5 e6 e7 e10 e11 e12 e13 e14 : Sl), S.forF (G.tup 2 (G.cons (G.one 8) (G.cons (G.one 9) G.nil))) [8, 9] (S.ifs (E.bnot (E.tst (E.app f__law_deal_is (E.cons (E.app f_deal_of (E.cons (E.var 2) (E.cons (E.var 8) E.nil))) (E.cons (E.var 9) E.nil))))) (S.ret (E.c (.bl false))) S.skip) (os.map fun o => D.tup [ofD ks o, dD (dealOf ks o)]) [e0, e1, .sh (shopD ks), e3, e4, e5, e6, e7, .no, .no, e10, e11, e12, e13, e14] = .nx [e0, e1, .sh (shopD ks), e3, e4, e5, e6, e7, .no, .no, e10, e11, e12, e13, e14] := fun e0 e1 e3 e4 e5 e6 e7 e10 e11 e12 e13 e14 => by
    refine forF_all (fun o => D.tup [ofD ks o, dD (dealOf ks o)]) _ os fun o hm => ?_
    have d1 := deal_of_ok h o (ho o hm)
    have d2 := deal_is_ok (deal_good h (ho o hm)) km
    generalize dD (dealOf ks o) = dd at *
    generalize ofD ks o = oo at *
    rw [turn2]
    simp [d1, d2]
  -- what is due of one
  have one : ∀ {y : D}, Off 66 y → Vd ks y := fun oy => off_vd h (by decide) oy
  have gd : ∀ {o : Of}, OfOk ks.length o → f__law_deal_is [dD (dealOf ks o), dD (dealOf ks o)] = .ok (.bl true) := fun q => deal_is_ok (deal_good h q) km
  obtain ⟨dx, hx, cx⟩ : ∃ dx, f__law_due [.lst (ks.map kD), x] = .ok dx ∧ ((∃ c w, Ref ks c w x ∧ dx = .str w) ∨ ∃ o, OfOk ks.length o ∧ x = ofD ks o ∧ dx = dD (dealOf ks o)) := by
    rcases vd_cases (one ox) with ⟨c, w, r⟩ | ⟨o, hoo, rfl⟩
    · exact ⟨_, r.2.2, .inl ⟨c, w, r, rfl⟩⟩
    · exact ⟨_, due_ok h hoo, .inr ⟨o, hoo, rfl, rfl⟩⟩
  have ad : dAdd (.lst ah) (.lst [x]) = .ok (.lst (ah ++ [x])) := if_pos (le_line (by simp; omega))
  have av : ∀ z ∈ ah.reverse, Vd ks z := fun z hz => one (oa z (by simpa using hz))
  have rvl : ah.length ≤ LINE := le_line (by omega)
  have rvr : dRev [.lst ah] = .ok ah.reverse := rfl
  -- the end
  have fin1 : ∀ (r : D), ((∃ w, r = .str w) ∨ ∃ o, OfOk ks.length o ∧ r = dD (dealOf ks o)) →
      (∀ e3 e4 e5 e6 e9, ∃ d', S.forF (G.one 8) [8] rvBody ah.reverse (rvE ks (.sh (.scr ns)) (.sh (shopD ks)) e3 e4 e5 e6 e9 (.sh x) (.sh (.lst ah)) .no .no .no dx) = .nx (rvE ks (.sh (.scr ns)) (.sh (shopD ks)) e3 e4 e5 e6 e9 (.sh x) (.sh (.lst ah)) .no .no .no d') ∧ (c5 / 4 % 2 = 0 ∧ dx = r ∨ c5 / 4 % 2 = 1 ∧ d' = r)) →
      f__law_told [shopD ks, x, .lst (ah ++ [x]), .int (c5 / 4 % 2)] = .ok r → u_fin [.sh (.scr ns), .sh (.lst (ks.map kD)), .sh (shopD ks), .sh (.lst (os.map (ofD ks))), e4, e5, e6, .sh (.lst ((dealsOf ks os).map dD)), .no, .no, .sh x, .own ah, .no, .no, .no] = .rt (.bl true) := fun r hr lp ht => by
    obtain ⟨d', lp, hw⟩ := lp (.sh (.lst (os.map (ofD ks)))) e4 e5 e6 .no
    unfold rvBody rvE at lp
    have ol : (os.map (ofD ks)).length = os.length := by simp
    have kl : (ks.map kD).length = ks.length := by simp
    have isd : ∀ d : Deal, dIsi "str" (dD d) = .ok (.bl false) := fun d => by simp [subT]
    clear av dl one ox oa cx rvl
    rcases hr with ⟨w, rfl⟩ | ⟨o, hoo, rfl⟩
    · rcases hw with ⟨e, rfl⟩ | ⟨e, rfl⟩
      · rw [e] at m2 ht
        generalize (os.map fun o => dD (dealOf ks o)) = DO at *
        generalize (dealsOf ks os).map dD = DS at *
        generalize ks.map kD = LK at *
        generalize shopD ks = SH at *
        generalize os.map (ofD ks) = OS at *
        generalize ah ++ [x] = AX at *
        unfold u_fin
        simp [kl, sl, zp, zl, hx, rvr, lp, v5, d4, m2, ad, ht, subT]
      · rw [e] at m2 ht
        generalize (os.map fun o => dD (dealOf ks o)) = DO at *
        generalize (dealsOf ks os).map dD = DS at *
        generalize ks.map kD = LK at *
        generalize shopD ks = SH at *
        generalize os.map (ofD ks) = OS at *
        generalize ah ++ [x] = AX at *
        unfold u_fin
        simp [kl, sl, zp, zl, hx, rvr, lp, v5, d4, m2, ad, ht, subT]
    · have g := gd hoo
      have i := isd (dealOf ks o)
      generalize dD (dealOf ks o) = dd at *
      rcases hw with ⟨e, rfl⟩ | ⟨e, rfl⟩
      · rw [e] at m2 ht
        generalize (os.map fun o => dD (dealOf ks o)) = DO at *
        generalize (dealsOf ks os).map dD = DS at *
        generalize ks.map kD = LK at *
        generalize shopD ks = SH at *
        generalize os.map (ofD ks) = OS at *
        generalize ah ++ [x] = AX at *
        unfold u_fin
        simp [kl, sl, zp, zl, hx, rvr, lp, v5, d4, m2, ad, ht, i, g]
      · rw [e] at m2 ht
        generalize (os.map fun o => dD (dealOf ks o)) = DO at *
        generalize (dealsOf ks os).map dD = DS at *
        generalize ks.map kD = LK at *
        generalize shopD ks = SH at *
        generalize os.map (ofD ks) = OS at *
        generalize ah ++ [x] = AX at *
        unfold u_fin
        simp [kl, sl, zp, zl, hx, rvr, lp, v5, d4, m2, ad, ht, i, g]
  have c0 := Int.emod_nonneg (c5 / 4) (show (2 : Int) ≠ 0 by decide)
  have c1 := Int.emod_lt_of_pos (c5 / 4) (show (0 : Int) < 2 by decide)
  rcases (show c5 / 4 % 2 = 0 ∨ c5 / 4 % 2 = 1 by omega) with e | e
  · refine fin1 dx ?_ (fun e3 e4 e5 e6 e9 => ?_) ?_
    · rcases cx with ⟨c, w, _, q⟩ | ⟨o, q1, _, q2⟩
      · exact .inl ⟨w, q⟩
      · exact .inr ⟨o, q1, q2⟩
    · obtain ⟨d', q⟩ := rv_any h (.sh (.scr ns)) (.sh (shopD ks)) e3 e4 e5 e6 e9 (.sh x) (.sh (.lst ah)) .no .no .no ah.reverse av dx
      exact ⟨d', q, .inl ⟨e, rfl⟩⟩
    · rw [e]
      rcases cx with ⟨c, w, r, rfl⟩ | ⟨o, q1, rfl, rfl⟩
      · exact told_0x r.1 r.2.1
      · exact told_0 (deal_of_ok h o q1)
  · have al : ∀ z ∈ ah ++ [x], Vd ks z := fun z hz => by
      rcases List.mem_append.mp hz with q | q
      · exact one (oa z q)
      · rw [List.mem_singleton.mp q]; exact one ox
    rcases first_bad (ah ++ [x]) al with ⟨os', h1, h2⟩ | ⟨os', y, zs, c, w, h1, h2, r⟩
    · -- all are deals
      obtain ⟨os2, o, rfl⟩ : ∃ os2 o, os' = os2 ++ [o] := by
        rcases List.eq_nil_or_concat os' with rfl | ⟨os2, o, rfl⟩
        · simp at h2
        · exact ⟨os2, o, by simp⟩
      rw [List.map_append] at h2
      obtain ⟨q1, q2⟩ := List.append_inj' h2 rfl
      have q3 : x = ofD ks o := by simpa using q2
      have hoo := h1 o (by simp)
      have du := due_ok h hoo
      rw [← q3, hx] at du
      have du : dx = dD (dealOf ks o) := by injection du
      have dk := deals_ok h h1 (by
        have := congrArg List.length q1
        simp at this
        simp
        omega)
      have tl : f__law_told [shopD ks, x, .lst (ah ++ [x]), .int 1] = .ok (dD (dealOf ks o)) := by
        rw [h2, ← List.map_append]
        refine told_1 dk ?_
        have e1 : ((((os2 ++ [o]).map (ofD ks)).length : Int) + ((ks.map nD).length : Int) - 1) = ((ks.length + os2.length : Nat) : Int) := by
          simp
          omega
        rw [e1]
        refine ix_ln ?_
        unfold dealsOf
        rw [List.map_append, List.map_append, List.getElem?_append_right (by simp), List.map_append, List.getElem?_append_right (by simp)]
        simp
      refine fin1 (dD (dealOf ks o)) (.inr ⟨o, hoo, rfl⟩) (fun e3 e4 e5 e6 e9 => ?_) (by rw [e]; exact tl)
      refine ⟨dx, rv_deals h (.sh (.scr ns)) (.sh (shopD ks)) e3 e4 e5 e6 e9 (.sh x) (.sh (.lst ah)) .no .no .no ah.reverse (fun z hz => ?_) dx, .inr ⟨e, du⟩⟩
      rw [List.mem_reverse, q1] at hz
      obtain ⟨p, hp, rfl⟩ := List.mem_map.mp hz
      exact ⟨p, h1 p (List.mem_append_left _ hp), rfl⟩
    · have cc : c = "BadOffer" ∨ c = "NoKind" := by
        cases r.1
        · exact .inl rfl
        · exact .inr rfl
      have tl : f__law_told [shopD ks, x, .lst (ah ++ [x]), .int 1] = .ok (.str w) := by
        rw [h2]
        refine told_1x r.1 (deals_x h h1 ?_ r.2.1 cc)
        have := congrArg List.length h2
        simp at this
        omega
      refine fin1 (.str w) (.inl ⟨w, rfl⟩) (fun e3 e4 e5 e6 e9 => ?_) (by rw [e]; exact tl)
      rcases List.eq_nil_or_concat zs with rfl | ⟨zs', z, rfl⟩
      · obtain ⟨q1, q2⟩ := List.append_inj' h2 rfl
        have q3 : x = y := by simpa using q2
        subst q3
        have du := r.2.2
        rw [hx] at du
        have du : dx = .str w := by injection du
        refine ⟨dx, rv_deals h (.sh (.scr ns)) (.sh (shopD ks)) e3 e4 e5 e6 e9 (.sh x) (.sh (.lst ah)) .no .no .no ah.reverse (fun z hz => ?_) dx, .inr ⟨e, du⟩⟩
        rw [List.mem_reverse, q1] at hz
        obtain ⟨p, hp, rfl⟩ := List.mem_map.mp hz
        exact ⟨p, h1 p hp, rfl⟩
      · have h2' : ah ++ [x] = (os'.map (ofD ks) ++ y :: zs') ++ [z] := by rw [h2]; simp
        obtain ⟨q1, q2⟩ := List.append_inj' h2' rfl
        refine ⟨.str w, ?_, .inr ⟨e, rfl⟩⟩
        rw [q1]
        exact rv_first h (.sh (.scr ns)) (.sh (shopD ks)) e3 e4 e5 e6 e9 (.sh x) _ .no .no .no h1 r (fun v hv => one (oa v (by rw [q1]; simp [hv]))) dx
theorem wide_of {ks : Ks} (h : Kinds ks) {o : Of} (ho : OfOk ks.length o) : wide 8 (ofD ks o) = true := by
  have q := off_of h ho
  generalize ofD ks o = x at *
  obtain ⟨o1, f⟩ := q
  obtain ⟨ps, rfl, _⟩ := form_len f
  cases o1 with
  | no e => simp [subT] at e
  | tup hl hp => exact wide_le (n := 5) (by decide) (wide_t fun d hd => (hp d hd).w)
theorem wide_d8 (d : Deal) : wide 8 (dD d) = true := by
  refine wide_t fun x hx => ?_
  simp only [List.mem_cons, List.not_mem_nil, or_false] at hx
  rcases hx with rfl | rfl
  · exact wide_t fun y hy => by
      obtain ⟨i, _, rfl⟩ := List.mem_map.mp hy
      simp [wide]
  · simp [wide]
theorem law_true (ns : List Int) (hl : ns.length ≤ 63) : f_law [.scr ns] = .ok (.bl true) := by
  obtain ⟨ks, hk, eks⟩ := kinds_ok ns hl
  obtain ⟨os, ho, hol, eos⟩ := law_offers_ok hk ns hl 20
  rw [show (((20 : Nat)) : Int) = 20 from rfl] at eos
  have km := hk.most
  have esh := Shop_ok hk
  have rv : dListRev [.lst (os.map (ofD ks))] = .ok (os.reverse.map (ofD ks)) := by
    show R.ok (os.map (ofD ks)).reverse = _
    rw [← List.map_reverse]
  have dr := deals_ok hk (os := os.reverse) (fun o q => ho o (by simpa using q)) (by rw [List.length_reverse]; omega)
  have dk := deals_ok hk ho (by omega)
  have ld := law_deals_ok hk ho (by omega)
  have dln : ((dealsOf ks os).map dD).length = ks.length + os.length := by simp [dealsOf]
  have hz : ((dealsOf ks os).map dD).length < LINE := lt_line (by rw [dln]; omega)
  have wO : ∀ d ∈ os.map (ofD ks), wide 8 d = true := fun d hd => by
    obtain ⟨o, hm, rfl⟩ := List.mem_map.mp hd
    exact wide_of hk (ho o hm)
  have n1 := ne_same (wide_l wO)
  have ad : dAdd (.lst ((dealsOf ks os).map dD)) (.lst [.int 0]) = .ok (.lst ((dealsOf ks os).map dD ++ [.int 0])) := if_pos (le_line (by rw [dln]; simp; omega))
  have n2 : dNe (.lst ((dealsOf ks os).map dD ++ [.int 0])) (.lst ((dealsOf ks os).map dD ++ [.int 0])) = .ok (.bl false) := ne_same (wide_l fun d hd => by
    rcases List.mem_append.mp hd with q | q
    · obtain ⟨e, _, rfl⟩ := List.mem_map.mp q
      exact wide_d8 e
    · rw [List.mem_singleton.mp q]
      simp [wide])
  have zp : pairs ((dealsOf ks os).map dD) ((dealsOf ks os).map dD) = (dealsOf ks os).map fun d => .tup [dD d, dD d] := by
    unfold pairs
    rw [List.zipWith_map, List.zipWith_self]
  have gds := deals_good hk ho
  have zl : ∀ (e0 e1 e2 e3 e4 e5 e6 e7 e10 e11 e12 e13 e14 : Sl), S.forF (G.tup 2 (G.cons (G.one 8) (G.cons (G.one 9) G.nil))) [8, 9] (S.ifs (E.bnot (E.tst (E.app f__law_deal_is (E.cons (E.var 8) (E.cons (E.var 9) E.nil))))) (S.ret (E.c (.bl false))) S.skip) ((dealsOf ks os).map fun d => D.tup [dD d, dD d]) [e0, e1, e2, e3, e4, e5, e6, e7, .no, .no, e10, e11, e12, e13, e14] = .nx [e0, e1, e2, e3, e4, e5, e6, e7, .no, .no, e10, e11, e12, e13, e14] := fun e0 e1 e2 e3 e4 e5 e6 e7 e10 e11 e12 e13 e14 => by
    refine forF_all (fun d => D.tup [dD d, dD d]) _ _ fun d hm => ?_
    have d2 := deal_is_ok (gds d hm) km
    generalize dD d = dd at *
    rw [turn2]
    simp [d2]
  have nb := number_ok ns 40 hl
  rw [show (((40 : Nat)) : Int) = 40 from rfl] at nb
  obtain ⟨o4, ho4, e40⟩ := law_offer_ok hk (numAt_nonneg ns 40)
  have v3 : f__law_cell_at [.scr ns, .int 3] = _ := cell_at_ok ns 3
  have m3 : dMod (.int (cellAt ns 3)) (.int 3) = .ok (.int (cellAt ns 3 % 3)) := mod_ii (by decide)
  obtain ⟨N, hN, eN⟩ : ∃ N : Nat, N ≤ 2 ∧ cellAt ns 3 % 3 = N := ⟨(cellAt ns 3 % 3).toNat, by omega, by omega⟩
  rw [eN] at m3
  have r1 := range1_nat (n := N) (by omega)
  have oa : ∀ z ∈ os.map (ofD ks), Off 66 z := fun z hm => by
    obtain ⟨o, q, rfl⟩ := List.mem_map.mp hm
    exact (off_of hk (ho o q)).1.le (by decide)
  obtain ⟨⟨x, ah⟩, h1, h2, h3, h4⟩ := ch_loop hk ns hl (.sh (shopD ks)) (.sh (.lst (os.map (ofD ks)))) (.sh (.lst (os.map (ofD ks)))) (.own ((dealsOf ks os).map dD ++ [.int 0])) (.sh (.lst ((dealsOf ks os).map dD))) (.sh (.lst ((dealsOf ks os).map dD))) .no .no (off_of hk ho4).1 oa (by simpa using hol) hN
  have la := last_ok hk ns os ho hol (.sh (.lst (os.map (ofD ks)))) (.own ((dealsOf ks os).map dD ++ [.int 0])) (.sh (.lst ((dealsOf ks os).map dD))) h2 h3 h4
  simp only at h1 la
  unfold chBody gateT at h1
  show fin (S.seq _ (S.seq _ (S.seq _ (S.seq _ (S.seq _ (S.seq _ (S.seq _ (S.seq _ (S.seq _ (S.seq _ (S.seq _ (S.seq _ (S.seq _ (S.seq _ (S.seq _ u_fin)))))))))))))) [.sh (.scr ns), .no, .no, .no, .no, .no, .no, .no, .no, .no, .no, .no, .no, .no, .no]) = _
  generalize u_fin = U at *
  generalize ofD ks o4 = O4 at *
  clear oa h2 h3 wO gds
  generalize (dealsOf ks os).map (fun d => D.tup [dD d, dD d]) = DZ at *
  generalize hX : (dealsOf ks os).map dD ++ [.int 0] = DX at *
  generalize (dealsOf ks os).map dD = DS at *
  generalize (dealsOf ks os.reverse).map dD = DR at *
  generalize os.reverse.map (ofD ks) = OR at *
  generalize os.map (ofD ks) = OS at *
  generalize ks.map kD = LK at *
  generalize shopD ks = SH at *
  generalize (List.range N).map (fun (k : Nat) => D.int k) = RN at *
  simp [eks, esh, eos, rv, dr, dk, ld, hz, n1, ad, hX, n2, zp, zl, nb, e40, v3, m3, r1, h1, la, subT]
end TB
namespace TB
open PySem PySem.Spec PyProof.Rows L2
def top (i : Nat) : Stmt := PySem.Challenge.pw_tillbasket_k03_offers_and_deals.main.body.getD i (.Pass ⟨0, 0, 0, 0⟩)
def meth (i j : Nat) : Stmt := (match top i with | .ClassDef (body := b) .. => b | _ => []).getD j (.Pass ⟨0, 0, 0, 0⟩)
/-- what the top has written -/
structure Txt (w : World) (K : PySem.W.Frag) (mg : Str → Option Value) : Prop where
  sh : Sh K mg (meth 18 0) (meth 18 1)
  e_TillError : ExF K mg "TillError"
  e_BadKinds : ExF K mg "BadKinds"
  e_BadName : ExF K mg "BadName"
  e_Twice : ExF K mg "Twice"
  e_BadPrice : ExF K mg "BadPrice"
  e_BadBasket : ExF K mg "BadBasket"
  e_TooMany : ExF K mg "TooMany"
  e_BadOffer : ExF K mg "BadOffer"
  e_NoKind : ExF K mg "NoKind"
  e_NoOffer : ExF K mg "NoOffer"
  c_PARTS : Tb w K mg PARTS
  x : ∀ c ∈ errL, Exn K mg ysL c
  d_is_number : Df K mg "is_number" (top 16) ["thing", "least", "most"]
  d_is_name : Df K mg "is_name" (top 17) ["thing"]
  d_need_form : Df K mg "need_form" (top 23) ["offer"]
  d_need : Df K mg "need" (top 24) ["good"]
  d_is_wants : Df K mg "is_wants" (top 25) ["wants"]
  d_names_in : Df K mg "names_in" (top 26) ["offer"]
  d_need_parts : Df K mg "need_parts" (top 27) ["offer"]
  d_wanted : Df K mg "wanted" (top 28) ["shop", "pairs"]
  d_deal_of : Df K mg "deal_of" (top 29) ["shop", "offer"]
  d_deals : Df K mg "deals" (top 30) ["shop", "offers"]
  d__law_cell_at : Df K mg "_law_cell_at" (top 32) ["_law_script", "_law_k"]
  d__law_number : Df K mg "_law_number" (top 33) ["_law_script", "_law_k"]
  d__law_name_by : Df K mg "_law_name_by" (top 34) ["_law_script", "_law_k"]
  d__law_kinds : Df K mg "_law_kinds" (top 35) ["_law_script"]
  d__law_offer : Df K mg "_law_offer" (top 36) ["_law_kinds_here", "_law_number_here"]
  d__law_offers : Df K mg "_law_offers" (top 37) ["_law_script", "_law_kinds_here", "_law_start"]
  d__law_deal : Df K mg "_law_deal" (top 38) ["_law_kinds_here", "_law_offer_here"]
  d__law_deals : Df K mg "_law_deals" (top 39) ["_law_kinds_here", "_law_offers_here"]
  d__law_whole : Df K mg "_law_whole" (top 40) ["_law_found"]
  d__law_listed : Df K mg "_law_listed" (top 41) ["_law_found", "_law_due_here"]
  d__law_deal_is : Df K mg "_law_deal_is" (top 42) ["_law_found", "_law_due_here"]
  d__law_changed : Df K mg "_law_changed" (top 43) ["_law_offer_here", "_law_number_here"]
  d__law_in : Df K mg "_law_in" (top 44) ["_law_thing", "_law_least", "_law_most"]
  d__law_sound : Df K mg "_law_sound" (top 45) ["_law_offer_here"]
  d__law_names : Df K mg "_law_names" (top 46) ["_law_offer_here"]
  d__law_due : Df K mg "_law_due" (top 47) ["_law_kinds_here", "_law_offer_here"]
  d__law_one_class : Df K mg "_law_one_class" (top 48) ["_law_e"]
  d__law_told : Df K mg "_law_told" (top 49) ["_law_shop", "_law_offer_here", "_law_ahead", "_law_way"]
  d_law : Df K mg "law" (top 50) ["_law_script"]
  bl_law : ∀ (s : Shared) (u : Value), BindsTo s (fdOf K (He.ga K "law")) ⟨[u], []⟩ [("_law_script", u)]
  n_ValueError : mg "ValueError" = none
  n_bool : mg "bool" = none
  n_int : mg "int" = none
  n_isinstance : mg "isinstance" = none
  n_len : mg "len" = none
  n_list : mg "list" = none
  n_max : mg "max" = none
  n_range : mg "range" = none
  n_reversed : mg "reversed" = none
  n_str : mg "str" = none
  n_tuple : mg "tuple" = none
  n_zip : mg "zip" = none
  c_LETTERS : ∃ t, mg "LETTERS" = some (.str "abcdefghijklmnopqrstuvwxyz" t)
  c_LONGEST : ∃ t, mg "LONGEST" = some (.int 8 t)
  c_MOST_KINDS : ∃ t, mg "MOST_KINDS" = some (.int 5 t)
  c_MOST_PAIRS : ∃ t, mg "MOST_PAIRS" = some (.int 5 t)
  c_MOST_PIECES : ∃ t, mg "MOST_PIECES" = some (.int 9 t)
  c_MOST_PRICE : ∃ t, mg "MOST_PRICE" = some (.int 100000 t)
section
variable {P : Program} {w : World} {K : PySem.W.Frag} {mg : Str → Option Value} {base : Heap}
abbrev N_is_number : List Str := ["thing", "least", "most"]
theorem sc_is_number : FnScope N_is_number ["thing", "least", "most"] (defScope (top 16)) := ⟨rfl, rfl, rfl, by decide +kernel, rfl, by decide +kernel, by decide +kernel⟩
theorem ok_is_number (T : Txt w K mg) : OkD P w K mg base 1 "is_number" ["thing", "least", "most"] f_is_number := fnD (k := 0) (u := u_is_number) (N := N_is_number) T.d_is_number sc_is_number fun cdv A outer s H E hr W tk =>
    ss_one (s_ret (ps_ret (d_and (d_isi (by decide) rfl T.n_isinstance rfl T.n_int rfl (d_var (pv 0))) (d_and (d_not (d_isi (by decide) rfl T.n_isinstance rfl T.n_bool rfl (d_var (pv 0)))) (d_one (d_chain op_le op_le dC_D dC_calm dC_D dC_calm (d_var (pv 1)) (d_var (pv 0)) (d_var (pv 2))))))))

abbrev N_is_name : List Str := ["thing", "sign"]
theorem sc_is_name : FnScope N_is_name ["thing"] (defScope (top 17)) := ⟨rfl, rfl, rfl, by decide +kernel, rfl, by decide +kernel, by decide +kernel⟩
theorem ok_is_name (T : Txt w K mg) : OkD P w K mg base 1 "is_name" ["thing"] f_is_name := fnD (k := 0) (u := u_is_name) (N := N_is_name) T.d_is_name sc_is_name fun cdv A outer s H E hr W tk =>
    ss_cons (s_if (b_w (w_or (b_not (b_val (d_isi (by decide) rfl T.n_isinstance rfl T.n_str rfl (d_var (pv 0))))) (w_or1 (b_not (b_chain op_le op_le dC_D dC_calm dC_D dC_calm d_int (d_callB call_lenB len_D len_calm rfl T.n_len (by decide +kernel) (a_cons (d_var (pv 0)) a_nil)) (d_gint rfl T.c_LONGEST)))))) (ss_one (s_ret (ps_ret d_bl))) ss_nil)
    (ss_cons (s_pre (k_wipe [1]) (s_for rfl (passes_of rfl) rfl (i_dyn (d_var (pv 0))) (g_one (pg_name (i := 1) sc_is_name.nd rfl (.inl rfl)))
      (ss_one (s_if (b_cmp op_notInB in_D in_calm (d_var (pv 1)) (d_gstr rfl T.c_LETTERS)) (ss_one (s_ret (ps_ret d_bl))) ss_nil))))
    (ss_one (s_ret (ps_ret d_bl))))

abbrev N___init__ : List Str := ["self", "kinds", "kind"]
theorem sc___init__ : FnScope N___init__ ["self", "kinds"] (defScope (meth 18 0)) := ⟨rfl, rfl, rfl, by decide +kernel, rfl, by decide +kernel, by decide +kernel⟩
theorem ini_of (T : Txt w K mg) : IniF K mg := ⟨T.sh.cl, T.sh.n1, T.sh.n2, T.e_BadKinds.g, T.e_BadName.g, T.e_Twice.g, T.e_BadPrice.g⟩
theorem ok___init__ (T : Txt w K mg) : FnOk P w K mg base (L2.CX P w) 2 (maI K) (fdOf K (maI K)) ["self", "kinds"] (SpI mg (shopC K) (initF f_is_name f_is_number)) := by
  refine T.sh.FI.okX (k := 1) sc___init__ (fun vs H Q E h => by obtain ⟨x, dx, v, F, d, rfl, _⟩ := h; rfl) fun cdv A outer s H vs Q E hr h => ⟨tInit K mg (fun cls d _ H => E cls d H) f_is_name f_is_number, ?_, init_ok (ini_of T) h⟩
  have tk := takes_of (X := cxOf (L2.CX P w) P w K mg base N___init__ "Shop.__init__" (defScope (meth 18 0)) (maI K) cdv A outer s H E) rfl rfl rfl rfl
  exact pss_cons (ps_if (b_w (w_or (b_not (b_val (d_isi (by decide) rfl T.n_isinstance rfl T.n_list rfl (d_var (pv 1))))) (w_or1 (b_not (b_chain op_le op_le dC_D dC_calm dC_D dC_calm d_int (d_callB call_lenB len_D len_calm rfl T.n_len (by decide +kernel) (a_cons (d_var (pv 1)) a_nil)) (d_gint rfl T.c_MOST_KINDS)))))) (pss_one (s_rz T.e_BadKinds tk)) pss_nil)
    (pss_cons (ps_fld (pv 0) (pe_lst pa_nil) rfl) (pss_cons (ps_fld (pv 0) (pe_lst pa_nil) rfl)
    (pss_one (ps_for (passes_of rfl) rfl (i_dyn (d_var (pv 1))) (pg_name (i := 2) sc___init__.nd rfl (.inl rfl))
    (pss_cons (ps_if (b_w (w_or (b_not (b_val (d_isi (by decide) rfl T.n_isinstance rfl T.n_tuple rfl (d_var (pv 2))))) (w_or (b_cmp (op_neB hr.units) ne_D ne_calm (d_callB call_lenB len_D len_calm rfl T.n_len (by decide +kernel) (a_cons (d_var (pv 2)) a_nil)) d_int) (w_or1 (b_not (b_val (d_def (ok_is_name T) T.d_is_name hr (by decide) tk (a_cons (d_ix (d_var (pv 2)) d_int) a_nil) (cons_len nil_len)))))))) (pss_one (s_rz T.e_BadName tk)) pss_nil)
    (pss_cons (ps_if (pt_cmpR op_inB (d_ix (d_var (pv 2)) d_int) (pe_fld (pv 0) rfl) rfl) (pss_one (s_rz T.e_Twice tk)) pss_nil)
    (pss_cons (ps_if (b_not (b_val (d_def (ok_is_number T) T.d_is_number hr (by decide) tk (a_cons (d_ix (d_var (pv 2)) d_int) (a_cons d_int (a_cons (d_gint rfl T.c_MOST_PRICE) a_nil))) (cons_len (cons_len (cons_len nil_len)))))) (pss_one (s_rz T.e_BadPrice tk)) pss_nil)
    (pss_cons (ps_expr (pe_bm PySem.F.plainAttrs_list PySem.F.slot_list_append PySem.F.type_list_append mt_append (pe_fld (pv 0) rfl) (pa_cons (d_ix (d_var (pv 2)) d_int) pa_nil))) (pss_one (ps_expr (pe_bm PySem.F.plainAttrs_list PySem.F.slot_list_append PySem.F.type_list_append mt_append (pe_fld (pv 0) rfl) (pa_cons (d_ix (d_var (pv 2)) d_int) pa_nil))))))))))))

abbrev N_place : List Str := ["self", "name"]
theorem sc_place : FnScope N_place ["self", "name"] (defScope (meth 18 1)) := ⟨rfl, rfl, rfl, by decide +kernel, rfl, by decide +kernel, by decide +kernel⟩
theorem ok_place (T : Txt w K mg) : FnOk P w K mg base (L2.CX P w) 1 (maP K) (fdOf K (maP K)) ["self", "name"] (SpD mg (shopC K) 2 f_place) := fnG (k := 0) (u := u_place) (N := N_place) (ps := ["self", "name"]) T.sh.FP sc_place fun cdv A outer s H E hr W tk =>
    ss_cons (s_if (b_w (w_or (b_not (b_val (d_isi (by decide) rfl T.n_isinstance rfl T.n_str rfl (d_var (pv 1))))) (w_or1 (b_cmp op_notInB in_D in_calm (d_var (pv 1)) (d_names T.sh (d_var (pv 0))))))) (ss_one (s_raise T.e_NoKind rfl tk)) ss_nil)
    (ss_one (s_ret (ps_ret (d_index (d_names T.sh (d_var (pv 0))) (d_var (pv 1))))))

abbrev N_need_form : List Str := ["offer"]
theorem sc_need_form : FnScope N_need_form ["offer"] (defScope (top 23)) := ⟨rfl, rfl, rfl, by decide +kernel, rfl, by decide +kernel, by decide +kernel⟩
theorem ok_need_form (T : Txt w K mg) : OkD P w K mg base 1 "need_form" ["offer"] f_need_form := fnD (k := 0) (u := u_need_form) (N := N_need_form) T.d_need_form sc_need_form fun cdv A outer s H E hr W tk =>
    ss_cons (s_if (b_w (w_or (b_not (b_val (d_isi (by decide) rfl T.n_isinstance rfl T.n_tuple rfl (d_var (pv 0))))) (w_or (b_cmp (op_eqB hr.units) eq_D eq_calm (d_callB call_lenB len_D len_calm rfl T.n_len (by decide +kernel) (a_cons (d_var (pv 0)) a_nil)) d_int) (w_or1 (b_not (b_val (d_isi (by decide) rfl T.n_isinstance rfl T.n_str rfl (d_ix (d_var (pv 0)) d_int)))))))) (ss_one (s_raise T.e_BadOffer rfl tk)) ss_nil)
    (ss_one (s_if (b_w (w_or (b_nitab T.c_PARTS (d_ix (d_var (pv 0)) d_int)) (w_or1 (b_cmp (op_neB hr.units) ne_D ne_calm (d_callB call_lenB len_D len_calm rfl T.n_len (by decide +kernel) (a_cons (d_var (pv 0)) a_nil)) (d_tab T.c_PARTS (d_ix (d_var (pv 0)) d_int)))))) (ss_one (s_raise T.e_BadOffer rfl tk)) ss_nil))

abbrev N_need : List Str := ["good"]
theorem sc_need : FnScope N_need ["good"] (defScope (top 24)) := ⟨rfl, rfl, rfl, by decide +kernel, rfl, by decide +kernel, by decide +kernel⟩
theorem ok_need (T : Txt w K mg) : OkD P w K mg base 1 "need" ["good"] f_need := fnD (k := 0) (u := u_need) (N := N_need) T.d_need sc_need fun cdv A outer s H E hr W tk =>
    ss_one (s_if (b_not (b_val (d_var (pv 0)))) (ss_one (s_raise T.e_BadOffer rfl tk)) ss_nil)

abbrev N_is_wants : List Str := ["wants", "pair"]
theorem sc_is_wants : FnScope N_is_wants ["wants"] (defScope (top 25)) := ⟨rfl, rfl, rfl, by decide +kernel, rfl, by decide +kernel, by decide +kernel⟩
theorem ok_is_wants (T : Txt w K mg) : OkD P w K mg base 1 "is_wants" ["wants"] f_is_wants := fnD (k := 0) (u := u_is_wants) (N := N_is_wants) T.d_is_wants sc_is_wants fun cdv A outer s H E hr W tk =>
    ss_cons (s_if (b_not (b_val (d_isi (by decide) rfl T.n_isinstance rfl T.n_tuple rfl (d_var (pv 0))))) (ss_one (s_ret (ps_ret d_bl))) ss_nil)
    (ss_cons (s_pre (k_wipe [1]) (s_for rfl (passes_of rfl) rfl (i_dyn (d_var (pv 0))) (g_one (pg_name (i := 1) sc_is_wants.nd rfl (.inl rfl)))
      (ss_one (s_if (b_w (w_or (b_not (b_val (d_isi (by decide) rfl T.n_isinstance rfl T.n_tuple rfl (d_var (pv 1))))) (w_or1 (b_cmp (op_neB hr.units) ne_D ne_calm (d_callB call_lenB len_D len_calm rfl T.n_len (by decide +kernel) (a_cons (d_var (pv 1)) a_nil)) d_int)))) (ss_one (s_ret (ps_ret d_bl))) ss_nil))))
    (ss_one (s_ret (ps_ret d_bl))))

abbrev N_names_in : List Str := ["offer", "pair"]
theorem sc_names_in : FnScope N_names_in ["offer"] (defScope (top 26)) := ⟨rfl, rfl, rfl, by decide +kernel, rfl, by decide +kernel, by decide +kernel⟩
theorem ok_names_in (T : Txt w K mg) : OkD P w K mg base 2 "names_in" ["offer"] f_names_in := fnD (k := 1) (u := u_names_in) (N := N_names_in) T.d_names_in sc_names_in fun cdv A outer s H E hr W tk =>
    ss_cons (s_if (b_cmp (op_eqB hr.units) eq_D eq_calm (d_ix (d_var (pv 0)) d_int) d_str) (ss_cons (s_if (b_not (b_val (d_def (ok_is_wants T) T.d_is_wants hr (by decide) tk (a_cons (d_ix (d_var (pv 0)) d_int) a_nil) (cons_len nil_len)))) (ss_one (s_ret (ps_ret (d_ofL (l_lst a_nil))))) ss_nil)
    (ss_one (s_ret (ps_ret (d_ofL (l_comp (own := [("pair", 1)]) rfl sc_names_in.nd (i_dyn (d_ix (d_var (pv 0)) d_int)) (blkOk_by (N := N_names_in) (sc := defScope (top 26)) (by decide +kernel)) (fun _ _ _ _ _ => g_one (pg_name (i := 1) sc_names_in.nd rfl (.inl rfl))) (sub_one (by decide)) (fun _ _ _ _ _ => t_nil) (fun _ _ _ _ _ => d_ix (d_var (pv 1)) d_int))))))) ss_nil)
    (ss_cons (s_if (b_cmp (op_eqB hr.units) eq_D eq_calm (d_ix (d_var (pv 0)) d_int) d_str) (ss_one (s_ret (ps_ret (d_ofL (l_lst (a_cons (d_ix (d_var (pv 0)) d_int) (a_cons (d_ix (d_var (pv 0)) d_int) a_nil))))))) ss_nil)
    (ss_one (s_ret (ps_ret (d_ofL (l_lst (a_cons (d_ix (d_var (pv 0)) d_int) a_nil)))))))

abbrev N_need_parts : List Str := ["offer", "pair", "names", "name"]
theorem sc_need_parts : FnScope N_need_parts ["offer"] (defScope (top 27)) := ⟨rfl, rfl, rfl, by decide +kernel, rfl, by decide +kernel, by decide +kernel⟩
theorem ok_need_parts (T : Txt w K mg) : OkD P w K mg base 3 "need_parts" ["offer"] f_need_parts := fnD (k := 2) (u := u_need_parts) (N := N_need_parts) T.d_need_parts sc_need_parts fun cdv A outer s H E hr W tk =>
    ss_one (s_if (b_cmp (op_eqB hr.units) eq_D eq_calm (d_ix (d_var (pv 0)) d_int) d_str) (ss_one (s_drop (ps_expr (d_def (ok_need T) T.d_need hr (by decide) tk (a_cons (d_and (d_def (ok_is_number T) T.d_is_number hr (by decide) tk (a_cons (d_ix (d_var (pv 0)) d_int) (a_cons d_int (a_cons (d_gint rfl T.c_MOST_PIECES) a_nil))) (cons_len (cons_len (cons_len nil_len)))) (d_and (d_def (ok_is_number T) T.d_is_number hr (by decide) tk (a_cons (d_ix (d_var (pv 0)) d_int) (a_cons d_int (a_cons (d_gint rfl T.c_MOST_PIECES) a_nil))) (cons_len (cons_len (cons_len nil_len)))) (d_one (d_cmp op_lt dC_D dC_calm (d_ix (d_var (pv 0)) d_int) (d_ix (d_var (pv 0)) d_int))))) a_nil) (cons_len nil_len))))) (ss_one (s_if (b_cmp (op_eqB hr.units) eq_D eq_calm (d_ix (d_var (pv 0)) d_int) d_str) (ss_cons (s_drop (ps_expr (d_def (ok_need T) T.d_need hr (by decide) tk (a_cons (d_and (d_def (ok_is_wants T) T.d_is_wants hr (by decide) tk (a_cons (d_ix (d_var (pv 0)) d_int) a_nil) (cons_len nil_len)) (d_and (d_chain op_le op_le dC_D dC_calm dC_D dC_calm d_int (d_callB call_lenB len_D len_calm rfl T.n_len (by decide +kernel) (a_cons (d_ix (d_var (pv 0)) d_int) a_nil)) (d_gint rfl T.c_MOST_PAIRS)) (d_one (d_def (ok_is_number T) T.d_is_number hr (by decide) tk (a_cons (d_ix (d_var (pv 0)) d_int) (a_cons d_int (a_cons (d_gint rfl T.c_MOST_PRICE) a_nil))) (cons_len (cons_len (cons_len nil_len))))))) a_nil) (cons_len nil_len))))
    (ss_cons (s_pre (k_wipe [1]) (s_for rfl (passes_of rfl) rfl (i_dyn (d_ix (d_var (pv 0)) d_int)) (g_one (pg_name (i := 1) sc_need_parts.nd rfl (.inl rfl)))
      (ss_one (s_drop (ps_expr (d_def (ok_need T) T.d_need hr (by decide) tk (a_cons (d_def (ok_is_number T) T.d_is_number hr (by decide) tk (a_cons (d_ix (d_var (pv 1)) d_int) (a_cons d_int (a_cons (d_gint rfl T.c_MOST_PIECES) a_nil))) (cons_len (cons_len (cons_len nil_len)))) a_nil) (cons_len nil_len)))))))
    (ss_cons (s_asg (ps_set (i := 2) sc_need_parts.nd rfl (.inr rfl) (d_def (ok_names_in T) T.d_names_in hr (by decide) tk (a_cons (d_var (pv 0)) a_nil) (cons_len nil_len))))
    (ss_one (s_drop (ps_expr (d_def (ok_need T) T.d_need hr (by decide) tk (a_cons (d_cmp (op_eqB hr.units) eq_D eq_calm (d_callB call_lenB len_D len_calm rfl T.n_len (by decide +kernel) (a_cons (d_ofL (l_comp (own := [("name", 3)]) rfl sc_need_parts.nd (i_dyn (d_var (pv 2))) (blkOk_by (N := N_need_parts) (sc := defScope (top 27)) (by decide +kernel)) (fun _ _ _ _ _ => g_one (pg_name (i := 3) sc_need_parts.nd rfl (.inl rfl))) (sub_one (by decide)) (fun _ _ _ _ _ => t_one (b_cmp op_gt dC_D dC_calm (d_count (d_var (pv 2)) (d_var (pv 3))) d_int)) (fun _ _ _ _ _ => d_var (pv 3)))) a_nil)) d_int) a_nil) (cons_len nil_len)))))))) (ss_one (s_if (b_cmp (op_eqB hr.units) eq_D eq_calm (d_ix (d_var (pv 0)) d_int) d_str) (ss_one (s_drop (ps_expr (d_def (ok_need T) T.d_need hr (by decide) tk (a_cons (d_def (ok_is_number T) T.d_is_number hr (by decide) tk (a_cons (d_ix (d_var (pv 0)) d_int) (a_cons d_int (a_cons d_int a_nil))) (cons_len (cons_len (cons_len nil_len)))) a_nil) (cons_len nil_len))))) (ss_one (s_drop (ps_expr (d_def (ok_need T) T.d_need hr (by decide) tk (a_cons (d_and (d_cmp (op_neB hr.units) ne_D ne_calm (d_ix (d_var (pv 0)) d_int) (d_ix (d_var (pv 0)) d_int)) (d_one (d_def (ok_is_number T) T.d_is_number hr (by decide) tk (a_cons (d_ix (d_var (pv 0)) d_int) (a_cons d_int (a_cons (d_gint rfl T.c_MOST_PRICE) a_nil))) (cons_len (cons_len (cons_len nil_len)))))) a_nil) (cons_len nil_len))))))))))

abbrev N_wanted : List Str := ["shop", "pairs", "wants", "place", "many", "name"]
theorem sc_wanted : FnScope N_wanted ["shop", "pairs"] (defScope (top 28)) := ⟨rfl, rfl, rfl, by decide +kernel, rfl, by decide +kernel, by decide +kernel⟩
theorem ok_wanted (T : Txt w K mg) : OkD P w K mg base 1 "wanted" ["shop", "pairs"] f_wanted := fnD (k := 0) (u := u_wanted) (N := N_wanted) T.d_wanted sc_wanted fun cdv A outer s H E hr W tk =>
    ss_cons (s_asgO (ps_setComp (own := [("name", 5)]) (i := 2) rfl rfl (sw_true rfl rfl rfl (by decide +kernel)) rfl sc_wanted.nd (i_dyn (d_names T.sh (d_var (pv 0)))) (blkOk_by (N := N_wanted) (sc := defScope (top 28)) (by decide +kernel)) (fun _ _ _ _ _ => g_one (pg_name (i := 5) sc_wanted.nd rfl (.inl rfl))) (sub_one (by decide)) (fun _ _ _ _ _ => t_nil) (fun _ _ _ _ _ => d_int)))
    (ss_cons (s_pre (k_wipe [3, 4]) (s_for rfl (passes_of rfl) rfl (i_dyn (d_var (pv 1))) (g_tup rfl (g_cons (g_one (pg_name (i := 3) sc_wanted.nd rfl (.inl rfl))) (g_cons (g_one (pg_name (i := 4) sc_wanted.nd rfl (.inl rfl))) g_nil)))
      (ss_one (s_put (ps_asg (d_add (d_ix (d_var (pv 2)) (d_var (pv 3))) (d_var (pv 4))) (pg_sub (pv 2) (d_var (pv 3)) set_list))))))
    (ss_one (s_ret (ps_ret (d_callT call_tupleB tuple_D tuple_calm rfl T.n_tuple (by decide +kernel) (a_cons (d_var (pv 2)) a_nil))))))

abbrev N_deal_of : List Str := ["shop", "offer", "places", "pairs", "price", "name", "place", "pair"]
theorem sc_deal_of : FnScope N_deal_of ["shop", "offer"] (defScope (top 29)) := ⟨rfl, rfl, rfl, by decide +kernel, rfl, by decide +kernel, by decide +kernel⟩
theorem ok_deal_of (T : Txt w K mg) : OkD P w K mg base 4 "deal_of" ["shop", "offer"] f_deal_of := fnD (k := 3) (u := u_deal_of) (N := N_deal_of) T.d_deal_of sc_deal_of fun cdv A outer s H E hr W tk =>
    ss_cons (s_drop (ps_expr (d_def (ok_need_form T) T.d_need_form hr (by decide) tk (a_cons (d_var (pv 1)) a_nil) (cons_len nil_len))))
    (ss_cons (s_asgL (ps_setCompX (own := [("name", 5)]) (i := 2) rfl rfl (sw_true rfl rfl rfl (by decide +kernel)) rfl rfl tk rfl sc_deal_of.nd (i_dyn (d_def (ok_names_in T) T.d_names_in hr (by decide) tk (a_cons (d_var (pv 1)) a_nil) (cons_len nil_len))) (blkOk_by (N := N_deal_of) (sc := defScope (top 29)) (by decide +kernel)) (fun _ _ _ _ _ _ => g_one (pg_name (i := 5) sc_deal_of.nd rfl (.inl rfl))) (sub_one (by decide)) (fun _ _ _ _ _ _ _ tk => t_nilX) (fun _ _ _ _ _ _ _ tk => d_place (ok_place T) T.sh hr (by decide) tk (d_var (pv 0)) (d_var (pv 5)))))
    (ss_cons (s_drop (ps_expr (d_def (ok_need_parts T) T.d_need_parts hr (by decide) tk (a_cons (d_var (pv 1)) a_nil) (cons_len nil_len))))
    (ss_cons (s_if (b_cmp (op_eqB hr.units) eq_D eq_calm (d_ix (d_var (pv 1)) d_int) d_str) (ss_one (s_ret (ps_ret (d_tup (a_cons (d_def (ok_wanted T) T.d_wanted hr (by decide) tk (a_cons (d_var (pv 0)) (a_cons (d_ofL (l_lst (a_cons (d_tup (a_cons (d_ix (d_var (pv 2)) d_int) (a_cons (d_ix (d_var (pv 1)) d_int) a_nil))) a_nil))) a_nil)) (cons_len (cons_len nil_len))) (a_cons (d_mul (d_ix (d_var (pv 1)) d_int) (d_ix (d_prices T.sh (d_var (pv 0))) (d_ix (d_var (pv 2)) d_int))) a_nil)))))) ss_nil)
    (ss_cons (s_if (b_cmp (op_eqB hr.units) eq_D eq_calm (d_ix (d_var (pv 1)) d_int) d_str) (ss_cons (s_asgL (ps_setCompX (own := [("place", 6), ("pair", 7)]) (i := 3) rfl rfl (sw_true rfl rfl rfl (by decide +kernel)) rfl rfl tk rfl sc_deal_of.nd (i_zip rfl T.n_zip (a_cons (d_var (pv 2)) (a_cons (d_ix (d_var (pv 1)) d_int) a_nil))) (blkOk_by (N := N_deal_of) (sc := defScope (top 29)) (by decide +kernel)) (fun _ _ _ _ _ _ => g_tup rfl (g_cons (g_one (pg_name (i := 6) sc_deal_of.nd rfl (.inl rfl))) (g_cons (g_one (pg_name (i := 7) sc_deal_of.nd rfl (.inl rfl))) g_nil))) (sub_two (by decide) (by decide)) (fun _ _ _ _ _ _ _ tk => t_nilX) (fun _ _ _ _ _ _ _ tk => d_tup (a_cons (d_var (pv 6)) (a_cons (d_ix (d_var (pv 7)) d_int) a_nil)))))
    (ss_one (s_ret (ps_ret (d_tup (a_cons (d_def (ok_wanted T) T.d_wanted hr (by decide) tk (a_cons (d_var (pv 0)) (a_cons (d_var (pv 3)) a_nil)) (cons_len (cons_len nil_len))) (a_cons (d_ix (d_var (pv 1)) d_int) a_nil))))))) ss_nil)
    (ss_cons (s_if (b_cmp (op_eqB hr.units) eq_D eq_calm (d_ix (d_var (pv 1)) d_int) d_str) (ss_cons (s_asg (ps_set (i := 4) sc_deal_of.nd rfl (.inl rfl) (d_ix (d_prices T.sh (d_var (pv 0))) (d_ix (d_var (pv 2)) d_int))))
    (ss_one (s_ret (ps_ret (d_tup (a_cons (d_def (ok_wanted T) T.d_wanted hr (by decide) tk (a_cons (d_var (pv 0)) (a_cons (d_ofL (l_lst (a_cons (d_tup (a_cons (d_ix (d_var (pv 2)) d_int) (a_cons d_int a_nil))) a_nil))) a_nil)) (cons_len (cons_len nil_len))) (a_cons (d_sub (d_var (pv 4)) (d_fdiv (d_mul (d_var (pv 4)) (d_ix (d_var (pv 1)) d_int)) d_int)) a_nil))))))) ss_nil)
    (ss_cons (s_asg (ps_set (i := 4) sc_deal_of.nd rfl (.inl rfl) (d_ix (d_prices T.sh (d_var (pv 0))) (d_ix (d_var (pv 2)) d_int))))
    (ss_one (s_ret (ps_ret (d_tup (a_cons (d_def (ok_wanted T) T.d_wanted hr (by decide) tk (a_cons (d_var (pv 0)) (a_cons (d_ofL (l_lst (a_cons (d_tup (a_cons (d_ix (d_var (pv 2)) d_int) (a_cons d_int a_nil))) (a_cons (d_tup (a_cons (d_ix (d_var (pv 2)) d_int) (a_cons d_int a_nil))) a_nil)))) a_nil)) (cons_len (cons_len nil_len))) (a_cons (d_callB (call_max2 rfl) I2_D I2_calm rfl T.n_max (by decide +kernel) (a_cons d_int (a_cons (d_sub (d_var (pv 4)) (d_ix (d_var (pv 1)) d_int)) a_nil))) a_nil))))))))))))

abbrev N_deals : List Str := ["shop", "offers", "found", "place", "offer"]
theorem sc_deals : FnScope N_deals ["shop", "offers"] (defScope (top 30)) := ⟨rfl, rfl, rfl, by decide +kernel, rfl, by decide +kernel, by decide +kernel⟩
theorem okl_deals (T : Txt w K mg) : OkL P w K mg base 5 "deals" ["shop", "offers"] fl_deals := fnL (k := 4) (u := u_deals) (N := N_deals) T.d_deals sc_deals fun cdv A outer s H E hr W tk =>
    ss_cons (s_asgO (ps_set (i := 2) sc_deals.nd rfl (.inl rfl) (l_lst a_nil)))
    (ss_cons (s_pre (k_wipe [3]) (s_for rfl (passes_of rfl) rfl (i_range1 rfl T.n_range (a_cons (d_callB call_lenB len_D len_calm rfl T.n_len (by decide +kernel) (a_cons (d_names T.sh (d_var (pv 0))) a_nil)) a_nil)) (g_one (pg_name (i := 3) sc_deals.nd rfl (.inl rfl)))
      (ss_one (s_push (ps_expr (pe_bm PySem.F.plainAttrs_list PySem.F.slot_list_append PySem.F.type_list_append mt_append (pv 2) (pa_cons (d_tup (a_cons (d_def (ok_wanted T) T.d_wanted hr (by decide) tk (a_cons (d_var (pv 0)) (a_cons (d_ofL (l_lst (a_cons (d_tup (a_cons (d_var (pv 3)) (a_cons d_int a_nil))) a_nil))) a_nil)) (cons_len (cons_len nil_len))) (a_cons (d_ix (d_prices T.sh (d_var (pv 0))) (d_var (pv 3))) a_nil))) pa_nil)))))))
    (ss_cons (s_pre (k_wipe [4]) (s_for rfl (passes_of rfl) rfl (i_dyn (d_var (pv 1))) (g_one (pg_name (i := 4) sc_deals.nd rfl (.inl rfl)))
      (ss_one (s_push (ps_expr (pe_bm PySem.F.plainAttrs_list PySem.F.slot_list_append PySem.F.type_list_append mt_append (pv 2) (pa_cons (d_def (ok_deal_of T) T.d_deal_of hr (by decide) tk (a_cons (d_var (pv 0)) (a_cons (d_var (pv 4)) a_nil)) (cons_len (cons_len nil_len))) pa_nil)))))))
    (ss_one (s_retO (ps_ret (pv 2))))))
theorem ok_deals (T : Txt w K mg) : OkD P w K mg base 5 "deals" ["shop", "offers"] f_deals := fnLD (okl_deals T)

abbrev N__law_cell_at : List Str := ["_law_script", "_law_k"]
theorem sc__law_cell_at : FnScope N__law_cell_at ["_law_script", "_law_k"] (defScope (top 32)) := ⟨rfl, rfl, rfl, by decide +kernel, rfl, by decide +kernel, by decide +kernel⟩
theorem ok__law_cell_at (T : Txt w K mg) : OkD P w K mg base 1 "_law_cell_at" ["_law_script", "_law_k"] f__law_cell_at := fnD (k := 0) (u := u__law_cell_at) (N := N__law_cell_at) T.d__law_cell_at sc__law_cell_at fun cdv A outer s H E hr W tk =>
    ss_cons (s_if (b_cmp op_lt dC_D dC_calm (d_var (pv 1)) (d_callB call_lenB len_D len_calm rfl T.n_len (by decide +kernel) (a_cons (d_var (pv 0)) a_nil))) (ss_one (s_ret (ps_ret (d_ix (d_var (pv 0)) (d_var (pv 1)))))) ss_nil)
    (ss_one (s_ret (ps_ret d_int)))

abbrev N__law_number : List Str := ["_law_script", "_law_k", "_law_base"]
theorem sc__law_number : FnScope N__law_number ["_law_script", "_law_k"] (defScope (top 33)) := ⟨rfl, rfl, rfl, by decide +kernel, rfl, by decide +kernel, by decide +kernel⟩
theorem ok__law_number (T : Txt w K mg) : OkD P w K mg base 1 "_law_number" ["_law_script", "_law_k"] f__law_number := fnD (k := 0) (u := u__law_number) (N := N__law_number) T.d__law_number sc__law_number fun cdv A outer s H E hr W tk =>
    ss_cons (s_if (b_cmp (op_eqB hr.units) eq_D eq_calm (d_callB call_lenB len_D len_calm rfl T.n_len (by decide +kernel) (a_cons (d_var (pv 0)) a_nil)) d_int) (ss_one (s_ret (ps_ret (d_mul d_int (d_var (pv 1)))))) ss_nil)
    (ss_cons (s_asg (ps_set (i := 2) sc__law_number.nd rfl (.inl rfl) (d_add (d_add (d_ix (d_var (pv 0)) (d_mod (d_var (pv 1)) (d_callB call_lenB len_D len_calm rfl T.n_len (by decide +kernel) (a_cons (d_var (pv 0)) a_nil)))) (d_mul d_int (d_fdiv (d_var (pv 1)) (d_callB call_lenB len_D len_calm rfl T.n_len (by decide +kernel) (a_cons (d_var (pv 0)) a_nil))))) (d_mul d_int (d_var (pv 1))))))
    (ss_one (s_ret (ps_ret (d_mod (d_mul (d_var (pv 2)) d_int) d_int)))))

abbrev N__law_name_by : List Str := ["_law_script", "_law_k", "_law_some", "_law_alike", "_law_number_here", "_law_step", "_law_name", "_law_j", "_law_place", "_law_sign"]
theorem sc__law_name_by : FnScope N__law_name_by ["_law_script", "_law_k"] (defScope (top 34)) := ⟨rfl, rfl, rfl, by decide +kernel, rfl, by decide +kernel, by decide +kernel⟩
theorem ok__law_name_by (T : Txt w K mg) : OkD P w K mg base 2 "_law_name_by" ["_law_script", "_law_k"] f__law_name_by := fnD (k := 1) (u := u__law_name_by) (N := N__law_name_by) T.d__law_name_by sc__law_name_by fun cdv A outer s H E hr W tk =>
    ss_cons (s_asg (ps_set (i := 2) sc__law_name_by.nd rfl (.inl rfl) d_str))
    (ss_cons (s_asg (ps_set (i := 3) sc__law_name_by.nd rfl (.inl rfl) (d_cmp (op_eqB hr.units) eq_D eq_calm (d_mod (d_fdiv (d_def (ok__law_cell_at T) T.d__law_cell_at hr (by decide) tk (a_cons (d_var (pv 0)) (a_cons d_int a_nil)) (cons_len (cons_len nil_len))) d_int) d_int) d_int)))
    (ss_cons (s_asg (ps_set (i := 4) sc__law_name_by.nd rfl (.inl rfl) (d_def (ok__law_number T) T.d__law_number hr (by decide) tk (a_cons (d_var (pv 0)) (a_cons (d_add d_int (d_mul (d_mul d_int (d_var (pv 1))) (d_callT call_intB int_D int_calm rfl T.n_int (by decide +kernel) (a_cons (d_not (d_var (pv 3))) a_nil)))) a_nil)) (cons_len (cons_len nil_len)))))
    (ss_cons (s_asg (ps_set (i := 5) sc__law_name_by.nd rfl (.inl rfl) (d_add d_int (d_mod (d_fdiv (d_var (pv 4)) d_int) d_int))))
    (ss_cons (s_asg (ps_set (i := 6) sc__law_name_by.nd rfl (.inl rfl) d_str))
    (ss_cons (s_pre (k_wipe [7]) (s_for rfl (passes_of rfl) rfl (i_range1 rfl T.n_range (a_cons (d_add d_int (d_mod (d_var (pv 4)) d_int)) a_nil)) (g_one (pg_name (i := 7) sc__law_name_by.nd rfl (.inl rfl)))
      (ss_one (s_asg (ps_set (i := 6) sc__law_name_by.nd rfl (.inl rfl) (d_add (d_var (pv 6)) (d_ix (d_var (pv 2)) (d_mod (d_add (d_fdiv (d_var (pv 4)) d_int) (d_mul (d_var (pv 7)) (d_var (pv 5)))) d_int))))))))
    (ss_cons (s_if (b_val (d_var (pv 3))) (ss_cons (s_asg (ps_set (i := 8) sc__law_name_by.nd rfl (.inl rfl) (d_mod (d_fdiv (d_var (pv 4)) d_int) (d_callB call_lenB len_D len_calm rfl T.n_len (by decide +kernel) (a_cons (d_var (pv 6)) a_nil)))))
    (ss_cons (s_asg (ps_set (i := 9) sc__law_name_by.nd rfl (.inl rfl) (d_ix (d_var (pv 2)) (d_mod (d_add (d_fdiv (d_var (pv 4)) d_int) (d_mul d_int (d_var (pv 1)))) d_int))))
    (ss_one (s_asg (ps_set (i := 6) sc__law_name_by.nd rfl (.inl rfl) (d_add (d_add (d_slice (d_var (pv 6)) o_none (o_some (d_var (pv 8)))) (d_var (pv 9))) (d_slice (d_var (pv 6)) (o_some (d_add (d_var (pv 8)) d_int)) o_none))))))) ss_nil)
    (ss_one (s_ret (ps_ret (d_var (pv 6)))))))))))

abbrev N__law_kinds : List Str := ["_law_script", "_law_kinds_here", "_law_names_here", "_law_k", "_law_number_here", "_law_name", "_law_price"]
theorem sc__law_kinds : FnScope N__law_kinds ["_law_script"] (defScope (top 35)) := ⟨rfl, rfl, rfl, by decide +kernel, rfl, by decide +kernel, by decide +kernel⟩
theorem ok__law_kinds (T : Txt w K mg) : OkD P w K mg base 3 "_law_kinds" ["_law_script"] f__law_kinds := fnD (k := 2) (u := u__law_kinds) (N := N__law_kinds) T.d__law_kinds sc__law_kinds fun cdv A outer s H E hr W tk =>
    ss_cons (s_asgO (ps_set (i := 1) sc__law_kinds.nd rfl (.inl rfl) (l_lst a_nil)))
    (ss_cons (s_asgO (ps_set (i := 2) sc__law_kinds.nd rfl (.inl rfl) (l_lst a_nil)))
    (ss_cons (s_pre (k_wipe [3, 4, 5, 6]) (s_for rfl (passes_of rfl) rfl (i_range1 rfl T.n_range (a_cons (d_add d_int (d_mod (d_def (ok__law_cell_at T) T.d__law_cell_at hr (by decide) tk (a_cons (d_var (pv 0)) (a_cons d_int a_nil)) (cons_len (cons_len nil_len))) d_int)) a_nil)) (g_one (pg_name (i := 3) sc__law_kinds.nd rfl (.inl rfl)))
      (ss_cons (s_asg (ps_set (i := 4) sc__law_kinds.nd rfl (.inl rfl) (d_def (ok__law_number T) T.d__law_number hr (by decide) tk (a_cons (d_var (pv 0)) (a_cons (d_add (d_mul d_int (d_var (pv 3))) d_int) a_nil)) (cons_len (cons_len nil_len)))))
    (ss_cons (s_asg (ps_set (i := 5) sc__law_kinds.nd rfl (.inl rfl) (d_def (ok__law_name_by T) T.d__law_name_by hr (by decide) tk (a_cons (d_var (pv 0)) (a_cons (d_var (pv 3)) a_nil)) (cons_len (cons_len nil_len)))))
    (ss_cons (s_asg (ps_set (i := 6) sc__law_kinds.nd rfl (.inl rfl) (d_mod (d_fdiv (d_var (pv 4)) d_int) d_int)))
    (ss_cons (s_if (b_cmp (op_eqB hr.units) eq_D eq_calm (d_mod (d_var (pv 4)) d_int) d_int) (ss_one (s_asg (ps_set (i := 6) sc__law_kinds.nd rfl (.inl rfl) (d_mod (d_fdiv (d_var (pv 4)) d_int) d_int)))) ss_nil)
    (ss_cons (s_if (b_cmp op_inB in_D in_calm (d_var (pv 5)) (d_var (pv 2))) (ss_one (s_asg (ps_set (i := 5) sc__law_kinds.nd rfl (.inl rfl) (d_add (d_slice (d_var (pv 5)) o_none (o_some d_int)) (d_ix d_str (d_var (pv 3))))))) ss_nil)
    (ss_one (s_if (b_cmp op_notInB in_D in_calm (d_var (pv 5)) (d_var (pv 2))) (ss_cons (s_push (ps_expr (pe_bm PySem.F.plainAttrs_list PySem.F.slot_list_append PySem.F.type_list_append mt_append (pv 2) (pa_cons (d_var (pv 5)) pa_nil))))
    (ss_one (s_push (ps_expr (pe_bm PySem.F.plainAttrs_list PySem.F.slot_list_append PySem.F.type_list_append mt_append (pv 1) (pa_cons (d_tup (a_cons (d_var (pv 5)) (a_cons (d_var (pv 6)) a_nil))) pa_nil)))))) ss_nil)))))))))
    (ss_one (s_ret (ps_ret (d_var (pv 1)))))))

abbrev N__law_offer : List Str := ["_law_kinds_here", "_law_number_here", "_law_name", "_law_other", "_law_more", "_law_many", "_law_wants", "_law_kind"]
theorem sc__law_offer : FnScope N__law_offer ["_law_kinds_here", "_law_number_here"] (defScope (top 36)) := ⟨rfl, rfl, rfl, by decide +kernel, rfl, by decide +kernel, by decide +kernel⟩
theorem ok__law_offer (T : Txt w K mg) : OkD P w K mg base 1 "_law_offer" ["_law_kinds_here", "_law_number_here"] f__law_offer := fnD (k := 0) (u := u__law_offer) (N := N__law_offer) T.d__law_offer sc__law_offer fun cdv A outer s H E hr W tk =>
    ss_cons (s_asg (ps_set (i := 2) sc__law_offer.nd rfl (.inl rfl) (d_ix (d_ix (d_var (pv 0)) (d_mod (d_fdiv (d_var (pv 1)) d_int) (d_callB call_lenB len_D len_calm rfl T.n_len (by decide +kernel) (a_cons (d_var (pv 0)) a_nil)))) d_int)))
    (ss_cons (s_asg (ps_set (i := 3) sc__law_offer.nd rfl (.inl rfl) (d_ix (d_ix (d_var (pv 0)) (d_mod (d_fdiv (d_var (pv 1)) d_int) (d_callB call_lenB len_D len_calm rfl T.n_len (by decide +kernel) (a_cons (d_var (pv 0)) a_nil)))) d_int)))
    (ss_cons (s_asg (ps_set (i := 4) sc__law_offer.nd rfl (.inl rfl) (d_fdiv (d_var (pv 1)) d_int)))
    (ss_cons (s_if (b_w (w_and (b_cmp (op_eqB hr.units) eq_D eq_calm (d_mod (d_var (pv 1)) d_int) d_int) (w_and1 (b_cmp (op_neB hr.units) ne_D ne_calm (d_var (pv 3)) (d_var (pv 2)))))) (ss_one (s_ret (ps_ret (d_tup (a_cons d_str (a_cons (d_var (pv 3)) (a_cons (d_var (pv 2)) (a_cons (d_add d_int (d_mod (d_var (pv 4)) (d_ix (d_ofL (l_lst (a_cons d_int (a_cons d_int a_nil)))) (d_mod (d_fdiv (d_var (pv 4)) d_int) d_int)))) a_nil)))))))) ss_nil)
    (ss_cons (s_if (b_cmp (op_eqB hr.units) eq_D eq_calm (d_mod (d_var (pv 1)) d_int) d_int) (ss_one (s_ret (ps_ret (d_tup (a_cons d_str (a_cons (d_var (pv 2)) (a_cons (d_add d_int (d_mod (d_var (pv 4)) d_int)) a_nil))))))) ss_nil)
    (ss_cons (s_if (b_cmp (op_eqB hr.units) eq_D eq_calm (d_mod (d_var (pv 1)) d_int) d_int) (ss_cons (s_asg (ps_set (i := 5) sc__law_offer.nd rfl (.inl rfl) (d_add d_int (d_mod (d_var (pv 4)) d_int))))
    (ss_one (s_ret (ps_ret (d_tup (a_cons d_str (a_cons (d_var (pv 2)) (a_cons (d_var (pv 5)) (a_cons (d_add d_int (d_mod (d_fdiv (d_var (pv 4)) d_int) (d_sub (d_var (pv 5)) d_int))) a_nil))))))))) ss_nil)
    (ss_cons (s_asgO (ps_set (i := 6) sc__law_offer.nd rfl (.inl rfl) (l_lst (a_cons (d_tup (a_cons (d_var (pv 2)) (a_cons (d_add d_int (d_mod (d_var (pv 4)) (d_ix (d_ofL (l_lst (a_cons d_int (a_cons d_int a_nil)))) (d_mod (d_fdiv (d_var (pv 4)) d_int) d_int)))) a_nil))) a_nil))))
    (ss_cons (s_pre (k_wipe [7]) (s_for rfl (passes_of rfl) rfl (i_dyn (d_var (pv 0))) (g_one (pg_name (i := 7) sc__law_offer.nd rfl (.inl rfl)))
      (ss_cons (s_if (b_w (w_and (b_cmp (op_neB hr.units) ne_D ne_calm (d_ix (d_var (pv 7)) d_int) (d_var (pv 2))) (w_and1 (b_cmp op_gt dC_D dC_calm (d_mod (d_fdiv (d_var (pv 4)) d_int) d_int) d_int)))) (ss_one (s_push (ps_expr (pe_bm PySem.F.plainAttrs_list PySem.F.slot_list_append PySem.F.type_list_append mt_append (pv 6) (pa_cons (d_tup (a_cons (d_ix (d_var (pv 7)) d_int) (a_cons (d_add d_int (d_mod (d_fdiv (d_var (pv 4)) d_int) (d_ix (d_ofL (l_lst (a_cons d_int (a_cons d_int (a_cons d_int a_nil))))) (d_mod (d_fdiv (d_var (pv 4)) d_int) d_int)))) a_nil))) pa_nil))))) ss_nil)
    (ss_one (s_asg (ps_set (i := 4) sc__law_offer.nd rfl (.inl rfl) (d_fdiv (d_var (pv 4)) d_int)))))))
    (ss_cons (s_if (b_cmp (op_eqB hr.units) eq_D eq_calm (d_mod (d_fdiv (d_var (pv 1)) d_int) d_int) d_int) (ss_one (s_rev (ps_expr (pe_bm0 PySem.F.plainAttrs_list PySem.F.slot_list_reverse PySem.F.type_list_reverse mt_reverse (pv 6))))) ss_nil)
    (ss_one (s_ret (ps_ret (d_tup (a_cons d_str (a_cons (d_callT call_tupleB tuple_D tuple_calm rfl T.n_tuple (by decide +kernel) (a_cons (d_var (pv 6)) a_nil)) (a_cons (d_mod (d_fdiv (d_var (pv 1)) d_int) (d_ix (d_ofL (l_lst (a_cons d_int (a_cons d_int a_nil)))) (d_mod (d_fdiv (d_var (pv 1)) d_int) d_int))) a_nil)))))))))))))))

abbrev N__law_offers : List Str := ["_law_script", "_law_kinds_here", "_law_start", "_law_many", "_law_k"]
theorem sc__law_offers : FnScope N__law_offers ["_law_script", "_law_kinds_here", "_law_start"] (defScope (top 37)) := ⟨rfl, rfl, rfl, by decide +kernel, rfl, by decide +kernel, by decide +kernel⟩
theorem ok__law_offers (T : Txt w K mg) : OkD P w K mg base 2 "_law_offers" ["_law_script", "_law_kinds_here", "_law_start"] f__law_offers := fnD (k := 1) (u := u__law_offers) (N := N__law_offers) T.d__law_offers sc__law_offers fun cdv A outer s H E hr W tk =>
    ss_cons (s_asg (ps_set (i := 3) sc__law_offers.nd rfl (.inl rfl) (d_mod (d_def (ok__law_cell_at T) T.d__law_cell_at hr (by decide) tk (a_cons (d_var (pv 0)) (a_cons d_int a_nil)) (cons_len (cons_len nil_len))) d_int)))
    (ss_cons (s_if (b_cmp (op_eqB hr.units) eq_D eq_calm (d_mod (d_fdiv (d_def (ok__law_cell_at T) T.d__law_cell_at hr (by decide) tk (a_cons (d_var (pv 0)) (a_cons d_int a_nil)) (cons_len (cons_len nil_len))) d_int) d_int) d_int) (ss_one (s_asg (ps_set (i := 3) sc__law_offers.nd rfl (.inl rfl) (d_add (d_var (pv 3)) d_int)))) ss_nil)
    (ss_one (s_ret (ps_ret (d_ofL (l_comp (own := [("_law_k", 4)]) rfl sc__law_offers.nd (i_range1 rfl T.n_range (a_cons (d_var (pv 3)) a_nil)) (blkOk_by (N := N__law_offers) (sc := defScope (top 37)) (by decide +kernel)) (fun _ _ _ _ _ => g_one (pg_name (i := 4) sc__law_offers.nd rfl (.inl rfl))) (sub_one (by decide)) (fun _ _ _ _ _ => t_nil) (fun _ _ _ _ _ => d_def (ok__law_offer T) T.d__law_offer hr (by decide) takes0 (a_cons (d_var (pv 1)) (a_cons (d_def (ok__law_number T) T.d__law_number hr (by decide) takes0 (a_cons (d_var (pv 0)) (a_cons (d_add (d_var (pv 2)) (d_var (pv 4))) a_nil)) (cons_len (cons_len nil_len))) a_nil)) (cons_len (cons_len nil_len)))))))))

abbrev N__law_deal : List Str := ["_law_kinds_here", "_law_offer_here", "_law_names_here", "_law_wants", "_law_name", "_law_many", "_law_place", "_law_kind"]
theorem sc__law_deal : FnScope N__law_deal ["_law_kinds_here", "_law_offer_here"] (defScope (top 38)) := ⟨rfl, rfl, rfl, by decide +kernel, rfl, by decide +kernel, by decide +kernel⟩
theorem ok__law_deal (T : Txt w K mg) : OkD P w K mg base 1 "_law_deal" ["_law_kinds_here", "_law_offer_here"] f__law_deal := fnD (k := 0) (u := u__law_deal) (N := N__law_deal) T.d__law_deal sc__law_deal fun cdv A outer s H E hr W tk =>
    ss_cons (s_asgL (ps_setComp (own := [("_law_kind", 7)]) (i := 2) rfl rfl (sw_true rfl rfl rfl (by decide +kernel)) rfl sc__law_deal.nd (i_dyn (d_var (pv 0))) (blkOk_by (N := N__law_deal) (sc := defScope (top 38)) (by decide +kernel)) (fun _ _ _ _ _ => g_one (pg_name (i := 7) sc__law_deal.nd rfl (.inl rfl))) (sub_one (by decide)) (fun _ _ _ _ _ => t_nil) (fun _ _ _ _ _ => d_ix (d_var (pv 7)) d_int)))
    (ss_cons (s_asgO (ps_setComp (own := [("_law_kind", 7)]) (i := 3) rfl rfl (sw_true rfl rfl rfl (by decide +kernel)) rfl sc__law_deal.nd (i_dyn (d_var (pv 0))) (blkOk_by (N := N__law_deal) (sc := defScope (top 38)) (by decide +kernel)) (fun _ _ _ _ _ => g_one (pg_name (i := 7) sc__law_deal.nd rfl (.inl rfl))) (sub_one (by decide)) (fun _ _ _ _ _ => t_nil) (fun _ _ _ _ _ => d_int)))
    (ss_cons (s_if (b_cmp (op_eqB hr.units) eq_D eq_calm (d_ix (d_var (pv 1)) d_int) d_str) (ss_cons (s_pre (k_wipe [4, 5]) (s_for rfl (passes_of rfl) rfl (i_dyn (d_ix (d_var (pv 1)) d_int)) (g_tup rfl (g_cons (g_one (pg_name (i := 4) sc__law_deal.nd rfl (.inl rfl))) (g_cons (g_one (pg_name (i := 5) sc__law_deal.nd rfl (.inl rfl))) g_nil)))
      (ss_one (s_put (ps_asg (d_var (pv 5)) (pg_sub (pv 3) (d_index (d_var (pv 2)) (d_var (pv 4))) set_list))))))
    (ss_one (s_ret (ps_ret (d_tup (a_cons (d_callT call_tupleB tuple_D tuple_calm rfl T.n_tuple (by decide +kernel) (a_cons (d_var (pv 3)) a_nil)) (a_cons (d_ix (d_var (pv 1)) d_int) a_nil))))))) ss_nil)
    (ss_cons (s_asg (ps_set (i := 6) sc__law_deal.nd rfl (.inl rfl) (d_index (d_var (pv 2)) (d_ix (d_var (pv 1)) d_int))))
    (ss_cons (s_if (b_cmp (op_eqB hr.units) eq_D eq_calm (d_ix (d_var (pv 1)) d_int) d_str) (ss_cons (s_put (ps_asg d_int (pg_sub (pv 3) (d_var (pv 6)) set_list)))
    (ss_cons (s_asg (ps_set (i := 6) sc__law_deal.nd rfl (.inl rfl) (d_index (d_var (pv 2)) (d_ix (d_var (pv 1)) d_int))))
    (ss_cons (s_put (ps_asg d_int (pg_sub (pv 3) (d_var (pv 6)) set_list)))
    (ss_one (s_ret (ps_ret (d_tup (a_cons (d_callT call_tupleB tuple_D tuple_calm rfl T.n_tuple (by decide +kernel) (a_cons (d_var (pv 3)) a_nil)) (a_cons (d_callB (call_max2 rfl) I2_D I2_calm rfl T.n_max (by decide +kernel) (a_cons d_int (a_cons (d_sub (d_ix (d_ix (d_var (pv 0)) (d_var (pv 6))) d_int) (d_ix (d_var (pv 1)) d_int)) a_nil))) a_nil))))))))) ss_nil)
    (ss_cons (s_if (b_cmp (op_eqB hr.units) eq_D eq_calm (d_ix (d_var (pv 1)) d_int) d_str) (ss_cons (s_put (ps_asg (d_ix (d_var (pv 1)) d_int) (pg_sub (pv 3) (d_var (pv 6)) set_list)))
    (ss_one (s_ret (ps_ret (d_tup (a_cons (d_callT call_tupleB tuple_D tuple_calm rfl T.n_tuple (by decide +kernel) (a_cons (d_var (pv 3)) a_nil)) (a_cons (d_mul (d_ix (d_var (pv 1)) d_int) (d_ix (d_ix (d_var (pv 0)) (d_var (pv 6))) d_int)) a_nil))))))) ss_nil)
    (ss_cons (s_put (ps_asg d_int (pg_sub (pv 3) (d_var (pv 6)) set_list)))
    (ss_one (s_ret (ps_ret (d_tup (a_cons (d_callT call_tupleB tuple_D tuple_calm rfl T.n_tuple (by decide +kernel) (a_cons (d_var (pv 3)) a_nil)) (a_cons (d_sub (d_ix (d_ix (d_var (pv 0)) (d_var (pv 6))) d_int) (d_fdiv (d_mul (d_ix (d_ix (d_var (pv 0)) (d_var (pv 6))) d_int) (d_ix (d_var (pv 1)) d_int)) d_int)) a_nil))))))))))))

abbrev N__law_deals : List Str := ["_law_kinds_here", "_law_offers_here", "_law_found", "_law_k", "_law_offer_here", "_law_j"]
theorem sc__law_deals : FnScope N__law_deals ["_law_kinds_here", "_law_offers_here"] (defScope (top 39)) := ⟨rfl, rfl, rfl, by decide +kernel, rfl, by decide +kernel, by decide +kernel⟩
theorem ok__law_deals (T : Txt w K mg) : OkD P w K mg base 2 "_law_deals" ["_law_kinds_here", "_law_offers_here"] f__law_deals := fnD (k := 1) (u := u__law_deals) (N := N__law_deals) T.d__law_deals sc__law_deals fun cdv A outer s H E hr W tk =>
    ss_cons (s_asgO (ps_set (i := 2) sc__law_deals.nd rfl (.inl rfl) (l_lst a_nil)))
    (ss_cons (s_pre (k_wipe [3]) (s_for rfl (passes_of rfl) rfl (i_range1 rfl T.n_range (a_cons (d_callB call_lenB len_D len_calm rfl T.n_len (by decide +kernel) (a_cons (d_var (pv 0)) a_nil)) a_nil)) (g_one (pg_name (i := 3) sc__law_deals.nd rfl (.inr rfl)))
      (ss_one (s_push (ps_expr (pe_bm PySem.F.plainAttrs_list PySem.F.slot_list_append PySem.F.type_list_append mt_append (pv 2) (pa_cons (d_tup (a_cons (d_callT call_tupleB tuple_D tuple_calm rfl T.n_tuple (by decide +kernel) (a_cons (d_ofL (l_comp (own := [("_law_j", 5)]) rfl sc__law_deals.nd (i_range1 rfl T.n_range (a_cons (d_callB call_lenB len_D len_calm rfl T.n_len (by decide +kernel) (a_cons (d_var (pv 0)) a_nil)) a_nil)) (blkOk_by (N := N__law_deals) (sc := defScope (top 39)) (by decide +kernel)) (fun _ _ _ _ _ => g_one (pg_name (i := 5) sc__law_deals.nd rfl (.inl rfl))) (sub_one (by decide)) (fun _ _ _ _ _ => t_nil) (fun _ _ _ _ _ => d_callT call_intB int_D int_calm rfl T.n_int (by decide +kernel) (a_cons (d_cmp (op_eqB hr.units) eq_D eq_calm (d_var (pv 3)) (d_var (pv 5))) a_nil)))) a_nil)) (a_cons (d_ix (d_ix (d_var (pv 0)) (d_var (pv 3))) d_int) a_nil))) pa_nil)))))))
    (ss_one (s_ret (ps_ret (d_add (d_var (pv 2)) (d_ofL (l_comp (own := [("_law_offer_here", 4)]) rfl sc__law_deals.nd (i_dyn (d_var (pv 1))) (blkOk_by (N := N__law_deals) (sc := defScope (top 39)) (by decide +kernel)) (fun _ _ _ _ _ => g_one (pg_name (i := 4) sc__law_deals.nd rfl (.inl rfl))) (sub_one (by decide)) (fun _ _ _ _ _ => t_nil) (fun _ _ _ _ _ => d_def (ok__law_deal T) T.d__law_deal hr (by decide) takes0 (a_cons (d_var (pv 0)) (a_cons (d_var (pv 4)) a_nil)) (cons_len (cons_len nil_len))))))))))

abbrev N__law_whole : List Str := ["_law_found"]
theorem sc__law_whole : FnScope N__law_whole ["_law_found"] (defScope (top 40)) := ⟨rfl, rfl, rfl, by decide +kernel, rfl, by decide +kernel, by decide +kernel⟩
theorem ok__law_whole (T : Txt w K mg) : OkD P w K mg base 1 "_law_whole" ["_law_found"] f__law_whole := fnD (k := 0) (u := u__law_whole) (N := N__law_whole) T.d__law_whole sc__law_whole fun cdv A outer s H E hr W tk =>
    ss_one (s_ret (ps_ret (d_and (d_isi (by decide) rfl T.n_isinstance rfl T.n_int rfl (d_var (pv 0))) (d_one (d_not (d_isi (by decide) rfl T.n_isinstance rfl T.n_bool rfl (d_var (pv 0))))))))

abbrev N__law_listed : List Str := ["_law_found", "_law_due_here", "_law_one"]
theorem sc__law_listed : FnScope N__law_listed ["_law_found", "_law_due_here"] (defScope (top 41)) := ⟨rfl, rfl, rfl, by decide +kernel, rfl, by decide +kernel, by decide +kernel⟩
theorem ok__law_listed (T : Txt w K mg) : OkD P w K mg base 2 "_law_listed" ["_law_found", "_law_due_here"] f__law_listed := fnD (k := 1) (u := u__law_listed) (N := N__law_listed) T.d__law_listed sc__law_listed fun cdv A outer s H E hr W tk =>
    ss_cons (s_if (b_w (w_or (b_not (b_val (d_isi (by decide) rfl T.n_isinstance rfl T.n_list rfl (d_var (pv 0))))) (w_or1 (b_cmp (op_neB hr.units) ne_D ne_calm (d_callB call_lenB len_D len_calm rfl T.n_len (by decide +kernel) (a_cons (d_var (pv 0)) a_nil)) (d_callB call_lenB len_D len_calm rfl T.n_len (by decide +kernel) (a_cons (d_var (pv 1)) a_nil)))))) (ss_one (s_ret (ps_ret d_bl))) ss_nil)
    (ss_cons (s_pre (k_wipe [2]) (s_for rfl (passes_of rfl) rfl (i_dyn (d_var (pv 0))) (g_one (pg_name (i := 2) sc__law_listed.nd rfl (.inl rfl)))
      (ss_one (s_if (b_not (b_val (d_def (ok__law_whole T) T.d__law_whole hr (by decide) tk (a_cons (d_var (pv 2)) a_nil) (cons_len nil_len)))) (ss_one (s_ret (ps_ret d_bl))) ss_nil))))
    (ss_one (s_ret (ps_ret (d_cmp (op_eqB hr.units) eq_D eq_calm (d_var (pv 0)) (d_var (pv 1)))))))

abbrev N__law_deal_is : List Str := ["_law_found", "_law_due_here", "_law_one"]
theorem sc__law_deal_is : FnScope N__law_deal_is ["_law_found", "_law_due_here"] (defScope (top 42)) := ⟨rfl, rfl, rfl, by decide +kernel, rfl, by decide +kernel, by decide +kernel⟩
theorem ok__law_deal_is (T : Txt w K mg) : OkD P w K mg base 2 "_law_deal_is" ["_law_found", "_law_due_here"] f__law_deal_is := fnD (k := 1) (u := u__law_deal_is) (N := N__law_deal_is) T.d__law_deal_is sc__law_deal_is fun cdv A outer s H E hr W tk =>
    ss_cons (s_if (b_w (w_or (b_not (b_val (d_isi (by decide) rfl T.n_isinstance rfl T.n_tuple rfl (d_var (pv 0))))) (w_or (b_cmp (op_neB hr.units) ne_D ne_calm (d_callB call_lenB len_D len_calm rfl T.n_len (by decide +kernel) (a_cons (d_var (pv 0)) a_nil)) d_int) (w_or1 (b_not (b_val (d_isi (by decide) rfl T.n_isinstance rfl T.n_tuple rfl (d_ix (d_var (pv 0)) d_int)))))))) (ss_one (s_ret (ps_ret d_bl))) ss_nil)
    (ss_cons (s_if (b_not (b_val (d_def (ok__law_whole T) T.d__law_whole hr (by decide) tk (a_cons (d_ix (d_var (pv 0)) d_int) a_nil) (cons_len nil_len)))) (ss_one (s_ret (ps_ret d_bl))) ss_nil)
    (ss_one (s_ret (ps_ret (d_and (d_cmp (op_eqB hr.units) eq_D eq_calm (d_callB call_lenB len_D len_calm rfl T.n_len (by decide +kernel) (a_cons (d_ofL (l_comp (own := [("_law_one", 2)]) rfl sc__law_deal_is.nd (i_dyn (d_ix (d_var (pv 0)) d_int)) (blkOk_by (N := N__law_deal_is) (sc := defScope (top 42)) (by decide +kernel)) (fun _ _ _ _ _ => g_one (pg_name (i := 2) sc__law_deal_is.nd rfl (.inl rfl))) (sub_one (by decide)) (fun _ _ _ _ _ => t_one (b_not (b_val (d_def (ok__law_whole T) T.d__law_whole hr (by decide) takes0 (a_cons (d_var (pv 2)) a_nil) (cons_len nil_len))))) (fun _ _ _ _ _ => d_var (pv 2)))) a_nil)) d_int) (d_one (d_cmp (op_eqB hr.units) eq_D eq_calm (d_var (pv 0)) (d_var (pv 1)))))))))

abbrev N__law_changed : List Str := ["_law_offer_here", "_law_number_here", "_law_kind", "_law_at", "_law_bad", "_law_name", "_law_strange", "_law_part"]
theorem sc__law_changed : FnScope N__law_changed ["_law_offer_here", "_law_number_here"] (defScope (top 43)) := ⟨rfl, rfl, rfl, by decide +kernel, rfl, by decide +kernel, by decide +kernel⟩
theorem ok__law_changed (T : Txt w K mg) : OkD P w K mg base 1 "_law_changed" ["_law_offer_here", "_law_number_here"] f__law_changed := fnD (k := 0) (u := u__law_changed) (N := N__law_changed) T.d__law_changed sc__law_changed fun cdv A outer s H E hr W tk =>
    ss_cons (s_asg (ps_set (i := 2) sc__law_changed.nd rfl (.inl rfl) (d_mod (d_var (pv 1)) d_int)))
    (ss_cons (s_asg (ps_set (i := 3) sc__law_changed.nd rfl (.inl rfl) (d_mod (d_fdiv (d_var (pv 1)) d_int) (d_callB call_lenB len_D len_calm rfl T.n_len (by decide +kernel) (a_cons (d_var (pv 0)) a_nil)))))
    (ss_cons (s_asg (ps_set (i := 4) sc__law_changed.nd rfl (.inl rfl) (d_ix (d_ofL (l_lst (a_cons d_int (a_cons (d_neg d_int) (a_cons d_int (a_cons d_int (a_cons d_int (a_cons d_bl (a_cons d_non (a_cons d_str (a_cons (d_tup a_nil) (a_cons (d_tup (a_cons (d_tup a_nil) a_nil)) (a_cons (d_tup (a_cons (d_tup (a_cons d_str (a_cons d_int a_nil))) (a_cons d_int a_nil))) a_nil))))))))))))) (d_mod (d_fdiv (d_var (pv 1)) d_int) d_int))))
    (ss_cons (s_if (b_cmp (op_eqB hr.units) eq_D eq_calm (d_var (pv 2)) d_int) (ss_one (s_ret (ps_ret (d_addT (d_slice (d_slice (d_ofL (l_lst (a_cons d_str (a_cons d_str (a_cons d_int (a_cons d_str a_nil)))))) (o_some (d_mod (d_fdiv (d_var (pv 1)) d_int) d_int)) o_none) o_none (o_some d_int)) (d_ofL (l_lst (a_cons (d_var (pv 0)) a_nil))))))) ss_nil)
    (ss_cons (s_if (b_cmp (op_eqB hr.units) eq_D eq_calm (d_var (pv 2)) d_int) (ss_one (s_ret (ps_ret (d_addT (d_tup (a_cons (d_ix (d_ofL (l_lst (a_cons d_str (a_cons d_str (a_cons d_int (a_cons d_str a_nil)))))) (d_mod (d_fdiv (d_var (pv 1)) d_int) d_int)) a_nil)) (d_slice (d_var (pv 0)) (o_some d_int) o_none))))) ss_nil)
    (ss_cons (s_if (b_cmp (op_eqB hr.units) eq_D eq_calm (d_var (pv 2)) d_int) (ss_one (s_ret (ps_ret (d_addT (d_slice (d_var (pv 0)) o_none (o_some (d_var (pv 3)))) (d_slice (d_var (pv 0)) (o_some (d_addT (d_var (pv 3)) d_int)) o_none))))) ss_nil)
    (ss_cons (s_if (b_cmp (op_eqB hr.units) eq_D eq_calm (d_var (pv 2)) d_int) (ss_one (s_ret (ps_ret (d_addT (d_var (pv 0)) (d_tup (a_cons d_int a_nil)))))) ss_nil)
    (ss_cons (s_if (b_w (w_and (b_cmp (op_eqB hr.units) eq_D eq_calm (d_var (pv 2)) d_int) (w_and1 (b_cmp (op_eqB hr.units) eq_D eq_calm (d_ix (d_var (pv 0)) d_int) d_str)))) (ss_one (s_ret (ps_ret (d_tup (a_cons d_str (a_cons (d_addT (d_ix (d_var (pv 0)) d_int) (d_slice (d_ix (d_var (pv 0)) d_int) o_none (o_some d_int))) (a_cons (d_ix (d_var (pv 0)) d_int) a_nil))))))) ss_nil)
    (ss_cons (s_if (b_w (w_and (b_cmp (op_eqB hr.units) eq_D eq_calm (d_var (pv 2)) d_int) (w_and1 (b_cmp (op_eqB hr.units) eq_D eq_calm (d_ix (d_var (pv 0)) d_int) d_str)))) (ss_one (s_ret (ps_ret (d_tup (a_cons d_str (a_cons (d_addT (d_tup (a_cons (d_tup (a_cons (d_ix (d_ix (d_ix (d_var (pv 0)) d_int) d_int) d_int) (a_cons (d_var (pv 4)) a_nil))) a_nil)) (d_slice (d_ix (d_var (pv 0)) d_int) (o_some d_int) o_none)) (a_cons (d_ix (d_var (pv 0)) d_int) a_nil))))))) ss_nil)
    (ss_cons (s_if (b_w (w_and (b_cmp (op_eqB hr.units) eq_D eq_calm (d_var (pv 2)) d_int) (w_and1 (b_cmp (op_eqB hr.units) eq_D eq_calm (d_ix (d_var (pv 0)) d_int) d_str)))) (ss_one (s_ret (ps_ret (d_tup (a_cons d_str (a_cons (d_ix (d_var (pv 0)) d_int) (a_cons (d_ix (d_var (pv 0)) d_int) (a_cons (d_ix (d_var (pv 0)) d_int) a_nil)))))))) ss_nil)
    (ss_cons (s_if (b_w (w_and (b_cmp (op_eqB hr.units) eq_D eq_calm (d_var (pv 2)) d_int) (w_and (b_cmp (op_neB hr.units) ne_D ne_calm (d_ix (d_var (pv 0)) d_int) d_str) (w_and1 (b_val (d_isi (by decide) rfl T.n_isinstance rfl T.n_str rfl (d_ix (d_var (pv 0)) d_int))))))) (ss_cons (s_asg (ps_set (i := 5) sc__law_changed.nd rfl (.inl rfl) (d_ix (d_var (pv 0)) d_int)))
    (ss_cons (s_asg (ps_set (i := 6) sc__law_changed.nd rfl (.inl rfl) (d_ix (d_ofL (l_lst (a_cons (d_upper (d_var (pv 5))) (a_cons (d_addT (d_var (pv 5)) d_str) (a_cons (d_addT d_str (d_var (pv 5))) (a_cons (d_addT (d_var (pv 5)) (d_var (pv 5))) (a_cons (d_addT (d_slice (d_var (pv 5)) o_none (o_some d_int)) (d_var (pv 5))) a_nil))))))) (d_mod (d_fdiv (d_var (pv 1)) d_int) d_int))))
    (ss_one (s_ret (ps_ret (d_addT (d_tup (a_cons (d_ix (d_var (pv 0)) d_int) (a_cons (d_var (pv 6)) a_nil))) (d_slice (d_var (pv 0)) (o_some d_int) o_none))))))) ss_nil)
    (ss_cons (s_if (b_w (w_and (b_cmp op_gt dC_D dC_calm (d_var (pv 2)) d_int) (w_and1 (b_cmp (op_eqB hr.units) eq_D eq_calm (d_ix (d_var (pv 0)) d_int) d_str)))) (ss_one (s_ret (ps_ret (d_ix (d_ofL (l_lst (a_cons (d_addT (d_slice (d_var (pv 0)) o_none (o_some d_int)) (d_tup (a_cons (d_ix (d_var (pv 0)) d_int) a_nil))) (a_cons (d_tup (a_cons d_str (a_cons d_str (a_cons d_int (a_cons d_int a_nil))))) (a_cons (d_tup (a_cons d_str (a_cons (d_ix (d_var (pv 0)) d_int) (a_cons d_int (a_cons d_int a_nil))))) a_nil))))) (d_mod (d_var (pv 2)) d_int))))) ss_nil)
    (ss_cons (s_if (b_cmp (op_eqB hr.units) eq_D eq_calm (d_var (pv 2)) d_int) (ss_one (s_ret (ps_ret (d_addT (d_addT (d_tup (a_cons (d_ix (d_var (pv 0)) d_int) a_nil)) (d_callT call_tupleB tuple_D tuple_calm rfl T.n_tuple (by decide +kernel) (a_cons (d_ofL (l_comp (own := [("_law_part", 7)]) rfl sc__law_changed.nd (i_dyn (d_slice (d_var (pv 0)) (o_some d_int) (o_some (d_neg d_int)))) (blkOk_by (N := N__law_changed) (sc := defScope (top 43)) (by decide +kernel)) (fun _ _ _ _ _ => g_one (pg_name (i := 7) sc__law_changed.nd rfl (.inl rfl))) (sub_one (by decide)) (fun _ _ _ _ _ => t_nil) (fun _ _ _ _ _ => d_str))) a_nil))) (d_tup (a_cons (d_neg d_int) a_nil)))))) ss_nil)
    (ss_one (s_ret (ps_ret (d_addT (d_addT (d_slice (d_var (pv 0)) o_none (o_some (d_var (pv 3)))) (d_tup (a_cons (d_var (pv 4)) a_nil))) (d_slice (d_var (pv 0)) (o_some (d_addT (d_var (pv 3)) d_int)) o_none)))))))))))))))))

abbrev N__law_in : List Str := ["_law_thing", "_law_least", "_law_most"]
theorem sc__law_in : FnScope N__law_in ["_law_thing", "_law_least", "_law_most"] (defScope (top 44)) := ⟨rfl, rfl, rfl, by decide +kernel, rfl, by decide +kernel, by decide +kernel⟩
theorem ok__law_in (T : Txt w K mg) : OkD P w K mg base 2 "_law_in" ["_law_thing", "_law_least", "_law_most"] f__law_in := fnD (k := 1) (u := u__law_in) (N := N__law_in) T.d__law_in sc__law_in fun cdv A outer s H E hr W tk =>
    ss_one (s_ret (ps_ret (d_and (d_def (ok__law_whole T) T.d__law_whole hr (by decide) tk (a_cons (d_var (pv 0)) a_nil) (cons_len nil_len)) (d_one (d_chain op_le op_le dC_D dC_calm dC_D dC_calm (d_var (pv 1)) (d_var (pv 0)) (d_var (pv 2)))))))

abbrev N__law_sound : List Str := ["_law_offer_here", "_law_names_here", "_law_pair"]
theorem sc__law_sound : FnScope N__law_sound ["_law_offer_here"] (defScope (top 45)) := ⟨rfl, rfl, rfl, by decide +kernel, rfl, by decide +kernel, by decide +kernel⟩
theorem ok__law_sound (T : Txt w K mg) : OkD P w K mg base 3 "_law_sound" ["_law_offer_here"] f__law_sound := fnD (k := 2) (u := u__law_sound) (N := N__law_sound) T.d__law_sound sc__law_sound fun cdv A outer s H E hr W tk =>
    ss_cons (s_if (b_cmp (op_eqB hr.units) eq_D eq_calm (d_ix (d_var (pv 0)) d_int) d_str) (ss_one (s_ret (ps_ret (d_and (d_def (ok__law_in T) T.d__law_in hr (by decide) tk (a_cons (d_ix (d_var (pv 0)) d_int) (a_cons d_int (a_cons d_int a_nil))) (cons_len (cons_len (cons_len nil_len)))) (d_one (d_def (ok__law_in T) T.d__law_in hr (by decide) tk (a_cons (d_ix (d_var (pv 0)) d_int) (a_cons d_int (a_cons (d_sub (d_ix (d_var (pv 0)) d_int) d_int) a_nil))) (cons_len (cons_len (cons_len nil_len))))))))) ss_nil)
    (ss_cons (s_if (b_cmp (op_eqB hr.units) eq_D eq_calm (d_ix (d_var (pv 0)) d_int) d_str) (ss_one (s_ret (ps_ret (d_def (ok__law_in T) T.d__law_in hr (by decide) tk (a_cons (d_ix (d_var (pv 0)) d_int) (a_cons d_int (a_cons d_int a_nil))) (cons_len (cons_len (cons_len nil_len))))))) ss_nil)
    (ss_cons (s_if (b_cmp (op_eqB hr.units) eq_D eq_calm (d_ix (d_var (pv 0)) d_int) d_str) (ss_one (s_ret (ps_ret (d_and (d_def (ok__law_in T) T.d__law_in hr (by decide) tk (a_cons (d_ix (d_var (pv 0)) d_int) (a_cons d_int (a_cons d_int a_nil))) (cons_len (cons_len (cons_len nil_len)))) (d_one (d_cmp (op_neB hr.units) ne_D ne_calm (d_ix (d_var (pv 0)) d_int) (d_ix (d_var (pv 0)) d_int))))))) ss_nil)
    (ss_cons (s_if (b_w (w_or (b_not (b_val (d_isi (by decide) rfl T.n_isinstance rfl T.n_tuple rfl (d_ix (d_var (pv 0)) d_int)))) (w_or (b_not (b_chain op_le op_le dC_D dC_calm dC_D dC_calm d_int (d_callB call_lenB len_D len_calm rfl T.n_len (by decide +kernel) (a_cons (d_ix (d_var (pv 0)) d_int) a_nil)) d_int)) (w_or1 (b_not (b_val (d_def (ok__law_in T) T.d__law_in hr (by decide) tk (a_cons (d_ix (d_var (pv 0)) d_int) (a_cons d_int (a_cons d_int a_nil))) (cons_len (cons_len (cons_len nil_len)))))))))) (ss_one (s_ret (ps_ret d_bl))) ss_nil)
    (ss_cons (s_asgO (ps_set (i := 1) sc__law_sound.nd rfl (.inl rfl) (l_lst a_nil)))
    (ss_cons (s_pre (k_wipe [2]) (s_for rfl (passes_of rfl) rfl (i_dyn (d_ix (d_var (pv 0)) d_int)) (g_one (pg_name (i := 2) sc__law_sound.nd rfl (.inl rfl)))
      (ss_cons (s_if (b_w (w_or (b_not (b_val (d_isi (by decide) rfl T.n_isinstance rfl T.n_tuple rfl (d_var (pv 2))))) (w_or (b_cmp (op_neB hr.units) ne_D ne_calm (d_callB call_lenB len_D len_calm rfl T.n_len (by decide +kernel) (a_cons (d_var (pv 2)) a_nil)) d_int) (w_or (b_not (b_val (d_def (ok__law_in T) T.d__law_in hr (by decide) tk (a_cons (d_ix (d_var (pv 2)) d_int) (a_cons d_int (a_cons d_int a_nil))) (cons_len (cons_len (cons_len nil_len)))))) (w_or1 (b_cmp op_inB in_D in_calm (d_ix (d_var (pv 2)) d_int) (d_var (pv 1)))))))) (ss_one (s_ret (ps_ret d_bl))) ss_nil)
    (ss_one (s_push (ps_expr (pe_bm PySem.F.plainAttrs_list PySem.F.slot_list_append PySem.F.type_list_append mt_append (pv 1) (pa_cons (d_ix (d_var (pv 2)) d_int) pa_nil))))))))
    (ss_one (s_ret (ps_ret d_bl))))))))

abbrev N__law_names : List Str := ["_law_offer_here", "_law_pair"]
theorem sc__law_names : FnScope N__law_names ["_law_offer_here"] (defScope (top 46)) := ⟨rfl, rfl, rfl, by decide +kernel, rfl, by decide +kernel, by decide +kernel⟩
theorem ok__law_names (T : Txt w K mg) : OkD P w K mg base 1 "_law_names" ["_law_offer_here"] f__law_names := fnD (k := 0) (u := u__law_names) (N := N__law_names) T.d__law_names sc__law_names fun cdv A outer s H E hr W tk =>
    ss_cons (s_if (b_cmp (op_eqB hr.units) eq_D eq_calm (d_ix (d_var (pv 0)) d_int) d_str) (ss_one (s_ret (ps_ret (d_ofL (l_lst (a_cons (d_ix (d_var (pv 0)) d_int) (a_cons (d_ix (d_var (pv 0)) d_int) a_nil))))))) ss_nil)
    (ss_cons (s_if (b_cmp (op_neB hr.units) ne_D ne_calm (d_ix (d_var (pv 0)) d_int) d_str) (ss_one (s_ret (ps_ret (d_ofL (l_lst (a_cons (d_ix (d_var (pv 0)) d_int) a_nil)))))) ss_nil)
    (ss_cons (s_if (b_not (b_val (d_isi (by decide) rfl T.n_isinstance rfl T.n_tuple rfl (d_ix (d_var (pv 0)) d_int)))) (ss_one (s_ret (ps_ret (d_ofL (l_lst a_nil))))) ss_nil)
    (ss_cons (s_if (b_cmp op_gt dC_D dC_calm (d_callB call_lenB len_D len_calm rfl T.n_len (by decide +kernel) (a_cons (d_ofL (l_comp (own := [("_law_pair", 1)]) rfl sc__law_names.nd (i_dyn (d_ix (d_var (pv 0)) d_int)) (blkOk_by (N := N__law_names) (sc := defScope (top 46)) (by decide +kernel)) (fun _ _ _ _ _ => g_one (pg_name (i := 1) sc__law_names.nd rfl (.inl rfl))) (sub_one (by decide)) (fun _ _ _ _ _ => t_one (b_w (w_or (b_not (b_val (d_isi (by decide) rfl T.n_isinstance rfl T.n_tuple rfl (d_var (pv 1))))) (w_or1 (b_cmp (op_neB hr.units) ne_D ne_calm (d_callB call_lenB len_D len_calm rfl T.n_len (by decide +kernel) (a_cons (d_var (pv 1)) a_nil)) d_int))))) (fun _ _ _ _ _ => d_var (pv 1)))) a_nil)) d_int) (ss_one (s_ret (ps_ret (d_ofL (l_lst a_nil))))) ss_nil)
    (ss_one (s_ret (ps_ret (d_ofL (l_comp (own := [("_law_pair", 1)]) rfl sc__law_names.nd (i_dyn (d_ix (d_var (pv 0)) d_int)) (blkOk_by (N := N__law_names) (sc := defScope (top 46)) (by decide +kernel)) (fun _ _ _ _ _ => g_one (pg_name (i := 1) sc__law_names.nd rfl (.inl rfl))) (sub_one (by decide)) (fun _ _ _ _ _ => t_nil) (fun _ _ _ _ _ => d_ix (d_var (pv 1)) d_int)))))))))

abbrev N__law_due : List Str := ["_law_kinds_here", "_law_offer_here", "_law_names_here", "_law_name", "_law_kind"]
theorem sc__law_due : FnScope N__law_due ["_law_kinds_here", "_law_offer_here"] (defScope (top 47)) := ⟨rfl, rfl, rfl, by decide +kernel, rfl, by decide +kernel, by decide +kernel⟩
theorem ok__law_due (T : Txt w K mg) : OkD P w K mg base 4 "_law_due" ["_law_kinds_here", "_law_offer_here"] f__law_due := fnD (k := 3) (u := u__law_due) (N := N__law_due) T.d__law_due sc__law_due fun cdv A outer s H E hr W tk =>
    ss_cons (s_if (b_w (w_or (b_not (b_val (d_isi (by decide) rfl T.n_isinstance rfl T.n_tuple rfl (d_var (pv 1))))) (w_or (b_cmp (op_eqB hr.units) eq_D eq_calm (d_callB call_lenB len_D len_calm rfl T.n_len (by decide +kernel) (a_cons (d_var (pv 1)) a_nil)) d_int) (w_or1 (b_not (b_val (d_isi (by decide) rfl T.n_isinstance rfl T.n_str rfl (d_ix (d_var (pv 1)) d_int)))))))) (ss_one (s_ret (ps_ret d_str))) ss_nil)
    (ss_cons (s_if (b_cmp op_notInB in_D in_calm (d_ix (d_var (pv 1)) d_int) (d_tup (a_cons d_str (a_cons d_str (a_cons d_str (a_cons d_str a_nil)))))) (ss_one (s_ret (ps_ret d_str))) ss_nil)
    (ss_cons (s_if (b_cmp (op_neB hr.units) ne_D ne_calm (d_callB call_lenB len_D len_calm rfl T.n_len (by decide +kernel) (a_cons (d_var (pv 1)) a_nil)) (d_add d_int (d_callT call_intB int_D int_calm rfl T.n_int (by decide +kernel) (a_cons (d_cmp op_inB in_D in_calm (d_ix (d_var (pv 1)) d_int) (d_tup (a_cons d_str (a_cons d_str a_nil)))) a_nil)))) (ss_one (s_ret (ps_ret d_str))) ss_nil)
    (ss_cons (s_asgL (ps_setComp (own := [("_law_kind", 4)]) (i := 2) rfl rfl (sw_true rfl rfl rfl (by decide +kernel)) rfl sc__law_due.nd (i_dyn (d_var (pv 0))) (blkOk_by (N := N__law_due) (sc := defScope (top 47)) (by decide +kernel)) (fun _ _ _ _ _ => g_one (pg_name (i := 4) sc__law_due.nd rfl (.inl rfl))) (sub_one (by decide)) (fun _ _ _ _ _ => t_nil) (fun _ _ _ _ _ => d_ix (d_var (pv 4)) d_int)))
    (ss_cons (s_pre (k_wipe [3]) (s_for rfl (passes_of rfl) rfl (i_dyn (d_def (ok__law_names T) T.d__law_names hr (by decide) tk (a_cons (d_var (pv 1)) a_nil) (cons_len nil_len))) (g_one (pg_name (i := 3) sc__law_due.nd rfl (.inl rfl)))
      (ss_one (s_if (b_niD hr (d_var (pv 3)) (d_var (pv 2))) (ss_one (s_ret (ps_ret d_str))) ss_nil))))
    (ss_one (s_ret (ps_ret (d_ite (b_val (d_def (ok__law_sound T) T.d__law_sound hr (by decide) tk (a_cons (d_var (pv 1)) a_nil) (cons_len nil_len))) (d_def (ok__law_deal T) T.d__law_deal hr (by decide) tk (a_cons (d_var (pv 0)) (a_cons (d_var (pv 1)) a_nil)) (cons_len (cons_len nil_len))) d_str))))))))

abbrev N__law_one_class : List Str := ["_law_e", "_law_told_here"]
theorem sc__law_one_class : FnScope N__law_one_class ["_law_e"] (defScope (top 48)) := ⟨rfl, rfl, rfl, by decide +kernel, rfl, by decide +kernel, by decide +kernel⟩
theorem okx__law_one_class (T : Txt w K mg) : FnX P w K mg base 1 "_law_one_class" ["_law_e"] f__law_one_class := fnX (k := 0) (u := u__law_one_class) (N := N__law_one_class) T.d__law_one_class sc__law_one_class fun cdv A outer s H p c px hr W =>
    ss_cons (s_asg (ps_set (i := 1) sc__law_one_class.nd rfl (.inl rfl) (d_ofL (l_lst (a_cons (d_isX (p := p) (T.x c px.mem) List.mem_cons_self px (by simp) T.e_BadKinds.g rfl T.n_isinstance rfl (d_var (pv 0))) (a_cons (d_isX (p := p) (T.x c px.mem) List.mem_cons_self px (by simp) T.e_BadName.g rfl T.n_isinstance rfl (d_var (pv 0))) (a_cons (d_isX (p := p) (T.x c px.mem) List.mem_cons_self px (by simp) T.e_Twice.g rfl T.n_isinstance rfl (d_var (pv 0))) (a_cons (d_isX (p := p) (T.x c px.mem) List.mem_cons_self px (by simp) T.e_BadPrice.g rfl T.n_isinstance rfl (d_var (pv 0))) a_nil))))))))
    (ss_cons (s_asg (ps_set (i := 1) sc__law_one_class.nd rfl (.inl rfl) (d_add (d_var (pv 1)) (d_ofL (l_lst (a_cons (d_isX (p := p) (T.x c px.mem) List.mem_cons_self px (by simp) T.e_BadBasket.g rfl T.n_isinstance rfl (d_var (pv 0))) (a_cons (d_isX (p := p) (T.x c px.mem) List.mem_cons_self px (by simp) T.e_TooMany.g rfl T.n_isinstance rfl (d_var (pv 0))) (a_cons (d_isX (p := p) (T.x c px.mem) List.mem_cons_self px (by simp) T.e_BadOffer.g rfl T.n_isinstance rfl (d_var (pv 0))) a_nil))))))))
    (ss_cons (s_asg (ps_set (i := 1) sc__law_one_class.nd rfl (.inl rfl) (d_add (d_var (pv 1)) (d_ofL (l_lst (a_cons (d_isX (p := p) (T.x c px.mem) List.mem_cons_self px (by simp) T.e_NoKind.g rfl T.n_isinstance rfl (d_var (pv 0))) (a_cons (d_isX (p := p) (T.x c px.mem) List.mem_cons_self px (by simp) T.e_NoOffer.g rfl T.n_isinstance rfl (d_var (pv 0))) a_nil)))))))
    (ss_one (s_ret (ps_ret (d_and (d_cmp (op_eqB hr.units) eq_D eq_calm (d_count (d_var (pv 1)) d_bl) d_int) (d_and (d_isX (p := p) (T.x c px.mem) List.mem_cons_self px (by simp) T.e_TillError.g rfl T.n_isinstance rfl (d_var (pv 0))) (d_one (d_isXv (p := p) (T.x c px.mem) List.mem_cons_self px rfl T.n_isinstance rfl T.n_ValueError (d_var (pv 0)))))))))))

abbrev N__law_told : List Str := ["_law_shop", "_law_offer_here", "_law_ahead", "_law_way", "_law_e"]
theorem sc__law_told : FnScope N__law_told ["_law_shop", "_law_offer_here", "_law_ahead", "_law_way"] (defScope (top 49)) := ⟨rfl, rfl, rfl, by decide +kernel, rfl, by decide +kernel, by decide +kernel⟩
theorem ok__law_told (T : Txt w K mg) : OkD P w K mg base 6 "_law_told" ["_law_shop", "_law_offer_here", "_law_ahead", "_law_way"] f__law_told := fnD (k := 5) (u := u__law_told) (N := N__law_told) T.d__law_told sc__law_told fun cdv A outer s H E hr W tk =>
    ss_one (s_tryAs (cat := catTill) (i := 4) (x := "TillError") (n := "_law_e") rfl rfl sc__law_told.nd rfl rfl ⟨rfl, by decide, .inl T.e_TillError.g⟩ tk (cat_till T.x) (fun W pn xe tk => ss_cons (s_if (b_cmp (op_eqB hr.units) eq_D eq_calm (d_var (pv 3)) d_int) (ss_one (s_ret (ps_ret (d_def (ok_deal_of T) T.d_deal_of hr (by decide) tk (a_cons (d_var (pv 0)) (a_cons (d_var (pv 1)) a_nil)) (cons_len (cons_len nil_len)))))) ss_nil)
    (ss_one (s_ret (ps_ret (d_ix (d_ofL (l_def (okl_deals T) T.d_deals hr (by decide) tk (a_cons (d_var (pv 0)) (a_cons (d_var (pv 2)) a_nil)) (cons_len (cons_len nil_len)))) (d_sub (d_add (d_callB call_lenB len_D len_calm rfl T.n_len (by decide +kernel) (a_cons (d_var (pv 2)) a_nil)) (d_callB call_lenB len_D len_calm rfl T.n_len (by decide +kernel) (a_cons (d_names T.sh (d_var (pv 0))) a_nil))) d_int))))))
      (fun a oe c ca pn hm hc hz hf W => have px := pin_of T.x hm hc hz hf; ss_cons (s_if (b_w (w_and (b_val (d_isX (p := (a, oe)) (T.x c px.mem) List.mem_cons_self px (by simp) T.e_BadOffer.g rfl T.n_isinstance rfl (d_var (pv 4)))) (w_and1 (b_val (d_defX (p := (a, oe)) (okx__law_one_class T) T.d__law_one_class (roomX hr) (by decide) List.mem_cons_self px (a_cons (d_var (pv 4)) a_nil) (cons_len nil_len)))))) (ss_one (s_ret (ps_ret d_str))) ss_nil)
    (ss_one (s_ret (ps_ret (d_ite (b_w (w_and (b_val (d_isX (p := (a, oe)) (T.x c px.mem) List.mem_cons_self px (by simp) T.e_NoKind.g rfl T.n_isinstance rfl (d_var (pv 4)))) (w_and1 (b_val (d_defX (p := (a, oe)) (okx__law_one_class T) T.d__law_one_class (roomX hr) (by decide) List.mem_cons_self px (a_cons (d_var (pv 4)) a_nil) (cons_len nil_len)))))) d_str d_str))))))

abbrev N_law : List Str := ["_law_script", "_law_kinds_here", "_law_shop", "_law_offers_here", "_law_handed", "_law_early", "_law_found", "_law_due_here", "_law_one", "_law_other", "_law_offer_here", "_law_ahead", "_law_k", "_law_way", "_law_told_here"]
theorem sc_law : FnScope N_law ["_law_script"] (defScope (top 50)) := ⟨rfl, rfl, rfl, by decide +kernel, rfl, by decide +kernel, by decide +kernel⟩
theorem ok_law (T : Txt w K mg) : OkD P w K mg base 7 "law" ["_law_script"] f_law := fnD (k := 6) (u := u_law) (N := N_law) T.d_law sc_law fun cdv A outer s H E hr W tk =>
    ss_cons (s_asg (ps_set (i := 1) sc_law.nd rfl (.inl rfl) (d_def (ok__law_kinds T) T.d__law_kinds hr (by decide) tk (a_cons (d_var (pv 0)) a_nil) (cons_len nil_len))))
    (ss_cons (s_asg (ps_set (i := 2) sc_law.nd rfl (.inl rfl) (d_Shop (ok___init__ T) T.sh hr (by decide) tk (a_cons (d_ofL (l_callT call_listB list_D list_calm rfl T.n_list (by decide +kernel) (a_cons (d_var (pv 1)) a_nil))) a_nil) (cons_len nil_len))))
    (ss_cons (s_asg (ps_set (i := 3) sc_law.nd rfl (.inl rfl) (d_def (ok__law_offers T) T.d__law_offers hr (by decide) tk (a_cons (d_var (pv 0)) (a_cons (d_var (pv 1)) (a_cons d_int a_nil))) (cons_len (cons_len (cons_len nil_len))))))
    (ss_cons (s_asg (ps_set (i := 4) sc_law.nd rfl (.inl rfl) (d_ofL (l_callT call_listB list_D list_calm rfl T.n_list (by decide +kernel) (a_cons (d_var (pv 3)) a_nil)))))
    (ss_cons (s_drop (ps_expr (d_ofL (l_def (okl_deals T) T.d_deals hr (by decide) tk (a_cons (d_var (pv 2)) (a_cons (d_ofL (l_listRev rfl rfl T.n_list rfl T.n_reversed (d_var (pv 4)))) a_nil)) (cons_len (cons_len nil_len))))))
    (ss_cons (s_asgO (ps_set (i := 5) sc_law.nd rfl (.inl rfl) (l_def (okl_deals T) T.d_deals hr (by decide) tk (a_cons (d_var (pv 2)) (a_cons (d_var (pv 4)) a_nil)) (cons_len (cons_len nil_len)))))
    (ss_cons (s_push (ps_expr (pe_bm PySem.F.plainAttrs_list PySem.F.slot_list_append PySem.F.type_list_append mt_append (pv 5) (pa_cons d_int pa_nil))))
    (ss_cons (s_asg (ps_set (i := 6) sc_law.nd rfl (.inl rfl) (d_ofL (l_def (okl_deals T) T.d_deals hr (by decide) tk (a_cons (d_var (pv 2)) (a_cons (d_var (pv 4)) a_nil)) (cons_len (cons_len nil_len))))))
    (ss_cons (s_asg (ps_set (i := 7) sc_law.nd rfl (.inl rfl) (d_def (ok__law_deals T) T.d__law_deals hr (by decide) tk (a_cons (d_var (pv 1)) (a_cons (d_var (pv 3)) a_nil)) (cons_len (cons_len nil_len)))))
    (ss_cons (s_if (b_w (w_or (b_not (b_val (d_isi (by decide) rfl T.n_isinstance rfl T.n_list rfl (d_var (pv 6))))) (w_or (b_cmp (op_neB hr.units) ne_D ne_calm (d_callB call_lenB len_D len_calm rfl T.n_len (by decide +kernel) (a_cons (d_var (pv 6)) a_nil)) (d_callB call_lenB len_D len_calm rfl T.n_len (by decide +kernel) (a_cons (d_var (pv 7)) a_nil))) (w_or1 (b_cmp (op_neB hr.units) ne_D ne_calm (d_var (pv 4)) (d_var (pv 3))))))) (ss_one (s_ret (ps_ret d_bl))) ss_nil)
    (ss_cons (s_if (b_cmp (op_neB hr.units) ne_D ne_calm (d_var (pv 5)) (d_add (d_var (pv 7)) (d_ofL (l_lst (a_cons d_int a_nil))))) (ss_one (s_ret (ps_ret d_bl))) ss_nil)
    (ss_cons (s_pre (k_wipe [8, 9]) (s_for rfl (passes_of rfl) rfl (i_zip rfl T.n_zip (a_cons (d_var (pv 6)) (a_cons (d_var (pv 7)) a_nil))) (g_tup rfl (g_cons (g_one (pg_name (i := 8) sc_law.nd rfl (.inl rfl))) (g_cons (g_one (pg_name (i := 9) sc_law.nd rfl (.inl rfl))) g_nil)))
      (ss_one (s_if (b_not (b_val (d_def (ok__law_deal_is T) T.d__law_deal_is hr (by decide) tk (a_cons (d_var (pv 8)) (a_cons (d_var (pv 9)) a_nil)) (cons_len (cons_len nil_len))))) (ss_one (s_ret (ps_ret d_bl))) ss_nil))))
    (ss_cons (s_asg (ps_set (i := 10) sc_law.nd rfl (.inl rfl) (d_def (ok__law_offer T) T.d__law_offer hr (by decide) tk (a_cons (d_var (pv 1)) (a_cons (d_def (ok__law_number T) T.d__law_number hr (by decide) tk (a_cons (d_var (pv 0)) (a_cons d_int a_nil)) (cons_len (cons_len nil_len))) a_nil)) (cons_len (cons_len nil_len)))))
    (ss_cons (s_asgO (ps_set (i := 11) sc_law.nd rfl (.inl rfl) (l_callT call_listB list_D list_calm rfl T.n_list (by decide +kernel) (a_cons (d_var (pv 3)) a_nil))))
    (ss_cons (s_pre (k_wipe [12]) (s_for rfl (passes_of rfl) rfl (i_range1 rfl T.n_range (a_cons (d_mod (d_def (ok__law_cell_at T) T.d__law_cell_at hr (by decide) tk (a_cons (d_var (pv 0)) (a_cons d_int a_nil)) (cons_len (cons_len nil_len))) d_int) a_nil)) (g_one (pg_name (i := 12) sc_law.nd rfl (.inl rfl)))
      (ss_one (s_if (b_w (w_and (b_val (d_isi (by decide) rfl T.n_isinstance rfl T.n_tuple rfl (d_var (pv 10)))) (w_and (b_cmp op_gt dC_D dC_calm (d_callB call_lenB len_D len_calm rfl T.n_len (by decide +kernel) (a_cons (d_var (pv 10)) a_nil)) d_int) (w_and1 (b_cmp (op_neB hr.units) ne_D ne_calm (d_def (ok__law_due T) T.d__law_due hr (by decide) tk (a_cons (d_var (pv 1)) (a_cons (d_var (pv 10)) a_nil)) (cons_len (cons_len nil_len))) d_str))))) (ss_cons (s_asg (ps_set (i := 10) sc_law.nd rfl (.inl rfl) (d_def (ok__law_changed T) T.d__law_changed hr (by decide) tk (a_cons (d_var (pv 10)) (a_cons (d_add (d_def (ok__law_number T) T.d__law_number hr (by decide) tk (a_cons (d_var (pv 0)) (a_cons (d_add d_int (d_var (pv 12))) a_nil)) (cons_len (cons_len nil_len))) (d_mod (d_def (ok__law_cell_at T) T.d__law_cell_at hr (by decide) tk (a_cons (d_var (pv 0)) (a_cons d_int a_nil)) (cons_len (cons_len nil_len))) d_int)) a_nil)) (cons_len (cons_len nil_len)))))
    (ss_one (s_if (b_cmp (op_eqB hr.units) eq_D eq_calm (d_mod (d_def (ok__law_cell_at T) T.d__law_cell_at hr (by decide) tk (a_cons (d_var (pv 0)) (a_cons d_int a_nil)) (cons_len (cons_len nil_len))) d_int) d_int) (ss_one (s_push (ps_expr (pe_bm PySem.F.plainAttrs_list PySem.F.slot_list_append PySem.F.type_list_append mt_append (pv 11) (pa_cons (d_var (pv 10)) pa_nil))))) ss_nil))) ss_nil))))
    (ss_cons (s_pre (k_wipe [8, 9]) (s_for rfl (passes_of rfl) rfl (i_zip rfl T.n_zip (a_cons (d_var (pv 3)) (a_cons (d_slice (d_var (pv 7)) (o_some (d_callB call_lenB len_D len_calm rfl T.n_len (by decide +kernel) (a_cons (d_var (pv 1)) a_nil))) o_none) a_nil))) (g_tup rfl (g_cons (g_one (pg_name (i := 8) sc_law.nd rfl (.inl rfl))) (g_cons (g_one (pg_name (i := 9) sc_law.nd rfl (.inl rfl))) g_nil)))
      (ss_one (s_if (b_not (b_val (d_def (ok__law_deal_is T) T.d__law_deal_is hr (by decide) tk (a_cons (d_def (ok_deal_of T) T.d_deal_of hr (by decide) tk (a_cons (d_var (pv 2)) (a_cons (d_var (pv 8)) a_nil)) (cons_len (cons_len nil_len))) (a_cons (d_var (pv 9)) a_nil)) (cons_len (cons_len nil_len))))) (ss_one (s_ret (ps_ret d_bl))) ss_nil))))
    (ss_cons (s_asg (ps_set (i := 7) sc_law.nd rfl (.inl rfl) (d_def (ok__law_due T) T.d__law_due hr (by decide) tk (a_cons (d_var (pv 1)) (a_cons (d_var (pv 10)) a_nil)) (cons_len (cons_len nil_len)))))
    (ss_cons (s_pre (k_frz 11) (s_pre (k_wipe [8]) (s_for rfl (passes_of rfl) rfl (i_rev rfl T.n_reversed (a_cons (d_var (pv 11)) a_nil)) (g_one (pg_name (i := 8) sc_law.nd rfl (.inl rfl)))
      (ss_one (s_if (b_val (d_isi (by decide) rfl T.n_isinstance rfl T.n_str rfl (d_def (ok__law_due T) T.d__law_due hr (by decide) tk (a_cons (d_var (pv 1)) (a_cons (d_var (pv 8)) a_nil)) (cons_len (cons_len nil_len))))) (ss_one (s_asg (ps_set (i := 7) sc_law.nd rfl (.inl rfl) (d_def (ok__law_due T) T.d__law_due hr (by decide) tk (a_cons (d_var (pv 1)) (a_cons (d_var (pv 8)) a_nil)) (cons_len (cons_len nil_len)))))) ss_nil)))))
    (ss_cons (s_asg (ps_set (i := 13) sc_law.nd rfl (.inl rfl) (d_mod (d_fdiv (d_def (ok__law_cell_at T) T.d__law_cell_at hr (by decide) tk (a_cons (d_var (pv 0)) (a_cons d_int a_nil)) (cons_len (cons_len nil_len))) d_int) d_int)))
    (ss_cons (s_if (b_cmp (op_eqB hr.units) eq_D eq_calm (d_var (pv 13)) d_int) (ss_one (s_asg (ps_set (i := 7) sc_law.nd rfl (.inl rfl) (d_def (ok__law_due T) T.d__law_due hr (by decide) tk (a_cons (d_var (pv 1)) (a_cons (d_var (pv 10)) a_nil)) (cons_len (cons_len nil_len)))))) ss_nil)
    (ss_cons (s_asg (ps_set (i := 14) sc_law.nd rfl (.inl rfl) (d_def (ok__law_told T) T.d__law_told hr (by decide) tk (a_cons (d_var (pv 2)) (a_cons (d_var (pv 10)) (a_cons (d_add (d_var (pv 11)) (d_ofL (l_lst (a_cons (d_var (pv 10)) a_nil)))) (a_cons (d_var (pv 13)) a_nil)))) (cons_len (cons_len (cons_len (cons_len nil_len)))))))
    (ss_cons (s_if (b_val (d_isi (by decide) rfl T.n_isinstance rfl T.n_str rfl (d_var (pv 7)))) (ss_one (s_ret (ps_ret (d_and (d_isi (by decide) rfl T.n_isinstance rfl T.n_str rfl (d_var (pv 14))) (d_one (d_cmp (op_eqB hr.units) eq_D eq_calm (d_var (pv 14)) (d_var (pv 7)))))))) ss_nil)
    (ss_one (s_ret (ps_ret (d_def (ok__law_deal_is T) T.d__law_deal_is hr (by decide) tk (a_cons (d_var (pv 14)) (a_cons (d_var (pv 7)) a_nil)) (cons_len (cons_len nil_len)))))))))))))))))))))))))))

end
end TB
namespace TB
open PySem PySem.Spec PyProof.Rows L2
def D_is_number : He.FnD := ⟨("is_number", none), "is_number", "is_number", defArgs (top 16), defBody (top 16), defScope (top 16)⟩
def D_is_name : He.FnD := ⟨("is_name", none), "is_name", "is_name", defArgs (top 17), defBody (top 17), defScope (top 17)⟩
def D_need_form : He.FnD := ⟨("need_form", none), "need_form", "need_form", defArgs (top 23), defBody (top 23), defScope (top 23)⟩
def D_need : He.FnD := ⟨("need", none), "need", "need", defArgs (top 24), defBody (top 24), defScope (top 24)⟩
def D_is_wants : He.FnD := ⟨("is_wants", none), "is_wants", "is_wants", defArgs (top 25), defBody (top 25), defScope (top 25)⟩
def D_names_in : He.FnD := ⟨("names_in", none), "names_in", "names_in", defArgs (top 26), defBody (top 26), defScope (top 26)⟩
def D_need_parts : He.FnD := ⟨("need_parts", none), "need_parts", "need_parts", defArgs (top 27), defBody (top 27), defScope (top 27)⟩
def D_wanted : He.FnD := ⟨("wanted", none), "wanted", "wanted", defArgs (top 28), defBody (top 28), defScope (top 28)⟩
def D_deal_of : He.FnD := ⟨("deal_of", none), "deal_of", "deal_of", defArgs (top 29), defBody (top 29), defScope (top 29)⟩
def D_deals : He.FnD := ⟨("deals", none), "deals", "deals", defArgs (top 30), defBody (top 30), defScope (top 30)⟩
def D__law_cell_at : He.FnD := ⟨("_law_cell_at", none), "_law_cell_at", "_law_cell_at", defArgs (top 32), defBody (top 32), defScope (top 32)⟩
def D__law_number : He.FnD := ⟨("_law_number", none), "_law_number", "_law_number", defArgs (top 33), defBody (top 33), defScope (top 33)⟩
def D__law_name_by : He.FnD := ⟨("_law_name_by", none), "_law_name_by", "_law_name_by", defArgs (top 34), defBody (top 34), defScope (top 34)⟩
def D__law_kinds : He.FnD := ⟨("_law_kinds", none), "_law_kinds", "_law_kinds", defArgs (top 35), defBody (top 35), defScope (top 35)⟩
def D__law_offer : He.FnD := ⟨("_law_offer", none), "_law_offer", "_law_offer", defArgs (top 36), defBody (top 36), defScope (top 36)⟩
def D__law_offers : He.FnD := ⟨("_law_offers", none), "_law_offers", "_law_offers", defArgs (top 37), defBody (top 37), defScope (top 37)⟩
def D__law_deal : He.FnD := ⟨("_law_deal", none), "_law_deal", "_law_deal", defArgs (top 38), defBody (top 38), defScope (top 38)⟩
def D__law_deals : He.FnD := ⟨("_law_deals", none), "_law_deals", "_law_deals", defArgs (top 39), defBody (top 39), defScope (top 39)⟩
def D__law_whole : He.FnD := ⟨("_law_whole", none), "_law_whole", "_law_whole", defArgs (top 40), defBody (top 40), defScope (top 40)⟩
def D__law_listed : He.FnD := ⟨("_law_listed", none), "_law_listed", "_law_listed", defArgs (top 41), defBody (top 41), defScope (top 41)⟩
def D__law_deal_is : He.FnD := ⟨("_law_deal_is", none), "_law_deal_is", "_law_deal_is", defArgs (top 42), defBody (top 42), defScope (top 42)⟩
def D__law_changed : He.FnD := ⟨("_law_changed", none), "_law_changed", "_law_changed", defArgs (top 43), defBody (top 43), defScope (top 43)⟩
def D__law_in : He.FnD := ⟨("_law_in", none), "_law_in", "_law_in", defArgs (top 44), defBody (top 44), defScope (top 44)⟩
def D__law_sound : He.FnD := ⟨("_law_sound", none), "_law_sound", "_law_sound", defArgs (top 45), defBody (top 45), defScope (top 45)⟩
def D__law_names : He.FnD := ⟨("_law_names", none), "_law_names", "_law_names", defArgs (top 46), defBody (top 46), defScope (top 46)⟩
def D__law_due : He.FnD := ⟨("_law_due", none), "_law_due", "_law_due", defArgs (top 47), defBody (top 47), defScope (top 47)⟩
def D__law_one_class : He.FnD := ⟨("_law_one_class", none), "_law_one_class", "_law_one_class", defArgs (top 48), defBody (top 48), defScope (top 48)⟩
def D__law_told : He.FnD := ⟨("_law_told", none), "_law_told", "_law_told", defArgs (top 49), defBody (top 49), defScope (top 49)⟩
def D_law : He.FnD := ⟨("law", none), "law", "law", defArgs (top 50), defBody (top 50), defScope (top 50)⟩
def D___init__ : He.FnD := ⟨("Shop", some "__init__"), "__init__", "Shop.__init__", defArgs (meth 18 0), defBody (meth 18 0), defScope (meth 18 0)⟩
def D_place : He.FnD := ⟨("Shop", some "place"), "place", "Shop.place", defArgs (meth 18 1), defBody (meth 18 1), defScope (meth 18 1)⟩
def fn : List He.FnD := [D_is_number, D_is_name, D_need_form, D_need, D_is_wants, D_names_in, D_need_parts, D_wanted, D_deal_of, D_deals, D__law_cell_at, D__law_number, D__law_name_by, D__law_kinds, D__law_offer, D__law_offers, D__law_deal, D__law_deals, D__law_whole, D__law_listed, D__law_deal_is, D__law_changed, D__law_in, D__law_sound, D__law_names, D__law_due, D__law_one_class, D__law_told, D_law, D___init__, D_place]
def fa : List He.Fa := [
  .glo "is_number",
  .glo "is_name",
  .glo "need_form",
  .glo "need",
  .glo "is_wants",
  .glo "names_in",
  .glo "need_parts",
  .glo "wanted",
  .glo "deal_of",
  .glo "deals",
  .glo "_law_cell_at",
  .glo "_law_number",
  .glo "_law_name_by",
  .glo "_law_kinds",
  .glo "_law_offer",
  .glo "_law_offers",
  .glo "_law_deal",
  .glo "_law_deals",
  .glo "_law_whole",
  .glo "_law_listed",
  .glo "_law_deal_is",
  .glo "_law_changed",
  .glo "_law_in",
  .glo "_law_sound",
  .glo "_law_names",
  .glo "_law_due",
  .glo "_law_one_class",
  .glo "_law_told",
  .glo "law",
  .keep "is_number",
  .keep "is_name",
  .keep "need_form",
  .keep "need",
  .keep "is_wants",
  .keep "names_in",
  .keep "need_parts",
  .keep "wanted",
  .keep "deal_of",
  .keep "deals",
  .keep "_law_cell_at",
  .keep "_law_number",
  .keep "_law_name_by",
  .keep "_law_kinds",
  .keep "_law_offer",
  .keep "_law_offers",
  .keep "_law_deal",
  .keep "_law_deals",
  .keep "_law_whole",
  .keep "_law_listed",
  .keep "_law_deal_is",
  .keep "_law_changed",
  .keep "_law_in",
  .keep "_law_sound",
  .keep "_law_names",
  .keep "_law_due",
  .keep "_law_one_class",
  .keep "_law_told",
  .keep "law",
  .free "ValueError",
  .free "bool",
  .free "int",
  .free "isinstance",
  .free "len",
  .free "list",
  .free "max",
  .free "range",
  .free "reversed",
  .free "str",
  .free "tuple",
  .free "zip",
  .str "LETTERS" "abcdefghijklmnopqrstuvwxyz",
  .int "LONGEST" 8,
  .int "MOST_KINDS" 5,
  .int "MOST_PAIRS" 5,
  .int "MOST_PIECES" 9,
  .int "MOST_PRICE" 100000,
  .glo "PARTS",
  .glo "TillError",
  .exc "TillError",
  .glo "BadKinds",
  .exc "BadKinds",
  .glo "BadName",
  .exc "BadName",
  .glo "Twice",
  .exc "Twice",
  .glo "BadPrice",
  .exc "BadPrice",
  .glo "BadBasket",
  .exc "BadBasket",
  .glo "TooMany",
  .exc "TooMany",
  .glo "BadOffer",
  .exc "BadOffer",
  .glo "NoKind",
  .exc "NoKind",
  .glo "NoOffer",
  .exc "NoOffer",
  .glo "Shop",
  .cls "Shop",
  .noat "Shop" "names",
  .noat "Shop" "prices",
  .mkr "Shop",
  .meth "Shop" "__init__",
  .meth "Shop" "place"]
theorem txt_of {w : World} {K : PySem.W.Frag} {h : Heap} {mg : Str → Option Value} (G : h.Ns mainGlobals mg) (c : SaysPX fa fn PARTS w h K) : Txt w K mg where
  d_is_number := df_of (c.says.def_ 0 (d := D_is_number) rfl) (He.glo_ok c.kin G (c.says.fact 0 (f := .glo "is_number") rfl)) (He.keep_ok (c.says.fact 29 (f := .keep "is_number") rfl)) fun _ _ _ _ _ _ us hl => match us, hl with | [_, _, _], _ => rfl
  d_is_name := df_of (c.says.def_ 1 (d := D_is_name) rfl) (He.glo_ok c.kin G (c.says.fact 1 (f := .glo "is_name") rfl)) (He.keep_ok (c.says.fact 30 (f := .keep "is_name") rfl)) fun _ _ _ _ _ _ us hl => match us, hl with | [_], _ => rfl
  d_need_form := df_of (c.says.def_ 2 (d := D_need_form) rfl) (He.glo_ok c.kin G (c.says.fact 2 (f := .glo "need_form") rfl)) (He.keep_ok (c.says.fact 31 (f := .keep "need_form") rfl)) fun _ _ _ _ _ _ us hl => match us, hl with | [_], _ => rfl
  d_need := df_of (c.says.def_ 3 (d := D_need) rfl) (He.glo_ok c.kin G (c.says.fact 3 (f := .glo "need") rfl)) (He.keep_ok (c.says.fact 32 (f := .keep "need") rfl)) fun _ _ _ _ _ _ us hl => match us, hl with | [_], _ => rfl
  d_is_wants := df_of (c.says.def_ 4 (d := D_is_wants) rfl) (He.glo_ok c.kin G (c.says.fact 4 (f := .glo "is_wants") rfl)) (He.keep_ok (c.says.fact 33 (f := .keep "is_wants") rfl)) fun _ _ _ _ _ _ us hl => match us, hl with | [_], _ => rfl
  d_names_in := df_of (c.says.def_ 5 (d := D_names_in) rfl) (He.glo_ok c.kin G (c.says.fact 5 (f := .glo "names_in") rfl)) (He.keep_ok (c.says.fact 34 (f := .keep "names_in") rfl)) fun _ _ _ _ _ _ us hl => match us, hl with | [_], _ => rfl
  d_need_parts := df_of (c.says.def_ 6 (d := D_need_parts) rfl) (He.glo_ok c.kin G (c.says.fact 6 (f := .glo "need_parts") rfl)) (He.keep_ok (c.says.fact 35 (f := .keep "need_parts") rfl)) fun _ _ _ _ _ _ us hl => match us, hl with | [_], _ => rfl
  d_wanted := df_of (c.says.def_ 7 (d := D_wanted) rfl) (He.glo_ok c.kin G (c.says.fact 7 (f := .glo "wanted") rfl)) (He.keep_ok (c.says.fact 36 (f := .keep "wanted") rfl)) fun _ _ _ _ _ _ us hl => match us, hl with | [_, _], _ => rfl
  d_deal_of := df_of (c.says.def_ 8 (d := D_deal_of) rfl) (He.glo_ok c.kin G (c.says.fact 8 (f := .glo "deal_of") rfl)) (He.keep_ok (c.says.fact 37 (f := .keep "deal_of") rfl)) fun _ _ _ _ _ _ us hl => match us, hl with | [_, _], _ => rfl
  d_deals := df_of (c.says.def_ 9 (d := D_deals) rfl) (He.glo_ok c.kin G (c.says.fact 9 (f := .glo "deals") rfl)) (He.keep_ok (c.says.fact 38 (f := .keep "deals") rfl)) fun _ _ _ _ _ _ us hl => match us, hl with | [_, _], _ => rfl
  d__law_cell_at := df_of (c.says.def_ 10 (d := D__law_cell_at) rfl) (He.glo_ok c.kin G (c.says.fact 10 (f := .glo "_law_cell_at") rfl)) (He.keep_ok (c.says.fact 39 (f := .keep "_law_cell_at") rfl)) fun _ _ _ _ _ _ us hl => match us, hl with | [_, _], _ => rfl
  d__law_number := df_of (c.says.def_ 11 (d := D__law_number) rfl) (He.glo_ok c.kin G (c.says.fact 11 (f := .glo "_law_number") rfl)) (He.keep_ok (c.says.fact 40 (f := .keep "_law_number") rfl)) fun _ _ _ _ _ _ us hl => match us, hl with | [_, _], _ => rfl
  d__law_name_by := df_of (c.says.def_ 12 (d := D__law_name_by) rfl) (He.glo_ok c.kin G (c.says.fact 12 (f := .glo "_law_name_by") rfl)) (He.keep_ok (c.says.fact 41 (f := .keep "_law_name_by") rfl)) fun _ _ _ _ _ _ us hl => match us, hl with | [_, _], _ => rfl
  d__law_kinds := df_of (c.says.def_ 13 (d := D__law_kinds) rfl) (He.glo_ok c.kin G (c.says.fact 13 (f := .glo "_law_kinds") rfl)) (He.keep_ok (c.says.fact 42 (f := .keep "_law_kinds") rfl)) fun _ _ _ _ _ _ us hl => match us, hl with | [_], _ => rfl
  d__law_offer := df_of (c.says.def_ 14 (d := D__law_offer) rfl) (He.glo_ok c.kin G (c.says.fact 14 (f := .glo "_law_offer") rfl)) (He.keep_ok (c.says.fact 43 (f := .keep "_law_offer") rfl)) fun _ _ _ _ _ _ us hl => match us, hl with | [_, _], _ => rfl
  d__law_offers := df_of (c.says.def_ 15 (d := D__law_offers) rfl) (He.glo_ok c.kin G (c.says.fact 15 (f := .glo "_law_offers") rfl)) (He.keep_ok (c.says.fact 44 (f := .keep "_law_offers") rfl)) fun _ _ _ _ _ _ us hl => match us, hl with | [_, _, _], _ => rfl
  d__law_deal := df_of (c.says.def_ 16 (d := D__law_deal) rfl) (He.glo_ok c.kin G (c.says.fact 16 (f := .glo "_law_deal") rfl)) (He.keep_ok (c.says.fact 45 (f := .keep "_law_deal") rfl)) fun _ _ _ _ _ _ us hl => match us, hl with | [_, _], _ => rfl
  d__law_deals := df_of (c.says.def_ 17 (d := D__law_deals) rfl) (He.glo_ok c.kin G (c.says.fact 17 (f := .glo "_law_deals") rfl)) (He.keep_ok (c.says.fact 46 (f := .keep "_law_deals") rfl)) fun _ _ _ _ _ _ us hl => match us, hl with | [_, _], _ => rfl
  d__law_whole := df_of (c.says.def_ 18 (d := D__law_whole) rfl) (He.glo_ok c.kin G (c.says.fact 18 (f := .glo "_law_whole") rfl)) (He.keep_ok (c.says.fact 47 (f := .keep "_law_whole") rfl)) fun _ _ _ _ _ _ us hl => match us, hl with | [_], _ => rfl
  d__law_listed := df_of (c.says.def_ 19 (d := D__law_listed) rfl) (He.glo_ok c.kin G (c.says.fact 19 (f := .glo "_law_listed") rfl)) (He.keep_ok (c.says.fact 48 (f := .keep "_law_listed") rfl)) fun _ _ _ _ _ _ us hl => match us, hl with | [_, _], _ => rfl
  d__law_deal_is := df_of (c.says.def_ 20 (d := D__law_deal_is) rfl) (He.glo_ok c.kin G (c.says.fact 20 (f := .glo "_law_deal_is") rfl)) (He.keep_ok (c.says.fact 49 (f := .keep "_law_deal_is") rfl)) fun _ _ _ _ _ _ us hl => match us, hl with | [_, _], _ => rfl
  d__law_changed := df_of (c.says.def_ 21 (d := D__law_changed) rfl) (He.glo_ok c.kin G (c.says.fact 21 (f := .glo "_law_changed") rfl)) (He.keep_ok (c.says.fact 50 (f := .keep "_law_changed") rfl)) fun _ _ _ _ _ _ us hl => match us, hl with | [_, _], _ => rfl
  d__law_in := df_of (c.says.def_ 22 (d := D__law_in) rfl) (He.glo_ok c.kin G (c.says.fact 22 (f := .glo "_law_in") rfl)) (He.keep_ok (c.says.fact 51 (f := .keep "_law_in") rfl)) fun _ _ _ _ _ _ us hl => match us, hl with | [_, _, _], _ => rfl
  d__law_sound := df_of (c.says.def_ 23 (d := D__law_sound) rfl) (He.glo_ok c.kin G (c.says.fact 23 (f := .glo "_law_sound") rfl)) (He.keep_ok (c.says.fact 52 (f := .keep "_law_sound") rfl)) fun _ _ _ _ _ _ us hl => match us, hl with | [_], _ => rfl
  d__law_names := df_of (c.says.def_ 24 (d := D__law_names) rfl) (He.glo_ok c.kin G (c.says.fact 24 (f := .glo "_law_names") rfl)) (He.keep_ok (c.says.fact 53 (f := .keep "_law_names") rfl)) fun _ _ _ _ _ _ us hl => match us, hl with | [_], _ => rfl
  d__law_due := df_of (c.says.def_ 25 (d := D__law_due) rfl) (He.glo_ok c.kin G (c.says.fact 25 (f := .glo "_law_due") rfl)) (He.keep_ok (c.says.fact 54 (f := .keep "_law_due") rfl)) fun _ _ _ _ _ _ us hl => match us, hl with | [_, _], _ => rfl
  d__law_one_class := df_of (c.says.def_ 26 (d := D__law_one_class) rfl) (He.glo_ok c.kin G (c.says.fact 26 (f := .glo "_law_one_class") rfl)) (He.keep_ok (c.says.fact 55 (f := .keep "_law_one_class") rfl)) fun _ _ _ _ _ _ us hl => match us, hl with | [_], _ => rfl
  d__law_told := df_of (c.says.def_ 27 (d := D__law_told) rfl) (He.glo_ok c.kin G (c.says.fact 27 (f := .glo "_law_told") rfl)) (He.keep_ok (c.says.fact 56 (f := .keep "_law_told") rfl)) fun _ _ _ _ _ _ us hl => match us, hl with | [_, _, _, _], _ => rfl
  d_law := df_of (c.says.def_ 28 (d := D_law) rfl) (He.glo_ok c.kin G (c.says.fact 28 (f := .glo "law") rfl)) (He.keep_ok (c.says.fact 57 (f := .keep "law") rfl)) fun _ _ _ _ _ _ us hl => match us, hl with | [_], _ => rfl
  bl_law := bl_of (st := top 50) (c.says.def_ 28 (d := D_law) rfl) fun _ _ _ _ _ _ _ => rfl
  n_ValueError := He.free_ok c.kin G (c.says.fact 58 (f := .free "ValueError") rfl)
  n_bool := He.free_ok c.kin G (c.says.fact 59 (f := .free "bool") rfl)
  n_int := He.free_ok c.kin G (c.says.fact 60 (f := .free "int") rfl)
  n_isinstance := He.free_ok c.kin G (c.says.fact 61 (f := .free "isinstance") rfl)
  n_len := He.free_ok c.kin G (c.says.fact 62 (f := .free "len") rfl)
  n_list := He.free_ok c.kin G (c.says.fact 63 (f := .free "list") rfl)
  n_max := He.free_ok c.kin G (c.says.fact 64 (f := .free "max") rfl)
  n_range := He.free_ok c.kin G (c.says.fact 65 (f := .free "range") rfl)
  n_reversed := He.free_ok c.kin G (c.says.fact 66 (f := .free "reversed") rfl)
  n_str := He.free_ok c.kin G (c.says.fact 67 (f := .free "str") rfl)
  n_tuple := He.free_ok c.kin G (c.says.fact 68 (f := .free "tuple") rfl)
  n_zip := He.free_ok c.kin G (c.says.fact 69 (f := .free "zip") rfl)
  c_LETTERS := He.str_ok c.kin G (c.says.fact 70 (f := .str "LETTERS" "abcdefghijklmnopqrstuvwxyz") rfl)
  c_LONGEST := He.int_ok c.kin G (c.says.fact 71 (f := .int "LONGEST" 8) rfl)
  c_MOST_KINDS := He.int_ok c.kin G (c.says.fact 72 (f := .int "MOST_KINDS" 5) rfl)
  c_MOST_PAIRS := He.int_ok c.kin G (c.says.fact 73 (f := .int "MOST_PAIRS" 5) rfl)
  c_MOST_PIECES := He.int_ok c.kin G (c.says.fact 74 (f := .int "MOST_PIECES" 9) rfl)
  c_MOST_PRICE := He.int_ok c.kin G (c.says.fact 75 (f := .int "MOST_PRICE" 100000) rfl)
  c_PARTS := tb_of c.toSaysP (He.glo_ok c.kin G (c.says.fact 76 (f := .glo "PARTS") rfl))
  x := xs_of c.xx (He.glo_ok c.kin G (c.says.fact 79 (f := .glo "BadKinds") rfl)) (He.glo_ok c.kin G (c.says.fact 81 (f := .glo "BadName") rfl)) (He.glo_ok c.kin G (c.says.fact 83 (f := .glo "Twice") rfl)) (He.glo_ok c.kin G (c.says.fact 85 (f := .glo "BadPrice") rfl)) (He.glo_ok c.kin G (c.says.fact 87 (f := .glo "BadBasket") rfl)) (He.glo_ok c.kin G (c.says.fact 89 (f := .glo "TooMany") rfl)) (He.glo_ok c.kin G (c.says.fact 91 (f := .glo "BadOffer") rfl)) (He.glo_ok c.kin G (c.says.fact 93 (f := .glo "NoKind") rfl)) (He.glo_ok c.kin G (c.says.fact 95 (f := .glo "NoOffer") rfl))
  e_TillError := exf_of c.kin G (c.says.fact 77 (f := .glo "TillError") rfl) (c.says.fact 78 (f := .exc "TillError") rfl)
  e_BadKinds := exf_of c.kin G (c.says.fact 79 (f := .glo "BadKinds") rfl) (c.says.fact 80 (f := .exc "BadKinds") rfl)
  e_BadName := exf_of c.kin G (c.says.fact 81 (f := .glo "BadName") rfl) (c.says.fact 82 (f := .exc "BadName") rfl)
  e_Twice := exf_of c.kin G (c.says.fact 83 (f := .glo "Twice") rfl) (c.says.fact 84 (f := .exc "Twice") rfl)
  e_BadPrice := exf_of c.kin G (c.says.fact 85 (f := .glo "BadPrice") rfl) (c.says.fact 86 (f := .exc "BadPrice") rfl)
  e_BadBasket := exf_of c.kin G (c.says.fact 87 (f := .glo "BadBasket") rfl) (c.says.fact 88 (f := .exc "BadBasket") rfl)
  e_TooMany := exf_of c.kin G (c.says.fact 89 (f := .glo "TooMany") rfl) (c.says.fact 90 (f := .exc "TooMany") rfl)
  e_BadOffer := exf_of c.kin G (c.says.fact 91 (f := .glo "BadOffer") rfl) (c.says.fact 92 (f := .exc "BadOffer") rfl)
  e_NoKind := exf_of c.kin G (c.says.fact 93 (f := .glo "NoKind") rfl) (c.says.fact 94 (f := .exc "NoKind") rfl)
  e_NoOffer := exf_of c.kin G (c.says.fact 95 (f := .glo "NoOffer") rfl) (c.says.fact 96 (f := .exc "NoOffer") rfl)
  sh := ⟨He.cls_ok (c.says.fact 98 (f := .cls "Shop") rfl), He.noat_ok (c.says.fact 99 (f := .noat "Shop" "names") rfl), He.noat_ok (c.says.fact 100 (f := .noat "Shop" "prices") rfl), He.glo_ok c.kin G (c.says.fact 97 (f := .glo "Shop") rfl), He.mkr_ok (c.says.fact 101 (f := .mkr "Shop") rfl), He.meth_ok (c.says.fact 103 (f := .meth "Shop" "place") rfl),
    (fun_of (st := meth 18 0) (ps := ["self", "kinds"]) (c.says.def_ 29 (d := D___init__) rfl) (He.meth_ok (c.says.fact 102 (f := .meth "Shop" "__init__") rfl)).kp fun _ _ _ _ _ _ us hl => match us, hl with | [_, _], _ => rfl).1, (fun_of (st := meth 18 0) (ps := ["self", "kinds"]) (c.says.def_ 29 (d := D___init__) rfl) (He.meth_ok (c.says.fact 102 (f := .meth "Shop" "__init__") rfl)).kp fun _ _ _ _ _ _ us hl => match us, hl with | [_, _], _ => rfl).2,
    (fun_of (st := meth 18 1) (ps := ["self", "name"]) (c.says.def_ 30 (d := D_place) rfl) (He.meth_ok (c.says.fact 103 (f := .meth "Shop" "place") rfl)).kp fun _ _ _ _ _ _ us hl => match us, hl with | [_, _], _ => rfl).1, (fun_of (st := meth 18 1) (ps := ["self", "name"]) (c.says.def_ 30 (d := D_place) rfl) (He.meth_ok (c.says.fact 103 (f := .meth "Shop" "place") rfl)).kp fun _ _ _ _ _ _ us hl => match us, hl with | [_, _], _ => rfl).2⟩
def loose0 : List PySem.Str := ["TillError", "BadKinds", "BadName", "Twice", "BadPrice", "BadBasket", "TooMany", "BadOffer", "NoKind", "NoOffer", "LETTERS", "LONGEST", "MOST_KINDS", "MOST_PRICE", "is_number", "is_name", "Shop", "PARTS", "MOST_PIECES", "MOST_PAIRS", "need_form", "need", "is_wants", "names_in", "need_parts", "wanted", "deal_of", "deals", "_law_cell_at", "_law_number"]
def loose1 : List PySem.Str := ["_law_name_by", "_law_kinds", "_law_offer", "_law_offers", "_law_deal", "_law_deals", "_law_whole", "_law_listed", "_law_deal_is", "_law_changed", "_law_in", "_law_sound", "_law_names", "_law_due", "_law_one_class", "_law_told"]
def loose : List PySem.Str := loose0 ++ loose1
abbrev RR : PySem.W.OpenRow := PySem.W.OpenLaw.row PySem.Challenge.rw_tillbasket_k03_offers_and_deals
abbrev hk : PySem.W.Hook := hookPX 5 fa fn PARTS
def ob (s : PySem.W.SharedT) : AlPX := obsPX 5 fa fn (HandSHeadRun.getT s)
theorem ob_eq (s : PySem.W.SharedT) : ob s = hk.obs s.abs := obsPX_eq (HandSHeadRun.getT_eq s)
abbrev RunAt (w : World) : Prop := HandSHeadRun.RunEq RR (PySem.W.view RR.prog [50]) hk ob 12000 loose w
theorem run (w : World) : RunAt w := PySem.W.byRow2 "special-get-raises" (P := RunAt) (fun w => by intro os; kernel_rfl) (fun w => by intro os; kernel_rfl) w
end TB
open PySem PySem.W PySem.Calls PyProof.Rows
theorem PySem.Challenge.cw_tillbasket_k03_offers_and_deals_holds : PySem.Challenge.rw_tillbasket_k03_offers_and_deals.Holds := by
  w_on; o_law
  refine HandSHeadRun.head_any (r := OpenLaw.row PySem.Challenge.rw_tillbasket_k03_offers_and_deals) (q := view (OpenLaw.row PySem.Challenge.rw_tillbasket_k03_offers_and_deals).prog [50]) (H := TB.hk) (ob := TB.ob) (M := 12000) (loose := TB.loose) (d := HandSHeadRun.topDef (OpenLaw.row PySem.Challenge.rw_tillbasket_k03_offers_and_deals).prog 50) (kwd := []) TB.ob_eq
    (by kernel_rfl) (fun s => by kernel_rfl) TB.run (by kernel_rfl) (by kernel_rfl) (by kernel_rfl) (by rfl) (by first | assumption | decide +kernel) (by decide +kernel) ⟨rfl, rfl, rfl, rfl, rfl, by decide +kernel⟩ ?hw ?hc
  case hw => w_witness2
  case hc =>
    refine TB.law_endPX (l := PySem.Challenge.rw_tillbasket_k03_offers_and_deals) (n := 63) (k := 7) (x := "_law_script") (g := TB.f_law) rfl (by decide) (by kernel_rfl) (by kernel_rfl) ⟨rfl, by decide, by decide⟩ ?F TB.law_true
    intro w K mg h c G
    have T := TB.txt_of (w := w) G c
    exact ⟨T.d_law.g, fun s u => T.bl_law s u, fun base => TB.ok_law T⟩
