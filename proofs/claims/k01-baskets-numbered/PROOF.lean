import PyProof.Rows.All
import Wide.All
import OpenK.AllK
import Wide.FinOn
import HandS.ForExc
import HandS.Comp
import HandS.Iter
import HandS.Text
import HandS.Zip
import HandS.IsInst
import KE.GoesMore
import HandS.HeadHook1
import HandS.Head0
import HandS.Head1
import HandS.Head2
import HandS.HeadEnd
import PySem.Challenge.RW_tillbasket_k01_baskets_numbered
set_option Elab.async false
set_option linter.all false
set_option maxRecDepth 100000
set_option maxHeartbeats 4000000
/-! Values without a heap: what a pure body computes, its slots, its lists of its own. -/
namespace TB
open PySem PySem.Spec PyProof.Rows L2

inductive D where
  | non | bl (b : Bool) | int (i : Int) | str (x : Str)
  | lst (ds : List D) | tup (ds : List D)
  | shop (ns ps : List D)
  | scr (ns : List Int)

/-- an outcome: a value, a refusal by its class, or nothing known -/
inductive R (α : Type) where
  | ok (a : α) | exc (c : Str) | bad
namespace R
def bind {α β : Type} (x : R α) (f : α → R β) : R β := match x with
  | ok a => f a
  | exc c => exc c
  | bad => bad
def map {α β : Type} (f : α → β) (x : R α) : R β := match x with
  | ok a => ok (f a)
  | exc c => exc c
  | bad => bad
@[simp] theorem bind_ok {α β : Type} (a : α) (f : α → R β) : (ok a).bind f = f a := (rfl)
@[simp] theorem bind_exc {α β : Type} (c : Str) (f : α → R β) : (exc c : R α).bind f = exc c := (rfl)
@[simp] theorem bind_bad {α β : Type} (f : α → R β) : (bad : R α).bind f = bad := (rfl)
@[simp] theorem map_ok {α β : Type} (a : α) (f : α → β) : (ok a).map f = ok (f a) := (rfl)
@[simp] theorem map_exc {α β : Type} (c : Str) (f : α → β) : (exc c : R α).map f = exc c := (rfl)
@[simp] theorem map_bad {α β : Type} (f : α → β) : (bad : R α).map f = bad := (rfl)
end R

/-- all of H stands in H' -/
abbrev Sm (H H' : Hp) : Prop := ∀ b o, H b = some o → H' b = some o
theorem Sm.rfl {H : Hp} : Sm H H := fun _ _ e => e
theorem Sm.tr {H H' H'' : Hp} (a : Sm H H') (b : Sm H' H'') : Sm H H'' := fun x o e => b x o (a x o e)
theorem Sm.upd {H : Hp} {p : Addr} {o : HO} (n : H p = none) : Sm H (L2.upd H p o) := fun b x e => by
  rw [upd_ne (ne_of_none e n)]; exact e

mutual
/-- the value v stands for the datum d in the heap H; C is the class of shops -/
def Rep (C : Addr) (H : Hp) : D → V → Prop
  | .non, v => v = .non
  | .bl b, v => v = .bl b
  | .int i, v => v = .int i
  | .str x, v => v = .str x
  | .lst ds, v => ∃ a xs, v = .ref a ∧ H a = some (.lst xs) ∧ Reps C H ds xs
  | .tup ds, v => ∃ a xs, v = .ref a ∧ H a = some (.tup xs) ∧ Reps C H ds xs
  | .shop ns ps, v => ∃ a dx fs an ap xs ys, v = .ref a ∧ H a = some (.ins C dx fs) ∧ fs.lookup ("names" : Str) = some (.ref an) ∧ fs.lookup ("prices" : Str) = some (.ref ap) ∧ fs.lookup ("place" : Str) = none ∧
      H an = some (.lst xs) ∧ Reps C H ns xs ∧ H ap = some (.lst ys) ∧ Reps C H ps ys
  | .scr ns, v => ∃ a o, v = .ref a ∧ H a = some (.frz o (.lst (ns.map V.int)))
def Reps (C : Addr) (H : Hp) : List D → List V → Prop
  | [], vs => vs = []
  | d :: ds, vs => ∃ v r, vs = v :: r ∧ Rep C H d v ∧ Reps C H ds r
end
mutual
theorem Rep.mono {C : Addr} {H H' : Hp} (s : Sm H H') : ∀ (d : D) (v : V), Rep C H d v → Rep C H' d v
  | .non, v, h => h
  | .bl b, v, h => h
  | .int i, v, h => h
  | .str x, v, h => h
  | .lst ds, v, h => by
    simp only [Rep] at h ⊢
    obtain ⟨a, xs, e, q, r⟩ := h
    exact ⟨a, xs, e, s _ _ q, Reps.mono s ds xs r⟩
  | .tup ds, v, h => by
    simp only [Rep] at h ⊢
    obtain ⟨a, xs, e, q, r⟩ := h
    exact ⟨a, xs, e, s _ _ q, Reps.mono s ds xs r⟩
  | .shop ns ps, v, h => by
    simp only [Rep] at h ⊢
    obtain ⟨a, dx, fs, an, ap, xs, ys, e, q, f1, f2, f3, q1, r1, q2, r2⟩ := h
    exact ⟨a, dx, fs, an, ap, xs, ys, e, s _ _ q, f1, f2, f3, s _ _ q1, Reps.mono s ns xs r1, s _ _ q2, Reps.mono s ps ys r2⟩
  | .scr ns, v, h => by
    simp only [Rep] at h ⊢
    obtain ⟨a, o, e, q⟩ := h
    exact ⟨a, o, e, s _ _ q⟩
theorem Reps.mono {C : Addr} {H H' : Hp} (s : Sm H H') : ∀ (ds : List D) (vs : List V), Reps C H ds vs → Reps C H' ds vs
  | [], vs, h => h
  | d :: ds, vs, h => by
    simp only [Reps] at h ⊢
    obtain ⟨v, r, e, q, t⟩ := h
    exact ⟨v, r, e, Rep.mono s d v q, Reps.mono s ds r t⟩
end
theorem Reps.len {C : Addr} {H : Hp} : ∀ {ds : List D} {vs : List V}, Reps C H ds vs → vs.length = ds.length
  | [], _, h => by simp only [Reps] at h; subst h; rfl
  | d :: ds, _, h => by
    simp only [Reps] at h
    obtain ⟨v, r, e, _, t⟩ := h
    subst e
    simp [Reps.len t]
theorem Reps.get {C : Addr} {H : Hp} : ∀ {ds : List D} {vs : List V} {i : Nat} {d : D}, Reps C H ds vs → ds[i]? = some d → ∃ v, vs[i]? = some v ∧ Rep C H d v
  | [], _, _, _, _, e => by simp at e
  | x :: ds, _, 0, d, h, e => by
    simp only [Reps] at h
    obtain ⟨v, r, e1, q, t⟩ := h
    subst e1
    simp at e
    subst e
    exact ⟨v, rfl, q⟩
  | x :: ds, _, i + 1, d, h, e => by
    simp only [Reps] at h
    obtain ⟨v, r, e1, q, t⟩ := h
    subst e1
    obtain ⟨u, h1, h2⟩ := Reps.get (i := i) t (by simpa using e)
    exact ⟨u, by simpa using h1, h2⟩
theorem Reps.app {C : Addr} {H : Hp} : ∀ {ds es : List D} {vs us : List V}, Reps C H ds vs → Reps C H es us → Reps C H (ds ++ es) (vs ++ us)
  | [], _, _, _, h, k => by simp only [Reps] at h; subst h; exact k
  | x :: ds, _, _, _, h, k => by
    simp only [Reps] at h
    obtain ⟨v, r, e1, q, t⟩ := h
    subst e1
    simp only [List.cons_append, Reps]
    exact ⟨v, _, rfl, q, Reps.app t k⟩
theorem Reps.one {C : Addr} {H : Hp} {d : D} {v : V} (h : Rep C H d v) : Reps C H [d] [v] := by
  simp only [Reps]
  exact ⟨v, [], rfl, h, rfl⟩
theorem Reps.take {C : Addr} {H : Hp} : ∀ {ds : List D} {vs : List V} (n : Nat), Reps C H ds vs → Reps C H (ds.take n) (vs.take n)
  | _, _, 0, _ => by simp only [List.take_zero, Reps]
  | [], _, _ + 1, h => by simp only [Reps] at h; subst h; simp only [List.take_nil, Reps]
  | x :: ds, _, n + 1, h => by
    simp only [Reps] at h
    obtain ⟨v, r, e1, q, t⟩ := h
    subst e1
    simp only [List.take_succ_cons, Reps]
    exact ⟨v, _, rfl, q, Reps.take n t⟩
theorem Reps.drop {C : Addr} {H : Hp} : ∀ {ds : List D} {vs : List V} (n : Nat), Reps C H ds vs → Reps C H (ds.drop n) (vs.drop n)
  | _, _, 0, h => h
  | [], _, _ + 1, h => by simp only [Reps] at h; subst h; simp only [List.drop_nil, Reps]
  | x :: ds, _, n + 1, h => by
    simp only [Reps] at h
    obtain ⟨v, r, e1, q, t⟩ := h
    subst e1
    exact Reps.drop n t
theorem Reps.set {C : Addr} {H : Hp} {d : D} {u : V} (k : Rep C H d u) : ∀ {ds : List D} {vs : List V} (n : Nat), Reps C H ds vs → Reps C H (ds.set n d) (vs.set n u)
  | [], _, _, h => by simp only [Reps] at h; subst h; simp only [List.set_nil, Reps]
  | x :: ds, _, 0, h => by
    simp only [Reps] at h
    obtain ⟨v, r, e1, q, t⟩ := h
    subst e1
    simp only [List.set_cons_zero, Reps]
    exact ⟨u, r, rfl, k, t⟩
  | x :: ds, _, n + 1, h => by
    simp only [Reps] at h
    obtain ⟨v, r, e1, q, t⟩ := h
    subst e1
    simp only [List.set_cons_succ, Reps]
    exact ⟨v, _, rfl, q, Reps.set k n t⟩
theorem Reps.rev {C : Addr} {H : Hp} : ∀ {ds : List D} {vs : List V}, Reps C H ds vs → Reps C H ds.reverse vs.reverse
  | [], _, h => by simp only [Reps] at h; subst h; simp only [List.reverse_nil, Reps]
  | x :: ds, _, h => by
    simp only [Reps] at h
    obtain ⟨v, r, e1, q, t⟩ := h
    subst e1
    rw [List.reverse_cons, List.reverse_cons]
    exact Reps.app (Reps.rev t) (Reps.one q)
theorem Reps.ints {C : Addr} {H : Hp} : ∀ {ns : List Int} {vs : List V}, Reps C H (ns.map D.int) vs → vs = ns.map V.int
  | [], _, h => by simp only [List.map_nil, Reps] at h; exact h
  | n :: ns, _, h => by
    simp only [List.map_cons, Reps, Rep] at h
    obtain ⟨v, r, e1, q, t⟩ := h
    rw [e1, q, Reps.ints t]
    rfl

/-- the heap has grown from H to H', what is known of it from F to F' -/
structure Nx (F H F' H' : Hp) : Prop where
  ff : Sm F F'
  hh : Sm H H'
  fh : Sm F' H'
  new : ∀ a, F' a ≠ none → F a ≠ none ∨ H a = none
theorem Nx.rfl {F H : Hp} (s : Sm F H) : Nx F H F H := ⟨Sm.rfl, Sm.rfl, s, fun a h => .inl h⟩
theorem Nx.tr {F H F' H' F'' H'' : Hp} (a : Nx F H F' H') (b : Nx F' H' F'' H'') : Nx F H F'' H'' :=
  ⟨a.ff.tr b.ff, a.hh.tr b.hh, b.fh, fun x h => by
    rcases b.new x h with q | q
    · exact a.new x q
    · refine .inr ?_
      cases e : H x with
      | none => exact Eq.refl none
      | some o => rw [a.hh _ _ e] at q; cases q⟩
theorem Sm.two {F H : Hp} {p : Addr} {o : HO} (s : Sm F H) : Sm (L2.upd F p o) (L2.upd H p o) := fun b x e => by
  by_cases hb : b = p
  · subst hb
    rw [upd_same] at e ⊢
    exact e
  · rw [upd_ne hb] at e ⊢
    exact s _ _ e
theorem Sm.non {F H : Hp} {p : Addr} (s : Sm F H) (n : H p = none) : F p = none := by
  cases e : F p with
  | none => rfl
  | some o => rw [s _ _ e] at n; cases n
/-- a new object -/
theorem Nx.add {F H : Hp} {p : Addr} {o : HO} (s : Sm F H) (n : H p = none) : Nx F H (L2.upd F p o) (L2.upd H p o) :=
  ⟨Sm.upd (s.non n), Sm.upd n, s.two, fun a h => by
    by_cases ha : a = p
    · subst ha; exact .inr n
    · rw [upd_ne ha] at h; exact .inl h⟩
/-- a new object that is not to be known -/
theorem Nx.hid {F H : Hp} {p : Addr} {o : HO} (s : Sm F H) (n : H p = none) : Nx F H F (L2.upd H p o) :=
  ⟨Sm.rfl, Sm.upd n, s.tr (Sm.upd n), fun a h => .inl h⟩

/-- a slot: nothing known, a value that is not changed, a list of this body's own -/
inductive Sl where
  | no | sh (d : D) | own (ds : List D)
abbrev Ev := List Sl
/-- a list of one's own, looked at -/
def Sl.fz : Sl → Sl
  | .own ds => .sh (.lst ds)
  | s => s

/-- the slots that an expression may read -/
def SlOk (C : Addr) (F : Hp) (σ : L2.St) (ρ : Ev) : Prop := ρ.length = σ.length ∧ ∀ (i : Nat) (d : D), ρ[i]? = some (.sh d) → ∃ v, σ[i]? = some (some v) ∧ Rep C F d v
theorem SlOk.mono {C : Addr} {F F' : Hp} {σ : L2.St} {ρ : Ev} (h : SlOk C F σ ρ) (s : Sm F F') : SlOk C F' σ ρ := ⟨h.1, fun i d e =>
  let ⟨v, a, b⟩ := h.2 i d e
  ⟨v, a, b.mono s⟩⟩

/-- what is wanted of an exception -/
def Exc (mg : Str → Option Value) (W : WX) (c : Str) (σ : L2.St) (H : Hp) : Prop := ∀ a, mg c = some (.ref a) → ∀ H', Sm H H' → W (.ref a) none σ H'

section
variable (mg : Str → Option Value) (C : Addr) (W : WX)
/-- the reading of an expression that computes f -/
def tD (f : Ev → R D) : TE := fun σ H Q => ∃ F ρ, Sm F H ∧ SlOk C F σ ρ ∧ match f ρ with
  | .ok d => ∀ v H' F', Nx F H F' H' → Rep C F' d v → Q v H'
  | .exc c => Exc mg W c σ H
  | .bad => False
/-- a test -/
def tB (f : Ev → R Bool) : TT := fun σ H Q => ∃ F ρ, Sm F H ∧ SlOk C F σ ρ ∧ match f ρ with
  | .ok b => ∀ H', Sm H H' → Q b H'
  | .exc c => Exc mg W c σ H
  | .bad => False
/-- arguments -/
def tA (f : Ev → R (List D)) : TA := fun σ H Q => ∃ F ρ, Sm F H ∧ SlOk C F σ ρ ∧ match f ρ with
  | .ok ds => ∀ vs H' F', Nx F H F' H' → Reps C F' ds vs → Q vs H'
  | .exc c => Exc mg W c σ H
  | .bad => False
/-- an expression that makes a new list -/
def tL (f : Ev → R (List D)) : TE := fun σ H Q => ∃ F ρ, Sm F H ∧ SlOk C F σ ρ ∧ match f ρ with
  | .ok ds => ∀ p xs H' F', Nx F H F' H' → H p = none → F' p = none → H' p = some (.lst xs) → Reps C F' ds xs → Q (.ref p) H'
  | .exc c => Exc mg W c σ H
  | .bad => False
end
theorem Exc.mono {mg : Str → Option Value} {W : WX} {c : Str} {σ : L2.St} {H H' : Hp} (h : Exc mg W c σ H) (s : Sm H H') : Exc mg W c σ H' := fun a e H2 s2 => h a e H2 (s.tr s2)

section
variable {X : Cx} {mg : Str → Option Value} {C : Addr} {W : WX} {e a b : Expr} {t : TE} {pos : Pos}
theorem PE.to {t u : TE} (h : PE X e t) (k : ∀ σ H Q, u σ H Q → t σ H Q) : PE X e u := ⟨fun pins s σ H Q I q => h.run pins s σ H Q I (k σ H Q q)⟩
theorem PT.to {t u : TT} (h : PT X e t) (k : ∀ σ H Q, u σ H Q → t σ H Q) : PT X e u := ⟨fun pins s σ H Q I q => h.run pins s σ H Q I (k σ H Q q)⟩
theorem PW.to {t u : TT} (h : PW X e t) (k : ∀ σ H Q, u σ H Q → t σ H Q) : PW X e u := ⟨fun wh pins s σ H Q I q => h.run wh pins s σ H Q I (k σ H Q q)⟩
theorem PS.to {st : Stmt} {t u : TS} (h : PS X st t) (k : ∀ D σ H, u D σ H → t D σ H) : PS X st u := ⟨fun pins s σ H D I q => h.run pins s σ H D I (k D σ H q)⟩
theorem PSs.to {st : List Stmt} {t u : TS} (h : PSs X st t) (k : ∀ D σ H, u D σ H → t D σ H) : PSs X st u := ⟨fun pins s σ H D I q => h.run pins s σ H D I (k D σ H q)⟩
theorem PA.to {es : List Expr} {t u : TA} (h : PA X es t) (k : ∀ σ H Q, u σ H Q → t σ H Q) : PA X es u := ⟨fun pos pins s σ H Q I q => h.run pos pins s σ H Q I (k σ H Q q)⟩

/-! ### what expressions compute -/
namespace E
def var (i : Nat) : Ev → R D := fun ρ => match ρ[i]? with
  | some (.sh d) => .ok d
  | _ => .bad
def c (d : D) : Ev → R D := fun _ => .ok d
def bin (g : D → D → R D) (f h : Ev → R D) : Ev → R D := fun ρ => (f ρ).bind fun x => (h ρ).bind fun y => g x y
def un (g : D → R D) (f : Ev → R D) : Ev → R D := fun ρ => (f ρ).bind g
def nil : Ev → R (List D) := fun _ => .ok []
def cons (f : Ev → R D) (h : Ev → R (List D)) : Ev → R (List D) := fun ρ => (f ρ).bind fun x => (h ρ).bind fun xs => .ok (x :: xs)
def app (g : List D → R D) (f : Ev → R (List D)) : Ev → R D := fun ρ => (f ρ).bind g
end E

theorem d_var {i : Nat} (h : PE X e (tVar i)) : PE X e (tD mg C W (E.var i)) := PE.to h fun σ H Q q => by
  obtain ⟨F, ρ, s, ok, q⟩ := q
  unfold E.var at q
  split at q
  · rename_i d hd
    split at hd
    · rename_i d' h'
      cases hd
      obtain ⟨v, e1, r⟩ := ok.2 i _ h'
      exact ⟨v, e1, q v H F (.rfl s) r⟩
    · cases hd
  · rename_i c hd
    split at hd <;> cases hd
  · exact q.elim
theorem d_c {d : D} {v : V} (h : PE X e (tC v)) (r : ∀ F, Rep C F d v) : PE X e (tD mg C W (E.c d)) := PE.to h fun σ H Q q => by
  obtain ⟨F, ρ, s, ok, q⟩ := q
  exact q v H F (.rfl s) (r F)
theorem d_int {i j} : PE X (.Constant (.int i) j pos) (tD mg C W (E.c (.int i))) := d_c pe_int fun _ => rfl
theorem d_bl {b j} : PE X (.Constant (.bool b) j pos) (tD mg C W (E.c (.bl b))) := d_c pe_bl fun _ => rfl
theorem d_non {j} : PE X (.Constant .none j pos) (tD mg C W (E.c .non)) := d_c pe_non fun _ => rfl
theorem d_str {x j} : PE X (.Constant (.str x) j pos) (tD mg C W (E.c (.str x))) := d_c pe_str fun _ => rfl

/-- a rule by values computes g -/
def Op2 (C : Addr) (g : D → D → R D) (r : R2) : Prop := ∀ (x y : D) (F H : Hp) (v u : V) (Q : VK), Sm F H → Rep C F x v → Rep C F y u →
  match g x y with
  | .ok d => (∀ w H' F', Nx F H F' H' → Rep C F' d w → Q w H') → r v u H Q
  | _ => True
/-- .. never raising -/
def Calm2 (g : D → D → R D) : Prop := ∀ x y c, g x y ≠ .exc c

theorem seq2 {f h : Ev → R D} {g : D → D → R D} {r : R2} (hr : Op2 C g r) (hc : Calm2 g) {σ : L2.St} {H : Hp} {Q : VK} (q : tD mg C W (E.bin g f h) σ H Q) :
    tD mg C W f σ H fun x H1 => tD mg C W h σ H1 fun y H2 => r x y H2 Q := by
  obtain ⟨F, ρ, s, ok, q⟩ := q
  refine ⟨F, ρ, s, ok, ?_⟩
  unfold E.bin at q
  cases e1 : f ρ with
  | bad => rw [e1] at q; exact q
  | exc c => rw [e1] at q; exact q
  | ok x =>
    rw [e1] at q
    intro v H1 F1 n1 r1
    refine ⟨F1, ρ, n1.fh, ok.mono n1.ff, ?_⟩
    cases e2 : h ρ with
    | bad => rw [R.bind_ok, e2] at q; exact q
    | exc c => rw [R.bind_ok, e2] at q; exact Exc.mono q n1.hh
    | ok y =>
      rw [R.bind_ok, e2, R.bind_ok] at q
      intro u H2 F2 n2 r2
      have k := hr x y F2 H2 v u Q n2.fh (r1.mono n2.ff) r2
      cases e3 : g x y with
      | bad => rw [e3] at q; exact q.elim
      | exc c => exact (hc _ _ _ e3).elim
      | ok d =>
        rw [e3] at q k
        exact k fun w H' F' n3 r3 => q w H' F' ((n1.tr n2).tr n3) r3
theorem d_op {op : Operator} {f h : Ev → R D} {g : D → D → R D} {r : R2} (ho : OpR X (binaryOp op) r) (hr : Op2 C g r) (hc : Calm2 g) (ha : PE X a (tD mg C W f)) (hb : PE X b (tD mg C W h)) :
    PE X (.BinOp a op b pos) (tD mg C W (E.bin g f h)) := PE.to (pe_op ho ha hb) fun σ H Q q => seq2 hr hc q
end
end TB
namespace TB
open PySem PySem.Spec PyProof.Rows L2

/-- how long a list or text may get here -/
abbrev LINE : Nat := 1000000
theorem line_ok {n : Nat} (h : n ≤ LINE) : n ≤ sizeLine := by rw [sizeLine_eq]; exact Nat.le_trans h (by decide)
theorem line_lt {n : Nat} (h : n < LINE) : n < sizeLine := by rw [sizeLine_eq]; exact Nat.lt_of_lt_of_le h (by decide)

/-! ### as plain data -/
mutual
def D.py : D → PyData
  | .non => .none
  | .bl b => .bool b
  | .int i => .int i
  | .str x => .str x
  | .lst ds => .list (D.pys ds)
  | .tup ds => .tuple (D.pys ds)
  | .shop _ _ => .none
  | .scr _ => .none
def D.pys : List D → List PyData
  | [] => []
  | d :: ds => D.py d :: D.pys ds
end
mutual
/-- plain data, no deeper than n -/
def wide : Nat → D → Bool
  | _, .non => true
  | _, .bl _ => true
  | _, .int _ => true
  | _, .str x => PyData.strOk x
  | n, .lst ds => wides n ds
  | n, .tup ds => wides n ds
  | _, .shop _ _ => false
  | _, .scr _ => false
def wides : Nat → List D → Bool
  | _, [] => true
  | 0, _ :: _ => false
  | n + 1, d :: ds => wide n d && wides (n + 1) ds
end
theorem wides_iff (n : Nat) : ∀ ds : List D, wides (n + 1) ds = ds.all (wide n)
  | [] => by simp [wides]
  | d :: ds => by simp [wides, wides_iff n ds]
theorem wides0 : ∀ ds : List D, wides 0 ds = ds.isEmpty
  | [] => by simp [wides]
  | _ :: _ => by simp [wides]
mutual
theorem wide_lay : ∀ (n : Nat) (d : D), wide n d = true → PyData.canLay0 d.py = true ∧ PyData.depth d.py ≤ n + 1
  | n, .non, _ => by simp [D.py, PyData.canLay0, PyData.depth]
  | n, .bl b, _ => by simp [D.py, PyData.canLay0, PyData.depth]
  | n, .int i, _ => by simp [D.py, PyData.canLay0, PyData.depth]
  | n, .str x, h => by
    simp only [wide] at h
    simp [D.py, PyData.canLay0, PyData.depth, h]
  | n, .lst ds, h => by
    simp only [wide] at h
    have q := wides_lay n ds h
    simp only [D.py, PyData.canLay0, PyData.depth]
    exact ⟨q.1, by omega⟩
  | n, .tup ds, h => by
    simp only [wide] at h
    have q := wides_lay n ds h
    simp only [D.py, PyData.canLay0, PyData.depth]
    exact ⟨q.1, by omega⟩
theorem wides_lay : ∀ (n : Nat) (ds : List D), wides n ds = true → PyData.canLayAll0 (D.pys ds) = true ∧ PyData.depthAll (D.pys ds) ≤ n
  | n, [], _ => by simp [D.pys, PyData.canLayAll0, PyData.depthAll]
  | 0, _ :: _, h => by simp [wides] at h
  | n + 1, d :: ds, h => by
    simp only [wides, Bool.and_eq_true] at h
    have q1 := wide_lay n d h.1
    have q2 := wides_lay (n + 1) ds h.2
    simp only [D.pys, PyData.canLayAll0, PyData.depthAll, Bool.and_eq_true]
    exact ⟨⟨q1.1, q2.1⟩, by omega⟩
end
theorem wide_shaped {d : D} (h : wide 9 d = true) : SeqAt.shaped d.py = true := by
  have q := wide_lay 9 d h
  unfold SeqAt.shaped
  rw [q.1, decide_eq_true (show PyData.depth d.py ≤ 64 by omega)]
  rfl
mutual
theorem Rep.dp {K : PySem.W.Frag} {C : Addr} {H : Hp} : ∀ (n : Nat) (d : D) (v : V), wide n d = true → Rep C H d v → Dp K H v d.py
  | _, .non, v, _, h => by simp only [Rep] at h; subst h; exact .non
  | _, .bl b, v, _, h => by simp only [Rep] at h; subst h; exact .bl b
  | _, .int i, v, _, h => by simp only [Rep] at h; subst h; exact .int i
  | _, .str x, v, _, h => by simp only [Rep] at h; subst h; exact .str x
  | n, .lst ds, v, w, h => by
    simp only [Rep] at h
    simp only [wide] at w
    obtain ⟨a, xs, e, q, r⟩ := h
    subst e
    exact .lst (SqL.of q) (Reps.dp n ds xs w r)
  | n, .tup ds, v, w, h => by
    simp only [Rep] at h
    simp only [wide] at w
    obtain ⟨a, xs, e, q, r⟩ := h
    subst e
    exact .tup (SqT.of q) (Reps.dp n ds xs w r)
  | _, .shop _ _, v, w, h => by simp [wide] at w
  | _, .scr _, v, w, h => by simp [wide] at w
theorem Reps.dp {K : PySem.W.Frag} {C : Addr} {H : Hp} : ∀ (n : Nat) (ds : List D) (vs : List V), wides n ds = true → Reps C H ds vs → DpAll K H vs (D.pys ds)
  | _, [], vs, _, h => by simp only [Reps] at h; subst h; exact .nil
  | 0, _ :: _, vs, w, h => by simp [wides] at w
  | n + 1, d :: ds, vs, w, h => by
    simp only [Reps] at h
    simp only [wides, Bool.and_eq_true] at w
    obtain ⟨v, r, e, q, t⟩ := h
    subst e
    exact .cons (Rep.dp n d v w.1 q) (Reps.dp (n + 1) ds r w.2 t)
end

/-- a value that needs no heap -/
def flat : D → Bool
  | .non => true
  | .bl _ => true
  | .int _ => true
  | .str _ => true
  | _ => false
/-- the value itself -/
def toV : D → V
  | .non => .non
  | .bl b => .bl b
  | .int i => .int i
  | .str x => .str x
  | _ => .non
theorem flat_eq {C : Addr} {H : Hp} {d : D} {v : V} (f : flat d = true) (r : Rep C H d v) : v = toV d := by
  cases d <;> simp_all [flat, Rep, toV]
theorem flat_rep {C : Addr} {H : Hp} {d : D} (f : flat d = true) : Rep C H d (toV d) := by
  cases d <;> simp_all [flat, Rep, toV]
theorem flat_go {C : Addr} {H H' : Hp} {d : D} {v : V} (f : flat d = true) (r : Rep C H d v) : Rep C H' d v := by
  rw [flat_eq f r]; exact flat_rep f
theorem flats_go {C : Addr} {H H' : Hp} : ∀ {ds : List D} {vs : List V}, ds.all flat = true → Reps C H ds vs → Reps C H' ds vs
  | [], _, _, r => by simp only [Reps] at r ⊢; exact r
  | d :: ds, _, f, r => by
    simp only [Reps] at r ⊢
    simp only [List.all_cons, Bool.and_eq_true] at f
    obtain ⟨v, s, e, q, t⟩ := r
    exact ⟨v, s, e, flat_go f.1 q, flats_go f.2 t⟩
theorem flats_eq {C : Addr} {H : Hp} : ∀ {ds : List D} {vs : List V}, ds.all flat = true → Reps C H ds vs → vs = ds.map toV
  | [], _, _, r => by simp only [Reps] at r; subst r; rfl
  | d :: ds, _, f, r => by
    simp only [Reps] at r
    simp only [List.all_cons, Bool.and_eq_true] at f
    obtain ⟨v, s, e, q, t⟩ := r
    rw [e, flat_eq f.1 q, flats_eq f.2 t]
    rfl
theorem flat_V {d : D} (f : flat d = true) : flatV (toV d) = true := by cases d <;> simp_all [flat, flatV, toV]
theorem flats_V : ∀ {ds : List D}, ds.all flat = true → (ds.map toV).all flatV = true
  | [], _ => rfl
  | d :: ds, f => by
    simp only [List.all_cons, Bool.and_eq_true, List.map_cons] at f ⊢
    exact ⟨flat_V f.1, flats_V f.2⟩
/-- == of flat values -/
def eqF : D → D → Bool
  | .non, .non => true
  | .bl a, .bl b => a == b
  | .bl a, .int b => (if a then 1 else 0) == b
  | .int a, .bl b => a == (if b then 1 else 0)
  | .int a, .int b => a == b
  | .str a, .str b => a == b
  | _, _ => false
theorem eqF_V {x y : D} (hx : flat x = true) (hy : flat y = true) : eqV (toV x) (toV y) = eqF x y := by
  cases x <;> cases y <;> simp_all [flat, eqF, eqV, toV]
theorem inF_V {x : D} (hx : flat x = true) : ∀ {ds : List D}, ds.all flat = true → inV (toV x) (ds.map toV) = ds.any fun y => eqF y x
  | [], _ => rfl
  | d :: ds, f => by
    simp only [List.all_cons, Bool.and_eq_true] at f
    have e := inF_V hx f.2
    unfold inV at e ⊢
    rw [List.map_cons, List.any_cons, List.any_cons, e, eqF_V f.1 hx]

/-! ### operators -/
def dAdd : D → D → R D
  | .int i, .int j => .ok (.int (i + j))
  | .str x, .str y => if x.length + y.length ≤ LINE then .ok (.str (x ++ y)) else .bad
  | .lst xs, .lst ys => if xs.length + ys.length ≤ LINE then .ok (.lst (xs ++ ys)) else .bad
  | .tup xs, .tup ys => if xs.length + ys.length ≤ LINE ∧ xs ≠ [] then .ok (.tup (xs ++ ys)) else .bad
  | _, _ => .bad
def rAddD (K : PySem.W.Frag) : R2 := fun x y H Q => rI0 (fun i j => .int (i + j)) x y H Q ∨ (∃ i j, x = .str i ∧ y = .str j ∧ i.length + j.length ≤ sizeLine ∧ Q (.str (i ++ j)) H) ∨ rCat x y H Q ∨ rCatT K x y H Q
theorem op_addD {X : Cx} : OpR X (binaryOp .Add) (rAddD X.K) := op_add.or (op_add_str.or (op_cat.or op_catT))
theorem add_calm : Calm2 dAdd := fun x y c => by
  cases x <;> cases y <;> simp only [dAdd] <;> (try split) <;> exact fun e => nomatch e
theorem add_D {C : Addr} {K : PySem.W.Frag} : Op2 C dAdd (rAddD K) := by
  intro x y F H v u Q s rv ru
  cases x <;> cases y <;> simp only [dAdd] <;> try trivial
  · rename_i i j
    intro q
    simp only [Rep] at rv ru
    exact .inl ⟨i, j, rv, ru, q _ H F (.rfl s) (by simp only [Rep])⟩
  · rename_i i j
    split
    · rename_i hl
      split at hl
      · rename_i hz
        cases hl
        intro q
        simp only [Rep] at rv ru
        exact .inr (.inl ⟨i, j, rv, ru, line_ok hz, q _ H F (.rfl s) (by simp only [Rep])⟩)
      · cases hl
    · trivial
  · rename_i xs ys
    split
    · rename_i hl
      split at hl
      · rename_i hz
        cases hl
        intro q
        simp only [Rep] at rv ru
        obtain ⟨a, us, e1, h1, r1⟩ := rv
        obtain ⟨b, ws, e2, h2, r2⟩ := ru
        refine .inr (.inr (.inl ⟨a, b, us, ws, e1, e2, s _ _ h1, s _ _ h2, by rw [r1.len, r2.len]; exact line_ok hz, fun p np => ?_⟩))
        refine q _ _ (upd F p (.lst (us ++ ws))) (.add s np) ?_
        simp only [Rep]
        exact ⟨p, _, rfl, upd_same, Reps.mono (Sm.upd (s.non np)) _ _ (r1.app r2)⟩
      · cases hl
    · trivial
  · rename_i xs ys
    split
    · rename_i hl
      split at hl
      · rename_i hz
        cases hl
        intro q
        simp only [Rep] at rv ru
        obtain ⟨a, us, e1, h1, r1⟩ := rv
        obtain ⟨b, ws, e2, h2, r2⟩ := ru
        have l1 := r1.len
        have l2 := r2.len
        refine .inr (.inr (.inr ⟨a, b, us, ws, e1, e2, SqT.of (s _ _ h1), SqT.of (s _ _ h2), fun z => ?_, by rw [l1, l2]; exact line_ok hz.1, fun z => ?_, fun z p np => ?_⟩))
        · subst z
          exact hz.2 (List.length_eq_zero_iff.mp l1.symm)
        · subst z
          have e3 : ys = [] := List.length_eq_zero_iff.mp l2.symm
          subst e3
          rw [List.append_nil] at q
          refine q _ H F (.rfl s) ?_
          simp only [Rep]
          exact ⟨a, us, e1.symm ▸ rfl, h1, r1⟩
        · refine q _ _ (upd F p (.tup (us ++ ws))) (.add s np) ?_
          simp only [Rep]
          exact ⟨p, _, rfl, upd_same, Reps.mono (Sm.upd (s.non np)) _ _ (r1.app r2)⟩
      · cases hl
    · trivial

/-- ints to an int, under a test -/
def dI (c : Int → Int → Bool) (g : Int → Int → Int) : D → D → R D
  | .int i, .int j => if c i j then .ok (.int (g i j)) else .bad
  | _, _ => .bad
theorem dI_calm {c : Int → Int → Bool} {g : Int → Int → Int} : Calm2 (dI c g) := fun x y z => by
  cases x <;> cases y <;> simp only [dI] <;> (try split) <;> exact fun e => nomatch e
theorem dI_D {C : Addr} {c : Int → Int → Bool} {P : Int → Int → Prop} {g : Int → Int → Int} (hP : ∀ i j, c i j = true → P i j) : Op2 C (dI c g) (rI P fun i j => .int (g i j)) := by
  intro x y F H v u Q s rv ru
  cases x <;> cases y <;> simp only [dI] <;> try trivial
  rename_i i j
  split
  · rename_i hl
    split at hl
    · rename_i hz
      cases hl
      intro q
      simp only [Rep] at rv ru
      exact ⟨i, j, rv, ru, hP _ _ hz, q _ H F (.rfl s) (by simp only [Rep])⟩
    · cases hl
  · trivial
def cDiv (i j : Int) : Bool := decide (0 < j ∧ j < 1073741824)
def cMod (i j : Int) : Bool := decide (0 < j)
def cMul (i j : Int) : Bool := decide ((-(2 ^ 64) < i ∧ i < 2 ^ 64) ∨ (-(2 ^ 64) < j ∧ j < 2 ^ 64))
def cPow (i j : Int) : Bool := decide (0 ≤ j ∧ j ≤ 1000000 ∧ i.natAbs < 2 ^ 64)
def dSub : D → D → R D := dI (fun _ _ => true) fun i j => i - j
def dMul : D → D → R D := dI cMul fun i j => i * j
def dDiv : D → D → R D := dI cDiv fun i j => i / j
def dMod : D → D → R D := dI cMod fun i j => i % j
def dPow : D → D → R D := dI cPow fun i j => i ^ j.toNat
theorem op_subD {X : Cx} : OpR X (binaryOp .Sub) (rI (fun _ _ => True) fun i j => .int (i - j)) := opI fun _ _ _ _ _ _ _ _ q => sub_int q

/-- ints to a truth -/
def dC (g : Int → Int → Bool) : D → D → R D
  | .int i, .int j => .ok (.bl (g i j))
  | _, _ => .bad
theorem dC_calm {g : Int → Int → Bool} : Calm2 (dC g) := fun x y z => by
  cases x <;> cases y <;> simp only [dC] <;> exact fun e => nomatch e
theorem dC_D {C : Addr} {g : Int → Int → Bool} : Op2 C (dC g) (rI0 fun i j => .bl (g i j)) := by
  intro x y F H v u Q s rv ru
  cases x <;> cases y <;> simp only [dC] <;> try trivial
  rename_i i j
  intro q
  simp only [Rep] at rv ru
  exact ⟨i, j, rv, ru, q _ H F (.rfl s) (by simp only [Rep])⟩
def dLt : D → D → R D := dC fun i j => decide (i < j)
def dLe : D → D → R D := dC fun i j => decide (i ≤ j)
def dGt : D → D → R D := dC fun i j => decide (j < i)
def dGe : D → D → R D := dC fun i j => decide (j ≤ i)

/-! ### == and != -/
/-- scalars that are told apart by kind and worth -/
def scalD : D → D → Bool
  | .non, .non => true | .non, .int _ => true | .int _, .non => true | .non, .bl _ => true | .bl _, .non => true | .non, .str _ => true | .str _, .non => true
  | .int _, .int _ => true | .bl _, .bl _ => true | .str _, .str _ => true
  | .int _, .str _ => true | .str _, .int _ => true | .bl _, .str _ => true | .str _, .bl _ => true
  | _, _ => false
def dEq (x y : D) : R D := if scalD x y then .ok (.bl (eqF x y)) else if wide 9 x && wide 9 y then .ok (.bl (PyData.eqv x.py y.py)) else .bad
def dNe (x y : D) : R D := if scalD x y then .ok (.bl (!eqF x y)) else if wide 9 x && wide 9 y then .ok (.bl (!PyData.eqv x.py y.py)) else .bad
theorem eq_calm : Calm2 dEq := fun x y z => by unfold dEq; split <;> (try split) <;> exact fun e => nomatch e
theorem ne_calm : Calm2 dNe := fun x y z => by unfold dNe; split <;> (try split) <;> exact fun e => nomatch e
theorem scal_V {x y : D} (h : scalD x y = true) : flat x = true ∧ flat y = true ∧ scal (toV x) (toV y) = true ∧ decide (toV x = toV y) = eqF x y := by
  cases x <;> cases y <;> simp_all [scalD, flat, scal, toV, eqF] <;> first | rfl | exact (Bool.beq_eq_decide_eq _ _).symm
def rEqB (K : PySem.W.Frag) : R2 := fun x y H Q => rEq x y H Q ∨ rEqD K x y H Q
def rNeB (K : PySem.W.Frag) : R2 := fun x y H Q => rNe x y H Q ∨ rNeD K x y H Q
theorem op_eqB {X : Cx} (hu : X.A.units + 64 < cLine) : OpR X (compareOp .Eq) (rEqB X.K) := op_eq.or (op_eqD hu)
theorem op_neB {X : Cx} (hu : X.A.units + 64 < cLine) : OpR X (compareOp .NotEq) (rNeB X.K) := op_ne.or (op_neD hu)
theorem eq_D {C : Addr} {K : PySem.W.Frag} : Op2 C dEq (rEqB K) := by
  intro x y F H v u Q s rv ru
  unfold dEq
  split
  · rename_i hl
    split at hl
    · rename_i h
      cases hl
      intro q
      obtain ⟨fx, fy, sc, e⟩ := scal_V h
      have e1 := flat_eq fx rv
      have e2 := flat_eq fy ru
      subst e1 e2
      refine .inl ⟨sc, ?_⟩
      rw [e]
      exact q _ H F (.rfl s) (by simp only [Rep])
    · split at hl
      · rename_i h
        cases hl
        intro q
        rw [Bool.and_eq_true] at h
        exact .inr ⟨_, _, Rep.dp 9 x v h.1 (rv.mono s), Rep.dp 9 y u h.2 (ru.mono s), wide_shaped h.1, wide_shaped h.2, q _ H F (.rfl s) (by simp only [Rep])⟩
      · cases hl
  · trivial
theorem ne_D {C : Addr} {K : PySem.W.Frag} : Op2 C dNe (rNeB K) := by
  intro x y F H v u Q s rv ru
  unfold dNe
  split
  · rename_i hl
    split at hl
    · rename_i h
      cases hl
      intro q
      obtain ⟨fx, fy, sc, e⟩ := scal_V h
      have e1 := flat_eq fx rv
      have e2 := flat_eq fy ru
      subst e1 e2
      refine .inl ⟨sc, ?_⟩
      rw [e]
      exact q _ H F (.rfl s) (by simp only [Rep])
    · split at hl
      · rename_i h
        cases hl
        intro q
        rw [Bool.and_eq_true] at h
        exact .inr ⟨_, _, Rep.dp 9 x v h.1 (rv.mono s), Rep.dp 9 y u h.2 (ru.mono s), wide_shaped h.1, wide_shaped h.2, q _ H F (.rfl s) (by simp only [Rep])⟩
      · cases hl
  · trivial
/-! ### in -/
/-- the one sign of a text -/
def sign1 (x : Str) : Option Nat := match x.cps.toList with
  | [c] => some c
  | _ => none
theorem sign1_eq {x : Str} {c : Nat} (h : sign1 x = some c) : x = ⟨#[c]⟩ := by
  unfold sign1 at h
  split at h
  · rename_i d e
    cases h
    obtain ⟨a⟩ := x
    congr
    exact Array.toList_inj.mp e
  · cases h
def dIn (neg : Bool) : D → D → R D
  | x, .lst ds => if flat x && ds.all flat then .ok (.bl (neg ^^ ds.any fun y => eqF y x)) else .bad
  | x, .tup ds => if flat x && ds.all flat then .ok (.bl (neg ^^ ds.any fun y => eqF y x)) else .bad
  | .str x, .str z => match sign1 x with
    | some c => .ok (.bl (neg ^^ decide (c ∈ z.cps.toList)))
    | none => .bad
  | _, _ => .bad
theorem in_calm {n : Bool} : Calm2 (dIn n) := fun x y c => by
  cases y <;> (try cases x) <;> simp only [dIn] <;> (try split) <;> exact fun e => nomatch e
def rInB (K : PySem.W.Frag) (neg : Bool) : R2 := fun x y H Q => rIn K neg x y H Q ∨ (∃ (c : Nat) (z : Str), x = .str ⟨#[c]⟩ ∧ y = .str z ∧ Q (.bl (neg ^^ decide (c ∈ z.cps.toList))) H)
theorem op_inB {X : Cx} : OpR X (compareOp .In) (rInB X.K false) := op_in_seq.or (by simpa using op_in_sign)
theorem op_notInB {X : Cx} : OpR X (compareOp .NotIn) (rInB X.K true) := op_notIn_seq.or (by simpa using op_notIn_sign)
theorem in_seqD {C : Addr} {K : PySem.W.Frag} {n : Bool} {x : D} {ds : List D} {F H : Hp} {v u : V} {Q : VK} {a : Addr} {xs : List V} (s : Sm F H) (rv : Rep C F x v) (e : u = .ref a) (hq : SqL K H a xs ∨ SqT K H a xs) (r : Reps C F ds xs)
    (h : (flat x && ds.all flat) = true) (q : ∀ w H' F', Nx F H F' H' → Rep C F' (.bl (n ^^ ds.any fun y => eqF y x)) w → Q w H') : rInB K n v u H Q := by
  rw [Bool.and_eq_true] at h
  have e1 := flat_eq h.1 rv
  have e2 := flats_eq h.2 r
  subst e1 e2
  refine .inl ⟨a, _, e, hq, flat_V h.1, flats_V h.2, ?_⟩
  rw [inF_V h.1 h.2]
  have := q (.bl (n ^^ ds.any fun y => eqF y x)) H F (.rfl s) (by simp only [Rep])
  cases n <;> simpa using this
theorem in_D {C : Addr} {K : PySem.W.Frag} {n : Bool} : Op2 C (dIn n) (rInB K n) := by
  intro x y F H v u Q s rv ru
  cases y with
  | lst ds =>
    simp only [dIn]
    split
    · rename_i hl
      split at hl
      · rename_i h
        cases hl
        intro q
        simp only [Rep] at ru
        obtain ⟨a, xs, e, h1, r⟩ := ru
        exact in_seqD s rv e (.inl (SqL.of (s _ _ h1))) r h q
      · cases hl
    · trivial
  | tup ds =>
    simp only [dIn]
    split
    · rename_i hl
      split at hl
      · rename_i h
        cases hl
        intro q
        simp only [Rep] at ru
        obtain ⟨a, xs, e, h1, r⟩ := ru
        exact in_seqD s rv e (.inr (SqT.of (s _ _ h1))) r h q
      · cases hl
    · trivial
  | str z =>
    cases x <;> simp only [dIn] <;> try trivial
    rename_i x
    split
    · rename_i hl
      split at hl
      · rename_i c h
        cases hl
        intro q
        simp only [Rep] at rv ru
        rw [sign1_eq h] at rv
        exact .inr ⟨c, z, rv, ru, q _ H F (.rfl s) (by simp only [Rep])⟩
      · cases hl
    · trivial
  | _ => cases x <;> simp only [dIn] <;> trivial

/-! ### items -/
def dIx : D → D → R D
  | .lst ds, .int i => match atI ds i with
    | some d => .ok d
    | none => .bad
  | .tup ds, .int i => match atI ds i with
    | some d => .ok d
    | none => .bad
  | .str z, .int i => if z.length ≤ LINE then match atI z.cps.toList i with
    | some c => .ok (.str ⟨#[c]⟩)
    | none => .bad
    else .bad
  | .scr ns, .int i => match atI ns i with
    | some n => .ok (.int n)
    | none => .bad
  | _, _ => .bad
theorem ix_calm : Calm2 dIx := fun x y c => by
  cases x <;> cases y <;> simp only [dIx] <;> (try split) <;> (try split) <;> exact fun e => nomatch e
theorem Reps.at {C : Addr} {F : Hp} {ds : List D} {vs : List V} {i : Int} {d : D} (r : Reps C F ds vs) (h : atI ds i = some d) : ∃ v, atI vs i = some v ∧ Rep C F d v := by
  unfold atI at h ⊢
  rw [r.len]
  cases e : ixN ds.length i with
  | none => rw [e] at h; cases h
  | some j =>
    rw [e] at h
    exact r.get h
theorem ix_D {C : Addr} {K : PySem.W.Frag} : Op2 C dIx (rIx K) := by
  intro x y F H v u Q s rv ru
  cases x <;> cases y <;> simp only [dIx] <;> try trivial
  · rename_i z i
    split
    · rename_i hl
      split at hl
      · rename_i hz
        split at hl
        · rename_i c h
          cases hl
          intro q
          simp only [Rep] at rv ru
          exact .inr (.inr ⟨z, i, c, rv, ru, line_ok hz, h, q _ H F (.rfl s) (by simp only [Rep])⟩)
        · cases hl
      · cases hl
    · trivial
  · rename_i ds i
    split
    · rename_i hl
      split at hl
      · rename_i d h
        cases hl
        intro q
        simp only [Rep] at rv ru
        obtain ⟨a, xs, e, h1, r⟩ := rv
        obtain ⟨w, h2, r2⟩ := r.at h
        exact .inl ⟨a, xs, i, w, e, ru, SqL.of (s _ _ h1), h2, q _ H F (.rfl s) r2⟩
      · cases hl
    · trivial
  · rename_i ds i
    split
    · rename_i hl
      split at hl
      · rename_i d h
        cases hl
        intro q
        simp only [Rep] at rv ru
        obtain ⟨a, xs, e, h1, r⟩ := rv
        obtain ⟨w, h2, r2⟩ := r.at h
        exact .inr (.inl ⟨a, xs, i, w, e, ru, SqT.of (s _ _ h1), h2, q _ H F (.rfl s) r2⟩)
      · cases hl
    · trivial
  · rename_i ns i
    split
    · rename_i hl
      split at hl
      · rename_i n h
        cases hl
        intro q
        simp only [Rep] at rv ru
        obtain ⟨a, o, e, h1⟩ := rv
        have h2 : atI (ns.map V.int) i = some (.int n) := by
          unfold atI at h ⊢
          rw [List.length_map]
          cases e : ixN ns.length i with
          | none => rw [e] at h; cases h
          | some j =>
            rw [e] at h
            have h' : ns[j]? = some n := h
            show (ns.map V.int)[j]? = some (.int n)
            rw [List.getElem?_map, h']
            rfl
        exact .inl ⟨a, _, i, _, e, ru, .inl (.inr ⟨o, s _ _ h1⟩), h2, q _ H F (.rfl s) (by simp only [Rep])⟩
      · cases hl
    · trivial
end TB
namespace TB
open PySem PySem.Spec PyProof.Rows L2

namespace E
/-- a truth out of a value -/
def tst (f : Ev → R D) : Ev → R Bool := fun ρ => (f ρ).bind fun d => match d with
  | .bl b => .ok b
  | _ => .bad
def band (f h : Ev → R Bool) : Ev → R Bool := fun ρ => (f ρ).bind fun b => if b then h ρ else .ok false
def bor (f h : Ev → R Bool) : Ev → R Bool := fun ρ => (f ρ).bind fun b => if b then .ok true else h ρ
def bnot (f : Ev → R Bool) : Ev → R Bool := fun ρ => (f ρ).map not
/-- and, or, not as values -/
def vand (f h : Ev → R D) : Ev → R D := fun ρ => (tst f ρ).bind fun b => if b then h ρ else .ok (.bl false)
def vor (f h : Ev → R D) : Ev → R D := fun ρ => (tst f ρ).bind fun b => if b then .ok (.bl true) else h ρ
def vnot (f : Ev → R D) : Ev → R D := fun ρ => (tst f ρ).map fun b => .bl (!b)
def ite (c : Ev → R Bool) (f h : Ev → R D) : Ev → R D := fun ρ => (c ρ).bind fun b => if b then f ρ else h ρ
def chain (g k : D → D → R D) (f h j : Ev → R D) : Ev → R D := fun ρ => (f ρ).bind fun x => (h ρ).bind fun y => (g x y).bind fun z => match z with
  | .bl true => (j ρ).bind fun w => k y w
  | .bl false => .ok (.bl false)
  | _ => .bad
def tup (f : Ev → R (List D)) : Ev → R D := fun ρ => (f ρ).bind fun ds => if ds.length ≤ LINE then .ok (.tup ds) else .bad
def lst (f : Ev → R (List D)) : Ev → R (List D) := fun ρ => (f ρ).bind fun ds => if ds.length ≤ LINE then .ok ds else .bad
/-- a new list as a value -/
def ofL (f : Ev → R (List D)) : Ev → R D := fun ρ => (f ρ).map .lst
end E

section
variable {X : Cx} {mg : Str → Option Value} {C : Addr} {W : WX} {e a b c : Expr} {t : TE} {pos : Pos} {f h j : Ev → R D} {p q : Ev → R Bool} {es : List Expr} {fs : Ev → R (List D)}

/-- the state goes on with what is known -/
theorem tD_w {σ : L2.St} {H : Hp} {Q Q' : VK} (x : tD mg C W f σ H Q) (k : ∀ v H', Sm H H' → Q v H' → Q' v H') : tD mg C W f σ H Q' := by
  obtain ⟨F, ρ, s, ok, r⟩ := x
  refine ⟨F, ρ, s, ok, ?_⟩
  cases e1 : f ρ with
  | bad => rw [e1] at r; exact r
  | exc c => rw [e1] at r; exact r
  | ok d =>
    rw [e1] at r
    exact fun v H' F' n rp => k v H' n.hh (r v H' F' n rp)

/-! ### tests -/
theorem seqT {σ : L2.St} {H : Hp} {Q : Bool → Hp → Prop} (x : tB mg C W (E.tst f) σ H Q) : tD mg C W f σ H fun v H' => ∃ k, v = .bl k ∧ Q k H' := by
  obtain ⟨F, ρ, s, ok, r⟩ := x
  refine ⟨F, ρ, s, ok, ?_⟩
  unfold E.tst at r
  cases e1 : f ρ with
  | bad => rw [e1] at r; exact r
  | exc c => rw [e1] at r; exact r
  | ok d =>
    rw [e1, R.bind_ok] at r
    intro v H' F' n rp
    cases d <;> simp only [Rep] at rp <;> try exact r.elim
    rename_i k
    exact ⟨k, rp, r H' n.hh⟩
theorem b_val (he : PE X e (tD mg C W f)) (hw : ∀ whole, isTrue e X.env whole = (do let v ← whole; standAt e.pos; holding [v] (truthy v)) := by intro _; rfl) : PT X e (tB mg C W (E.tst f)) :=
  PT.to (pt_val he hw) fun σ H Q x => seqT x
theorem b_cmp {op : CmpOp} {g : D → D → R D} {r : R2} (ho : OpR X (compareOp op) r) (hr : Op2 C g r) (hc : Calm2 g) (ha : PE X a (tD mg C W f)) (hb : PE X b (tD mg C W h)) (hm : behindInMarks op b = false := by rfl) :
    PT X (.Compare a [op] [b] pos) (tB mg C W (E.tst (E.bin g f h))) := PT.to (pt_cmpR ho ha hb hm) fun σ H Q x => seq2 hr hc (seqT x)
theorem d_cmp {op : CmpOp} {g : D → D → R D} {r : R2} (ho : OpR X (compareOp op) r) (hr : Op2 C g r) (hc : Calm2 g) (ha : PE X a (tD mg C W f)) (hb : PE X b (tD mg C W h)) (hm : behindInMarks op b = false := by rfl) :
    PE X (.Compare a [op] [b] pos) (tD mg C W (E.bin g f h)) := PE.to (pe_cmpR ho ha hb hm) fun σ H Q x => seq2 hr hc x
theorem seqC {g k : D → D → R D} {r r' : R2} (hr : Op2 C g r) (hc : Calm2 g) (hr' : Op2 C k r') (hc' : Calm2 k) {σ : L2.St} {H : Hp} {Q : VK} (x : tD mg C W (E.chain g k f h j) σ H Q) :
    tChain r r' (tD mg C W f) (tD mg C W h) (tD mg C W j) σ H Q := by
  obtain ⟨F, ρ, s, ok, x⟩ := x
  unfold tChain
  refine ⟨F, ρ, s, ok, ?_⟩
  unfold E.chain at x
  cases e1 : f ρ with
  | bad => rw [e1] at x; exact x
  | exc c => rw [e1] at x; exact x
  | ok d =>
    rw [e1] at x
    intro v H1 F1 n1 r1
    refine ⟨F1, ρ, n1.fh, ok.mono n1.ff, ?_⟩
    cases e2 : h ρ with
    | bad => rw [R.bind_ok, e2] at x; exact x
    | exc c => rw [R.bind_ok, e2] at x; exact Exc.mono x n1.hh
    | ok y =>
      rw [R.bind_ok, e2, R.bind_ok] at x
      intro u H2 F2 n2 r2
      have m := hr d y F2 H2 v u (fun z H3 => ∃ k', z = .bl k' ∧ (if k' = true then tD mg C W j σ H3 fun w' H4 => r' u w' H4 Q else Q (.bl false) H3)) n2.fh (r1.mono n2.ff) r2
      cases e3 : g d y with
      | bad => rw [e3] at x; exact x.elim
      | exc c => exact (hc _ _ _ e3).elim
      | ok z =>
        rw [e3] at m
        rw [e3, R.bind_ok] at x
        refine m fun z' H3 F3 n3 r3 => ?_
        cases z <;> try exact x.elim
        rename_i k'
        simp only [Rep] at r3
        refine ⟨k', r3, ?_⟩
        cases k' with
        | false => exact x _ H3 F3 ((n1.tr n2).tr n3) (by simp only [Rep])
        | true =>
          rw [if_pos rfl]
          refine ⟨F3, ρ, n3.fh, ok.mono (n1.ff.tr (n2.ff.tr n3.ff)), ?_⟩
          cases e4 : j ρ with
          | bad => rw [e4] at x; exact x
          | exc c => rw [e4] at x; exact Exc.mono x (n1.hh.tr (n2.hh.tr n3.hh))
          | ok w =>
            rw [e4, R.bind_ok] at x
            intro w' H4 F4 n4 r4
            have m2 := hr' y w F4 H4 u w' Q n4.fh (r2.mono (n3.ff.tr n4.ff)) r4
            cases e5 : k y w with
            | bad => rw [e5] at x; exact x.elim
            | exc c => exact (hc' _ _ _ e5).elim
            | ok d' =>
              rw [e5] at m2 x
              exact m2 fun v5 H5 F5 n5 r5 => x v5 H5 F5 ((((n1.tr n2).tr n3).tr n4).tr n5) r5
theorem d_chain {op op' : CmpOp} {g k : D → D → R D} {r r' : R2} (ho : OpR X (compareOp op) r) (ho' : OpR X (compareOp op') r') (hr : Op2 C g r) (hc : Calm2 g) (hr' : Op2 C k r') (hc' : Calm2 k)
    (ha : PE X a (tD mg C W f)) (hb : PE X b (tD mg C W h)) (hd : PE X c (tD mg C W j)) (hm : lastMarks [op, op'] [b, c] = false := by with_unfolding_all rfl) :
    PE X (.Compare a [op, op'] [b, c] pos) (tD mg C W (E.chain g k f h j)) := PE.to (pe_chain ho ho' ha hb hd hm) fun σ H Q x => seqC hr hc hr' hc' x
theorem b_chain {op op' : CmpOp} {g k : D → D → R D} {r r' : R2} (ho : OpR X (compareOp op) r) (ho' : OpR X (compareOp op') r') (hr : Op2 C g r) (hc : Calm2 g) (hr' : Op2 C k r') (hc' : Calm2 k)
    (ha : PE X a (tD mg C W f)) (hb : PE X b (tD mg C W h)) (hd : PE X c (tD mg C W j)) (hm : lastMarks [op, op'] [b, c] = false := by with_unfolding_all rfl) :
    PT X (.Compare a [op, op'] [b, c] pos) (tB mg C W (E.tst (E.chain g k f h j))) := PT.to (pt_chain ho ho' ha hb hd hm) fun σ H Q x => seqC hr hc hr' hc' (seqT x)

theorem seqB {g : Bool → Ev → R Bool} {σ : L2.St} {H : Hp} {Q : Bool → Hp → Prop} {tb : Bool → TT} (x : tB mg C W (fun ρ => (p ρ).bind fun b => g b ρ) σ H Q)
    (k : ∀ b H' Q', tB mg C W (g b) σ H' Q' → tb b σ H' Q') : tB mg C W p σ H fun b H' => tb b σ H' Q := by
  obtain ⟨F, ρ, s, ok, x⟩ := x
  refine ⟨F, ρ, s, ok, ?_⟩
  dsimp only at x
  cases e1 : p ρ with
  | bad => rw [e1] at x; exact x
  | exc c => rw [e1] at x; exact x
  | ok b =>
    rw [e1, R.bind_ok] at x
    intro H1 s1
    refine k b H1 Q ⟨F, ρ, s.tr s1, ok, ?_⟩
    cases e2 : g b ρ with
    | bad => rw [e2] at x; exact x
    | exc c => rw [e2] at x; exact Exc.mono x s1
    | ok b' => rw [e2] at x; exact fun H' s' => x H' (s1.tr s')
theorem tB_c {b : Bool} {σ : L2.St} {H : Hp} {Q : Bool → Hp → Prop} (x : tB mg C W (fun _ => .ok b) σ H Q) : Q b H := by
  obtain ⟨F, ρ, s, ok, x⟩ := x
  exact x H Sm.rfl
theorem w_and1 (ha : PT X a (tB mg C W p)) : PW X (.BoolOp .And [a] pos) (tB mg C W p) := pw_and1 ha
theorem w_or1 (ha : PT X a (tB mg C W p)) : PW X (.BoolOp .Or [a] pos) (tB mg C W p) := pw_or1 ha
theorem w_and (ha : PT X a (tB mg C W p)) (hb : PW X (.BoolOp .And (b :: es) pos) (tB mg C W q)) : PW X (.BoolOp .And (a :: b :: es) pos) (tB mg C W (E.band p q)) :=
  PW.to (pw_and ha hb) fun σ H Q x => seqB (g := fun b ρ => if b then q ρ else .ok false) (tb := fun b σ H Q => if b = true then tB mg C W q σ H Q else Q false H) x fun b H' Q' y => by
    cases b with
    | true => exact y
    | false => exact tB_c y
theorem w_or (ha : PT X a (tB mg C W p)) (hb : PW X (.BoolOp .Or (b :: es) pos) (tB mg C W q)) : PW X (.BoolOp .Or (a :: b :: es) pos) (tB mg C W (E.bor p q)) :=
  PW.to (pw_or ha hb) fun σ H Q x => seqB (g := fun b ρ => if b then .ok true else q ρ) (tb := fun b σ H Q => if b = true then Q true H else tB mg C W q σ H Q) x fun b H' Q' y => by
    cases b with
    | false => exact y
    | true => exact tB_c y
theorem b_w (h : PW X a (tB mg C W p)) : PT X a (tB mg C W p) := h.pt
theorem b_not (ha : PT X a (tB mg C W p)) : PT X (.UnaryOp .Not a pos) (tB mg C W (E.bnot p)) := PT.to (pt_not ha) fun σ H Q x => by
  obtain ⟨F, ρ, s, ok, x⟩ := x
  refine ⟨F, ρ, s, ok, ?_⟩
  unfold E.bnot at x
  cases e1 : p ρ with
  | bad => rw [e1] at x; exact x
  | exc c => rw [e1] at x; exact x
  | ok b => rw [e1] at x; exact x

/-! ### and, or, not, if-else as values -/
theorem seqV {g : Bool → Ev → R D} {σ : L2.St} {H : Hp} {Q : VK} {tb : Bool → TE} (x : tD mg C W (fun ρ => (p ρ).bind fun b => g b ρ) σ H Q)
    (k : ∀ b H' Q', tD mg C W (g b) σ H' Q' → tb b σ H' Q') : tB mg C W p σ H fun b H' => tb b σ H' Q := by
  obtain ⟨F, ρ, s, ok, x⟩ := x
  refine ⟨F, ρ, s, ok, ?_⟩
  dsimp only at x
  cases e1 : p ρ with
  | bad => rw [e1] at x; exact x
  | exc c => rw [e1] at x; exact x
  | ok b =>
    rw [e1, R.bind_ok] at x
    intro H1 s1
    refine k b H1 Q ⟨F, ρ, s.tr s1, ok, ?_⟩
    cases e2 : g b ρ with
    | bad => rw [e2] at x; exact x
    | exc c => rw [e2] at x; exact Exc.mono x s1
    | ok d =>
      rw [e2] at x
      refine fun v H' F' n r => x v H' F' ⟨n.ff, s1.tr n.hh, n.fh, fun y h => ?_⟩ r
      rcases n.new y h with z | z
      · exact .inl z
      · refine .inr ?_
        cases e : H y with
        | none => exact Eq.refl none
        | some o => rw [s1 _ _ e] at z; cases z
theorem tD_c {d : D} {v : V} {σ : L2.St} {H : Hp} {Q : VK} (x : tD mg C W (fun _ => .ok d) σ H Q) (r : ∀ F, Rep C F d v) : Q v H := by
  obtain ⟨F, ρ, s, ok, x⟩ := x
  exact x v H F (.rfl s) (r F)
theorem d_one {op} (ha : PE X a (tD mg C W f)) : PE X (.BoolOp op [a] pos) (tD mg C W f) := pe_one ha
theorem d_and (ha : PE X a (tD mg C W f)) (hb : PE X (.BoolOp .And (b :: es) pos) (tD mg C W h)) : PE X (.BoolOp .And (a :: b :: es) pos) (tD mg C W (E.vand f h)) :=
  PE.to (pe_and ha hb) fun σ H Q x => by
    have y := seqV (p := E.tst f) (g := fun b ρ => if b then h ρ else .ok (.bl false)) (tb := fun b σ H Q => if b = true then tD mg C W h σ H Q else Q (.bl false) H) x fun b H' Q' y => by
      cases b with
      | true => exact y
      | false => exact tD_c y fun F => by simp only [Rep]
    exact seqT y
theorem d_or (ha : PE X a (tD mg C W f)) (hb : PE X (.BoolOp .Or (b :: es) pos) (tD mg C W h)) : PE X (.BoolOp .Or (a :: b :: es) pos) (tD mg C W (E.vor f h)) :=
  PE.to (pe_or ha hb) fun σ H Q x => by
    have y := seqV (p := E.tst f) (g := fun b ρ => if b then .ok (.bl true) else h ρ) (tb := fun b σ H Q => if b = true then Q (.bl true) H else tD mg C W h σ H Q) x fun b H' Q' y => by
      cases b with
      | false => exact y
      | true => exact tD_c y fun F => by simp only [Rep]
    exact seqT y
theorem d_not (ha : PE X a (tD mg C W f)) : PE X (.UnaryOp .Not a pos) (tD mg C W (E.vnot f)) := PE.to (pe_not ha) fun σ H Q x => by
  refine seqT (Q := fun c H1 => Q (.bl (!c)) H1) ?_
  obtain ⟨F, ρ, s, ok, x⟩ := x
  refine ⟨F, ρ, s, ok, ?_⟩
  unfold E.vnot at x
  cases e1 : E.tst f ρ with
  | bad => rw [e1] at x; exact x
  | exc c => rw [e1] at x; exact x
  | ok b =>
    rw [e1] at x
    intro H' s'
    exact x (.bl (!b)) H' F ⟨Sm.rfl, s', s.tr s', fun y h => .inl h⟩ (by simp only [Rep])
theorem d_ite (hc : PT X c (tB mg C W p)) (ha : PE X a (tD mg C W f)) (hb : PE X b (tD mg C W h)) : PE X (.IfExp c a b pos) (tD mg C W (E.ite p f h)) :=
  PE.to (pe_ifExp hc ha hb) fun σ H Q x => seqV (g := fun b ρ => if b then f ρ else h ρ) (tb := fun b σ H Q => if b = true then tD mg C W f σ H Q else tD mg C W h σ H Q) x fun b H' Q' y => by
    cases b with
    | true => exact y
    | false => exact y

/-! ### one operand -/
/-- a reading of one value computes g -/
def Op1 (C : Addr) (g : D → R D) (r : V → Hp → VK → Prop) : Prop := ∀ (x : D) (F H : Hp) (v : V) (Q : VK), Sm F H → Rep C F x v →
  match g x with
  | .ok d => (∀ w H' F', Nx F H F' H' → Rep C F' d w → Q w H') → r v H Q
  | _ => True
def Calm1 (g : D → R D) : Prop := ∀ x c, g x ≠ .exc c
theorem seq1 {g : D → R D} {r : V → Hp → VK → Prop} (hr : Op1 C g r) (hc : Calm1 g) {σ : L2.St} {H : Hp} {Q : VK} (x : tD mg C W (E.un g f) σ H Q) : tD mg C W f σ H fun v H1 => r v H1 Q := by
  obtain ⟨F, ρ, s, ok, x⟩ := x
  refine ⟨F, ρ, s, ok, ?_⟩
  unfold E.un at x
  cases e1 : f ρ with
  | bad => rw [e1] at x; exact x
  | exc c => rw [e1] at x; exact x
  | ok d =>
    rw [e1, R.bind_ok] at x
    intro v H1 F1 n1 r1
    have m := hr d F1 H1 v Q n1.fh r1
    cases e2 : g d with
    | bad => rw [e2] at x; exact x.elim
    | exc c => exact (hc _ _ e2).elim
    | ok d' =>
      rw [e2] at m x
      exact m fun w H' F' n2 r2 => x w H' F' (n1.tr n2) r2
def dNeg : D → R D
  | .int i => .ok (.int (-i))
  | _ => .bad
theorem d_neg (ha : PE X a (tD mg C W f)) : PE X (.UnaryOp .USub a pos) (tD mg C W (E.un dNeg f)) := PE.to (pe_un un_neg ha) fun σ H Q x => seq1 (fun d F H v Q s r => by
    cases d <;> simp only [dNeg] <;> try trivial
    intro q
    simp only [Rep] at r
    exact ⟨_, r, q _ H F (.rfl s) (by simp only [Rep])⟩) (fun d c => by cases d <;> simp only [dNeg] <;> exact fun e => nomatch e) x
/-- is None, is not None -/
def isNon : D → Bool
  | .non => true
  | _ => false
def dIsN (d : D) : R D := .ok (.bl (isNon d))
def dNotN (d : D) : R D := .ok (.bl (!isNon d))
theorem isN_rep {F : Hp} {d : D} {v : V} (r : Rep C F d v) : decide (v = .non) = isNon d := by
  cases d with
  | non => simp only [Rep] at r; subst r; simp [isNon]
  | bl b => simp only [Rep] at r; subst r; simp [isNon]
  | int b => simp only [Rep] at r; subst r; simp [isNon]
  | str b => simp only [Rep] at r; subst r; simp [isNon]
  | lst b => simp only [Rep] at r; obtain ⟨_, _, r, _⟩ := r; subst r; simp [isNon]
  | tup b => simp only [Rep] at r; obtain ⟨_, _, r, _⟩ := r; subst r; simp [isNon]
  | shop _ _ => simp only [Rep] at r; obtain ⟨_, _, _, _, _, _, _, r, _⟩ := r; subst r; simp [isNon]
  | scr b => simp only [Rep] at r; obtain ⟨_, _, r, _⟩ := r; subst r; simp [isNon]
theorem isN_D : Op1 C dIsN (fun x H Q => Q (.bl (decide (x = .non))) H) := fun d F H v Q s r q => by
  dsimp only
  rw [isN_rep r]
  exact q _ H F (.rfl s) (by simp only [Rep])
theorem notN_D : Op1 C dNotN (fun x H Q => Q (.bl (!decide (x = .non))) H) := fun d F H v Q s r q => by
  dsimp only
  rw [isN_rep r]
  exact q _ H F (.rfl s) (by simp only [Rep])
theorem d_isN {j' pos'} (ha : PE X a (tD mg C W f)) : PE X (.Compare a [.Is] [.Constant .none j' pos'] pos) (tD mg C W (E.un dIsN f)) :=
  PE.to (pe_cmp (pc_isN ha)) fun σ H Q x => seq1 isN_D (fun _ _ e => nomatch e) x
theorem d_notN {j' pos'} (ha : PE X a (tD mg C W f)) : PE X (.Compare a [.IsNot] [.Constant .none j' pos'] pos) (tD mg C W (E.un dNotN f)) :=
  PE.to (pe_cmp (pc_notN ha)) fun σ H Q x => seq1 notN_D (fun _ _ e => nomatch e) x
theorem b_isN {j' pos'} (ha : PE X a (tD mg C W f)) : PT X (.Compare a [.Is] [.Constant .none j' pos'] pos) (tB mg C W (E.tst (E.un dIsN f))) :=
  PT.to (pt_cmp (pc_isN ha)) fun σ H Q x => seq1 isN_D (fun _ _ e => nomatch e) (seqT x)
theorem b_notN {j' pos'} (ha : PE X a (tD mg C W f)) : PT X (.Compare a [.IsNot] [.Constant .none j' pos'] pos) (tB mg C W (E.tst (E.un dNotN f))) :=
  PT.to (pt_cmp (pc_notN ha)) fun σ H Q x => seq1 notN_D (fun _ _ e => nomatch e) (seqT x)

/-! ### arguments, displays -/
theorem a_nil : PA X [] (tA mg C W E.nil) := PA.to pa_nil fun σ H Q x => by
  obtain ⟨F, ρ, s, ok, x⟩ := x
  exact x [] H F (.rfl s) (by simp only [Reps])
theorem a_cons (ha : PE X a (tD mg C W f)) (hr : PA X es (tA mg C W fs)) (hs : starEach (a :: es) X.env = (false, eval a X.env) :: starEach es X.env := by rfl) : PA X (a :: es) (tA mg C W (E.cons f fs)) :=
  PA.to (pa_cons ha hr hs) fun σ H Q x => by
    obtain ⟨F, ρ, s, ok, x⟩ := x
    refine ⟨F, ρ, s, ok, ?_⟩
    unfold E.cons at x
    cases e1 : f ρ with
    | bad => rw [e1] at x; exact x
    | exc c => rw [e1] at x; exact x
    | ok d =>
      rw [e1, R.bind_ok] at x
      intro v H1 F1 n1 r1
      refine ⟨F1, ρ, n1.fh, ok.mono n1.ff, ?_⟩
      cases e2 : fs ρ with
      | bad => rw [e2] at x; exact x
      | exc c => rw [e2] at x; exact Exc.mono x n1.hh
      | ok ds =>
        rw [e2, R.bind_ok] at x
        intro vs H2 F2 n2 r2
        refine x (v :: vs) H2 F2 (n1.tr n2) ?_
        simp only [Reps]
        exact ⟨v, vs, rfl, r1.mono n2.ff, r2⟩
/-- arguments, then a rule on their values -/
def OpA (C : Addr) (g : List D → R D) (r : List V → Hp → VK → Prop) : Prop := ∀ (xs : List D) (F H : Hp) (vs : List V) (Q : VK), Sm F H → Reps C F xs vs →
  match g xs with
  | .ok d => (∀ w H' F', Nx F H F' H' → Rep C F' d w → Q w H') → r vs H Q
  | _ => True
def CalmA (g : List D → R D) : Prop := ∀ x c, g x ≠ .exc c
theorem seqA {g : List D → R D} {r : List V → Hp → VK → Prop} (hr : OpA C g r) (hc : CalmA g) {σ : L2.St} {H : Hp} {Q : VK} (x : tD mg C W (E.app g fs) σ H Q) : tA mg C W fs σ H fun vs H1 => r vs H1 Q := by
  obtain ⟨F, ρ, s, ok, x⟩ := x
  refine ⟨F, ρ, s, ok, ?_⟩
  unfold E.app at x
  cases e1 : fs ρ with
  | bad => rw [e1] at x; exact x
  | exc c => rw [e1] at x; exact x
  | ok ds =>
    rw [e1, R.bind_ok] at x
    intro vs H1 F1 n1 r1
    have m := hr ds F1 H1 vs Q n1.fh r1
    cases e2 : g ds with
    | bad => rw [e2] at x; exact x.elim
    | exc c => exact (hc _ _ e2).elim
    | ok d' =>
      rw [e2] at m x
      exact m fun w H' F' n2 r2 => x w H' F' (n1.tr n2) r2
theorem d_tup {k} (h : PA X es (tA mg C W fs)) : PE X (.Tuple es k pos) (tD mg C W (E.tup fs)) := PE.to (pe_tup h) fun σ H Q x => by
  refine seqA (g := fun ds => if ds.length ≤ LINE then .ok (.tup ds) else .bad) (r := fun xs H1 Q => xs.length ≤ sizeLine ∧ ∀ p, H1 p = none → Q (.ref p) (upd H1 p (.tup xs))) (fun ds F H vs Q s r => ?_) (fun ds c => by dsimp only; split <;> exact fun e => nomatch e) x
  dsimp only
  split
  · rename_i hl
    split at hl
    · rename_i hz
      cases hl
      intro q
      refine ⟨by rw [r.len]; exact line_ok hz, fun p np => q _ _ _ (.add s np) ?_⟩
      simp only [Rep]
      exact ⟨p, vs, rfl, upd_same, Reps.mono (Sm.upd (s.non np)) _ _ r⟩
    · cases hl
  · trivial
/-- a new list, as any value -/
theorem d_ofL (ha : PE X a (tL mg C W fs)) : PE X a (tD mg C W (E.ofL fs)) := PE.to ha fun σ H Q x => by
  obtain ⟨F, ρ, s, ok, x⟩ := x
  refine ⟨F, ρ, s, ok, ?_⟩
  unfold E.ofL at x
  cases e1 : fs ρ with
  | bad => rw [e1] at x; exact x
  | exc c => rw [e1] at x; exact x
  | ok ds =>
    rw [e1] at x
    intro p xs H' F' n hp fp hl r
    refine x (.ref p) H' (upd F' p (.lst xs)) ⟨n.ff.tr (Sm.upd fp), n.hh, fun b o e => ?_, fun b h => ?_⟩ ?_
    · by_cases hb : b = p
      · subst hb; rw [upd_same] at e; cases e; exact hl
      · rw [upd_ne hb] at e; exact n.fh _ _ e
    · by_cases hb : b = p
      · subst hb; exact .inr hp
      · rw [upd_ne hb] at h; exact n.new b h
    · simp only [Rep]
      exact ⟨p, xs, rfl, upd_same, Reps.mono (Sm.upd fp) _ _ r⟩
theorem l_lst (h : PA X es (tA mg C W fs)) : PE X (.List es pos) (tL mg C W (E.lst fs)) := PE.to (pe_lst h) fun σ H Q x => by
  obtain ⟨F, ρ, s, ok, x⟩ := x
  refine ⟨F, ρ, s, ok, ?_⟩
  unfold E.lst at x
  cases e1 : fs ρ with
  | bad => rw [e1] at x; exact x
  | exc c => rw [e1] at x; exact x
  | ok ds =>
    rw [e1, R.bind_ok] at x
    intro vs H1 F1 n1 r1
    split at x
    · rename_i ds' hl
      split at hl
      · rename_i hz
        cases hl
        refine ⟨by rw [r1.len]; exact line_ok hz, fun p np => ?_⟩
        refine x p vs _ F1 (n1.tr (.hid n1.fh np)) ?_ (n1.fh.non np) upd_same r1
        cases e : H p with
        | none => exact Eq.refl none
        | some o => rw [n1.hh _ _ e] at np; cases np
      · cases hl
    · rename_i c hl
      split at hl <;> cases hl
    · exact x.elim
end
end TB
namespace TB
open PySem PySem.Spec PyProof.Rows L2

section
variable {X : Cx} {mg : Str → Option Value} {C : Addr} {W : WX} {e a b c : Expr} {t : TE} {pos : Pos} {f h j : Ev → R D} {p q : Ev → R Bool} {es : List Expr} {fs : Ev → R (List D)}

/-! ### the names of kinds -/
def tyN : D → Option String
  | .non => some "NoneType"
  | .bl _ => some "bool"
  | .int _ => some "int"
  | .str _ => some "str"
  | .lst _ => some "list"
  | .tup _ => some "tuple"
  | .scr _ => some "list"
  | .shop _ _ => none
def subT (t T : String) : Bool := t == T || (t == "bool" && T == "int")
theorem kit_all : ∀ t ∈ ["NoneType", "bool", "int", "str", "list", "tuple"], ∀ T ∈ ["int", "bool", "str", "list", "tuple"], kitB t T = some (subT t T) := by decide +kernel
def dIsi (T : String) (d : D) : R D := match tyN d with
  | some t => .ok (.bl (subT t T))
  | none => .bad
theorem isi_calm {T : String} : Calm1 (dIsi T) := fun x c => by unfold dIsi; split <;> exact fun e => nomatch e
theorem isi_D {K : PySem.W.Frag} {T : String} (hT : T ∈ ["int", "bool", "str", "list", "tuple"]) : Op1 C (dIsi T) (fun x H Q => rIsi K [x, .ty T] H Q) := by
  intro d F H v Q s r
  have go : ∀ t, TyX K H v (.type t) → t ∈ ["NoneType", "bool", "int", "str", "list", "tuple"] → (∀ w H' F', Nx F H F' H' → Rep C F' (.bl (subT t T)) w → Q w H') → rIsi K [v, .ty T] H Q := fun t hx ht q =>
    ⟨v, .ty T, .type t, .type T, _, rfl, .ty T, hx, kit_ty (kit_all t ht T hT), q _ H F (.rfl s) (by simp only [Rep])⟩
  cases d with
  | non => simp only [Rep] at r; subst r; exact go _ (.base .non) (by simp)
  | bl _ => simp only [Rep] at r; subst r; exact go _ (.base (.bl _)) (by simp)
  | int _ => simp only [Rep] at r; subst r; exact go _ (.base (.int _)) (by simp)
  | str _ => simp only [Rep] at r; subst r; exact go _ (.base (.str _)) (by simp)
  | lst _ => simp only [Rep] at r; obtain ⟨a, xs, r, h, _⟩ := r; subst r; exact go _ (.base (.lst (s _ _ h))) (by simp)
  | tup _ => simp only [Rep] at r; obtain ⟨a, xs, r, h, _⟩ := r; subst r; exact go _ (.base (.tup (s _ _ h))) (by simp)
  | scr _ => simp only [Rep] at r; obtain ⟨a, o, r, h⟩ := r; subst r; exact go _ (.base (.frz (s _ _ h))) (by simp)
  | shop _ _ => simp only [dIsi, tyN]
theorem d_isi {T : Str} {Ts : String} {p1 p2 : Pos} (hT : Ts ∈ ["int", "bool", "str", "list", "tuple"]) (hg : Gl X "isinstance") (hm : X.mg "isinstance" = none) (ht : Gl X T) (hmt : X.mg T = none) (hv : bootBuiltins T = some (.type Ts)) (ha : PE X a (tD mg C W f))
    (he : starEach [a, .Name T p2] X.env = (false, eval a X.env) :: starEach [.Name T p2] X.env := by rfl) (he2 : starEach [.Name T p2] X.env = [(false, eval (.Name T p2) X.env)] := by rfl) (hpl : (backTo pos (starEach [.Name T p2] X.env)).any (·.1) = false := by rfl)
    (hn : T ≠ "__name__" := by decide) (hd : (T == ("__debug__" : Str)) = false := by decide) :
    PE X (.Call (.Name "isinstance" p1) [a, .Name T p2] [] pos) (tD mg C W (E.un (dIsi Ts) f)) := by
  have h2 : PE X (.Name T p2) (tC (.ty Ts)) := pe_bltn ht hmt hv (show L2.RelV (.ty Ts) (.type Ts) from rfl) hn hd
  refine PE.to (pe_callB call_isi hg hm boot_isinstance (pa_cons ha (pa_cons h2 pa_nil he2) he) (by decide) (by decide) he hpl) fun σ H Q x => ?_
  exact seq1 (isi_D (K := X.K) hT) isi_calm x

/-! ### built-ins by name -/
theorem d_callB {id : String} {x : Str} {r : List V → Hp → VK → Prop} {g : List D → R D} {p1 : Pos} (hc : CallR X (.builtin id) r) (hr : OpA C g r) (hcm : CalmA g) (hg : Gl X x) (hm : X.mg x = none) (hv : bootBuiltins x = some (.builtin id)) (ha : PA X (e :: es) (tA mg C W fs))
    (hn : x ≠ "__name__" := by decide) (hdb : (x == ("__debug__" : Str)) = false := by decide)
    (he : starEach (e :: es) X.env = (false, eval e X.env) :: starEach es X.env := by rfl) (hpl : (backTo pos (starEach es X.env)).any (·.1) = false := by rfl) :
    PE X (.Call (.Name x p1) (e :: es) [] pos) (tD mg C W (E.app g fs)) := PE.to (pe_callB hc hg hm hv ha hn hdb he hpl) fun σ H Q x => seqA hr hcm x
theorem d_callT {T : String} {x : Str} {r : List V → Hp → VK → Prop} {g : List D → R D} {p1 : Pos} (hc : CallR X (.type T) r) (hr : OpA C g r) (hcm : CalmA g) (hg : Gl X x) (hm : X.mg x = none) (hv : bootBuiltins x = some (.type T)) (ha : PA X (e :: es) (tA mg C W fs))
    (hn : x ≠ "__name__" := by decide) (hdb : (x == ("__debug__" : Str)) = false := by decide)
    (he : starEach (e :: es) X.env = (false, eval e X.env) :: starEach es X.env := by rfl) (hpl : (backTo pos (starEach es X.env)).any (·.1) = false := by rfl) :
    PE X (.Call (.Name x p1) (e :: es) [] pos) (tD mg C W (E.app g fs)) := PE.to (pe_callTy hc hg hm hv ha hn hdb he hpl) fun σ H Q x => seqA hr hcm x
theorem reps1 {F : Hp} {d : D} {vs : List V} (r : Reps C F [d] vs) : ∃ v, vs = [v] ∧ Rep C F d v := by
  simp only [Reps] at r
  obtain ⟨v, w, e, q, rfl⟩ := r
  exact ⟨v, e, q⟩
theorem reps2 {F : Hp} {d d' : D} {vs : List V} (r : Reps C F [d, d'] vs) : ∃ v u, vs = [v, u] ∧ Rep C F d v ∧ Rep C F d' u := by
  simp only [Reps] at r
  obtain ⟨v, w, e, q, u, w2, rfl, q2, rfl⟩ := r
  exact ⟨v, u, e, q, q2⟩
def dLen : List D → R D
  | [.lst ds] => .ok (.int ds.length)
  | [.tup ds] => .ok (.int ds.length)
  | [.scr ns] => .ok (.int ns.length)
  | [.str x] => if x.length ≤ LINE then .ok (.int x.length) else .bad
  | _ => .bad
theorem len_calm : CalmA dLen := fun x c => by unfold dLen; split <;> (try split) <;> exact fun e => nomatch e
def rLenB (K : PySem.W.Frag) : List V → Hp → VK → Prop := fun xs H Q => (∃ p ys, xs = [.ref p] ∧ (SqL K H p ys ∨ SqT K H p ys) ∧ Q (.int ys.length) H) ∨ (∃ z, xs = [.str z] ∧ z.length ≤ sizeLine ∧ Q (.int z.length) H)
theorem call_lenB : CallR X (.builtin "len") (rLenB X.K) := call_len_seq.or call_len_str
theorem len_D {K : PySem.W.Frag} : OpA C dLen (rLenB K) := by
  intro xs F H vs Q s r
  unfold dLen
  split
  · rename_i hl
    split at hl
    · cases hl
      intro q
      obtain ⟨v, rfl, z⟩ := reps1 r
      simp only [Rep] at z
      obtain ⟨a, ys, rfl, h, z⟩ := z
      refine .inl ⟨a, ys, rfl, .inl (SqL.of (s _ _ h)), ?_⟩
      rw [z.len]
      exact q _ H F (.rfl s) (by simp only [Rep])
    · cases hl
      intro q
      obtain ⟨v, rfl, z⟩ := reps1 r
      simp only [Rep] at z
      obtain ⟨a, ys, rfl, h, z⟩ := z
      refine .inl ⟨a, ys, rfl, .inr (SqT.of (s _ _ h)), ?_⟩
      rw [z.len]
      exact q _ H F (.rfl s) (by simp only [Rep])
    · cases hl
      intro q
      obtain ⟨v, rfl, z⟩ := reps1 r
      simp only [Rep] at z
      obtain ⟨a, o, rfl, h⟩ := z
      refine .inl ⟨a, _, rfl, .inl (.inl (.inr ⟨o, s _ _ h⟩)), ?_⟩
      rw [List.length_map]
      exact q _ H F (.rfl s) (by simp only [Rep])
    · split at hl
      · rename_i hz
        cases hl
        intro q
        obtain ⟨v, rfl, z⟩ := reps1 r
        simp only [Rep] at z
        exact .inr ⟨_, by rw [z], line_ok hz, q _ H F (.rfl s) (by simp only [Rep])⟩
      · cases hl
    · cases hl
  · trivial
/-- int(..) of an int, a truth -/
def dInt : List D → R D
  | [.int i] => .ok (.int i)
  | [.bl b] => .ok (.int (if b then 1 else 0))
  | [.str a] => match PySem.intText? a with
    | some n => if a.length ≤ 640 then .ok (.int n) else .bad
    | none => .bad
  | _ => .bad
theorem int_calm : CalmA dInt := fun x c => by unfold dInt; split <;> (try split) <;> (try split) <;> exact fun e => nomatch e
def rIntB : List V → Hp → VK → Prop := fun xs H Q => ((∃ i, xs = [.int i] ∧ Q (.int i) H) ∨ ∃ k, xs = [.bl k] ∧ Q (.int (if k then 1 else 0)) H) ∨ (∃ a n, xs = [.str a] ∧ PySem.intText? a = some n ∧ a.length ≤ 640 ∧ Q (.int n) H)
theorem call_intB : CallR X (.type "int") rIntB := call_int1.or call_int_str
theorem int_D : OpA C dInt rIntB := by
  intro xs F H vs Q s r
  unfold dInt
  split
  · rename_i hl
    split at hl
    · cases hl
      intro q
      obtain ⟨v, rfl, z⟩ := reps1 r
      simp only [Rep] at z
      exact .inl (.inl ⟨_, by rw [z], q _ H F (.rfl s) (by simp only [Rep])⟩)
    · cases hl
      intro q
      obtain ⟨v, rfl, z⟩ := reps1 r
      simp only [Rep] at z
      exact .inl (.inr ⟨_, by rw [z], q _ H F (.rfl s) (by simp only [Rep])⟩)
    · split at hl
      · rename_i h1
        split at hl
        · rename_i hz
          cases hl
          intro q
          obtain ⟨v, rfl, z⟩ := reps1 r
          simp only [Rep] at z
          exact .inr ⟨_, _, by rw [z], h1, hz, q _ H F (.rfl s) (by simp only [Rep])⟩
        · cases hl
      · cases hl
    · cases hl
  · trivial
/-- two ints to an int -/
def dI2 (g : Int → Int → Int) : List D → R D
  | [.int i, .int j] => .ok (.int (g i j))
  | _ => .bad
theorem I2_calm {g : Int → Int → Int} : CalmA (dI2 g) := fun x c => by unfold dI2; split <;> exact fun e => nomatch e
theorem I2_D {g : Int → Int → Int} : OpA C (dI2 g) (fun xs H Q => ∃ i j, xs = [.int i, .int j] ∧ Q (.int (g i j)) H) := by
  intro xs F H vs Q s r
  unfold dI2
  split
  · rename_i hl
    split at hl
    · cases hl
      intro q
      obtain ⟨v, u, rfl, r1, r2⟩ := reps2 r
      simp only [Rep] at r1 r2
      exact ⟨_, _, by rw [r1, r2], q _ H F (.rfl s) (by simp only [Rep])⟩
    · cases hl
  · trivial
abbrev dMin2 : List D → R D := dI2 fun i j => if j < i then j else i
abbrev dMax2 : List D → R D := dI2 fun i j => if j > i then j else i
def dAbs : List D → R D
  | [.int i] => .ok (.int (if i < 0 then -i else i))
  | _ => .bad
theorem abs_calm : CalmA dAbs := fun x c => by unfold dAbs; split <;> exact fun e => nomatch e
theorem abs_D : OpA C dAbs (fun xs H Q => ∃ i, xs = [.int i] ∧ Q (.int (if i < 0 then -i else i)) H) := by
  intro xs F H vs Q s r
  unfold dAbs
  split
  · rename_i hl
    split at hl
    · cases hl
      intro q
      obtain ⟨v, rfl, z⟩ := reps1 r
      simp only [Rep] at z
      exact ⟨_, by rw [z], q _ H F (.rfl s) (by simp only [Rep])⟩
    · cases hl
  · trivial

/-! ### the ints of a list -/
def intsOf : List D → Option (List Int)
  | [] => some []
  | .int i :: r => (intsOf r).map (i :: ·)
  | _ :: _ => none
theorem intsOf_eq : ∀ {ds : List D} {ns : List Int}, intsOf ds = some ns → ds = ns.map D.int
  | [], ns, h => by simp [intsOf] at h; subst h; rfl
  | d :: ds, ns, h => by
    cases d <;> simp only [intsOf] at h <;> try cases h
    rename_i i
    cases e : intsOf ds with
    | none => rw [e] at h; cases h
    | some ms =>
      rw [e] at h
      cases h
      rw [intsOf_eq e]
      rfl
theorem intsOf_map : ∀ (ns : List Int), intsOf (ns.map D.int) = some ns
  | [] => rfl
  | n :: ns => by simp [intsOf, intsOf_map ns]
def leastI : List Int → Int
  | [] => 0
  | [n] => n
  | n :: m :: r => if leastI (m :: r) < n then leastI (m :: r) else n
theorem leastI_mem : ∀ (ns : List Int), ns ≠ [] → leastI ns ∈ ns ∧ ∀ y ∈ ns, leastI ns ≤ y
  | [], h => absurd rfl h
  | [n], _ => by simp [leastI]
  | n :: m :: r, _ => by
    have ih := leastI_mem (m :: r) (by simp)
    rw [leastI]
    split
    · rename_i h
      refine ⟨List.mem_cons_of_mem _ ih.1, fun y hy => ?_⟩
      rcases List.mem_cons.mp hy with rfl | hy
      · omega
      · exact ih.2 y hy
    · rename_i h
      refine ⟨List.mem_cons_self, fun y hy => ?_⟩
      rcases List.mem_cons.mp hy with rfl | hy
      · omega
      · have := ih.2 y hy
        omega
def dMinL : List D → R D
  | [.lst ds] => match intsOf ds with
    | some (n :: ns) => .ok (.int (leastI (n :: ns)))
    | _ => .bad
  | _ => .bad
theorem minL_calm : CalmA dMinL := fun x c => by unfold dMinL; split <;> (try split) <;> exact fun e => nomatch e
theorem minL_D {K : PySem.W.Frag} : OpA C dMinL (rMin K) := by
  intro xs F H vs Q s r
  unfold dMinL
  split
  · rename_i hl
    split at hl
    · split at hl
      · rename_i n ns h1
        cases hl
        intro q
        obtain ⟨v, rfl, z⟩ := reps1 r
        simp only [Rep] at z
        obtain ⟨a, ys, rfl, h, z⟩ := z
        rw [intsOf_eq h1] at z
        rw [z.ints] at h
        refine ⟨a, n :: ns, rfl, SqL.of (s _ _ h), by simp, fun m hm hle => ?_⟩
        have ex := leastI_mem (n :: ns) (by simp)
        have e1 : m = leastI (n :: ns) := Int.le_antisymm (hle _ ex.1) (ex.2 _ hm)
        rw [e1]
        exact q _ H F (.rfl s) (by simp only [Rep])
      · cases hl
    · cases hl
  · trivial
def dSum : List D → R D
  | [.lst ds] => match intsOf ds with
    | some ns => .ok (.int ns.sum)
    | none => .bad
  | _ => .bad
theorem sum_calm : CalmA dSum := fun x c => by unfold dSum; split <;> (try split) <;> exact fun e => nomatch e
theorem sum_D {K : PySem.W.Frag} : OpA C dSum (rSum K) := by
  intro xs F H vs Q s r
  unfold dSum
  split
  · rename_i hl
    split at hl
    · split at hl
      · rename_i ns h1
        cases hl
        intro q
        obtain ⟨v, rfl, z⟩ := reps1 r
        simp only [Rep] at z
        obtain ⟨a, ys, rfl, h, z⟩ := z
        rw [intsOf_eq h1] at z
        rw [z.ints] at h
        exact ⟨a, ns, rfl, SqL.of (s _ _ h), q _ H F (.rfl s) (by simp only [Rep])⟩
      · cases hl
    · cases hl
  · trivial
/-- tuple(xs) -/
def dTuple : List D → R D
  | [.lst ds] => .ok (.tup ds)
  | [.tup ds] => .ok (.tup ds)
  | _ => .bad
theorem tuple_calm : CalmA dTuple := fun x c => by unfold dTuple; split <;> exact fun e => nomatch e
theorem tuple_D {K : PySem.W.Frag} : OpA C dTuple (fun xs H Q => ∃ p ys, xs = [.ref p] ∧ ((SqL K H p ys ∧ ∀ l, H l = none → Q (.ref l) (upd H l (.tup ys))) ∨ (SqT K H p ys ∧ Q (.ref p) H))) := by
  intro xs F H vs Q s r
  unfold dTuple
  split
  · rename_i hl
    split at hl
    · cases hl
      intro q
      obtain ⟨v, rfl, z⟩ := reps1 r
      simp only [Rep] at z
      obtain ⟨a, ys, rfl, h, z⟩ := z
      refine ⟨a, ys, rfl, .inl ⟨SqL.of (s _ _ h), fun l nl => q _ _ _ (.add s nl) ?_⟩⟩
      simp only [Rep]
      exact ⟨l, ys, rfl, upd_same, Reps.mono (Sm.upd (s.non nl)) _ _ z⟩
    · cases hl
      intro q
      obtain ⟨v, rfl, z⟩ := reps1 r
      simp only [Rep] at z
      obtain ⟨a, ys, rfl, h, z⟩ := z
      refine ⟨a, ys, rfl, .inr ⟨SqT.of (s _ _ h), q _ H F (.rfl s) ?_⟩⟩
      simp only [Rep]
      exact ⟨a, ys, rfl, h, z⟩
    · cases hl
  · trivial
/-- list(xs): a new list -/
def dList : List D → R (List D)
  | [.lst ds] => .ok ds
  | [.tup ds] => .ok ds
  | _ => .bad
namespace E
def appL (g : List D → R (List D)) (f : Ev → R (List D)) : Ev → R (List D) := fun ρ => (f ρ).bind g
end E
/-- arguments, then a rule that makes a new list -/
def OpL (C : Addr) (g : List D → R (List D)) (r : List V → Hp → VK → Prop) : Prop := ∀ (xs : List D) (F H : Hp) (vs : List V) (Q : VK), Sm F H → Reps C F xs vs →
  match g xs with
  | .ok ds => (∀ p ys H' F', Nx F H F' H' → H p = none → F' p = none → H' p = some (.lst ys) → Reps C F' ds ys → Q (.ref p) H') → r vs H Q
  | _ => True
def CalmL (g : List D → R (List D)) : Prop := ∀ x c, g x ≠ .exc c
theorem seqL {g : List D → R (List D)} {r : List V → Hp → VK → Prop} (hr : OpL C g r) (hc : CalmL g) {σ : L2.St} {H : Hp} {Q : VK} (x : tL mg C W (E.appL g fs) σ H Q) : tA mg C W fs σ H fun vs H1 => r vs H1 Q := by
  obtain ⟨F, ρ, s, ok, x⟩ := x
  refine ⟨F, ρ, s, ok, ?_⟩
  unfold E.appL at x
  cases e1 : fs ρ with
  | bad => rw [e1] at x; exact x
  | exc c => rw [e1] at x; exact x
  | ok ds =>
    rw [e1, R.bind_ok] at x
    intro vs H1 F1 n1 r1
    have m := hr ds F1 H1 vs Q n1.fh r1
    cases e2 : g ds with
    | bad => rw [e2] at x; exact x.elim
    | exc c => exact (hc _ _ e2).elim
    | ok d' =>
      rw [e2] at m x
      refine m fun p ys H' F' n2 hp fp hl r2 => x p ys H' F' (n1.tr n2) ?_ fp hl r2
      cases e : H p with
      | none => exact Eq.refl none
      | some o => rw [n1.hh _ _ e] at hp; cases hp
theorem list_calm : CalmL dList := fun x c => by unfold dList; split <;> exact fun e => nomatch e
theorem list_D {K : PySem.W.Frag} : OpL C dList (fun xs H Q => ∃ p ys, xs = [.ref p] ∧ (SqL K H p ys ∨ SqT K H p ys) ∧ ∀ l, H l = none → Q (.ref l) (upd H l (.lst ys))) := by
  intro xs F H vs Q s r
  unfold dList
  split
  · rename_i hl
    split at hl
    · cases hl
      intro q
      obtain ⟨v, rfl, z⟩ := reps1 r
      simp only [Rep] at z
      obtain ⟨a, ys, rfl, h, z⟩ := z
      exact ⟨a, ys, rfl, .inl (SqL.of (s _ _ h)), fun l nl => q _ ys _ F (.hid s nl) nl (s.non nl) upd_same z⟩
    · cases hl
      intro q
      obtain ⟨v, rfl, z⟩ := reps1 r
      simp only [Rep] at z
      obtain ⟨a, ys, rfl, h, z⟩ := z
      exact ⟨a, ys, rfl, .inr (SqT.of (s _ _ h)), fun l nl => q _ ys _ F (.hid s nl) nl (s.non nl) upd_same z⟩
    · cases hl
  · trivial
theorem l_callT {T : String} {x : Str} {r : List V → Hp → VK → Prop} {g : List D → R (List D)} {p1 : Pos} (hc : CallR X (.type T) r) (hr : OpL C g r) (hcm : CalmL g) (hg : Gl X x) (hm : X.mg x = none) (hv : bootBuiltins x = some (.type T)) (ha : PA X (e :: es) (tA mg C W fs))
    (hn : x ≠ "__name__" := by decide) (hdb : (x == ("__debug__" : Str)) = false := by decide)
    (he : starEach (e :: es) X.env = (false, eval e X.env) :: starEach es X.env := by rfl) (hpl : (backTo pos (starEach es X.env)).any (·.1) = false := by rfl) :
    PE X (.Call (.Name x p1) (e :: es) [] pos) (tL mg C W (E.appL g fs)) := PE.to (pe_callTy hc hg hm hv ha hn hdb he hpl) fun σ H Q x => seqL hr hcm x

/-! ### a def of the text -/
/-- the promise: g of the arguments -/
def SpD (mg : Str → Option Value) (C : Addr) (n : Nat) (g : List D → R D) : Sp := fun vs H Q E' => vs.length = n ∧ ∃ F ds, Sm F H ∧ Reps C F ds vs ∧ match g ds with
  | .ok d => ∀ v H' F', Nx F H F' H' → Rep C F' d v → Q v H'
  | .exc c => ∀ a, mg c = some (.ref a) → ∀ H', Sm H H' → E' (.ref a) none H'
  | .bad => False
/-- .. a new list that is handed over -/
def SpL (mg : Str → Option Value) (C : Addr) (n : Nat) (g : List D → R (List D)) : Sp := fun vs H Q E' => vs.length = n ∧ ∃ F ds, Sm F H ∧ Reps C F ds vs ∧ match g ds with
  | .ok ds => ∀ p ys H' F', Nx F H F' H' → H p = none → F' p = none → H' p = some (.lst ys) → Reps C F' ds ys → Q (.ref p) H'
  | .exc c => ∀ a, mg c = some (.ref a) → ∀ H', Sm H H' → E' (.ref a) none H'
  | .bad => False
theorem SpL.d {n : Nat} {g : List D → R (List D)} {vs : List V} {H : Hp} {Q : VK} {E' : XK} (h : SpD mg C n (fun ds => (g ds).map .lst) vs H Q E') : SpL mg C n g vs H Q E' := by
  obtain ⟨hl, F, ds, s, r, x⟩ := h
  refine ⟨hl, F, ds, s, r, ?_⟩
  dsimp only at x
  cases e1 : g ds with
  | bad => rw [e1] at x; exact x
  | exc c => rw [e1] at x; exact x
  | ok ds' =>
    rw [e1] at x
    intro p xs H' F' n hp fp hl r
    refine x (.ref p) H' (upd F' p (.lst xs)) ⟨n.ff.tr (Sm.upd fp), n.hh, fun b o e => ?_, fun b h => ?_⟩ ?_
    · by_cases hb : b = p
      · subst hb; rw [upd_same] at e; cases e; exact hl
      · rw [upd_ne hb] at e; exact n.fh _ _ e
    · by_cases hb : b = p
      · subst hb; exact .inr hp
      · rw [upd_ne hb] at h; exact n.new b h
    · simp only [Rep]
      exact ⟨p, xs, rfl, upd_same, Reps.mono (Sm.upd fp) _ _ r⟩
theorem d_call {k n : Nat} {fa : Addr} {fd : FuncData} {ps : List Str} {g : List D → R D} {x : Str} {p1 : Pos} (Fn : FnOk X.prog X.w X.K X.mg X.base (L2.CX X.prog X.w) k fa fd ps (SpD X.mg C n g)) (hr : Room k X.A) (hg : Gl X x) (hm : X.mg x = some (.ref fa))
    (hk : PySem.W.keepIn X.K (.ref fa) = true) (hb : Binds X.K fd ps []) (hl : (e :: es).length = n) (tk : Takes X W) (ha : PA X (e :: es) (tA X.mg C W fs)) (hfl : ∀ ρ ds, fs ρ = .ok ds → ds.length = n) (hdb : (x == ("__debug__" : Str)) = false := by decide)
    (he : starEach (e :: es) X.env = (false, eval e X.env) :: starEach es X.env := by rfl) (hpl : (backTo pos (starEach es X.env)).any (·.1) = false := by rfl) :
    PE X (.Call (.Name x p1) (e :: es) [] pos) (tD X.mg C W (E.app g fs)) := PE.to (pe_callS Fn hr hg hm hk hb (fun σ => passAt tk σ) ha hdb he hpl) fun σ H Q x => by
  obtain ⟨F, ρ, s, ok, x⟩ := x
  refine ⟨F, ρ, s, ok, ?_⟩
  unfold E.app at x
  cases e1 : fs ρ with
  | bad => rw [e1] at x; exact x
  | exc c => rw [e1] at x; exact x
  | ok ds =>
    rw [e1, R.bind_ok] at x
    intro vs H1 F1 n1 r1
    refine ⟨by rw [r1.len]; exact hfl _ _ e1, F1, ds, n1.fh, r1, ?_⟩
    cases e2 : g ds with
    | bad => rw [e2] at x; exact x.elim
    | exc c => rw [e2] at x; exact fun a ha H' s' => x a ha H' (n1.hh.tr s')
    | ok d' =>
      rw [e2] at x
      exact fun v H' F' n2 r2 => x v H' F' (n1.tr n2) r2
theorem l_call {k n : Nat} {fa : Addr} {fd : FuncData} {ps : List Str} {g : List D → R (List D)} {x : Str} {p1 : Pos} (Fn : FnOk X.prog X.w X.K X.mg X.base (L2.CX X.prog X.w) k fa fd ps (SpL X.mg C n g)) (hr : Room k X.A) (hg : Gl X x) (hm : X.mg x = some (.ref fa))
    (hk : PySem.W.keepIn X.K (.ref fa) = true) (hb : Binds X.K fd ps []) (hl : (e :: es).length = n) (tk : Takes X W) (ha : PA X (e :: es) (tA X.mg C W fs)) (hfl : ∀ ρ ds, fs ρ = .ok ds → ds.length = n) (hdb : (x == ("__debug__" : Str)) = false := by decide)
    (he : starEach (e :: es) X.env = (false, eval e X.env) :: starEach es X.env := by rfl) (hpl : (backTo pos (starEach es X.env)).any (·.1) = false := by rfl) :
    PE X (.Call (.Name x p1) (e :: es) [] pos) (tL X.mg C W (E.appL g fs)) := PE.to (pe_callS Fn hr hg hm hk hb (fun σ => passAt tk σ) ha hdb he hpl) fun σ H Q x => by
  obtain ⟨F, ρ, s, ok, x⟩ := x
  refine ⟨F, ρ, s, ok, ?_⟩
  unfold E.appL at x
  cases e1 : fs ρ with
  | bad => rw [e1] at x; exact x
  | exc c => rw [e1] at x; exact x
  | ok ds =>
    rw [e1, R.bind_ok] at x
    intro vs H1 F1 n1 r1
    refine ⟨by rw [r1.len]; exact hfl _ _ e1, F1, ds, n1.fh, r1, ?_⟩
    cases e2 : g ds with
    | bad => rw [e2] at x; exact x.elim
    | exc c => rw [e2] at x; exact fun a ha H' s' => x a ha H' (n1.hh.tr s')
    | ok d' =>
      rw [e2] at x
      refine fun p ys H' F' n2 hp fp hl r2 => x p ys H' F' (n1.tr n2) ?_ fp hl r2
      cases e : H p with
      | none => exact Eq.refl none
      | some o => rw [n1.hh _ _ e] at hp; cases hp
theorem nil_len : ∀ (ρ : Ev) ds, E.nil ρ = .ok ds → ds.length = 0 := fun ρ ds h => by cases h; rfl
theorem cons_len {n : Nat} (hn : ∀ ρ ds, fs ρ = .ok ds → ds.length = n) : ∀ (ρ : Ev) ds, E.cons f fs ρ = .ok ds → ds.length = n + 1 := fun ρ ds h => by
  unfold E.cons at h
  cases e1 : f ρ with
  | bad => rw [e1] at h; cases h
  | exc c => rw [e1] at h; cases h
  | ok d =>
    rw [e1, R.bind_ok] at h
    cases e2 : fs ρ with
    | bad => rw [e2] at h; cases h
    | exc c => rw [e2] at h; cases h
    | ok ds' =>
      rw [e2] at h
      cases h
      simp [hn _ _ e2]
end
end TB
namespace TB
open PySem PySem.Spec PyProof.Rows L2

/-! ### what is walked -/
structure ItD (C : Addr) (J : It) (F0 : Hp) (ds : List D) : Prop where
  go : ∀ i H, Sm F0 H → i < ds.length → J.go i H
  stop : ∀ i H, Sm F0 H → ds.length = i → J.stop i H
  yld : ∀ i H F x H', Sm F0 F → Sm F H → J.yld i H x H' → i < ds.length → ∃ F' d, ds[i]? = some d ∧ Nx F H F' H' ∧ Rep C F' d x
theorem at_lt {α : Type} {l : List α} {i : Nat} (h : i < l.length) : ∃ x, l[i]? = some x := ⟨l[i], by simp [h]⟩
theorem itd_list {C : Addr} {K : PySem.W.Frag} {F0 : Hp} {a : Addr} {xs : List V} {ds : List D} (h : F0 a = some (.lst xs)) (r : Reps C F0 ds xs) : ItD C (Itl K a) F0 ds where
  go := fun i H s hi => by
    obtain ⟨x, e⟩ := at_lt (show i < xs.length by rw [r.len]; exact hi)
    exact ⟨xs, x, SqL.of (s _ _ h), e⟩
  stop := fun i H s hi0 => have hi := Nat.le_of_eq hi0; ⟨xs, SqL.of (s _ _ h), by rw [r.len]; exact hi⟩
  yld := fun i H F x H' s0 s y hi => by
    obtain ⟨rfl, y⟩ := y
    obtain ⟨d, e⟩ := at_lt hi
    obtain ⟨v, e2, r2⟩ := r.get e
    have e3 := y xs (SqL.of (s _ _ (s0 _ _ h)))
    rw [e2] at e3
    cases e3
    exact ⟨F, d, e, .rfl s, r2.mono s0⟩
theorem itd_tup {C : Addr} {K : PySem.W.Frag} {F0 : Hp} {a : Addr} {xs : List V} {ds : List D} (h : F0 a = some (.tup xs)) (r : Reps C F0 ds xs) : ItD C (Itt K a) F0 ds where
  go := fun i H s hi => by
    obtain ⟨x, e⟩ := at_lt (show i < xs.length by rw [r.len]; exact hi)
    exact ⟨xs, x, SqT.of (s _ _ h), e⟩
  stop := fun i H s hi0 => have hi := Nat.le_of_eq hi0; ⟨xs, SqT.of (s _ _ h), by rw [r.len]; exact hi⟩
  yld := fun i H F x H' s0 s y hi => by
    obtain ⟨rfl, y⟩ := y
    obtain ⟨d, e⟩ := at_lt hi
    obtain ⟨v, e2, r2⟩ := r.get e
    have e3 := y xs (SqT.of (s _ _ (s0 _ _ h)))
    rw [e2] at e3
    cases e3
    exact ⟨F, d, e, .rfl s, r2.mono s0⟩
theorem itd_scr {C : Addr} {K : PySem.W.Frag} {F0 : Hp} {a : Addr} {o : Obj} {ns : List Int} (h : F0 a = some (.frz o (.lst (ns.map V.int)))) : ItD C (Itl K a) F0 (ns.map .int) where
  go := fun i H s hi => by
    rw [List.length_map] at hi
    obtain ⟨x, e⟩ := at_lt (show i < (ns.map V.int).length by rw [List.length_map]; exact hi)
    exact ⟨_, x, .inl (.inr ⟨o, s _ _ h⟩), e⟩
  stop := fun i H s hi0 => have hi := Nat.le_of_eq hi0; ⟨_, .inl (.inr ⟨o, s _ _ h⟩), by rw [List.length_map] at hi ⊢; exact hi⟩
  yld := fun i H F x H' s0 s y hi => by
    obtain ⟨rfl, y⟩ := y
    rw [List.length_map] at hi
    obtain ⟨n, e⟩ := at_lt hi
    have e3 := y _ (.inl (.inr ⟨o, s _ _ (s0 _ _ h)⟩))
    rw [List.getElem?_map, e] at e3
    cases e3
    exact ⟨F, .int n, by rw [List.getElem?_map, e]; rfl, .rfl s, by simp only [Rep]⟩
/-- lo, lo + 1, .. -/
def upTo (lo : Int) (n : Nat) : List D := (List.range n).map fun (i : Nat) => .int (lo + i)
theorem itd_range {C : Addr} {F0 : Hp} {lo : Int} {n : Nat} : ItD C (Itr lo n) F0 (upTo lo n) where
  go := fun i H s hi => show i < n by simpa [upTo] using hi
  stop := fun i H s hi0 => have hi := Nat.le_of_eq hi0; show n ≤ i by simpa [upTo] using hi
  yld := fun i H F x H' s0 s y hi => by
    obtain ⟨rfl, rfl⟩ := y
    have hi' : i < n := by simpa [upTo] using hi
    exact ⟨F, .int (lo + i), by simp [upTo, hi'], .rfl s, by simp only [Rep]⟩
def upBy (lo c : Int) (n : Nat) : List D := (List.range n).map fun (i : Nat) => .int (lo + i * c)
theorem itd_rangeC {C : Addr} {F0 : Hp} {lo c : Int} {n : Nat} : ItD C (Itc lo c n) F0 (upBy lo c n) where
  go := fun i H s hi => show i < n by simpa [upBy] using hi
  stop := fun i H s hi0 => have hi := Nat.le_of_eq hi0; show n ≤ i by simpa [upBy] using hi
  yld := fun i H F x H' s0 s y hi => by
    obtain ⟨rfl, rfl⟩ := y
    have hi' : i < n := by simpa [upBy] using hi
    exact ⟨F, .int (lo + i * c), by simp [upBy, hi'], .rfl s, by simp only [Rep]⟩
/-- the signs of a text -/
def signs (x : Str) : List D := x.cps.toList.map fun c => .str ⟨#[c]⟩
theorem itd_str {C : Addr} {F0 : Hp} {x : Str} : ItD C (Its x) F0 (signs x) where
  go := fun i H s hi => show i < x.cps.size by simpa [signs] using hi
  stop := fun i H s hi0 => have hi := Nat.le_of_eq hi0; show x.cps.size ≤ i by simpa [signs] using hi
  yld := fun i H F v H' s0 s y hi => by
    obtain ⟨rfl, c, e, rfl⟩ := y
    refine ⟨F, .str ⟨#[c]⟩, ?_, .rfl s, by simp only [Rep]⟩
    simp [signs, e]
/-- pairs -/
def pairs : List D → List D → List D := List.zipWith fun a b => .tup [a, b]
theorem Rep.pair {C : Addr} {H : Hp} {p : Addr} {x y : D} {v u : V} (n : H p = none) (r : Rep C H x v) (t : Rep C H y u) : Rep C (upd H p (.tup [v, u])) (.tup [x, y]) (.ref p) := by
  simp only [Rep, Reps]
  exact ⟨p, _, rfl, upd_same, v, _, rfl, r.mono (Sm.upd n), u, _, rfl, t.mono (Sm.upd n), rfl⟩
theorem pairs_at {ds es : List D} {i : Nat} {d e : D} (h : ds[i]? = some d) (k : es[i]? = some e) : (pairs ds es)[i]? = some (.tup [d, e]) := by
  simp [pairs, List.getElem?_zipWith, h, k]
theorem itd_zip {C : Addr} {K : PySem.W.Frag} {F0 : Hp} {a b : Addr} {xs ys : List V} {ds es : List D} (h : F0 a = some (.lst xs)) (r : Reps C F0 ds xs) (k : F0 b = some (.lst ys)) (t : Reps C F0 es ys) : ItD C (Itz K a b) F0 (pairs ds es) where
  go := fun i H s hi => by
    have hi' : i < ds.length ∧ i < es.length := by simpa [pairs, Nat.lt_min] using hi
    obtain ⟨x, e⟩ := at_lt (show i < xs.length by rw [r.len]; exact hi'.1)
    obtain ⟨y, e'⟩ := at_lt (show i < ys.length by rw [t.len]; exact hi'.2)
    exact ⟨xs, ys, x, y, SqL.of (s _ _ h), SqL.of (s _ _ k), e, e'⟩
  stop := fun i H s hi0 => have hi := Nat.le_of_eq hi0; by
    refine ⟨xs, ys, SqL.of (s _ _ h), SqL.of (s _ _ k), ?_⟩
    rw [r.len, t.len]
    have : min ds.length es.length ≤ i := by simpa [pairs] using hi
    omega
  yld := fun i H F v H' s0 s y hi => by
    obtain ⟨T, x, y', rfl, nT, rfl, f1, f2⟩ := y
    have hi' : i < ds.length ∧ i < es.length := by simpa [pairs, Nat.lt_min] using hi
    obtain ⟨d, e1⟩ := at_lt hi'.1
    obtain ⟨e, e2⟩ := at_lt hi'.2
    obtain ⟨u, g1, r1⟩ := r.get e1
    obtain ⟨w, g2, r2⟩ := t.get e2
    have q1 := f1 xs (SqL.of (s _ _ (s0 _ _ h)))
    have q2 := f2 ys (SqL.of (s _ _ (s0 _ _ k)))
    rw [g1] at q1
    rw [g2] at q2
    cases q1
    cases q2
    exact ⟨_, _, pairs_at e1 e2, .add s nT, Rep.pair (s.non nT) (r1.mono s0) (r2.mono s0)⟩
/-- with their places -/
def numbered (ds : List D) : List D := pairs ((List.range ds.length).map fun (i : Nat) => .int i) ds
theorem itd_enum {C : Addr} {K : PySem.W.Frag} {F0 : Hp} {a : Addr} {xs : List V} {ds : List D} (h : F0 a = some (.lst xs)) (r : Reps C F0 ds xs) : ItD C (Ite K a) F0 (numbered ds) where
  go := fun i H s hi => by
    have hi' : i < ds.length := by simpa [numbered, pairs] using hi
    obtain ⟨x, e⟩ := at_lt (show i < xs.length by rw [r.len]; exact hi')
    exact ⟨xs, x, SqL.of (s _ _ h), e⟩
  stop := fun i H s hi0 => have hi := Nat.le_of_eq hi0; ⟨xs, SqL.of (s _ _ h), by rw [r.len]; simpa [numbered, pairs] using hi⟩
  yld := fun i H F v H' s0 s y hi => by
    obtain ⟨T, x, rfl, nT, rfl, f1⟩ := y
    have hi' : i < ds.length := by simpa [numbered, pairs] using hi
    obtain ⟨d, e1⟩ := at_lt hi'
    obtain ⟨u, g1, r1⟩ := r.get e1
    have q1 := f1 xs (SqL.of (s _ _ (s0 _ _ h)))
    rw [g1] at q1
    cases q1
    exact ⟨_, _, pairs_at (d := .int i) (by simp [hi']) e1, .add s nT, Rep.pair (s.non nT) (by simp only [Rep]) (r1.mono s0)⟩
theorem itd_rev {C : Addr} {K : PySem.W.Frag} {F0 : Hp} {a : Addr} {xs : List V} {ds : List D} (h : F0 a = some (.lst xs)) (r : Reps C F0 ds xs) : ItD C (Itv K a xs.length) F0 ds.reverse where
  go := fun i H s hi => by
    have hi' : i < xs.length := by rw [r.len]; simpa using hi
    obtain ⟨x, e⟩ := at_lt (show xs.length - 1 - i < xs.length by omega)
    exact ⟨hi', xs, x, SqL.of (s _ _ h), e⟩
  stop := fun i H s hi0 => have hi := Nat.le_of_eq hi0; by
    show xs.length ≤ i
    rw [r.len]
    simpa using hi
  yld := fun i H F v H' s0 s y hi => by
    obtain ⟨rfl, f1⟩ := y
    have hi' : i < ds.length := by simpa using hi
    obtain ⟨d, e1⟩ := at_lt (show ds.length - 1 - i < ds.length by omega)
    obtain ⟨u, g1, r1⟩ := r.get e1
    have q1 := f1 xs (SqL.of (s _ _ (s0 _ _ h)))
    rw [r.len, g1] at q1
    cases q1
    exact ⟨F, d, by rw [List.getElem?_reverse hi']; exact e1, .rfl s, r1.mono s0⟩

section
variable (mg : Str → Option Value) (C : Addr) (W : WX)
/-- what is walked: the items -/
def tI (f : Ev → R (List D)) : TI := fun σ H R => ∃ F ρ, Sm F H ∧ SlOk C F σ ρ ∧ match f ρ with
  | .ok ds => ∀ J H' F', Nx F H F' H' → ItD C J F' ds → R J H'
  | .exc c => Exc mg W c σ H
  | .bad => False
end
def dIter : D → R (List D)
  | .lst ds => .ok ds
  | .tup ds => .ok ds
  | .str x => .ok (signs x)
  | .scr ns => .ok (ns.map .int)
  | _ => .bad
namespace E
def iter (f : Ev → R D) : Ev → R (List D) := fun ρ => (f ρ).bind dIter
def iterA (g : List D → R (List D)) (f : Ev → R (List D)) : Ev → R (List D) := fun ρ => (f ρ).bind g
end E
section
variable {X : Cx} {mg : Str → Option Value} {C : Addr} {W : WX} {e a b c tg : Expr} {t : TE} {pos : Pos} {f h j : Ev → R D} {p q : Ev → R Bool} {es : List Expr} {fs : Ev → R (List D)}
theorem PI.to {wi wi' : TI} (h : PI X tg e wi) (k : ∀ σ H Q, wi' σ H Q → wi σ H Q) : PI X tg e wi' := ⟨fun pins s σ H Q I q => h.run pins s σ H Q I (k σ H Q q)⟩
theorem i_dyn (he : PE X e (tD mg C W f)) : PI X tg e (tI mg C W (E.iter f)) := by
  refine ⟨fun pins s σ H Q I x => ?_⟩
  obtain ⟨F, ρ, sm, ok, x⟩ := x
  unfold E.iter at x
  cases e1 : f ρ with
  | bad => rw [e1] at x; exact x.elim
  | exc c =>
    rw [e1] at x
    exact (pi_list he).run pins s σ H Q I ⟨F, ρ, sm, ok, by rw [e1]; exact x⟩
  | ok d =>
    rw [e1, R.bind_ok] at x
    cases d with
    | lst ds =>
      refine (pi_list he).run pins s σ H Q I ⟨F, ρ, sm, ok, ?_⟩
      rw [e1]
      intro v H' F' n r
      simp only [Rep] at r
      obtain ⟨a, xs, rfl, h1, r⟩ := r
      exact ⟨a, rfl, ⟨xs, SqL.of (n.fh _ _ h1)⟩, x _ H' F' n (itd_list h1 r)⟩
    | tup ds =>
      refine (pi_tup he).run pins s σ H Q I ⟨F, ρ, sm, ok, ?_⟩
      rw [e1]
      intro v H' F' n r
      simp only [Rep] at r
      obtain ⟨a, xs, rfl, h1, r⟩ := r
      exact ⟨a, rfl, ⟨xs, SqT.of (n.fh _ _ h1)⟩, x _ H' F' n (itd_tup h1 r)⟩
    | str y =>
      refine (pi_str he).run pins s σ H Q I ⟨F, ρ, sm, ok, ?_⟩
      rw [e1]
      intro v H' F' n r
      simp only [Rep] at r
      exact ⟨y, r, x _ H' F' n itd_str⟩
    | scr ns =>
      refine (pi_list he).run pins s σ H Q I ⟨F, ρ, sm, ok, ?_⟩
      rw [e1]
      intro v H' F' n r
      simp only [Rep] at r
      obtain ⟨a, o, rfl, h1⟩ := r
      exact ⟨a, rfl, ⟨_, .inl (.inr ⟨o, n.fh _ _ h1⟩)⟩, x _ H' F' n (itd_scr h1)⟩
    | _ => exact x.elim
theorem seqI {g : List D → R (List D)} {r : List V → Hp → (It → Hp → Prop) → Prop} (hr : ∀ xs F H vs Q, Sm F H → Reps C F xs vs → match g xs with
      | .ok ds => (∀ J, ItD C J F ds → Q J H) → r vs H Q
      | _ => True) (hc : ∀ x c, g x ≠ .exc c) {σ : L2.St} {H : Hp} {Q : It → Hp → Prop} (x : tI mg C W (E.iterA g fs) σ H Q) : tA mg C W fs σ H fun vs H1 => r vs H1 Q := by
  obtain ⟨F, ρ, s, ok, x⟩ := x
  refine ⟨F, ρ, s, ok, ?_⟩
  unfold E.iterA at x
  cases e1 : fs ρ with
  | bad => rw [e1] at x; exact x
  | exc c => rw [e1] at x; exact x
  | ok ds =>
    rw [e1, R.bind_ok] at x
    intro vs H1 F1 n1 r1
    have m := hr ds F1 H1 vs Q n1.fh r1
    cases e2 : g ds with
    | bad => rw [e2] at x; exact x.elim
    | exc c => exact (hc _ _ e2).elim
    | ok d' =>
      rw [e2] at m x
      exact m fun J it => x J H1 F1 n1 it
def dRange1 : List D → R (List D)
  | [.int n] => if -(2 ^ 62) ≤ n ∧ n < 2 ^ 62 then .ok (upTo 0 n.toNat) else .bad
  | _ => .bad
theorem i_range1 {p1 : Pos} (hg : Gl X "range") (hm : X.mg "range" = none) (ha : PA X [a] (tA mg C W fs)) (hs : starEach [a] X.env = [(false, eval a X.env)] := by rfl) : PI X tg (.Call (.Name "range" p1) [a] [] pos) (tI mg C W (E.iterA dRange1 fs)) :=
  PI.to (pi_range1 hg hm ha hs) fun σ H Q x => seqI (r := fun vs H1 R => ∃ j : Int, vs = [V.int j] ∧ -(2 ^ 62) ≤ j ∧ j < 2 ^ 62 ∧ R (Itr 0 j.toNat) H1) (fun xs F H vs Q s r => by
    unfold dRange1
    split
    · rename_i hl
      split at hl
      · split at hl
        · rename_i hz
          cases hl
          intro q
          obtain ⟨v, rfl, z⟩ := reps1 r
          simp only [Rep] at z
          exact ⟨_, by rw [z], hz.1, hz.2, q _ itd_range⟩
        · cases hl
      · cases hl
    · trivial) (fun x c => by unfold dRange1; split <;> (try split) <;> exact fun e => nomatch e) x
def dRange2 : List D → R (List D)
  | [.int m, .int n] => if -(2 ^ 62) ≤ m ∧ m < 2 ^ 62 ∧ -(2 ^ 62) ≤ n ∧ n < 2 ^ 62 then .ok (upTo m (n - m).toNat) else .bad
  | _ => .bad
theorem i_range2 {p1 : Pos} (hg : Gl X "range") (hm : X.mg "range" = none) (ha : PA X [a, b] (tA mg C W fs)) (hs : starEach [a, b] X.env = [(false, eval a X.env), (false, eval b X.env)] := by rfl) (hs2 : starEach [b] X.env = [(false, eval b X.env)] := by rfl) :
    PI X tg (.Call (.Name "range" p1) [a, b] [] pos) (tI mg C W (E.iterA dRange2 fs)) :=
  PI.to (pi_range2 hg hm ha hs hs2) fun σ H Q x => seqI (r := fun vs H1 R => ∃ i j : Int, vs = [V.int i, V.int j] ∧ (-(2 ^ 62) ≤ i ∧ i < 2 ^ 62 ∧ -(2 ^ 62) ≤ j ∧ j < 2 ^ 62) ∧ R (Itr i (j - i).toNat) H1) (fun xs F H vs Q s r => by
    unfold dRange2
    split
    · rename_i hl
      split at hl
      · split at hl
        · rename_i hz
          cases hl
          intro q
          obtain ⟨v, u, rfl, z1, z2⟩ := reps2 r
          simp only [Rep] at z1 z2
          exact ⟨_, _, by rw [z1, z2], hz, q _ itd_range⟩
        · cases hl
      · cases hl
    · trivial) (fun x c => by unfold dRange2; split <;> (try split) <;> exact fun e => nomatch e) x
def dEnum : List D → R (List D)
  | [.lst ds] => .ok (numbered ds)
  | _ => .bad
theorem i_enum {p1 tpos : Pos} {elts : List Expr} {kk : Nat} (hg : Gl X "enumerate") (hm : X.mg "enumerate" = none) (ha : PA X [a] (tA mg C W fs)) (hs : starEach [a] X.env = [(false, eval a X.env)] := by rfl) :
    PI X (.Tuple elts kk tpos) (.Call (.Name "enumerate" p1) [a] [] pos) (tI mg C W (E.iterA dEnum fs)) :=
  PI.to (pi_enum hg hm ha hs) fun σ H Q x => seqI (r := fun vs H1 R => ∃ a xs, vs = [V.ref a] ∧ SqL X.K H1 a xs ∧ R (Ite X.K a) H1) (fun xs F H vs Q s r => by
    unfold dEnum
    split
    · rename_i hl
      split at hl
      · cases hl
        intro q
        obtain ⟨v, rfl, z⟩ := reps1 r
        simp only [Rep] at z
        obtain ⟨a, ys, rfl, h, z⟩ := z
        exact ⟨a, ys, rfl, SqL.of (s _ _ h), q _ (itd_enum h z)⟩
      · cases hl
    · trivial) (fun x c => by unfold dEnum; split <;> (try split) <;> exact fun e => nomatch e) x
def dRev : List D → R (List D)
  | [.lst ds] => .ok ds.reverse
  | _ => .bad
theorem i_rev {p1 : Pos} (hg : Gl X "reversed") (hm : X.mg "reversed" = none) (ha : PA X [a] (tA mg C W fs)) (hs : starEach [a] X.env = [(false, eval a X.env)] := by rfl) : PI X tg (.Call (.Name "reversed" p1) [a] [] pos) (tI mg C W (E.iterA dRev fs)) :=
  PI.to (pi_reversed hg hm ha hs) fun σ H Q x => seqI (r := fun vs H1 R => ∃ (a : Addr) (xs : List V), vs = [V.ref a] ∧ SqL X.K H1 a xs ∧ R (Itv X.K a xs.length) H1) (fun xs F H vs Q s r => by
    unfold dRev
    split
    · rename_i hl
      split at hl
      · cases hl
        intro q
        obtain ⟨v, rfl, z⟩ := reps1 r
        simp only [Rep] at z
        obtain ⟨a, ys, rfl, h, z⟩ := z
        exact ⟨a, ys, rfl, SqL.of (s _ _ h), q _ (itd_rev h z)⟩
      · cases hl
    · trivial) (fun x c => by unfold dRev; split <;> (try split) <;> exact fun e => nomatch e) x
def dZipL : List D → R (List D)
  | [.lst ds, .lst es] => .ok (pairs ds es)
  | _ => .bad
theorem i_zipL {p1 tpos : Pos} {elts : List Expr} {kk : Nat} (hg : Gl X "zip") (hm : X.mg "zip" = none) (ha : PA X [a, b] (tA mg C W fs))
    (hs : starEach [a, b] X.env = (false, eval a X.env) :: starEach [b] X.env := by rfl) (hpl : (backTo pos (starEach [b] X.env)).any (·.1) = false := by rfl) :
    PI X (.Tuple elts kk tpos) (.Call (.Name "zip" p1) [a, b] [] pos) (tI mg C W (E.iterA dZipL fs)) :=
  PI.to (pi_zip hg hm ha hs hpl) fun σ H Q x => seqI (r := fun vs H1 R => ∃ a b xs ys, vs = [V.ref a, V.ref b] ∧ SqL X.K H1 a xs ∧ SqL X.K H1 b ys ∧ R (Itz X.K a b) H1) (fun xs F H vs Q s r => by
    unfold dZipL
    split
    · rename_i hl
      split at hl
      · cases hl
        intro q
        obtain ⟨v, u, rfl, z1, z2⟩ := reps2 r
        simp only [Rep] at z1 z2
        obtain ⟨a1, xs1, rfl, h1, z1⟩ := z1
        obtain ⟨a2, xs2, rfl, h2, z2⟩ := z2
        exact ⟨a1, a2, xs1, xs2, rfl, SqL.of (s _ _ h1), SqL.of (s _ _ h2), q _ (itd_zip h1 z1 h2 z2)⟩
      · cases hl
    · trivial) (fun x c => by unfold dZipL; split <;> (try split) <;> exact fun e => nomatch e) x
end
end TB
namespace TB
open PySem PySem.Spec PyProof.Rows L2

/-! ### targets -/
abbrev Pv (C : Addr) (F : Hp) : List (Nat × D) → List (Nat × V) → Prop := Paired fun p q => p.1 = q.1 ∧ Rep C F p.2 q.2
def setV : List (Nat × V) → L2.St → L2.St
  | [], σ => σ
  | p :: ps, σ => setV ps (σ.set p.1 (some p.2))
def setD : List (Nat × D) → Ev → Ev
  | [], ρ => ρ
  | p :: ps, ρ => setD ps (ρ.set p.1 (.sh p.2))
theorem Pv.mono {C : Addr} {F F' : Hp} (s : Sm F F') : ∀ {ps us}, Pv C F ps us → Pv C F' ps us
  | _, _, .nil => .nil
  | _, _, .cons r t => .cons ⟨r.1, r.2.mono s⟩ (Pv.mono s t)
theorem Pv.app {C : Addr} {F : Hp} : ∀ {ps us qs ws}, Pv C F ps us → Pv C F qs ws → Pv C F (ps ++ qs) (us ++ ws)
  | _, _, _, _, .nil, s => s
  | _, _, _, _, .cons r t, s => .cons r (Pv.app t s)
theorem setV_app : ∀ (us ws : List (Nat × V)) (σ : L2.St), setV (us ++ ws) σ = setV ws (setV us σ)
  | [], _, _ => rfl
  | u :: us, ws, σ => setV_app us ws _
theorem SlOk.set1 {C : Addr} {F : Hp} {σ : L2.St} {ρ : Ev} {i : Nat} {d : D} {v : V} (h : SlOk C F σ ρ) (r : Rep C F d v) : SlOk C F (σ.set i (some v)) (ρ.set i (.sh d)) := by
  refine ⟨by simpa using h.1, fun j e q => ?_⟩
  by_cases hj : i = j
  · subst hj
    have hl : i < ρ.length := by
      have := (List.getElem?_eq_some_iff.mp q).1
      simpa using this
    rw [List.getElem?_set_self hl] at q
    cases q
    exact ⟨v, List.getElem?_set_self (by rw [← h.1]; exact hl), r⟩
  · rw [List.getElem?_set_ne hj] at q ⊢
    exact h.2 j e q
theorem SlOk.sets {C : Addr} {F : Hp} : ∀ {ps us} {σ : L2.St} {ρ : Ev}, SlOk C F σ ρ → Pv C F ps us → SlOk C F (setV us σ) (setD ps ρ)
  | _, _, _, _, h, .nil => h
  | _, _, σ, ρ, h, .cons (a := p) (b := q) r t => by
    show SlOk C F (setV _ (σ.set q.1 (some q.2))) (setD _ (ρ.set p.1 (.sh p.2)))
    rw [← r.1]
    exact SlOk.sets (h.set1 r.2) t
section
variable (C : Addr)
def tG (g : D → R (List (Nat × D))) : TG := fun v σ H Q => ∃ F d, Sm F H ∧ Rep C F d v ∧ match g d with
  | .ok ps => ∀ us, Pv C F ps us → Q (setV us σ) H
  | _ => False
def tGs (g : List D → R (List (Nat × D))) : TGs := fun vs σ H Q => ∃ F ds, Sm F H ∧ Reps C F ds vs ∧ match g ds with
  | .ok ps => ∀ us, Pv C F ps us → Q (setV us σ) H
  | _ => False
end
namespace G
def one (i : Nat) : D → R (List (Nat × D)) := fun d => .ok [(i, d)]
def nil : List D → R (List (Nat × D))
  | [] => .ok []
  | _ => .bad
def cons (g : D → R (List (Nat × D))) (h : List D → R (List (Nat × D))) : List D → R (List (Nat × D))
  | d :: ds => (g d).bind fun ps => (h ds).bind fun qs => .ok (ps ++ qs)
  | [] => .bad
def tup (n : Nat) (h : List D → R (List (Nat × D))) : D → R (List (Nat × D))
  | .tup ds => if ds.length = n then h ds else .bad
  | _ => .bad
end G
section
variable {X : Cx} {mg : Str → Option Value} {C : Addr} {W : WX} {e a b c tg : Expr} {t : TE} {pos : Pos} {f h j : Ev → R D} {p q : Ev → R Bool} {es : List Expr} {fs : Ev → R (List D)} {g : D → R (List (Nat × D))} {gs : List D → R (List (Nat × D))}
theorem PG.to {t u : TG} (h : PG X e t) (k : ∀ v σ H Q, u v σ H Q → t v σ H Q) : PG X e u := ⟨fun pins s σ H v w Q I r q => h.run pins s σ H v w Q I r (k v σ H Q q)⟩
theorem PGs.to {t u : TGs} (h : PGs X es t) (k : ∀ v σ H Q, u v σ H Q → t v σ H Q) : PGs X es u := ⟨fun pins s σ H v w Q I r q => h.run pins s σ H v w Q I r (k v σ H Q q)⟩
theorem g_one {i : Nat} (hg : PG X e (gName i)) : PG X e (tG C (G.one i)) := PG.to hg fun v σ H Q x => by
  obtain ⟨F, d, s, r, x⟩ := x
  exact x [(i, v)] (.cons ⟨rfl, r⟩ .nil)
theorem g_nil : PGs X [] (tGs C G.nil) := PGs.to pgs_nil fun v σ H Q x => by
  obtain ⟨F, d, s, r, x⟩ := x
  cases d with
  | nil => simp only [Reps] at r; exact ⟨r, x [] .nil⟩
  | cons _ _ => exact x.elim
theorem g_cons (h1 : PG X e (tG C g)) (h2 : PGs X es (tGs C gs)) (hs : (assignEach (e :: es) X.env).map (·.2) = assign e X.env :: (assignEach es X.env).map (·.2) := by rfl) : PGs X (e :: es) (tGs C (G.cons g gs)) :=
  PGs.to (pgs_cons h1 h2 hs) fun v σ H Q x => by
    obtain ⟨F, ds, s, r, x⟩ := x
    cases ds with
    | nil => exact x.elim
    | cons d ds =>
      simp only [Reps] at r
      obtain ⟨u, w, rfl, r1, r2⟩ := r
      refine ⟨u, w, rfl, F, d, s, r1, ?_⟩
      unfold G.cons at x
      dsimp only at x
      cases e1 : g d with
      | bad => rw [e1] at x; exact x
      | exc c => rw [e1] at x; exact x
      | ok ps =>
        rw [e1, R.bind_ok] at x
        intro us pu
        refine ⟨F, ds, s, r2, ?_⟩
        cases e2 : gs ds with
        | bad => rw [e2] at x; exact x
        | exc c => rw [e2] at x; exact x
        | ok qs =>
          rw [e2, R.bind_ok] at x
          intro ws pw
          rw [← setV_app]
          exact x (us ++ ws) (pu.app pw)
theorem g_tup {k n : Nat} (hc : X.calm = true) (h : PGs X es (tGs C gs)) (hn : (assignEach es X.env).length = n := by rfl) (hst : (assignEach es X.env).findIdx? (·.1) = none := by rfl) : PG X (.Tuple es k pos) (tG C (G.tup n gs)) :=
  PG.to (pg_tup hc h hn hst) fun v σ H Q x => by
    obtain ⟨F, d, s, r, x⟩ := x
    cases d <;> try exact x.elim
    rename_i ds
    simp only [Rep] at r
    obtain ⟨a, xs, rfl, h1, r⟩ := r
    unfold G.tup at x
    dsimp only at x
    by_cases hl : ds.length = n
    · rw [if_pos hl] at x
      exact ⟨a, xs, rfl, SqT.of (s _ _ h1), by rw [r.len]; exact hl, F, ds, s, r, x⟩
    · rw [if_neg hl] at x
      exact x.elim

/-! ### comprehensions -/
/-- the slots vs forgotten -/
def wipeE (vs : List Nat) (ρ : Ev) : Ev := vs.foldr (fun v ρ => ρ.set v .no) ρ
theorem wipeE_len (vs : List Nat) (ρ : Ev) : (wipeE vs ρ).length = ρ.length := by
  induction vs with
  | nil => rfl
  | cons v vs ih => show ((wipeE vs ρ).set v .no).length = _; rw [List.length_set, ih]
theorem wipeE_at {ρ : Ev} {i : Nat} {s : Sl} (hs : s ≠ .no) : ∀ {vs : List Nat}, (wipeE vs ρ)[i]? = some s → ρ[i]? = some s ∧ i ∉ vs
  | [], h => ⟨h, by simp⟩
  | v :: vs, h => by
    have h : ((wipeE vs ρ).set v .no)[i]? = some s := h
    by_cases hi : v = i
    · subst hi
      by_cases hv : v < (wipeE vs ρ).length
      · rw [List.getElem?_set_self hv] at h; cases h; exact absurd rfl hs
      · rw [List.getElem?_eq_none (by simpa using hv)] at h; cases h
    · rw [List.getElem?_set_ne hi] at h
      obtain ⟨h1, h2⟩ := wipeE_at hs h
      exact ⟨h1, by simp only [List.mem_cons, not_or]; exact ⟨fun e => hi e.symm, h2⟩⟩
theorem wipe_get {σ : L2.St} : ∀ (vs : List Nat) (i : Nat), (wipe σ vs)[i]? = if i ∈ vs then σ[i]?.map (fun _ => none) else σ[i]?
  | [], i => by simp [wipe]
  | v :: vs, i => by
    unfold wipe
    have ih := wipe_get (σ := σ) vs i
    by_cases hi : v = i
    · subst hi
      rw [if_pos (by simp)]
      by_cases hv : v < σ.length
      · rw [List.getElem?_set_self (by rw [wipe_length]; exact hv), List.getElem?_eq_getElem hv]; rfl
      · rw [List.getElem?_eq_none (by simpa [wipe_length] using hv), List.getElem?_eq_none (by simpa using hv)]; rfl
    · rw [List.getElem?_set_ne hi, ih]
      have : (i ∈ v :: vs) ↔ i ∈ vs := by simp [Ne.symm hi]
      simp only [this]
theorem SlOk.wipe {C : Addr} {F : Hp} {σ : L2.St} {ρ : Ev} (h : SlOk C F σ ρ) (vs : List Nat) : SlOk C F (L2.wipe σ vs) (wipeE vs ρ) := by
  refine ⟨by rw [wipeE_len, wipe_length]; exact h.1, fun i d e => ?_⟩
  obtain ⟨e1, e2⟩ := wipeE_at (s := .sh d) (fun z => nomatch z) e
  obtain ⟨v, e3, r⟩ := h.2 i d e1
  exact ⟨v, by rw [wipe_get, if_neg e2]; exact e3, r⟩
theorem setV_get : ∀ (us : List (Nat × V)) (σ : L2.St) (i : Nat), i ∉ us.map (·.1) → (setV us σ)[i]? = σ[i]?
  | [], _, _, _ => rfl
  | u :: us, σ, i, h => by
    simp only [List.map_cons, List.mem_cons, not_or] at h
    show (setV us (σ.set u.1 (some u.2)))[i]? = _
    rw [setV_get us _ i h.2, List.getElem?_set_ne (Ne.symm h.1)]
theorem setV_len : ∀ (us : List (Nat × V)) (σ : L2.St), (setV us σ).length = σ.length
  | [], _ => rfl
  | u :: us, σ => by
    show (setV us (σ.set u.1 (some u.2))).length = _
    rw [setV_len us, List.length_set]
theorem wipe_setV {us : List (Nat × V)} {σ : L2.St} {vs : List Nat} (h : ∀ i ∈ us.map (·.1), i ∈ vs) : L2.wipe (setV us (L2.wipe σ vs)) vs = L2.wipe σ vs := by
  apply List.ext_getElem?
  intro i
  rw [wipe_get, wipe_get]
  by_cases hi : i ∈ vs
  · rw [if_pos hi, if_pos hi]
    by_cases hl : i < σ.length
    · have h1 : i < (setV us (L2.wipe σ vs)).length := by rw [setV_len, wipe_length]; exact hl
      rw [List.getElem?_eq_getElem h1, List.getElem?_eq_getElem hl]
      try rfl
    · have h1 : (setV us (L2.wipe σ vs))[i]? = none := List.getElem?_eq_none (by rw [setV_len, wipe_length]; omega)
      have h2 : σ[i]? = none := List.getElem?_eq_none (by omega)
      rw [h1, h2]
      try rfl
  · rw [if_neg hi, if_neg hi, setV_get _ _ _ (fun z => hi (h i z)), wipe_get, if_neg hi]
theorem Pv.fst {C : Addr} {F : Hp} : ∀ {ps us}, Pv C F ps us → us.map (·.1) = ps.map (·.1)
  | _, _, .nil => rfl
  | _, _, .cons r t => by rw [List.map_cons, List.map_cons, Pv.fst t, r.1]
/-- the items that a comprehension makes -/
def compF (g : D → R (List (Nat × D))) (tt : Ev → R Bool) (te : Ev → R D) (ρ : Ev) : List D → R (List D)
  | [] => .ok []
  | d :: ds => match g d with
    | .ok ps => match tt (setD ps ρ) with
      | .ok true => match te (setD ps ρ) with
        | .ok y => (compF g tt te ρ ds).map (y :: ·)
        | _ => .bad
      | .ok false => compF g tt te ρ ds
      | _ => .bad
    | _ => .bad
def W0 : WX := fun _ _ _ _ => False
def yes : Ev → R Bool := fun _ => .ok true
namespace E
def comp (vs : List Nat) (fi : Ev → R (List D)) (g : D → R (List (Nat × D))) (tt : Ev → R Bool) (te : Ev → R D) : Ev → R (List D) := fun ρ => (fi ρ).bind fun ds =>
  if ds.length ≤ LINE then compF g tt te (wipeE vs ρ) ds else .bad
end E
theorem compF_calm {g : D → R (List (Nat × D))} {tt : Ev → R Bool} {te : Ev → R D} {ρ : Ev} {c : Str} : ∀ ds, compF g tt te ρ ds ≠ .exc c
  | [], h => nomatch h
  | d :: ds, h => by
    unfold compF at h
    split at h
    · split at h
      · split at h
        · cases e : compF g tt te ρ ds with
          | ok r => rw [e] at h; cases h
          | bad => rw [e] at h; cases h
          | exc c' => exact compF_calm ds e
        · cases h
      · exact compF_calm ds h
      · cases h
    · cases h
theorem seqLc {wi : Ev → R (List D)} {tt : Ev → R Bool} {te : Ev → R D} {vs : List Nat} (hsub : ∀ d ps, g d = .ok ps → ∀ i ∈ ps.map (·.1), i ∈ vs) {σ : L2.St} {H : Hp} {Q : VK} (x : tL mg C W (E.comp vs wi g tt te) σ H Q) :
    tLc (tI mg C W wi) (tG C g) (tB mg C W0 tt) (tD mg C W0 te) vs σ H Q := by
  obtain ⟨F, ρ, s, ok, x⟩ := x
  unfold tLc
  refine ⟨F, ρ, s, ok, ?_⟩
  unfold E.comp at x
  cases e1 : wi ρ with
  | bad => rw [e1] at x; exact x
  | exc c => rw [e1] at x; exact x
  | ok ds =>
    rw [e1, R.bind_ok] at x
    by_cases hz : ds.length ≤ LINE
    · rw [if_pos hz] at x
      cases e2 : compF g tt te (wipeE vs ρ) ds with
      | bad => rw [e2] at x; exact x.elim
      | exc c => exact (compF_calm _ e2).elim
      | ok tot =>
        rw [e2] at x
        intro J H1 F1 n1 it Dd hD
        refine ⟨fun i m H => m = ds.length - i ∧ i ≤ ds.length ∧ ∃ Fi acc av rest, Nx F1 H1 Fi H ∧ Fi Dd = none ∧ H Dd = some (.lst av) ∧ Reps C Fi acc av ∧ acc.length ≤ i ∧ compF g tt te (wipeE vs ρ) (ds.drop i) = .ok rest ∧ tot = acc ++ rest,
          ⟨ds.length, by simp, Nat.zero_le _, F1, [], [], tot, .hid n1.fh hD, n1.fh.non hD, upd_same, by simp only [Reps], Nat.le_refl _, e2, rfl⟩, ?_⟩
        rintro i m H' ⟨rfl, hi, Fi, acc, av, rest, ni, fd, hl, ra, la, er, et⟩
        by_cases hlt : i < ds.length
        · refine .inr ⟨it.go i H' (ni.ff.tr ni.fh) hlt, fun H'' => ∃ Fi acc av rest, Nx F1 H1 Fi H'' ∧ Fi Dd = none ∧ H'' Dd = some (.lst av) ∧ Reps C Fi acc av ∧ acc.length ≤ i + 1 ∧ compF g tt te (wipeE vs ρ) (ds.drop (i + 1)) = .ok rest ∧ tot = acc ++ rest,
            fun H'' w => ⟨ds.length - (i + 1), by omega, rfl, hlt, w⟩, fun v H2 y => ?_⟩
          obtain ⟨F2, d, ed, n2, rd⟩ := it.yld i H' Fi v H2 ni.ff ni.fh y hlt
          rw [show ds.drop i = d :: ds.drop (i + 1) by
            rw [List.drop_eq_getElem_cons hlt]
            congr
            rw [List.getElem?_eq_getElem hlt] at ed
            exact Option.some.inj ed] at er
          have hd2 : H2 Dd = some (.lst av) := n2.hh _ _ hl
          have f2d : F2 Dd = none := by
            cases e : F2 Dd with
            | none => rfl
            | some o =>
              rcases n2.new Dd (by rw [e]; exact fun z => nomatch z) with z | z
              · exact absurd fd z
              · rw [hl] at z; cases z
          refine ⟨F2, d, n2.fh, rd, ?_⟩
          unfold compF at er
          cases eg : g d with
          | bad => rw [eg] at er; cases er
          | exc c => rw [eg] at er; cases er
          | ok ps =>
            rw [eg] at er
            dsimp only at er
            intro us pu
            refine ⟨wipe_setV fun i hi => hsub d ps eg i (by rw [← pu.fst]; exact hi), ?_⟩
            have ok2 : SlOk C F2 (setV us (L2.wipe σ vs)) (setD ps (wipeE vs ρ)) := ((ok.mono (n1.ff.tr (ni.ff.tr n2.ff))).wipe vs).sets pu
            refine ⟨F2, setD ps (wipeE vs ρ), n2.fh, ok2, ?_⟩
            cases ett : tt (setD ps (wipeE vs ρ)) with
            | bad => rw [ett] at er; cases er
            | exc c => rw [ett] at er; cases er
            | ok b =>
              rw [ett] at er
              intro H3 s3
              have n3 : Nx F1 H1 F2 H3 := (ni.tr n2).tr ⟨Sm.rfl, s3, n2.fh.tr s3, fun a h => .inl h⟩
              cases b with
              | false =>
                dsimp only at er
                rw [if_neg Bool.false_ne_true]
                exact ⟨F2, acc, av, rest, n3, f2d, s3 _ _ hd2, Reps.mono n2.ff _ _ ra, by omega, er, et⟩
              | true =>
                dsimp only at er
                rw [if_pos rfl]
                refine ⟨F2, setD ps (wipeE vs ρ), n2.fh.tr s3, ok2, ?_⟩
                cases ee : te (setD ps (wipeE vs ρ)) with
                | bad => rw [ee] at er; cases er
                | exc c => rw [ee] at er; cases er
                | ok y =>
                  rw [ee] at er
                  dsimp only at er
                  cases ec : compF g tt te (wipeE vs ρ) (ds.drop (i + 1)) with
                  | bad => rw [ec] at er; cases er
                  | exc c => rw [ec] at er; cases er
                  | ok r2 =>
                    rw [ec, R.map_ok] at er
                    cases er
                    intro v4 H4 F4 n4 r4
                    have hd4 : H4 Dd = some (.lst av) := n4.hh _ _ (s3 _ _ hd2)
                    have f4d : F4 Dd = none := by
                      cases e : F4 Dd with
                      | none => rfl
                      | some o =>
                        rcases n4.new Dd (by rw [e]; exact fun z => nomatch z) with z | z
                        · exact absurd f2d z
                        · rw [s3 _ _ hd2] at z; cases z
                    have n14 := n3.tr n4
                    refine ⟨av, hd4, line_lt (by rw [ra.len]; omega), F4, acc ++ [y], av ++ [v4], r2, ⟨n14.ff, fun b o e => ?_, fun b o e => ?_, n14.new⟩, f4d, upd_same, (Reps.mono (n2.ff.tr n4.ff) _ _ ra).app (Reps.one r4), by simp; omega, rfl, by rw [et]; simp⟩
                    · rw [upd_ne (ne_of_none e hD)]; exact n14.hh _ _ e
                    · rw [upd_ne (ne_of_none e f4d)]; exact n14.fh _ _ e
        · have ei : i = ds.length := by omega
          subst ei
          refine .inl ⟨it.stop _ H' (ni.ff.tr ni.fh) rfl, ?_⟩
          rw [List.drop_length] at er
          cases er
          rw [List.append_nil] at et
          subst et
          exact x Dd av H' Fi (n1.tr ni) (by
            cases e : H Dd with
            | none => exact Eq.refl none
            | some o => rw [n1.hh _ _ e] at hD; cases hD) fd hl ra
    · rw [if_neg hz] at x
      exact x.elim
theorem l_comp {iter : Expr} {ifs : List Expr} {scope : Scope} {own : List (Str × Nat)} {wi : Ev → R (List D)} {tt : Ev → R Bool} {te : Ev → R D} (hc : X.calm = true) (hN : X.N.Nodup) (hi : PI X tg iter (tI mg C W wi)) (ok : BlkOk X.N X.env.scope scope own)
    (hg : ∀ (s : Shared) (H : Hp) (Ca : Addr) (cl : List (Str × Addr)) (fp : List Addr), PG (X.blk s H scope (compEnvC scope cl Ca X.env) fp) tg (tG C g)) (hsub : ∀ d ps, g d = .ok ps → ∀ i ∈ ps.map (·.1), i ∈ own.map (·.2))
    (ht : ∀ (s : Shared) (H : Hp) (Ca : Addr) (cl : List (Str × Addr)) (fp : List Addr), PTs (X.blk s H scope (compEnvC scope cl Ca X.env) fp) ifs (tB mg C W0 tt))
    (he : ∀ (s : Shared) (H : Hp) (Ca : Addr) (cl : List (Str × Addr)) (fp : List Addr), PE (X.blk s H scope (compEnvC scope cl Ca X.env) fp) a (tD mg C W0 te)) (hs : ∀ x, foldedSetIterable iter X.env x = pure x := by intro _; rfl) :
    PE X (.ListComp a [⟨tg, iter, ifs, 0⟩] scope pos) (tL mg C W (E.comp (own.map (·.2)) wi g tt te)) :=
  PE.to (pe_lc hc hN hi ok hg ht he hs) fun σ H Q x => seqLc hsub x
theorem t_nil : PTs X [] (tB mg C W0 yes) := by
  refine ⟨fun pins s σ H Q I x => ?_⟩
  obtain ⟨F, ρ, sm, ok, x⟩ := x
  exact wpAny_tests_nil ⟨H, I, x H Sm.rfl⟩
theorem t_one (hc : PT X c (tB mg C W0 p)) : PTs X [c] (tB mg C W0 p) := pts_one hc
theorem sub_one {i : Nat} {vs : List Nat} (h : i ∈ vs) : ∀ d ps, G.one i d = .ok ps → ∀ j ∈ ps.map (·.1), j ∈ vs := fun d ps e j hj => by
  cases e
  simp at hj
  rw [hj]
  exact h
theorem sub_two {i k : Nat} {vs : List Nat} (h : i ∈ vs) (h2 : k ∈ vs) : ∀ d ps, G.tup 2 (G.cons (G.one i) (G.cons (G.one k) G.nil)) d = .ok ps → ∀ j ∈ ps.map (·.1), j ∈ vs := fun d ps e j hj => by
  cases d <;> simp only [G.tup] at e <;> try cases e
  rename_i ds
  split at e
  · rename_i hl
    match ds, hl with
    | [x, y], _ =>
      simp [G.cons, G.one, G.nil] at e
      subst e
      simp at hj
      rcases hj with rfl | rfl
      · exact h
      · exact h2
  · cases e
end
end TB
namespace TB
open PySem PySem.Spec PyProof.Rows L2
open Classical

/-- what a block comes to: on with the slots, an answer, a list of its own handed over, a refusal, nothing known -/
inductive Out where
  | nx (ρ : Ev) | rt (d : D) | ro (ds : List D) | ex (c : Str) (ρ : Ev) | bad

/-- the state of a body: B is the heap at its start, Fc what was known, F what is known by now -/
structure SO (C : Addr) (B Fc F : Hp) (σ : L2.St) (H : Hp) (ρ : Ev) : Prop where
  bh : Sm B H
  cf : Sm Fc F
  fh : Sm F H
  new : ∀ a, F a ≠ none → Fc a ≠ none ∨ B a = none
  sh : SlOk C F σ ρ
  own : ∀ (i : Nat) (ds : List D), ρ[i]? = some (.own ds) → ∃ p xs, σ[i]? = some (some (.ref p)) ∧ H p = some (.lst xs) ∧ F p = none ∧ B p = none ∧ Reps C F ds xs
  dis : ∀ (i j : Nat) (ds es : List D) (p : Addr), ρ[i]? = some (.own ds) → ρ[j]? = some (.own es) → σ[i]? = some (some (.ref p)) → σ[j]? = some (some (.ref p)) → i = j

section
variable {C : Addr} {B Fc F : Hp} {σ : L2.St} {H : Hp} {ρ : Ev}
/-- the heap grows -/
theorem SO.grow {F' H' : Hp} (S : SO C B Fc F σ H ρ) (n : Nx F H F' H') : SO C B Fc F' σ H' ρ where
  bh := S.bh.tr n.hh
  cf := S.cf.tr n.ff
  fh := n.fh
  new := fun a h => by
    rcases n.new a h with z | z
    · exact S.new a z
    · refine .inr ?_
      cases e : B a with
      | none => rfl
      | some o => rw [S.bh _ _ e] at z; cases z
  sh := S.sh.mono n.ff
  own := fun i ds e => by
    obtain ⟨p, xs, h1, h2, h3, h4, h5⟩ := S.own i ds e
    refine ⟨p, xs, h1, n.hh _ _ h2, ?_, h4, Reps.mono n.ff _ _ h5⟩
    cases e : F' p with
    | none => rfl
    | some o =>
      rcases n.new p (by rw [e]; exact fun z => nomatch z) with z | z
      · exact absurd h3 z
      · rw [h2] at z; cases z
  dis := S.dis
/-- .. and what is known of it does not -/
theorem SO.only {H' : Hp} (S : SO C B Fc F σ H ρ) (s : Sm H H') : SO C B Fc F σ H' ρ := S.grow ⟨Sm.rfl, s, S.fh.tr s, fun a h => .inl h⟩
/-- forget -/
theorem SO.weak {ρ' : Ev} (S : SO C B Fc F σ H ρ) (hl : ρ'.length = ρ.length) (w : ∀ (i : Nat) (s : Sl), s ≠ .no → ρ'[i]? = some s → ρ[i]? = some s) : SO C B Fc F σ H ρ' where
  bh := S.bh
  cf := S.cf
  fh := S.fh
  new := S.new
  sh := ⟨hl.trans S.sh.1, fun i d e => S.sh.2 i d (w i _ (fun z => nomatch z) e)⟩
  own := fun i ds e => S.own i ds (w i _ (fun z => nomatch z) e)
  dis := fun i j ds es p e1 e2 => S.dis i j ds es p (w i _ (fun z => nomatch z) e1) (w j _ (fun z => nomatch z) e2)
theorem SO.wipe (S : SO C B Fc F σ H ρ) (vs : List Nat) : SO C B Fc F σ H (wipeE vs ρ) := S.weak (wipeE_len vs ρ) fun i s hs e => (wipeE_at hs e).1
/-- a slot is set -/
theorem SO.set {i : Nat} {d : D} {v : V} (S : SO C B Fc F σ H ρ) (r : Rep C F d v) : SO C B Fc F (σ.set i (some v)) H (ρ.set i (.sh d)) where
  bh := S.bh
  cf := S.cf
  fh := S.fh
  new := S.new
  sh := S.sh.set1 r
  own := fun j ds e => by
    by_cases hj : i = j
    · subst hj
      have hl : i < ρ.length := by simpa using (List.getElem?_eq_some_iff.mp e).1
      rw [List.getElem?_set_self hl] at e
      cases e
    · rw [List.getElem?_set_ne hj] at e ⊢
      exact S.own j ds e
  dis := fun j k ds es p e1 e2 g1 g2 => by
    by_cases hj : i = j
    · subst hj
      have hl : i < ρ.length := by simpa using (List.getElem?_eq_some_iff.mp e1).1
      rw [List.getElem?_set_self hl] at e1
      cases e1
    · by_cases hk : i = k
      · subst hk
        have hl : i < ρ.length := by simpa using (List.getElem?_eq_some_iff.mp e2).1
        rw [List.getElem?_set_self hl] at e2
        cases e2
      · rw [List.getElem?_set_ne hj] at e1 g1
        rw [List.getElem?_set_ne hk] at e2 g2
        exact S.dis j k ds es p e1 e2 g1 g2
theorem SO.sets : ∀ {ps us} {σ : L2.St} {ρ : Ev}, SO C B Fc F σ H ρ → Pv C F ps us → SO C B Fc F (setV us σ) H (setD ps ρ)
  | _, _, _, _, S, .nil => S
  | _, _, σ, ρ, S, .cons (a := p) (b := q) r t => by
    show SO C B Fc F (setV _ (σ.set q.1 (some q.2))) H (setD _ (ρ.set p.1 (.sh p.2)))
    rw [← r.1]
    exact SO.sets (S.set r.2) t
/-- a new list of one's own -/
theorem SO.setO {i : Nat} {ds : List D} {p : Addr} {xs : List V} (S : SO C B Fc F σ H ρ) (hp : H p = some (.lst xs)) (fp : F p = none) (bp : B p = none) (no : ∀ (j : Nat) (es : List D), ρ[j]? = some (.own es) → σ[j]? ≠ some (some (.ref p))) (r : Reps C F ds xs) :
    SO C B Fc F (σ.set i (some (.ref p))) H (ρ.set i (.own ds)) where
  bh := S.bh
  cf := S.cf
  fh := S.fh
  new := S.new
  sh := by
    refine ⟨by simpa using S.sh.1, fun j d e => ?_⟩
    by_cases hj : i = j
    · subst hj
      have hl : i < ρ.length := by simpa using (List.getElem?_eq_some_iff.mp e).1
      rw [List.getElem?_set_self hl] at e
      cases e
    · rw [List.getElem?_set_ne hj] at e ⊢
      exact S.sh.2 j d e
  own := fun j es e => by
    by_cases hj : i = j
    · subst hj
      have hl : i < ρ.length := by simpa using (List.getElem?_eq_some_iff.mp e).1
      rw [List.getElem?_set_self hl] at e
      cases e
      exact ⟨p, xs, List.getElem?_set_self (by rw [← S.sh.1]; exact hl), hp, fp, bp, r⟩
    · rw [List.getElem?_set_ne hj] at e ⊢
      exact S.own j es e
  dis := fun j k es gs q e1 e2 g1 g2 => by
    by_cases hj : i = j
    · subst hj
      have hl : i < ρ.length := by simpa using (List.getElem?_eq_some_iff.mp e1).1
      rw [List.getElem?_set_self (by rw [← S.sh.1]; exact hl)] at g1
      cases g1
      by_cases hk : i = k
      · exact hk
      · rw [List.getElem?_set_ne hk] at e2 g2
        exact absurd g2 (no k gs e2)
    · rw [List.getElem?_set_ne hj] at e1 g1
      by_cases hk : i = k
      · subst hk
        have hl : i < ρ.length := by simpa using (List.getElem?_eq_some_iff.mp e2).1
        rw [List.getElem?_set_self (by rw [← S.sh.1]; exact hl)] at g2
        cases g2
        exact absurd g1 (no j es e1)
      · rw [List.getElem?_set_ne hk] at e2 g2
        exact S.dis j k es gs q e1 e2 g1 g2
/-- a list of one's own is changed -/
theorem SO.chg {i : Nat} {ds es : List D} {p : Addr} {ys : List V} (S : SO C B Fc F σ H ρ) (e : ρ[i]? = some (.own ds)) (hs : σ[i]? = some (some (.ref p))) (r : Reps C F es ys) : SO C B Fc F σ (upd H p (.lst ys)) (ρ.set i (.own es)) := by
  obtain ⟨p', xs, h1, h2, h3, h4, h5⟩ := S.own i ds e
  rw [hs] at h1
  cases h1
  have hi : i < ρ.length := (List.getElem?_eq_some_iff.mp e).1
  refine ⟨fun b o q => ?_, S.cf, fun b o q => ?_, S.new, ⟨by simpa using S.sh.1, fun j d q => ?_⟩, fun j gs q => ?_, fun j k gs ks q e1 e2 g1 g2 => ?_⟩
  · rw [upd_ne (ne_of_none q h4)]; exact S.bh _ _ q
  · rw [upd_ne (ne_of_none q h3)]; exact S.fh _ _ q
  · by_cases hj : i = j
    · subst hj; rw [List.getElem?_set_self hi] at q; cases q
    · rw [List.getElem?_set_ne hj] at q; exact S.sh.2 j d q
  · by_cases hj : i = j
    · subst hj
      rw [List.getElem?_set_self hi] at q
      cases q
      exact ⟨p, ys, hs, upd_same, h3, h4, r⟩
    · rw [List.getElem?_set_ne hj] at q
      obtain ⟨p', xs', g1, g2, g3, g4, g5⟩ := S.own j gs q
      refine ⟨p', xs', g1, ?_, g3, g4, g5⟩
      rw [upd_ne]
      · exact g2
      · rintro rfl
        exact hj (S.dis i j ds gs p' e q hs g1)
  · have look : ∀ (l : Nat) (zs : List D), (ρ.set i (.own es))[l]? = some (.own zs) → ∃ zs', ρ[l]? = some (.own zs') := fun l zs h => by
      by_cases hl : i = l
      · subst hl; exact ⟨ds, e⟩
      · rw [List.getElem?_set_ne hl] at h; exact ⟨zs, h⟩
    obtain ⟨z1, q1⟩ := look j gs e1
    obtain ⟨z2, q2⟩ := look k ks e2
    exact S.dis j k z1 z2 q q1 q2 g1 g2
/-- all lists of one's own looked at -/
abbrev full (ρ : Ev) : Ev := ρ.map Sl.fz
theorem full_at {i : Nat} {d : D} (h : (full ρ)[i]? = some (.sh d)) : ρ[i]? = some (.sh d) ∨ ∃ ds, d = .lst ds ∧ ρ[i]? = some (.own ds) := by
  unfold full at h
  rw [List.getElem?_map] at h
  cases e : ρ[i]? with
  | none => rw [e] at h; cases h
  | some s =>
    rw [e] at h
    cases s with
    | no => cases h
    | sh d' => cases h; exact .inl rfl
    | own ds => cases h; exact .inr ⟨ds, rfl, rfl⟩
theorem SO.full (S : SO C B Fc F σ H ρ) : ∃ F', SO C B Fc F' σ H (full ρ) ∧ Sm F F' := by
  let own (a : Addr) : Prop := ∃ (i : Nat) (ds : List D), ρ[i]? = some (.own ds) ∧ σ[i]? = some (some (.ref a))
  let F' : Hp := fun a => if F a ≠ none ∨ own a then H a else none
  have ff : Sm F F' := fun b o e => by
    show (if F b ≠ none ∨ own b then H b else none) = some o
    rw [if_pos (.inl (by rw [e]; exact fun z => nomatch z))]
    exact S.fh _ _ e
  have fh : Sm F' H := fun b o e => by
    have e : (if F b ≠ none ∨ own b then H b else none) = some o := e
    by_cases h : F b ≠ none ∨ own b
    · rw [if_pos h] at e; exact e
    · rw [if_neg h] at e; cases e
  refine ⟨F', ⟨S.bh, S.cf.tr ff, fh, fun a h => ?_, ⟨by simpa [TB.full] using S.sh.1, fun i d e => ?_⟩, fun i ds e => ?_, fun i j ds es p e => ?_⟩, ff⟩
  · have h : (if F a ≠ none ∨ own a then H a else none) ≠ none := h
    by_cases q : F a ≠ none ∨ own a
    · rcases q with q | ⟨i, ds, e1, e2⟩
      · exact S.new a q
      · obtain ⟨p, xs, h1, h2, h3, h4, h5⟩ := S.own i ds e1
        rw [e2] at h1
        cases h1
        exact .inr h4
    · rw [if_neg q] at h; exact absurd rfl h
  · rcases full_at e with e0 | ⟨ds, rfl, e0⟩
    · obtain ⟨v, h1, r⟩ := S.sh.2 i d e0
      exact ⟨v, h1, r.mono ff⟩
    · obtain ⟨p, xs, h1, h2, h3, h4, h5⟩ := S.own i ds e0
      refine ⟨.ref p, h1, ?_⟩
      simp only [Rep]
      refine ⟨p, xs, rfl, ?_, Reps.mono ff _ _ h5⟩
      show (if F p ≠ none ∨ own p then H p else none) = some (.lst xs)
      rw [if_pos (.inr ⟨i, ds, e0, h1⟩)]
      exact h2
  · unfold TB.full at e
    rw [List.getElem?_map] at e
    cases q : ρ[i]? with
    | none => rw [q] at e; cases e
    | some s => rw [q] at e; cases s <;> cases e
  · unfold TB.full at e
    rw [List.getElem?_map] at e
    cases q : ρ[i]? with
    | none => rw [q] at e; cases e
    | some s => rw [q] at e; cases s <;> cases e
/-- one list of one's own is from here on a value -/
def frz (i : Nat) (ρ : Ev) : Ev := match ρ[i]? with
  | some (.own ds) => ρ.set i (.sh (.lst ds))
  | _ => ρ
theorem SO.frz (S : SO C B Fc F σ H ρ) (i : Nat) : ∃ F', SO C B Fc F' σ H (frz i ρ) ∧ Sm F F' := by
  unfold TB.frz
  split
  · rename_i ds e
    obtain ⟨p, xs, h1, h2, h3, h4, h5⟩ := S.own i ds e
    have hi : i < ρ.length := (List.getElem?_eq_some_iff.mp e).1
    have ff : Sm F (upd F p (.lst xs)) := Sm.upd h3
    refine ⟨upd F p (.lst xs), ⟨S.bh, S.cf.tr ff, fun b o q => ?_, fun a q => ?_, ⟨by simpa using S.sh.1, fun j d q => ?_⟩, fun j gs q => ?_, fun j k gs ks q e1 e2 g1 g2 => ?_⟩, ff⟩
    · by_cases hb : b = p
      · subst hb; rw [upd_same] at q; cases q; exact h2
      · rw [upd_ne hb] at q; exact S.fh _ _ q
    · by_cases ha : a = p
      · subst ha; exact .inr h4
      · rw [upd_ne ha] at q; exact S.new a q
    · by_cases hj : i = j
      · subst hj
        rw [List.getElem?_set_self hi] at q
        cases q
        refine ⟨.ref p, h1, ?_⟩
        simp only [Rep]
        exact ⟨p, xs, rfl, upd_same, Reps.mono ff _ _ h5⟩
      · rw [List.getElem?_set_ne hj] at q
        obtain ⟨v, g1, r⟩ := S.sh.2 j d q
        exact ⟨v, g1, r.mono ff⟩
    · by_cases hj : i = j
      · subst hj; rw [List.getElem?_set_self hi] at q; cases q
      · rw [List.getElem?_set_ne hj] at q
        obtain ⟨p', xs', g1, g2, g3, g4, g5⟩ := S.own j gs q
        refine ⟨p', xs', g1, g2, ?_, g4, Reps.mono ff _ _ g5⟩
        rw [upd_ne]
        · exact g3
        · rintro rfl
          exact hj (S.dis i j ds gs p' e q h1 g1)
    · by_cases hj : i = j
      · subst hj; rw [List.getElem?_set_self hi] at e1; cases e1
      · by_cases hk : i = k
        · subst hk; rw [List.getElem?_set_self hi] at e2; cases e2
        · rw [List.getElem?_set_ne hj] at e1
          rw [List.getElem?_set_ne hk] at e2
          exact S.dis j k gs ks q e1 e2 g1 g2
  · exact ⟨F, S, Sm.rfl⟩
end

/-- what is wanted of an outcome -/
def Post (mg : Str → Option Value) (C : Addr) (W : WX) (B Fc : Hp) (Dn : Ends) : Out → Prop
  | .nx ρ => ∀ σ H F, SO C B Fc F σ H ρ → Dn.nx σ H
  | .rt d => ∀ v H F, Sm B H → Sm Fc F → Sm F H → (∀ a, F a ≠ none → Fc a ≠ none ∨ B a = none) → Rep C F d v → Dn.rt v H
  | .ro ds => ∀ p xs H F, Sm B H → Sm Fc F → Sm F H → (∀ a, F a ≠ none → Fc a ≠ none ∨ B a = none) → B p = none → F p = none → H p = some (.lst xs) → Reps C F ds xs → Dn.rt (.ref p) H
  | .ex c ρ => ∀ a, mg c = some (.ref a) → ∀ σ H F, SO C B Fc F σ H ρ → W (.ref a) none σ H
  | .bad => False
def tS (mg : Str → Option Value) (C : Addr) (W : WX) (g : Ev → Out) : TS := fun Dn σ H => ∃ B Fc F ρ, SO C B Fc F σ H ρ ∧ Post mg C W B Fc Dn (g ρ)
/-- more is known at the start -/
theorem Post.up {mg : Str → Option Value} {C : Addr} {W : WX} {B Fc Fc' : Hp} {Dn Dn' : Ends} {o : Out} (s : Sm Fc Fc') (n : ∀ a, Fc' a ≠ none → Fc a ≠ none ∨ B a = none) (hr : ∀ v H, Dn.rt v H → Dn'.rt v H)
    (hn : ∀ ρ, o = .nx ρ → ∀ σ H F, SO C B Fc' F σ H ρ → Dn'.nx σ H) (p : Post mg C W B Fc Dn o) : Post mg C W B Fc' Dn' o := by
  have nn : ∀ {F : Hp}, (∀ a, F a ≠ none → Fc' a ≠ none ∨ B a = none) → ∀ a, F a ≠ none → Fc a ≠ none ∨ B a = none := fun h a q => by
    rcases h a q with z | z
    · exact n a z
    · exact .inr z
  cases o with
  | nx ρ => exact fun σ H F S => hn ρ rfl σ H F S
  | rt d => exact fun v H F a b c e r => hr _ _ (p v H F a (s.tr b) c (nn e) r)
  | ro ds => exact fun q xs H F a b c e f g h r => hr _ _ (p q xs H F a (s.tr b) c (nn e) f g h r)
  | ex c ρ => exact fun a ha σ H F S => p a ha σ H F ⟨S.bh, s.tr S.cf, S.fh, nn S.new, S.sh, S.own, S.dis⟩
  | bad => exact p

namespace S
def seq (g h : Ev → Out) : Ev → Out := fun ρ => match g ρ with
  | .nx ρ' => h ρ'
  | o => o
def skip : Ev → Out := .nx
def pre (k : Ev → Ev) (g : Ev → Out) : Ev → Out := fun ρ => g (k ρ)
def aft (k : Ev → Ev) (g : Ev → Out) : Ev → Out := fun ρ => match g ρ with
  | .nx ρ' => .nx (k ρ')
  | o => o
/-- an expression looked at with all lists of one's own (m) -/
def ev (m : Bool) (f : Ev → R D) : Ev → R D := fun ρ => if m then (f (full ρ)).bind fun d => if flat d then .ok d else .bad else f ρ
def evL (m : Bool) (f : Ev → R (List D)) : Ev → R (List D) := fun ρ => if m then (f (full ρ)).bind fun ds => if ds.all flat then .ok ds else .bad else f ρ
def run (f : Ev → R D) (k : D → Ev → Out) : Ev → Out := fun ρ => match f ρ with
  | .ok d => k d ρ
  | .exc c => .ex c ρ
  | .bad => .bad
def runL (f : Ev → R (List D)) (k : List D → Ev → Out) : Ev → Out := fun ρ => match f ρ with
  | .ok d => k d ρ
  | .exc c => .ex c ρ
  | .bad => .bad
def asg (m : Bool) (i : Nat) (f : Ev → R D) : Ev → Out := run (ev m f) fun d ρ => .nx (ρ.set i (.sh d))
def asgO (m : Bool) (i : Nat) (f : Ev → R (List D)) : Ev → Out := runL (evL m f) fun ds ρ => .nx (ρ.set i (.own ds))
def asgT (m : Bool) (g : D → R (List (Nat × D))) (f : Ev → R D) : Ev → Out := run f fun d ρ => match g d with
  | .ok ps => .nx (setD ps ρ)
  | _ => .bad
def drop (f : Ev → R D) : Ev → Out := fun ρ => match f (full ρ) with
  | .ok _ => .nx ρ
  | .exc c => .ex c ρ
  | .bad => .bad
def ret (f : Ev → R D) : Ev → Out := fun ρ => match f (full ρ) with
  | .ok d => .rt d
  | .exc c => .ex c ρ
  | .bad => .bad
def retL (f : Ev → R (List D)) : Ev → Out := fun ρ => match f (full ρ) with
  | .ok ds => .ro ds
  | .exc c => .ex c ρ
  | .bad => .bad
def retN : Ev → Out := fun _ => .rt .non
def retO (i : Nat) : Ev → Out := fun ρ => match ρ[i]? with
  | some (.own ds) => .ro ds
  | _ => .bad
def ifs (c : Ev → R Bool) (g h : Ev → Out) : Ev → Out := fun ρ => match c (full ρ) with
  | .ok b => if b then g ρ else h ρ
  | .exc c => .ex c ρ
  | .bad => .bad
/-- a list of one's own -/
def onO (i : Nat) (k : List D → R (List D)) : Ev → Out := fun ρ => match ρ[i]? with
  | some (.own ds) => match k ds with
    | .ok es => .nx (ρ.set i (.own es))
    | _ => .bad
  | _ => .bad
def push (m : Bool) (i : Nat) (f : Ev → R D) : Ev → Out := fun ρ => match ρ[i]? with
  | some (.own _) => run (ev m f) (fun d => onO i fun ds => if ds.length < LINE then .ok (ds ++ [d]) else .bad) ρ
  | _ => .bad
def put (i : Nat) (fi : Ev → R D) (f : Ev → R D) : Ev → Out := run (ev true f) fun d ρ => match ρ[i]? with
  | some (.own _) => run (ev true fi) (fun k => onO i fun ds => match k with
    | .int z => match ixN ds.length z with
      | some n => .ok (ds.set n d)
      | none => .bad
    | _ => .bad) ρ
  | _ => .bad
def rev (i : Nat) : Ev → Out := onO i fun ds => .ok ds.reverse
def clr (i : Nat) : Ev → Out := onO i fun _ => .ok []
def forF (g : D → R (List (Nat × D))) (ws : List Nat) (body : Ev → Out) : List D → Ev → Out
  | [], ρ => .nx ρ
  | d :: ds, ρ => match g d with
    | .ok ps => match body (setD ps ρ) with
      | .nx ρ' => forF g ws body ds (wipeE ws ρ')
      | o => o
    | _ => .bad
def forS (m : Bool) (fi : Ev → R (List D)) (g : D → R (List (Nat × D))) (ws : List Nat) (body : Ev → Out) : Ev → Out := runL (evL m fi) fun ds ρ => forF g ws body ds ρ
/-- at most n turns -/
def whF (c : Ev → R Bool) (body : Ev → Out) : Nat → Ev → Out
  | 0, _ => .bad
  | n + 1, ρ => match c (full ρ) with
    | .ok true => match body ρ with
      | .nx ρ' => whF c body n ρ'
      | o => o
    | .ok false => .nx ρ
    | .exc c => .ex c ρ
    | .bad => .bad
def wh (fuel : Ev → Nat) (c : Ev → R Bool) (body : Ev → Out) : Ev → Out := fun ρ => whF c body (fuel ρ) ρ
end S

section
variable {X : Cx} {mg : Str → Option Value} {C : Addr} {W : WX} {e a b c tg : Expr} {t : TE} {pos : Pos} {f h j : Ev → R D} {p q : Ev → R Bool} {es : List Expr} {fs : Ev → R (List D)} {g : D → R (List (Nat × D))} {u k : Ev → Out} {st : Stmt} {sts : List Stmt}
/-- an expression is looked at -/
theorem ev_run {m : Bool} {B Fc F : Hp} {σ : L2.St} {H : Hp} {ρ : Ev} {Q : VK} {Dn : Ends} {kk : D → Ev → Out} (S0 : SO C B Fc F σ H ρ) (x : Post mg C W B Fc Dn (S.run (S.ev m f) kk ρ))
    (y : ∀ d v H' F', SO C B Fc F' σ H' ρ → Sm H H' → Rep C F' d v → Post mg C W B Fc Dn (kk d ρ) → Q v H') : tD mg C W f σ H Q := by
  unfold S.run S.ev at x
  cases m with
  | false =>
    simp only [Bool.false_eq_true, if_false] at x
    refine ⟨F, ρ, S0.fh, S0.sh, ?_⟩
    cases e1 : f ρ with
    | bad => rw [e1] at x; exact x
    | exc c =>
      rw [e1] at x
      exact fun a ha H' s => x a ha σ H' F (S0.only s)
    | ok d =>
      rw [e1] at x
      exact fun v H' F' n r => y d v H' F' (S0.grow n) n.hh r x
  | true =>
    simp only [if_true] at x
    obtain ⟨F2, S2, ff⟩ := S0.full
    refine ⟨F2, full ρ, S2.fh, S2.sh, ?_⟩
    cases e1 : f (full ρ) with
    | bad => rw [e1] at x; exact x
    | exc c =>
      rw [e1] at x
      exact fun a ha H' s => x a ha σ H' F (S0.only s)
    | ok d =>
      rw [e1, R.bind_ok] at x
      by_cases hf : flat d = true
      · rw [if_pos hf] at x
        exact fun v H' F' n r => y d v H' F (S0.only n.hh) n.hh (flat_go hf r) x
      · rw [if_neg hf] at x
        exact x.elim
theorem ev_runT {B Fc F : Hp} {σ : L2.St} {H : Hp} {ρ : Ev} {Q : VK} {Dn : Ends} {kk : D → Ev → Out} (S0 : SO C B Fc F σ H ρ) (x : Post mg C W B Fc Dn (S.run (S.ev true f) kk ρ))
    (y : ∀ d v H' F', SO C B Fc F' σ H' ρ → flat d = true → Rep C F' d v → Post mg C W B Fc Dn (kk d ρ) → Q v H') : tD mg C W f σ H Q := by
  unfold S.run S.ev at x
  simp only [if_true] at x
  obtain ⟨F2, S2, ff⟩ := S0.full
  refine ⟨F2, full ρ, S2.fh, S2.sh, ?_⟩
  cases e1 : f (full ρ) with
  | bad => rw [e1] at x; exact x
  | exc c =>
    rw [e1] at x
    exact fun a ha H' s => x a ha σ H' F (S0.only s)
  | ok d =>
    rw [e1, R.bind_ok] at x
    by_cases hf : flat d = true
    · rw [if_pos hf] at x
      exact fun v H' F' n r => y d v H' F (S0.only n.hh) hf (flat_go hf r) x
    · rw [if_neg hf] at x
      exact x.elim
theorem evL_run {m : Bool} {B Fc F : Hp} {σ : L2.St} {H : Hp} {ρ : Ev} {Q : VK} {Dn : Ends} {kk : List D → Ev → Out} (S0 : SO C B Fc F σ H ρ) (x : Post mg C W B Fc Dn (S.runL (S.evL m fs) kk ρ))
    (y : ∀ ds p xs H' F', SO C B Fc F' σ H' ρ → Sm H H' → H p = none → B p = none → F' p = none → H' p = some (.lst xs) → Reps C F' ds xs → Post mg C W B Fc Dn (kk ds ρ) → Q (.ref p) H') : tL mg C W fs σ H Q := by
  have bn : ∀ p, H p = none → B p = none := fun p n => by
    cases e : B p with
    | none => rfl
    | some o => rw [S0.bh _ _ e] at n; cases n
  unfold S.runL S.evL at x
  cases m with
  | false =>
    simp only [Bool.false_eq_true, if_false] at x
    refine ⟨F, ρ, S0.fh, S0.sh, ?_⟩
    cases e1 : fs ρ with
    | bad => rw [e1] at x; exact x
    | exc c =>
      rw [e1] at x
      exact fun a ha H' s => x a ha σ H' F (S0.only s)
    | ok d =>
      rw [e1] at x
      exact fun p xs H' F' n np fp hl r => y d p xs H' F' (S0.grow n) n.hh np (bn p np) fp hl r x
  | true =>
    simp only [if_true] at x
    obtain ⟨F2, S2, ff⟩ := S0.full
    refine ⟨F2, full ρ, S2.fh, S2.sh, ?_⟩
    cases e1 : fs (full ρ) with
    | bad => rw [e1] at x; exact x
    | exc c =>
      rw [e1] at x
      exact fun a ha H' s => x a ha σ H' F (S0.only s)
    | ok d =>
      rw [e1, R.bind_ok] at x
      by_cases hf : d.all flat = true
      · rw [if_pos hf] at x
        exact fun p xs H' F' n np fp hl r => y d p xs H' F (S0.only n.hh) n.hh np (bn p np) (S0.fh.non np) hl (flats_go hf r) x
      · rw [if_neg hf] at x
        exact x.elim

/-! ### blocks -/
theorem ss_nil : PSs X [] (tS mg C W S.skip) := PSs.to pss_nil fun Dn σ H x => by
  obtain ⟨B, Fc, F, ρ, S0, x⟩ := x
  exact x σ H F S0
theorem ss_cons (h1 : PS X st (tS mg C W u)) (h2 : PSs X sts (tS mg C W k)) : PSs X (st :: sts) (tS mg C W (S.seq u k)) := PSs.to (pss_cons h1 h2) fun Dn σ H x => by
  obtain ⟨B, Fc, F, ρ, S0, x⟩ := x
  refine ⟨B, Fc, F, ρ, S0, ?_⟩
  unfold S.seq at x
  cases e1 : u ρ with
  | nx ρ' =>
    rw [e1] at x
    exact fun σ' H' F' S' => ⟨B, Fc, F', ρ', S', x⟩
  | rt d => rw [e1] at x; exact x
  | ro d => rw [e1] at x; exact x
  | ex c d => rw [e1] at x; exact x
  | bad => rw [e1] at x; exact x
theorem ss_one (h1 : PS X st (tS mg C W u)) : PSs X [st] (tS mg C W u) := pss_one h1
theorem s_pre {kf : Ev → Ev} (hk : ∀ B Fc F σ H ρ, SO C B Fc F σ H ρ → ∃ F', SO C B Fc F' σ H (kf ρ)) (h1 : PS X st (tS mg C W u)) : PS X st (tS mg C W (S.pre kf u)) := PS.to h1 fun Dn σ H x => by
  obtain ⟨B, Fc, F, ρ, S0, x⟩ := x
  obtain ⟨F', S'⟩ := hk _ _ _ _ _ _ S0
  exact ⟨B, Fc, F', kf ρ, S', x⟩
theorem ss_pre {kf : Ev → Ev} (hk : ∀ B Fc F σ H ρ, SO C B Fc F σ H ρ → ∃ F', SO C B Fc F' σ H (kf ρ)) (h1 : PSs X sts (tS mg C W u)) : PSs X sts (tS mg C W (S.pre kf u)) := PSs.to h1 fun Dn σ H x => by
  obtain ⟨B, Fc, F, ρ, S0, x⟩ := x
  obtain ⟨F', S'⟩ := hk _ _ _ _ _ _ S0
  exact ⟨B, Fc, F', kf ρ, S', x⟩
theorem k_frz (i : Nat) : ∀ B Fc F σ H ρ, SO C B Fc F σ H ρ → ∃ F', SO C B Fc F' σ H (frz i ρ) := fun _ _ _ _ _ _ S0 => let ⟨F', S', _⟩ := S0.frz i; ⟨F', S'⟩
theorem k_wipe (vs : List Nat) : ∀ B Fc F σ H ρ, SO C B Fc F σ H ρ → ∃ F', SO C B Fc F' σ H (wipeE vs ρ) := fun _ _ F _ _ _ S0 => ⟨F, S0.wipe vs⟩

/-! ### small statements -/
theorem s_asg {m : Bool} {i : Nat} (hs : PS X st (tAsg (tD mg C W f) (gName i))) : PS X st (tS mg C W (S.asg m i f)) := PS.to hs fun Dn σ H x => by
  obtain ⟨B, Fc, F, ρ, S0, x⟩ := x
  exact ev_run S0 x fun d v H' F' S' s r y => y _ _ _ (S'.set r)
theorem s_asgO {m : Bool} {i : Nat} (hs : PS X st (tAsg (tL mg C W fs) (gName i))) : PS X st (tS mg C W (S.asgO m i fs)) := PS.to hs fun Dn σ H x => by
  obtain ⟨B, Fc, F, ρ, S0, x⟩ := x
  refine evL_run S0 x fun ds p xs H' F' S' s np bp fp hl r y => y _ _ _ (S'.setO hl fp bp (fun j es e z => ?_) r)
  obtain ⟨p', xs', h1, h2, _⟩ := S0.own j es e
  rw [h1] at z
  cases z
  rw [np] at h2
  cases h2
theorem s_asgL {m : Bool} {i : Nat} (hs : PS X st (tAsg (tL mg C W fs) (gName i))) : PS X st (tS mg C W (S.asg m i (E.ofL fs))) := PS.to hs fun Dn σ H x => by
  obtain ⟨B, Fc, F, ρ, S0, x⟩ := x
  have y := ev_run (Q := fun v H' => Dn.nx (σ.set i (some v)) H') S0 x fun d v H' F' S' s r y => y _ _ _ (S'.set r)
  obtain ⟨F1, ρ1, s1, ok1, y⟩ := y
  refine ⟨F1, ρ1, s1, ok1, ?_⟩
  unfold E.ofL at y
  cases e1 : fs ρ1 with
  | bad => rw [e1] at y; exact y
  | exc c => rw [e1] at y; exact y
  | ok ds =>
    rw [e1] at y
    intro p xs H' F' n hp fp hl r
    refine y (.ref p) H' (upd F' p (.lst xs)) ⟨n.ff.tr (Sm.upd fp), n.hh, fun b o e => ?_, fun b h => ?_⟩ ?_
    · by_cases hb : b = p
      · subst hb; rw [upd_same] at e; cases e; exact hl
      · rw [upd_ne hb] at e; exact n.fh _ _ e
    · by_cases hb : b = p
      · subst hb; exact .inr hp
      · rw [upd_ne hb] at h; exact n.new b h
    · simp only [Rep]
      exact ⟨p, xs, rfl, upd_same, Reps.mono (Sm.upd fp) _ _ r⟩
theorem s_asgT (hs : PS X st (tAsg (tD mg C W f) (tG C g))) : PS X st (tS mg C W (S.asgT false g f)) := PS.to hs fun Dn σ H x => by
  obtain ⟨B, Fc, F, ρ, S0, x⟩ := x
  refine ev_run (m := false) (kk := fun d ρ => match g d with | .ok ps => .nx (setD ps ρ) | _ => .bad) S0 (by unfold S.ev; exact x) fun d v H' F' S' s r y => ?_
  refine ⟨F', d, S'.fh, r, ?_⟩
  cases e1 : g d with
  | bad => rw [e1] at y; exact y
  | exc c => rw [e1] at y; exact y
  | ok ps =>
    rw [e1] at y
    exact fun us pu => y _ _ _ (S'.sets pu)
theorem s_drop (hs : PS X st (tDrop (tD mg C W f))) : PS X st (tS mg C W (S.drop f)) := PS.to hs fun Dn σ H x => by
  obtain ⟨B, Fc, F, ρ, S0, x⟩ := x
  obtain ⟨F2, S2, ff⟩ := S0.full
  refine ⟨F2, full ρ, S2.fh, S2.sh, ?_⟩
  unfold S.drop at x
  cases e1 : f (full ρ) with
  | bad => rw [e1] at x; exact x
  | exc c => rw [e1] at x; exact fun a ha H' s => x a ha σ H' F (S0.only s)
  | ok d => rw [e1] at x; exact fun v H' F' n r => x σ H' F (S0.only n.hh)
theorem s_ret (hs : PS X st (tRet (tD mg C W f))) : PS X st (tS mg C W (S.ret f)) := PS.to hs fun Dn σ H x => by
  obtain ⟨B, Fc, F, ρ, S0, x⟩ := x
  obtain ⟨F2, S2, ff⟩ := S0.full
  refine ⟨F2, full ρ, S2.fh, S2.sh, ?_⟩
  unfold S.ret at x
  cases e1 : f (full ρ) with
  | bad => rw [e1] at x; exact x
  | exc c => rw [e1] at x; exact fun a ha H' s => x a ha σ H' F (S0.only s)
  | ok d =>
    rw [e1] at x
    intro v H' F' n r
    have S' := S2.grow n
    exact x v H' F' S'.bh S'.cf S'.fh S'.new r
theorem s_retL (hs : PS X st (tRet (tL mg C W fs))) : PS X st (tS mg C W (S.retL fs)) := PS.to hs fun Dn σ H x => by
  obtain ⟨B, Fc, F, ρ, S0, x⟩ := x
  obtain ⟨F2, S2, ff⟩ := S0.full
  refine ⟨F2, full ρ, S2.fh, S2.sh, ?_⟩
  unfold S.retL at x
  cases e1 : fs (full ρ) with
  | bad => rw [e1] at x; exact x
  | exc c => rw [e1] at x; exact fun a ha H' s => x a ha σ H' F (S0.only s)
  | ok d =>
    rw [e1] at x
    intro p xs H' F' n np fp hl r
    have S' := S2.grow n
    refine x p xs H' F' S'.bh S'.cf S'.fh S'.new ?_ fp hl r
    cases e : B p with
    | none => rfl
    | some o => rw [S0.bh _ _ e] at np; cases np
theorem s_retN : PS X (.Return none pos) (tS mg C W S.retN) := PS.to ps_retN fun Dn σ H x => by
  obtain ⟨B, Fc, F, ρ, S0, x⟩ := x
  exact x .non H F S0.bh S0.cf S0.fh S0.new (by simp only [Rep])
theorem s_retO {i : Nat} (he : PS X st (tRet (tVar i))) : PS X st (tS mg C W (S.retO i)) := PS.to he fun Dn σ H x => by
  obtain ⟨B, Fc, F, ρ, S0, x⟩ := x
  unfold S.retO at x
  split at x
  · rename_i ds e
    obtain ⟨p, xs, h1, h2, h3, h4, h5⟩ := S0.own i ds e
    exact ⟨.ref p, h1, x p xs H F S0.bh S0.cf S0.fh S0.new h4 h3 h2 h5⟩
  · exact x.elim
theorem s_if {sa sb : List Stmt} (hc : PT X c (tB mg C W p)) (ha : PSs X sa (tS mg C W u)) (hb : PSs X sb (tS mg C W k)) : PS X (.If c sa sb pos) (tS mg C W (S.ifs p u k)) := PS.to (ps_if hc ha hb) fun Dn σ H x => by
  obtain ⟨B, Fc, F, ρ, S0, x⟩ := x
  obtain ⟨F2, S2, ff⟩ := S0.full
  refine ⟨F2, full ρ, S2.fh, S2.sh, ?_⟩
  unfold S.ifs at x
  cases e1 : p (full ρ) with
  | bad => rw [e1] at x; exact x
  | exc c => rw [e1] at x; exact fun a ha H' s => x a ha σ H' F (S0.only s)
  | ok b =>
    rw [e1] at x
    intro H' s
    cases b with
    | true => exact ⟨B, Fc, F, ρ, S0.only s, x⟩
    | false => exact ⟨B, Fc, F, ρ, S0.only s, x⟩

/-! ### lists of one's own -/
theorem onO_run {i : Nat} {kk : List D → R (List D)} {B Fc F : Hp} {σ : L2.St} {H : Hp} {ρ : Ev} {Dn : Ends} (S0 : SO C B Fc F σ H ρ) (x : Post mg C W B Fc Dn (S.onO i kk ρ)) : ∃ ds es pa xs, ρ[i]? = some (.own ds) ∧ kk ds = .ok es ∧ σ[i]? = some (some (.ref pa)) ∧ H pa = some (.lst xs) ∧ F pa = none ∧ Reps C F ds xs ∧
    ∀ ys, Reps C F es ys → Dn.nx σ (upd H pa (.lst ys)) := by
  unfold S.onO at x
  split at x
  · rename_i ds e
    obtain ⟨pa, xs, h1, h2, h3, h4, h5⟩ := S0.own i ds e
    cases e1 : kk ds with
    | bad => rw [e1] at x; exact x.elim
    | exc c => rw [e1] at x; exact x.elim
    | ok es =>
      rw [e1] at x
      exact ⟨ds, es, pa, xs, e, e1, h1, h2, h3, h5, fun ys r => x _ _ _ (S0.chg e h1 r)⟩
  · exact x.elim
theorem s_push {m : Bool} {i : Nat} (hs : PS X st (tDrop (tBM X.K "list" rAppend (tVar i) (tCons (tD mg C W f) tNil)))) : PS X st (tS mg C W (S.push m i f)) := PS.to hs fun Dn σ H x => by
  obtain ⟨B, Fc, F, ρ, S0, x⟩ := x
  unfold S.push at x
  split at x
  · rename_i ds0 e0
    obtain ⟨pa, xs, h1, h2, h3, h4, h5⟩ := S0.own i ds0 e0
    refine ⟨.ref pa, h1, .inl ⟨rfl, xs, SqL.of h2⟩, ?_⟩
    refine ev_run (Q := fun v H1 => tNil σ H1 fun us H2 => rAppend (.ref pa) (v :: us) H2 fun _ H3 => Dn.nx σ H3) S0 x fun d v H' F' S' s r y => ?_
    obtain ⟨ds, es, pb, ys, g1, g2, g3, g4, g5, g6, y⟩ := onO_run S' y
    rw [h1] at g3
    cases g3
    by_cases hz : ds.length < LINE
    · rw [if_pos hz] at g2
      cases g2
      exact ⟨pa, ys, v, rfl, rfl, g4, by rw [g6.len]; exact line_lt hz, y _ (g6.app (Reps.one r))⟩
    · rw [if_neg hz] at g2
      cases g2
  · exact x.elim
theorem s_put {i : Nat} (hs : PS X st (tAsg (tD mg C W f) (gSub (tVar i) (tD mg C W h) rSetL))) : PS X st (tS mg C W (S.put i h f)) := PS.to hs fun Dn σ H x => by
  obtain ⟨B, Fc, F, ρ, S0, x⟩ := x
  unfold S.put at x
  refine ev_runT S0 x fun d v H' F' S' fl r y => ?_
  split at y
  · rename_i ds0 e0
    obtain ⟨pa, xs, h1, h2, h3, h4, h5⟩ := S'.own i ds0 e0
    refine ⟨.ref pa, h1, ?_⟩
    refine ev_run (Q := fun iv H2 => rSetL (.ref pa) iv v H2 fun H3 => Dn.nx σ H3) S' y fun kd kv H2 F2 S2 s2 r2 y2 => ?_
    obtain ⟨ds, es, pb, ys, g1, g2, g3, g4, g5, g6, y3⟩ := onO_run S2 y2
    rw [h1] at g3
    cases g3
    cases kd <;> try cases g2
    rename_i z
    simp only [Rep] at r2
    dsimp only at g2
    cases ez : ixN ds.length z with
    | none => rw [ez] at g2; cases g2
    | some n =>
      rw [ez] at g2
      cases g2
      have fv : Rep C F2 d v := flat_go fl r
      exact ⟨pa, ys, z, n, rfl, r2, g4, by rw [g6.len]; exact ez, y3 _ (Reps.set fv n g6)⟩
  · exact y.elim
theorem s_m0 {kk : List D → List D} {kv : List V → List V} {r : V → List V → Hp → VK → Prop} {i : Nat} (hr : ∀ pa xs H Q, H pa = some (.lst xs) → Q .non (upd H pa (.lst (kv xs))) → r (.ref pa) [] H Q) (hk : ∀ F ds xs, Reps C F ds xs → Reps C F (kk ds) (kv xs))
    (hs : PS X st (tDrop (tBM0 X.K "list" r (tVar i)))) : PS X st (tS mg C W (S.onO i fun ds => .ok (kk ds))) := PS.to hs fun Dn σ H x => by
  obtain ⟨B, Fc, F, ρ, S0, x⟩ := x
  obtain ⟨ds, es, pa, xs, g1, g2, g3, g4, g5, g6, y⟩ := onO_run S0 x
  cases g2
  exact ⟨.ref pa, g3, .inl ⟨rfl, xs, SqL.of g4⟩, hr pa xs H _ g4 (y _ (hk _ _ _ g6))⟩
theorem s_rev {i : Nat} (hs : PS X st (tDrop (tBM0 X.K "list" rReverse (tVar i)))) : PS X st (tS mg C W (S.rev i)) :=
  s_m0 (kk := List.reverse) (kv := List.reverse) (fun pa xs H Q h q => ⟨pa, xs, rfl, rfl, h, q⟩) (fun _ _ _ r => r.rev) hs
theorem s_clr {i : Nat} (hs : PS X st (tDrop (tBM0 X.K "list" rClear (tVar i)))) : PS X st (tS mg C W (S.clr i)) :=
  s_m0 (kk := fun _ => []) (kv := fun _ => []) (fun pa xs H Q h q => ⟨pa, xs, rfl, rfl, h, q⟩) (fun _ _ _ r => by simp only [Reps]) hs

/-! ### loops -/
theorem s_for {m : Bool} {ws : List Nat} {iter : Expr} {body : List Stmt} (hm : m = false) (hp : PassesOwn (model X.prog X.w) X.A X.env X.xe) (hc : X.calm = true) (hi : PI X tg iter (tI mg C W fs)) (hg : PG X tg (tG C g)) (hb : PSs X body (tS mg C W u))
    (hs : ∀ x, foldedSetIterable iter X.env x = pure x := by intro _; rfl) : PS X (.For tg iter body [] pos) (tS mg C W (S.forS m fs g ws u)) := PS.to (ps_for hp hc hi hg hb hs) fun Dn σ H x => by
  obtain ⟨B, Fc, F, ρ, S0, x⟩ := x
  subst hm
  unfold S.forS S.runL S.evL at x
  simp only [Bool.false_eq_true, if_false] at x
  refine ⟨F, ρ, S0.fh, S0.sh, ?_⟩
  cases e1 : fs ρ with
  | bad => rw [e1] at x; exact x
  | exc c => rw [e1] at x; exact fun a ha H' s => x a ha σ H' F (S0.only s)
  | ok ds =>
    rw [e1] at x
    intro J H1 F1 n1 it
    have S1 := S0.grow n1
    refine ⟨fun i n σ H => n = ds.length - i ∧ i ≤ ds.length ∧ ∃ F ρ, SO C B Fc F σ H ρ ∧ Sm F1 F ∧ Post mg C W B Fc Dn (S.forF g ws u (ds.drop i) ρ), ⟨ds.length, by simp, Nat.zero_le _, F1, ρ, S1, Sm.rfl, x⟩, ?_⟩
    rintro i n σ2 H2 ⟨rfl, hi, F2, ρ2, S2, s2, x2⟩
    by_cases hlt : i < ds.length
    · refine .inr ⟨it.go i H2 (s2.tr S2.fh) hlt, fun σ H => ∃ F ρ, SO C B Fc F σ H ρ ∧ Sm F1 F ∧ Post mg C W B Fc Dn (S.forF g ws u (ds.drop (i + 1)) ρ), fun σ' H' w => ⟨ds.length - (i + 1), by omega, rfl, hlt, w⟩, fun v H3 y => ?_⟩
      obtain ⟨F3, d, ed, n3, rd⟩ := it.yld i H2 F2 v H3 s2 S2.fh y hlt
      rw [show ds.drop i = d :: ds.drop (i + 1) by
        rw [List.drop_eq_getElem_cons hlt]
        congr
        rw [List.getElem?_eq_getElem hlt] at ed
        exact Option.some.inj ed] at x2
      have S3 := S2.grow n3
      unfold S.forF at x2
      refine ⟨F3, d, n3.fh, rd, ?_⟩
      cases eg : g d with
      | bad => rw [eg] at x2; exact x2
      | exc c => rw [eg] at x2; exact x2
      | ok ps =>
        rw [eg] at x2
        dsimp only at x2
        intro us pu
        have S4 := S3.sets pu
        -- the turn runs from what is known now
        have S5 : SO C B F3 F3 (setV us σ2) H3 (setD ps ρ2) := ⟨S4.bh, Sm.rfl, S4.fh, fun a h => .inl h, S4.sh, S4.own, S4.dis⟩
        refine ⟨B, F3, F3, setD ps ρ2, S5, ?_⟩
        have nw : ∀ a, F3 a ≠ none → Fc a ≠ none ∨ B a = none := S3.new
        cases eu : u (setD ps ρ2) with
        | bad => rw [eu] at x2; exact x2
        | rt d => rw [eu] at x2; exact Post.up (Dn := Dn) S3.cf nw (fun _ _ z => z) (fun ρ e => nomatch e) x2
        | ro d => rw [eu] at x2; exact Post.up (Dn := Dn) S3.cf nw (fun _ _ z => z) (fun ρ e => nomatch e) x2
        | ex c ρ' => rw [eu] at x2; exact Post.up (Dn := Dn) S3.cf nw (fun _ _ z => z) (fun ρ e => nomatch e) x2
        | nx ρ' =>
          rw [eu] at x2
          intro σ6 H6 F6 S6
          have S7 : SO C B Fc F6 σ6 H6 ρ' := ⟨S6.bh, S3.cf.tr S6.cf, S6.fh, fun a h => by
            rcases S6.new a h with z | z
            · exact nw a z
            · exact .inr z, S6.sh, S6.own, S6.dis⟩
          exact ⟨F6, wipeE ws ρ', S7.wipe ws, (s2.tr n3.ff).tr S6.cf, x2⟩
    · have ei : i = ds.length := by omega
      subst ei
      rw [List.drop_length] at x2
      exact .inl ⟨it.stop _ H2 (s2.tr S2.fh) rfl, x2 σ2 H2 F2 S2⟩
theorem whF_more {cc : Ev → R Bool} {body : Ev → Out} : ∀ (n : Nat) (ρ : Ev), S.whF cc body n ρ ≠ .bad → S.whF cc body (n + 1) ρ = S.whF cc body n ρ
  | 0, ρ, h => absurd rfl h
  | n + 1, ρ, h => by
    show (match cc (full ρ) with | .ok true => (match body ρ with | .nx ρ' => S.whF cc body (n + 1) ρ' | o => o) | .ok false => .nx ρ | .exc c => .ex c ρ | .bad => .bad) = (match cc (full ρ) with | .ok true => (match body ρ with | .nx ρ' => S.whF cc body n ρ' | o => o) | .ok false => .nx ρ | .exc c => .ex c ρ | .bad => .bad)
    have h : (match cc (full ρ) with | .ok true => (match body ρ with | .nx ρ' => S.whF cc body n ρ' | o => o) | .ok false => .nx ρ | .exc c => .ex c ρ | .bad => .bad) ≠ Out.bad := h
    cases e1 : cc (full ρ) with
    | bad => rfl
    | exc c => rfl
    | ok b =>
      cases b with
      | false => rfl
      | true =>
        rw [e1] at h
        dsimp only at h ⊢
        cases e2 : body ρ with
        | nx ρ' =>
          rw [e2] at h
          exact whF_more n ρ' h
        | _ => rfl
theorem s_while {fuel : Ev → Nat} {cnd : Expr} {body : List Stmt} (hp : PassesOwn (model X.prog X.w) X.A X.env X.xe) (hc : PT X cnd (tB mg C W p)) (hb : PSs X body (tS mg C W u)) : PS X (.While cnd body [] pos) (tS mg C W (S.wh fuel p u)) :=
  PS.to (ps_while hp hc hb) fun Dn σ H x => by
    obtain ⟨B, Fc, F, ρ, S0, x⟩ := x
    unfold S.wh at x
    refine ⟨fun n σ H => ∃ F ρ, SO C B Fc F σ H ρ ∧ Post mg C W B Fc Dn (S.whF p u n ρ), ⟨fuel ρ, F, ρ, S0, x⟩, ?_⟩
    rintro n σ2 H2 ⟨F2, ρ2, S2, x2⟩
    obtain ⟨F3, S3, ff⟩ := S2.full
    refine ⟨F3, full ρ2, S3.fh, S3.sh, ?_⟩
    cases n with
    | zero => exact x2.elim
    | succ n =>
      unfold S.whF at x2
      cases e1 : p (full ρ2) with
      | bad => rw [e1] at x2; exact x2
      | exc c => rw [e1] at x2; exact fun a ha H' s => x2 a ha σ2 H' F2 (S2.only s)
      | ok b =>
        rw [e1] at x2
        intro H' s
        have S4 := S2.only s
        cases b with
        | false =>
          rw [if_neg Bool.false_ne_true]
          exact x2 σ2 H' F2 S4
        | true =>
          rw [if_pos rfl]
          dsimp only at x2
          refine ⟨fun σ H => ∃ F ρ, SO C B Fc F σ H ρ ∧ Post mg C W B Fc Dn (S.whF p u n ρ), fun σ' H' w => ⟨n, Nat.lt_succ_self n, w⟩, ⟨B, Fc, F2, ρ2, S4, ?_⟩⟩
          cases eu : u ρ2 with
          | bad => rw [eu] at x2; exact x2
          | rt d => rw [eu] at x2; exact x2
          | ro d => rw [eu] at x2; exact x2
          | ex c ρ' => rw [eu] at x2; exact x2
          | nx ρ' =>
            rw [eu] at x2
            exact fun σ6 H6 F6 S6 => ⟨F6, ρ', S6, x2⟩

/-! ### a def -/
/-- the answer of a body -/
def fin : Out → R D
  | .nx _ => .ok .non
  | .rt d => .ok d
  | .ro ds => .ok (.lst ds)
  | .ex c _ => .exc c
  | .bad => .bad
def finL : Out → R (List D)
  | .ro ds => .ok ds
  | .ex c _ => .exc c
  | _ => .bad
/-- the slots at the start -/
def start (n : Nat) (ds : List D) : Ev := ds.map Sl.sh ++ List.replicate (n - ds.length) .no
theorem start_so {N : List Str} {F H : Hp} {ds : List D} {vs : List V} (s : Sm F H) (r : Reps C F ds vs) : SO C H F F (L2.start N vs) H (start N.length ds) where
  bh := Sm.rfl
  cf := Sm.rfl
  fh := s
  new := fun a h => .inl h
  sh := by
    refine ⟨by simp [start, L2.start, r.len], fun i d e => ?_⟩
    unfold start at e
    by_cases hi : i < ds.length
    · rw [List.getElem?_append_left (by simpa using hi), List.getElem?_map] at e
      cases q : ds[i]? with
      | none => rw [q] at e; cases e
      | some d' =>
        rw [q] at e
        cases e
        obtain ⟨v, h1, r1⟩ := r.get q
        refine ⟨v, ?_, r1⟩
        unfold L2.start
        rw [List.getElem?_append_left (by simpa [r.len] using hi), List.getElem?_map, h1]
        rfl
    · rw [List.getElem?_append_right (by simpa using hi)] at e
      rw [List.getElem?_replicate] at e
      split at e <;> cases e
  own := fun i es e => by
    unfold start at e
    by_cases hi : i < ds.length
    · rw [List.getElem?_append_left (by simpa using hi), List.getElem?_map] at e
      cases q : ds[i]? with
      | none => rw [q] at e; cases e
      | some d' => rw [q] at e; cases e
    · rw [List.getElem?_append_right (by simpa using hi)] at e
      rw [List.getElem?_replicate] at e
      split at e <;> cases e
  dis := fun i j es gs p e _ _ _ => by
    unfold start at e
    by_cases hi : i < ds.length
    · rw [List.getElem?_append_left (by simpa using hi), List.getElem?_map] at e
      cases q : ds[i]? with
      | none => rw [q] at e; cases e
      | some d' => rw [q] at e; cases e
    · rw [List.getElem?_append_right (by simpa using hi)] at e
      rw [List.getElem?_replicate] at e
      split at e <;> cases e
end
section
variable {P : Program} {w : World} {K : PySem.W.Frag} {mg : Str → Option Value} {base : Heap} {C : Addr}
theorem fn_d {x qual : Str} {st : Stmt} {fa : Addr} {fd : FuncData} {N ps : List Str} {k : Nat} {u : Ev → Out} (Fn : Fun K x qual st fa fd) (S0 : FnScope N ps (defScope st))
    (hb : ∀ (X : Cx), X.prog = P → X.w = w → X.K = K → X.mg = mg → X.base = base → X.N = N → X.env.scope = defScope st → X.calm = true → X.fn = (fun _ => true) → Room k X.A → (∃ E₁, ∃ K' : Value → Shared → Prop, X.xe = fun e s' => wpAny (model X.prog X.w) X.A (leaving X.env e) (fun _ s'' => K' e s'') E₁ s') →
      X.stack = X.env :: X.outer → X.env.frame = some X.env.locals → X.ex = [] → ∀ W, Takes X W → PSs X (defBody st) (tS mg C W u)) :
    FnOk P w K mg base (L2.CX P w) (k + 1) fa fd ps (SpD mg C ps.length fun ds => fin (u (start N.length ds))) := by
  refine Fn.okX S0 (fun vs H Q E' h => h.1) fun cdv A outer s H vs Q E' hr h => ?_
  obtain ⟨hl, F, ds, sm, r, x⟩ := h
  refine ⟨_, hb (cxOf (L2.CX P w) P w K mg base N qual (defScope st) fa cdv A outer s H E') rfl rfl rfl rfl rfl rfl rfl rfl rfl hr ⟨_, _, rfl⟩ rfl rfl rfl (fun cls d _ H => E' cls d H) (takes_of rfl rfl rfl rfl), ?_⟩
  refine ⟨H, F, F, start N.length ds, start_so sm r, ?_⟩
  dsimp only at x
  cases e1 : u (start N.length ds) with
  | nx ρ => 
    rw [e1] at x
    exact fun σ' H' F' S' => x .non H' F' ⟨S'.cf, S'.bh, S'.fh, S'.new⟩ (by simp only [Rep])
  | rt d =>
    rw [e1] at x
    exact fun v H' F' a b c e r => x v H' F' ⟨b, a, c, e⟩ r
  | ro es =>
    rw [e1] at x
    intro p xs H' F' a b c e bp fp hl r
    refine x (.ref p) H' (upd F' p (.lst xs)) ⟨b.tr (Sm.upd fp), a, fun y o e' => ?_, fun y h => ?_⟩ ?_
    · by_cases hb : y = p
      · subst hb; rw [upd_same] at e'; cases e'; exact hl
      · rw [upd_ne hb] at e'; exact c _ _ e'
    · by_cases hb : y = p
      · subst hb; exact .inr bp
      · rw [upd_ne hb] at h; exact e y h
    · simp only [Rep]
      exact ⟨p, xs, rfl, upd_same, Reps.mono (Sm.upd fp) _ _ r⟩
  | ex c ρ =>
    rw [e1] at x
    exact fun a ha σ' H' F' S' => x a ha H' S'.bh
  | bad => rw [e1] at x; exact x
theorem fn_l {x qual : Str} {st : Stmt} {fa : Addr} {fd : FuncData} {N ps : List Str} {k : Nat} {u : Ev → Out} (Fn : Fun K x qual st fa fd) (S0 : FnScope N ps (defScope st))
    (hb : ∀ (X : Cx), X.prog = P → X.w = w → X.K = K → X.mg = mg → X.base = base → X.N = N → X.env.scope = defScope st → X.calm = true → X.fn = (fun _ => true) → Room k X.A → (∃ E₁, ∃ K' : Value → Shared → Prop, X.xe = fun e s' => wpAny (model X.prog X.w) X.A (leaving X.env e) (fun _ s'' => K' e s'') E₁ s') →
      X.stack = X.env :: X.outer → X.env.frame = some X.env.locals → X.ex = [] → ∀ W, Takes X W → PSs X (defBody st) (tS mg C W u)) :
    FnOk P w K mg base (L2.CX P w) (k + 1) fa fd ps (SpL mg C ps.length fun ds => finL (u (start N.length ds))) := by
  refine Fn.okX S0 (fun vs H Q E' h => h.1) fun cdv A outer s H vs Q E' hr h => ?_
  obtain ⟨hl, F, ds, sm, r, x⟩ := h
  refine ⟨_, hb (cxOf (L2.CX P w) P w K mg base N qual (defScope st) fa cdv A outer s H E') rfl rfl rfl rfl rfl rfl rfl rfl rfl hr ⟨_, _, rfl⟩ rfl rfl rfl (fun cls d _ H => E' cls d H) (takes_of rfl rfl rfl rfl), ?_⟩
  refine ⟨H, F, F, start N.length ds, start_so sm r, ?_⟩
  dsimp only at x
  cases e1 : u (start N.length ds) with
  | nx ρ => rw [e1] at x; exact x.elim
  | rt d => rw [e1] at x; exact x.elim
  | ro es =>
    rw [e1] at x
    exact fun p xs H' F' a b c e bp fp hl r => x p xs H' F' ⟨b, a, c, e⟩ bp fp hl r
  | ex c ρ =>
    rw [e1] at x
    exact fun a ha σ' H' F' S' => x a ha H' S'.bh
  | bad => rw [e1] at x; exact x.elim
end
end TB
namespace TB
open PySem PySem.Spec PyProof.Rows L2

/-! ### defs of the text by name -/
def fdOf (K : PySem.W.Frag) (a : Addr) : FuncData := match K.lookup a with
  | some ⟨_, _, .func fd, _⟩ => fd
  | _ => default
theorem fdOf_eq {K : PySem.W.Frag} {a : Addr} {oc : Value} {od : Option Addr} {osl : Array (Option Value)} {fd : FuncData} (h : K.lookup a = some ⟨oc, od, .func fd, osl⟩) : fdOf K a = fd := by
  unfold fdOf; rw [h]
/-- the def st stands under the module's name x -/
structure Df (K : PySem.W.Frag) (mg : Str → Option Value) (x : Str) (st : Stmt) (ps : List Str) : Prop where
  F : Fun K x x st (He.ga K x) (fdOf K (He.ga K x))
  b : Binds K (fdOf K (He.ga K x)) ps []
  g : mg x = some (.ref (He.ga K x))
abbrev shopC (K : PySem.W.Frag) : Addr := He.ga K "Shop"
abbrev OkD (P : Program) (w : World) (K : PySem.W.Frag) (mg : Str → Option Value) (base : Heap) (k : Nat) (x : Str) (ps : List Str) (g : List D → R D) : Prop :=
  FnOk P w K mg base (L2.CX P w) k (He.ga K x) (fdOf K (He.ga K x)) ps (SpD mg (shopC K) ps.length g)
abbrev OkL (P : Program) (w : World) (K : PySem.W.Frag) (mg : Str → Option Value) (base : Heap) (k : Nat) (x : Str) (ps : List Str) (g : List D → R (List D)) : Prop :=
  FnOk P w K mg base (L2.CX P w) k (He.ga K x) (fdOf K (He.ga K x)) ps (SpL mg (shopC K) ps.length g)
section
variable {P : Program} {w : World} {K : PySem.W.Frag} {mg : Str → Option Value} {base : Heap}
theorem fnD {x : Str} {st : Stmt} {N ps : List Str} {k : Nat} {u : Ev → Out} (D0 : Df K mg x st ps) (S0 : FnScope N ps (defScope st))
    (hb : ∀ (cdv : Value) (A : Around) (outer : List Env) (s : Shared) (H : Hp) (E' : XK), Room k (A.deeper (envOfC x (defScope st) s.heap.objs.size (He.ga K x) cdv)) → ∀ W : WX, Takes (cxOf (L2.CX P w) P w K mg base N x (defScope st) (He.ga K x) cdv A outer s H E') W →
      PSs (cxOf (L2.CX P w) P w K mg base N x (defScope st) (He.ga K x) cdv A outer s H E') (defBody st) (tS mg (shopC K) W u)) :
    OkD P w K mg base (k + 1) x ps fun ds => fin (u (start N.length ds)) := by
  refine D0.F.okX S0 (fun vs H Q E h => h.1) fun cdv A outer s H vs Q E' hr h => ?_
  obtain ⟨hl, F, ds, sm, r, y⟩ := h
  refine ⟨_, hb cdv A outer s H E' hr (fun cls d _ H => E' cls d H) (takes_of rfl rfl rfl rfl), ?_⟩
  refine ⟨H, F, F, start N.length ds, start_so sm r, ?_⟩
  dsimp only at y
  cases e1 : u (start N.length ds) with
  | nx ρ =>
    rw [e1] at y
    exact fun σ' H' F' S' => y .non H' F' ⟨S'.cf, S'.bh, S'.fh, S'.new⟩ (by simp only [Rep])
  | rt d =>
    rw [e1] at y
    exact fun v H' F' a b c e r => y v H' F' ⟨b, a, c, e⟩ r
  | ro es =>
    rw [e1] at y
    intro p xs H' F' a b c e bp fp hl r
    refine y (.ref p) H' (upd F' p (.lst xs)) ⟨b.tr (Sm.upd fp), a, fun z o e' => ?_, fun z h => ?_⟩ ?_
    · by_cases hb : z = p
      · subst hb; rw [upd_same] at e'; cases e'; exact hl
      · rw [upd_ne hb] at e'; exact c _ _ e'
    · by_cases hb : z = p
      · subst hb; exact .inr bp
      · rw [upd_ne hb] at h; exact e z h
    · simp only [Rep]
      exact ⟨p, xs, rfl, upd_same, Reps.mono (Sm.upd fp) _ _ r⟩
  | ex c ρ =>
    rw [e1] at y
    exact fun a ha σ' H' F' S' => y a ha H' S'.bh
  | bad => rw [e1] at y; exact y
theorem fnL {x : Str} {st : Stmt} {N ps : List Str} {k : Nat} {u : Ev → Out} (D0 : Df K mg x st ps) (S0 : FnScope N ps (defScope st))
    (hb : ∀ (cdv : Value) (A : Around) (outer : List Env) (s : Shared) (H : Hp) (E' : XK), Room k (A.deeper (envOfC x (defScope st) s.heap.objs.size (He.ga K x) cdv)) → ∀ W : WX, Takes (cxOf (L2.CX P w) P w K mg base N x (defScope st) (He.ga K x) cdv A outer s H E') W →
      PSs (cxOf (L2.CX P w) P w K mg base N x (defScope st) (He.ga K x) cdv A outer s H E') (defBody st) (tS mg (shopC K) W u)) :
    OkL P w K mg base (k + 1) x ps fun ds => finL (u (start N.length ds)) := by
  refine D0.F.okX S0 (fun vs H Q E h => h.1) fun cdv A outer s H vs Q E' hr h => ?_
  obtain ⟨hl, F, ds, sm, r, y⟩ := h
  refine ⟨_, hb cdv A outer s H E' hr (fun cls d _ H => E' cls d H) (takes_of rfl rfl rfl rfl), ?_⟩
  refine ⟨H, F, F, start N.length ds, start_so sm r, ?_⟩
  dsimp only at y
  cases e1 : u (start N.length ds) with
  | nx ρ => rw [e1] at y; exact y.elim
  | rt d => rw [e1] at y; exact y.elim
  | ro es =>
    rw [e1] at y
    exact fun p xs H' F' a b c e bp fp hl r => y p xs H' F' ⟨b, a, c, e⟩ bp fp hl r
  | ex c ρ =>
    rw [e1] at y
    exact fun a ha σ' H' F' S' => y a ha H' S'.bh
  | bad => rw [e1] at y; exact y.elim
theorem fnLD {x : Str} {ps : List Str} {k : Nat} {g : List D → R (List D)} (F : OkL P w K mg base k x ps g) : OkD P w K mg base k x ps fun ds => (g ds).map .lst :=
  FnOk.imp F fun _ _ _ _ h => SpL.d h
end
section
variable {X : Cx} {W : WX} {e : Expr} {pos : Pos} {es : List Expr} {fs : Ev → R (List D)}
theorem d_def {j k : Nat} {x : Str} {st : Stmt} {ps : List Str} {g : List D → R D} {p1 : Pos} (Fn : OkD X.prog X.w X.K X.mg X.base j x ps g) (D0 : Df X.K X.mg x st ps) (hr : Room k X.A) (hjk : j ≤ k) (tk : Takes X W) (ha : PA X (e :: es) (tA X.mg (shopC X.K) W fs))
    (hfl : ∀ ρ ds, fs ρ = .ok ds → ds.length = ps.length) (hg : Gl X x := by rfl) (hl : (e :: es).length = ps.length := by rfl) (hdb : (x == ("__debug__" : Str)) = false := by decide)
    (he : starEach (e :: es) X.env = (false, eval e X.env) :: starEach es X.env := by rfl) (hpl : (backTo pos (starEach es X.env)).any (·.1) = false := by rfl) :
    PE X (.Call (.Name x p1) (e :: es) [] pos) (tD X.mg (shopC X.K) W (E.app g fs)) :=
  d_call Fn (hr.mono hjk) hg D0.g D0.F.kp D0.b hl tk ha hfl hdb he hpl
theorem l_def {j k : Nat} {x : Str} {st : Stmt} {ps : List Str} {g : List D → R (List D)} {p1 : Pos} (Fn : OkL X.prog X.w X.K X.mg X.base j x ps g) (D0 : Df X.K X.mg x st ps) (hr : Room k X.A) (hjk : j ≤ k) (tk : Takes X W) (ha : PA X (e :: es) (tA X.mg (shopC X.K) W fs))
    (hfl : ∀ ρ ds, fs ρ = .ok ds → ds.length = ps.length) (hg : Gl X x := by rfl) (hl : (e :: es).length = ps.length := by rfl) (hdb : (x == ("__debug__" : Str)) = false := by decide)
    (he : starEach (e :: es) X.env = (false, eval e X.env) :: starEach es X.env := by rfl) (hpl : (backTo pos (starEach es X.env)).any (·.1) = false := by rfl) :
    PE X (.Call (.Name x p1) (e :: es) [] pos) (tL X.mg (shopC X.K) W (E.appL g fs)) :=
  l_call Fn (hr.mono hjk) hg D0.g D0.F.kp D0.b hl tk ha hfl hdb he hpl
end
section
variable {X : Cx} {mg : Str → Option Value} {C : Addr} {W : WX} {e a b c tg : Expr} {t : TE} {pos : Pos} {f h j : Ev → R D} {p q : Ev → R Bool} {es : List Expr} {fs : Ev → R (List D)} {g : D → R (List (Nat × D))}
/-! ### names of the module -/
theorem d_gint {x : Str} {i : Int} (hg : Gl X x) (hm : ∃ t, X.mg x = some (.int i t)) (hn : x ≠ "__name__" := by decide) (hd : (x == ("__debug__" : Str)) = false := by decide) : PE X (.Name x pos) (tD mg C W (E.c (.int i))) := by
  obtain ⟨t, hm⟩ := hm
  exact d_c (pe_glob (v := .int i) hg hm ⟨t, rfl⟩ (hd := hd)) fun _ => by simp only [Rep]
theorem d_gstr {x z : Str} (hg : Gl X x) (hm : ∃ t, X.mg x = some (.str z t)) (hn : x ≠ "__name__" := by decide) (hd : (x == ("__debug__" : Str)) = false := by decide) : PE X (.Name x pos) (tD mg C W (E.c (.str z))) := by
  obtain ⟨t, hm⟩ := hm
  exact d_c (pe_glob (v := .str z) hg hm ⟨t, rfl⟩ (hd := hd)) fun _ => by simp only [Rep]
/-! ### operators -/
theorem d_add (ha : PE X a (tD mg C W f)) (hb : PE X b (tD mg C W h)) : PE X (.BinOp a .Add b pos) (tD mg C W (E.bin dAdd f h)) := d_op op_addD add_D add_calm ha hb
theorem d_sub (ha : PE X a (tD mg C W f)) (hb : PE X b (tD mg C W h)) : PE X (.BinOp a .Sub b pos) (tD mg C W (E.bin dSub f h)) := d_op op_subD (dI_D fun _ _ _ => trivial) dI_calm ha hb
theorem d_mul (ha : PE X a (tD mg C W f)) (hb : PE X b (tD mg C W h)) : PE X (.BinOp a .Mult b pos) (tD mg C W (E.bin dMul f h)) := d_op op_mul (dI_D fun i j z => (show (-(2 ^ 64) < i ∧ i < 2 ^ 64) ∨ (-(2 ^ 64) < j ∧ j < 2 ^ 64) from of_decide_eq_true z)) dI_calm ha hb
theorem d_fdiv (ha : PE X a (tD mg C W f)) (hb : PE X b (tD mg C W h)) : PE X (.BinOp a .FloorDiv b pos) (tD mg C W (E.bin dDiv f h)) := d_op op_fdiv (dI_D fun i j z => (show 0 < j ∧ j < 1073741824 from of_decide_eq_true z)) dI_calm ha hb
theorem d_mod (ha : PE X a (tD mg C W f)) (hb : PE X b (tD mg C W h)) : PE X (.BinOp a .Mod b pos) (tD mg C W (E.bin dMod f h)) := d_op op_mod (dI_D fun _ _ z => of_decide_eq_true z) dI_calm ha hb
theorem cPow_ok {i j : Int} (z : cPow i j = true) : CPow i j := (show 0 ≤ j ∧ j ≤ 1000000 ∧ i.natAbs < 2 ^ 64 from of_decide_eq_true z)
theorem d_pow (ha : PE X a (tD mg C W f)) (hb : PE X b (tD mg C W h)) : PE X (.BinOp a .Pow b pos) (tD mg C W (E.bin dPow f h)) := d_op op_pow (dI_D fun _ _ z => cPow_ok z) dI_calm ha hb
theorem d_ix (ha : PE X a (tD mg C W f)) (hb : PE X b (tD mg C W h)) (hs : PlainIx b := by exact fun _ _ => rfl) : PE X (.Subscript a b pos) (tD mg C W (E.bin dIx f h)) :=
  PE.to (pe_ix (r := rIx X.K) ix_seq ha hb hs) fun σ H Q x => seq2 ix_D ix_calm x
end
end TB
/-! zip of a list with a tuple, lists joined, a comprehension given to a name -/
namespace TB
open PySem PySem.Spec PyProof.Rows L2

/-- a list at a with a tuple at b -/
def ItzM (K : PySem.W.Frag) (a b : Addr) : It where
  go := fun i H => ∃ (us ws : List V) (u w : V), SqL K H a us ∧ SqT K H b ws ∧ us[i]? = some u ∧ ws[i]? = some w
  yld := fun i H v H' => ∃ q u w, v = .ref q ∧ H q = none ∧ H' = upd H q (.tup [u, w]) ∧ (∀ us, SqL K H a us → us[i]? = some u) ∧ ∀ ws, SqT K H b ws → ws[i]? = some w
  stop := fun i H => ∃ us ws : List V, SqL K H a us ∧ SqT K H b ws ∧ i ≤ us.length ∧ i ≤ ws.length ∧ (i = us.length ∨ i = ws.length)
theorem sep_of {z TI TO i1 i2 a b : Addr} (D0 : ZipApart z TI TO i1 i2 a b) : ZipSep2 z TI TO i1 i2 [i1, a] [i2, b] where
  TIz := D0.TIz
  TOz := D0.TOz
  TITO := D0.TITO
  TIi1 := D0.TIi1
  mem1 := List.mem_cons_self
  zf1 := by simpa using ⟨D0.i1z.symm, D0.l1z.symm⟩
  Tf1 := by simpa using ⟨D0.TOi1, D0.l1TO.symm⟩
  TIi2 := D0.TIi2
  mem2 := List.mem_cons_self
  zf2 := by simpa using ⟨D0.i2z.symm, D0.l2z.symm⟩
  Tf2 := by simpa using ⟨D0.TOi2, D0.l2TO.symm⟩
  sep1_2 := by simpa using ⟨D0.i12, D0.l2i1.symm⟩
  sep2_1 := by simpa using ⟨D0.i12.symm, D0.l1i2.symm⟩
theorem five_of {c z x y v w : Addr} (h : c ∈ [z, x, y, v, w]) : c = z ∨ c = x ∨ c = y ∨ c = v ∨ c = w := by simpa using h
theorem turn_zipM {P : Program} {w : World} {K : PySem.W.Frag} {elts : List Expr} {kk : Nat} {tpos : Pos} {a b z TI TO i1 i2 : Addr} (D0 : ZipApart z TI TO i1 i2 a b) :
    Turn P w K (.Tuple elts kk tpos) (ItzM K a b) [z, TI, TO, i1, i2] z (fun i h => IsZip h z TI TO .none ∧ IsPair h TI (.ref i1) (.ref i2) ∧ (∃ x y, IsPair h TO x y) ∧ h.IsListIter i1 a i ∧ h.IsTupleIter i2 b i) where
  mem := List.mem_cons_self
  obj := by
    rintro i h ⟨hz, hTI, ⟨x, y, hTO⟩, ⟨o1, e1, _, d1⟩, ⟨o2, e2, _, d2⟩⟩ c hc
    rcases five_of hc with rfl | rfl | rfl | rfl | rfl
    · exact ⟨_, hz, fun v q => nomatch q⟩
    · exact ⟨_, hTI, fun v q => nomatch q⟩
    · exact ⟨_, hTO, fun v q => nomatch q⟩
    · exact ⟨o1, e1, fun v q => by rw [d1] at q; cases q⟩
    · exact ⟨o2, e2, fun v q => by rw [d2] at q; cases q⟩
  keep := by
    rintro i h h' ⟨hz, hTI, ⟨x, y, hTO⟩, h1, h2⟩ k
    exact ⟨k _ (by simp) _ hz, k _ (by simp) _ hTI, ⟨x, y, k _ (by simp) _ hTO⟩, h1.at fun o q => k _ (by simp) o q, h2.at fun o q => k _ (by simp) o q⟩
  item := by
    rintro X rfl rfl rfl hc i pins s σ H E I hf ⟨hz, hTI, ⟨x0, y0, hTO⟩, h1, h2⟩ ⟨us, ws, u, v, hqx, hqy, hu, hv⟩
    obtain ⟨its, rv, pl, _⟩ := I.list hqx
    obtain ⟨its2, rv2, p2, _⟩ := I.tuple hqy
    obtain ⟨x, ex, rx⟩ := rv.get hu
    obtain ⟨y, ey, ry⟩ := rv2.get hv
    have hzl : z < s.heap.objs.size := Heap.lt_size hz
    have hd := I.ok.hd hc
    have lx : i < its.toArray.size := by simpa using (List.getElem?_eq_some_iff.mp ex).1
    have ly : i < its2.toArray.size := by simpa using (List.getElem?_eq_some_iff.mp ey).1
    refine wpAny_pyNext_zipD2_item (sep_of D0) (Draws.list (show X.A.in1.handled = none from hd) i1 a D0.l1i1 its.toArray) (Draws.tuple (show X.A.in1.handled = none from hd) i2 b D0.l2i2 its2.toArray) hz hTI hTO ⟨h1, pl.isList⟩ ⟨h2, p2⟩ lx ly ?_
    intro x' y' h' tk gx gy z' TO' st1 st2 hT hsz hk
    have ex' : x' = x := by
      have q : its.toArray[i]? = some x := by simpa using ex
      exact Option.some.inj (gx.symm.trans q)
    have ey' : y' = y := by
      have q : its2.toArray[i]? = some y := by simpa using ey
      exact Option.some.inj (gy.symm.trans q)
    subst ex' ey'
    refine ⟨_, rfl, wpAny_letOwnedTupleGo_zip (s := { s with heap := h', toks := tk }) z' fun h2' z2 sb => ?_⟩
    have hT2 : h2'.get? s.heap.objs.size = some { cls := .type "tuple", data := .seq #[x', y'] } := (sb.2 _ (Nat.ne_of_gt hzl)).trans hT
    have nw : ObjOk X.prog X.w (upd H s.heap.objs.size (.tup [u, v])) h2' s.heap.objs.size (.tup [u, v]) :=
      ⟨by show 2 ≤ sizeLine; decide, [x', y'], .cons rx (.cons ry .nil), ⟨_, hT2, rfl, _, rfl⟩⟩
    have old : ∀ c o, c ∉ [z, TI, TO, i1, i2] → s.heap.get? c = some o → h2'.get? c = some o := fun c o hb q => by
      simp only [List.mem_cons, not_or] at hb
      exact (sb.2 c hb.1).trans (hk c o hb.1 hb.2.2.1 hb.2.2.2.1 hb.2.2.2.2.1 q)
    have I1 : Inv X pins σ (upd H s.heap.objs.size (.tup [u, v])) { s with heap := h2', toks := tk } := I.turnedNew (t' := tk) (ch := [z, TI, TO, i1, i2]) old hf (Nat.le_refl _) nw
    refine ⟨.ref s.heap.objs.size, _, I1, rfl, ⟨_, u, v, rfl, I.hok.fresh (Nat.le_refl _), rfl, fun l hl => by rw [I.list_inj hl hqx]; exact hu, fun l hl => by rw [I.tuple_inj hl hqy]; exact hv⟩, ⟨z2, ?_, ⟨x', y', ?_⟩, ?_, ?_⟩, fun c hcm => ?_⟩
    · exact (sb.2 _ D0.TIz).trans (hk _ _ D0.TIz D0.TITO D0.TIi1 D0.TIi2 hTI)
    · exact (sb.2 _ D0.TOz).trans TO'
    · exact st1.1.at fun o q => (sb.2 _ D0.i1z).trans q
    · exact st2.1.at fun o q => (sb.2 _ D0.i2z).trans q
    · have hlt : c < s.heap.objs.size := by
        rcases five_of hcm with rfl | rfl | rfl | rfl | rfl
        · exact hzl
        · exact Heap.lt_size hTI
        · exact Heap.lt_size hTO
        · obtain ⟨_, e1, _⟩ := h1; exact Heap.lt_size e1
        · obtain ⟨_, e2, _⟩ := h2; exact Heap.lt_size e2
      rw [upd_ne (Nat.ne_of_lt hlt)]
      exact (hf c hcm).1
  done := by
    rintro X rfl rfl rfl hc i pins s σ H E I hf ⟨hz, hTI, ⟨x0, y0, hTO⟩, h1, h2⟩ ⟨us, ws, hqx, hqy, le1, le2, hend⟩
    obtain ⟨its, rv, pl, _⟩ := I.list hqx
    obtain ⟨its2, rv2, p2, _⟩ := I.tuple hqy
    have l1 : its.toArray.size = us.length := by rw [List.size_toArray]; exact rv.length.symm
    have l2 : its2.toArray.size = ws.length := by rw [List.size_toArray]; exact rv2.length.symm
    have hd := I.ok.hd hc
    refine wpAny_pyNext_zipD2_end (sep_of D0) (Draws.list (show X.A.in1.handled = none from hd) i1 a D0.l1i1 its.toArray) (Draws.tuple (show X.A.in1.handled = none from hd) i2 b D0.l2i2 its2.toArray) hz hTI hTO ⟨h1, pl.isList⟩ ⟨h2, p2⟩ (by omega) (by omega) (by omega) ?_
    intro h' tk hk
    refine ⟨rfl, I.turnedL (t' := tk) (ch := [z, TI, TO, i1, i2]) (fun c o hb q => ?_) hf⟩
    simp only [List.mem_cons, not_or] at hb
    exact hk c o hb.1 hb.2.2.1 hb.2.2.2.1 hb.2.2.2.2.1 q
  self := fun A i s Q E st h => wpAny_pyIter_zip st.1 h

/-- zip(x, y): a list with a list or a tuple -/
def iZipG (K : PySem.W.Frag) (ta : TA) : TI := fun σ H R => ta σ H fun vs H1 => ∃ a b us ws, vs = [.ref a, .ref b] ∧ SqL K H1 a us ∧ ((SqL K H1 b ws ∧ R (Itz K a b) H1) ∨ (SqT K H1 b ws ∧ R (ItzM K a b) H1))
theorem pi_zipG {X : Cx} {e e2 : Expr} {ta : TA} {p pos tpos : Pos} {elts : List Expr} {kk : Nat} (hg : Gl X "zip") (hm : X.mg "zip" = none) (ha : PA X [e, e2] ta)
    (hs : starEach [e, e2] X.env = (false, eval e X.env) :: starEach [e2] X.env) (hpl : (backTo pos (starEach [e2] X.env)).any (·.1) = false) :
    PI X (.Tuple elts kk tpos) (.Call (.Name "zip" p) [e, e2] [] pos) (iZipG X.K ta) := by
  constructor
  intro pins s σ H R I h
  refine Call_ (ld_blt I hg hm PyProof.Rows.boot_zip (PyProof.Rows.callWith_type1 (thn (ha.run pos pins s σ H _ I h) ?_) hs hpl))
  rintro us0 s1 ⟨vs, H1, I1, r1, a, b, us, ws, rfl, hqx, q1⟩
  obtain ⟨_, _, rfl, e1, e2⟩ : ∃ u v, us0 = [u, v] ∧ RelV (.ref a) u ∧ RelV (.ref b) v := by
    cases r1 with
    | cons r rr =>
      cases rr with
      | cons r' rr =>
        cases rr
        exact ⟨_, _, rfl, r, r'⟩
  cases e1
  cases e2
  have young : ∀ c, c ∈ [s1.heap.objs.size + 4, s1.heap.objs.size + 2, s1.heap.objs.size + 3, s1.heap.objs.size, s1.heap.objs.size + 1] → FpOk X pins H1 c := fun c hc => by
    have hle : s1.heap.objs.size ≤ c := by
      rcases five_of hc with rfl | rfl | rfl | rfl | rfl <;> omega
    exact I1.fpOk hle (I1.hok.fresh hle)
  obtain ⟨its, rv, pl, _⟩ := I1.list hqx
  rcases q1 with ⟨hqy, q⟩ | ⟨hqy, q⟩
  · obtain ⟨its2, rv2, p2, _⟩ := I1.list hqy
    refine call_zip_2 pl.isList p2.isList fun h' hz hTI hTO h1 h2 hsz hk => wpAny_pyIter_zip hz ?_
    exact ⟨_, [s1.heap.objs.size + 4, s1.heap.objs.size + 2, s1.heap.objs.size + 3, s1.heap.objs.size, s1.heap.objs.size + 1], _, _, H1, rfl, I1.kept (t' := s1.toks) hk, turn_zip (PySem.W.ktu_apart s1.heap.objs.size a b pl.lt p2.lt), ⟨hz, hTI, ⟨_, _, hTO⟩, h1, h2⟩, young, q⟩
  · obtain ⟨its2, rv2, p2, _⟩ := I1.tuple hqy
    obtain ⟨o2, ho2, _⟩ := id p2
    refine zip_begins2 (begins_list a its.toArray) (begins_tuple b its2.toArray) pl.isList p2 fun h' hz hTI hTO h1 h2 hsz hk => wpAny_pyIter_zip hz ?_
    exact ⟨_, [s1.heap.objs.size + 4, s1.heap.objs.size + 2, s1.heap.objs.size + 3, s1.heap.objs.size, s1.heap.objs.size + 1], _, _, H1, rfl, I1.kept (t' := s1.toks) hk, turn_zipM (PySem.W.ktu_apart s1.heap.objs.size a b pl.lt (Heap.lt_size ho2)), ⟨hz, hTI, ⟨_, _, hTO⟩, ⟨_, h1, rfl, rfl⟩, ⟨_, h2, rfl, rfl⟩⟩, young, q⟩
theorem itd_zipM {C : Addr} {K : PySem.W.Frag} {F0 : Hp} {a b : Addr} {xs ys : List V} {ds es : List D} (h : F0 a = some (.lst xs)) (r : Reps C F0 ds xs) (k : F0 b = some (.tup ys)) (t : Reps C F0 es ys) : ItD C (ItzM K a b) F0 (pairs ds es) where
  go := fun i H s hi => by
    have hi' : i < ds.length ∧ i < es.length := by simpa [pairs, Nat.lt_min] using hi
    obtain ⟨x, e⟩ := at_lt (show i < xs.length by rw [r.len]; exact hi'.1)
    obtain ⟨y, e'⟩ := at_lt (show i < ys.length by rw [t.len]; exact hi'.2)
    exact ⟨xs, ys, x, y, SqL.of (s _ _ h), SqT.of (s _ _ k), e, e'⟩
  stop := fun i H s hi => by
    have e : min ds.length es.length = i := by simpa [pairs] using hi
    refine ⟨xs, ys, SqL.of (s _ _ h), SqT.of (s _ _ k), ?_⟩
    rw [r.len, t.len]
    omega
  yld := fun i H F v H' s0 s y hi => by
    obtain ⟨T, x, y', rfl, nT, rfl, f1, f2⟩ := y
    have hi' : i < ds.length ∧ i < es.length := by simpa [pairs, Nat.lt_min] using hi
    obtain ⟨d, e1⟩ := at_lt hi'.1
    obtain ⟨e, e2⟩ := at_lt hi'.2
    obtain ⟨u, g1, r1⟩ := r.get e1
    obtain ⟨w, g2, r2⟩ := t.get e2
    have q1 := f1 xs (SqL.of (s _ _ (s0 _ _ h)))
    have q2 := f2 ys (SqT.of (s _ _ (s0 _ _ k)))
    rw [g1] at q1
    rw [g2] at q2
    cases q1
    cases q2
    exact ⟨_, _, pairs_at e1 e2, .add s nT, Rep.pair (s.non nT) (r1.mono s0) (r2.mono s0)⟩
def dZip : List D → R (List D)
  | [.lst ds, .lst es] => .ok (pairs ds es)
  | [.lst ds, .tup es] => .ok (pairs ds es)
  | _ => .bad
section
variable {X : Cx} {mg : Str → Option Value} {C : Addr} {W : WX} {e a b c tg : Expr} {t : TE} {pos : Pos} {f h j : Ev → R D} {p q : Ev → R Bool} {es : List Expr} {fs : Ev → R (List D)} {g : D → R (List (Nat × D))}
theorem i_zip {p1 tpos : Pos} {elts : List Expr} {kk : Nat} (hg : Gl X "zip") (hm : X.mg "zip" = none) (ha : PA X [a, b] (tA mg C W fs))
    (hs : starEach [a, b] X.env = (false, eval a X.env) :: starEach [b] X.env := by rfl) (hpl : (backTo pos (starEach [b] X.env)).any (·.1) = false := by rfl) :
    PI X (.Tuple elts kk tpos) (.Call (.Name "zip" p1) [a, b] [] pos) (tI mg C W (E.iterA dZip fs)) :=
  PI.to (pi_zipG hg hm ha hs hpl) fun σ H Q x => seqI (r := fun vs H1 R => ∃ a b us ws, vs = [V.ref a, V.ref b] ∧ SqL X.K H1 a us ∧ ((SqL X.K H1 b ws ∧ R (Itz X.K a b) H1) ∨ (SqT X.K H1 b ws ∧ R (ItzM X.K a b) H1))) (fun xs F H vs Q s r => by
    unfold dZip
    split
    · rename_i hl
      split at hl
      · cases hl
        intro q
        obtain ⟨v, u, rfl, z1, z2⟩ := reps2 r
        simp only [Rep] at z1 z2
        obtain ⟨a1, xs1, rfl, h1, z1⟩ := z1
        obtain ⟨a2, xs2, rfl, h2, z2⟩ := z2
        exact ⟨a1, a2, xs1, xs2, rfl, SqL.of (s _ _ h1), .inl ⟨SqL.of (s _ _ h2), q _ (itd_zip h1 z1 h2 z2)⟩⟩
      · cases hl
        intro q
        obtain ⟨v, u, rfl, z1, z2⟩ := reps2 r
        simp only [Rep] at z1 z2
        obtain ⟨a1, xs1, rfl, h1, z1⟩ := z1
        obtain ⟨a2, xs2, rfl, h2, z2⟩ := z2
        exact ⟨a1, a2, xs1, xs2, rfl, SqL.of (s _ _ h1), .inr ⟨SqT.of (s _ _ h2), q _ (itd_zipM h1 z1 h2 z2)⟩⟩
      · cases hl
    · trivial) (fun x c => by unfold dZip; split <;> (try split) <;> exact fun e => nomatch e) x

/-! ### a comprehension given to a name -/
theorem ps_setComp {i : Nat} {y : Str} {py : Pos} {elt iter : Expr} {ifs : List Expr} {scope : Scope} {own : List (Str × Nat)} {spos : Pos} {wi : Ev → R (List D)} {tt : Ev → R Bool} {te : Ev → R D} (hyl : X.env.scope.names.lookup y = some .local) (hy : X.N[i]? = some y)
    (hsw : swapsWith (.ListComp elt [⟨tg, iter, ifs, 0⟩] scope pos) (some (.Name y py)) spos.line X.env = pure true) (hc : X.calm = true) (hN : X.N.Nodup) (hi : PI X tg iter (tI mg C W wi)) (ok : BlkOk X.N X.env.scope scope own)
    (hg : ∀ (s : Shared) (H : Hp) (Ca : Addr) (cl : List (Str × Addr)) (fp : List Addr), PG (X.blk s H scope (compEnvC scope cl Ca X.env) fp) tg (tG C g)) (hsub : ∀ d ps, g d = .ok ps → ∀ i ∈ ps.map (·.1), i ∈ own.map (·.2))
    (ht : ∀ (s : Shared) (H : Hp) (Ca : Addr) (cl : List (Str × Addr)) (fp : List Addr), PTs (X.blk s H scope (compEnvC scope cl Ca X.env) fp) ifs (tB mg C W0 tt))
    (he : ∀ (s : Shared) (H : Hp) (Ca : Addr) (cl : List (Str × Addr)) (fp : List Addr), PE (X.blk s H scope (compEnvC scope cl Ca X.env) fp) elt (tD mg C W0 te)) (hs : ∀ x, foldedSetIterable iter X.env x = pure x := by intro _; rfl) :
    PS X (.Assign [.Name y py] (.ListComp elt [⟨tg, iter, ifs, 0⟩] scope pos) spos) (tAsg (tL mg C W (E.comp (own.map (·.2)) wi g tt te)) (gName i)) :=
  PS.to (ps_setLc hc hN hy hyl hsw hi ok hg ht he hs) fun Dn σ H x => seqLc hsub x

/-! ### more that makes lists -/
namespace E
def cat (f h : Ev → R D) : Ev → R (List D) := fun ρ => (f ρ).bind fun x => (h ρ).bind fun y => match x, y with
  | .lst xs, .lst ys => if xs.length + ys.length ≤ LINE then .ok (xs ++ ys) else .bad
  | _, _ => .bad
end E
theorem l_cat (ha : PE X a (tD mg C W f)) (hb : PE X b (tD mg C W h)) : PE X (.BinOp a .Add b pos) (tL mg C W (E.cat f h)) := PE.to (pe_op op_cat ha hb) fun σ H Q x => by
  obtain ⟨F, ρ, s, ok, x⟩ := x
  refine ⟨F, ρ, s, ok, ?_⟩
  unfold E.cat at x
  cases e1 : f ρ with
  | bad => rw [e1] at x; exact x
  | exc c => rw [e1] at x; exact x
  | ok d =>
    rw [e1] at x
    intro v H1 F1 n1 r1
    refine ⟨F1, ρ, n1.fh, ok.mono n1.ff, ?_⟩
    cases e2 : h ρ with
    | bad => rw [R.bind_ok, e2] at x; exact x
    | exc c => rw [R.bind_ok, e2] at x; exact Exc.mono x n1.hh
    | ok y =>
      rw [R.bind_ok, e2, R.bind_ok] at x
      intro u H2 F2 n2 r2
      cases d <;> try exact x.elim
      rename_i xs
      cases y <;> try exact x.elim
      rename_i ys
      dsimp only at x
      by_cases hz : xs.length + ys.length ≤ LINE
      · rw [if_pos hz] at x
        have r1 := r1.mono n2.ff
        simp only [Rep] at r1 r2
        obtain ⟨a1, us, e1, h1, r1⟩ := r1
        obtain ⟨a2, ws, e2, h2, r2⟩ := r2
        refine ⟨a1, a2, us, ws, e1, e2, n2.fh _ _ h1, n2.fh _ _ h2, by rw [r1.len, r2.len]; exact line_ok hz, fun p np => ?_⟩
        have nn := (n1.tr n2)
        refine x p _ _ F2 (nn.tr (.hid n2.fh np)) ?_ (n2.fh.non np) upd_same (r1.app r2)
        cases e : H p with
        | none => exact Eq.refl none
        | some o => rw [nn.hh _ _ e] at np; cases np
      · rw [if_neg hz] at x
        exact x.elim
theorem call_listB : CallR X (.type "list") (fun xs H Q => ∃ p ys, xs = [.ref p] ∧ (SqL X.K H p ys ∨ SqT X.K H p ys) ∧ ∀ l, H l = none → Q (.ref l) (upd H l (.lst ys))) := call_list_of
theorem call_tupleB : CallR X (.type "tuple") (fun xs H Q => ∃ p ys, xs = [.ref p] ∧ ((SqL X.K H p ys ∧ ∀ l, H l = none → Q (.ref l) (upd H l (.tup ys))) ∨ (SqT X.K H p ys ∧ Q (.ref p) H))) := call_tuple_of
end
end TB
/-! the head: facts by names, lists left out (so the script is none of them); the end of a law -/
namespace TB
open PySem PySem.Spec PyProof.Rows L2

def isL (o : Obj) : Bool := match o.cls with
  | .type c => c == "list"
  | _ => false
/-- without the lists -/
def noL (K : PySem.W.Frag) : PySem.W.Frag := K.filter fun q => !isL q.2
theorem lookup_in {a : Addr} {o : Obj} : ∀ {l : List (Addr × Obj)}, l.lookup a = some o → (a, o) ∈ l
  | q :: r, h => by
    rw [List.lookup_cons] at h
    by_cases e : a = q.1
    · subst e
      rw [beq_self_eq_true] at h
      cases h
      exact List.mem_cons_self
    · rw [show (a == q.1) = false from by simpa using e] at h
      exact List.mem_cons_of_mem _ (lookup_in h)
theorem fr_in {g : Addr → Option Obj} {as : List Addr} {a : Addr} {o : Obj} (h : (a, o) ∈ He.frG g as) : g a = some o := by
  unfold He.frG at h
  obtain ⟨b, _, e⟩ := List.mem_filterMap.mp h
  cases hb : g b with
  | none => rw [hb] at e; cases e
  | some u =>
    rw [hb] at e
    cases e
    exact hb
theorem noL_at {g : Addr → Option Obj} {as : List Addr} {a : Addr} {o : Obj} (h : (noL (He.frG g as)).lookup a = some o) : g a = some o ∧ isL o = false := by
  have q := List.mem_filter.mp (lookup_in h)
  exact ⟨fr_in q.1, by simpa using q.2⟩
def obsL (n : Nat) (fa : List He.Fa) (fn : List He.FnD) (g : Addr → Option Obj) : He.Al := He.obsE fa fn (noL (He.frG g (He.asG g n)))
structure SaysL (fa : List He.Fa) (fn : List He.FnD) (h : Heap) (K : PySem.W.Frag) : Prop where
  kin : K.In h
  no : ∀ a o, K.lookup a = some o → isL o = false
  says : He.SaysE fa fn K
def hookL (n : Nat) (fa : List He.Fa) (fn : List He.FnD) : PySem.W.Hook where
  α := He.Al
  obs := fun s => obsL n fa fn s.heap.get?
  val := fun _ => He.valE fn
  says := fun _ h => ∃ K : PySem.W.Frag, SaysL fa fn h K
  of := fun _ _ e => ⟨_, fun _ _ q => (noL_at q).1, fun _ _ q => (noL_at q).2, e⟩
  keeps := fun _ _ _ ⟨K, c⟩ k => ⟨K, PySem.W.Frag.In.keeps c.kin k, c.no, c.says⟩
theorem obsL_eq {n : Nat} {fa : List He.Fa} {fn : List He.FnD} {g : Addr → Option Obj} {s : Shared} (h : ∀ a, g a = s.heap.get? a) : obsL n fa fn g = (hookL n fa fn).obs s := by
  have e : g = s.heap.get? := funext h
  subst e
  rfl
theorem df_of {K : PySem.W.Frag} {mg : Str → Option Value} {x : Str} {st : Stmt} {ps : List Str}
    (h : ∃ oc od osl kV doc pm an cdv ct, K.lookup (He.ga K x) = some ⟨oc, od, .func (PySem.W.fnOf x x (defArgs st) (defBody st) (defScope st) .none kV doc pm an cdv ct), osl⟩ ∧ PySem.W.codeIn K cdv x = true)
    (g : mg x = some (.ref (He.ga K x))) (k : PySem.W.keepIn K (.ref (He.ga K x)) = true)
    (hb : ∀ (kV doc pm : Value) (an : Option Addr) (cdv ct : Value) (us : List Value), us.length = ps.length → bindArgs (PySem.W.fnOf x x (defArgs st) (defBody st) (defScope st) .none kV doc pm an cdv ct) ⟨us, []⟩ = pure (ps.zip us)) : Df K mg x st ps := by
  obtain ⟨oc, od, osl, kV, doc, pm, an, cdv, ct, l, c⟩ := h
  have F := fun_mk (st := st) l c k
  have e := fdOf_eq l
  exact ⟨by rw [e]; exact F, by rw [e]; exact F.binds hb, g⟩
theorem bl_of {K : PySem.W.Frag} {x p : Str} {st : Stmt}
    (h : ∃ oc od osl kV doc pm an cdv ct, K.lookup (He.ga K x) = some ⟨oc, od, .func (PySem.W.fnOf x x (defArgs st) (defBody st) (defScope st) .none kV doc pm an cdv ct), osl⟩ ∧ PySem.W.codeIn K cdv x = true)
    (hb : ∀ (kV doc pm : Value) (an : Option Addr) (cdv ct u : Value), bindArgs (PySem.W.fnOf x x (defArgs st) (defBody st) (defScope st) .none kV doc pm an cdv ct) ⟨[u], []⟩ = pure [(p, u)]) (s : Shared) (u : Value) : BindsTo s (fdOf K (He.ga K x)) ⟨[u], []⟩ [(p, u)] := by
  obtain ⟨oc, od, osl, kV, doc, pm, an, cdv, ct, l, c⟩ := h
  rw [fdOf_eq l]
  exact .of_eq (hb kV doc pm an cdv ct u)
/-- what flies out of any def -/
def CXU : CXT := fun outer H s E u s' => ∃ P w, L2.CX P w outer H s E u s'
theorem ok_cxu {P : Program} {w : World} {K : PySem.W.Frag} {mg : Str → Option Value} {base : Heap} {k : Nat} {fa : Addr} {fd : FuncData} {ps : List Str} {sp : Sp} (F : FnOk P w K mg base (L2.CX P w) k fa fd ps sp) : FnOk P w K mg base CXU k fa fd ps sp :=
  ⟨F.len, fun A outer s H args us vs Q E hr h0 hb hv hs => codeAny_mono (F.run A outer s H args us vs Q E hr h0 hb hv hs) fun r s' h => by
    cases r with
    | error e => exact ⟨P, w, h⟩
    | ok fl => cases fl <;> exact h⟩
/-- the end: the law's pure function is True at every script -/
theorem law_end {l : PySem.W.OpenLaw} {n k N : Nat} {q : Program} {loose : List Str} {XP : (Str → Option Value) → Heap → Prop} {fa : List He.Fa} {fn : List He.FnD} {d : DefRec} {x : Str} {g : List D → R D}
    (hn : l.most = some n) (hn2 : n ≤ sizeLine) (hdf : d.params.defaults = []) (hdn : d.name = "law") (hr : Room k callerA)
    (F : ∀ (w : World) (K : PySem.W.Frag) (mg : Str → Option Value) (h : Heap), SaysL fa fn h K → h.Ns mainGlobals mg → mg "law" = some (.ref (He.ga K "law")) ∧
      (∀ (s : Shared) (u : Value), BindsTo s (fdOf K (He.ga K "law")) ⟨[u], []⟩ [(x, u)]) ∧ ∀ base : Heap, OkD l.prog w K mg base k "law" [x] g)
    (law : ∀ ns : List Int, ns.length ≤ n → g [.scr ns] = .ok (.bl true)) :
    PySem.W.WalkO q loose XP (hookL N fa fn).says l.row.toRowW d [] (fun f vs => PySem.call f vs) := by
  refine L2.walk_ofE (CX := CXU) (x := x) hn hn2 hdf hr ?_ (fun H s e s' => ?_)
  · rintro w mg a0 h ⟨K, c⟩ G hmg
    obtain ⟨g1, g2, g3⟩ := F w K mg h c G
    rw [hdn, g1] at hmg
    cases hmg
    refine ⟨K, _, _, c.kin, g2, fun H a ns hl hO hS => ?_, fun base _ _ => ok_cxu (g3 base)⟩
    rcases hS with (hS | ⟨o, hS⟩) | ⟨o, its, m, hk, hc, _⟩
    · rcases hO a with z | ⟨o, xs, z⟩ <;> rw [hS] at z <;> cases z
    · refine ⟨rfl, H, [.scr ns], Sm.rfl, Reps.one (by simp only [Rep]; exact ⟨a, o, rfl, hS⟩), ?_⟩
      rw [law ns hl]
      intro v H' F' _ r
      simpa only [Rep] using r
    · have z := c.no _ _ hk
      unfold isL at z
      rw [hc] at z
      simp at z
  · rintro ⟨P, w, _, _, _, _, _, _, _, _, _, _, _, _, z⟩
    exact z
end TB
/-! reckoning with the pure functions: rows for simp, loops, comprehensions -/
namespace TB
open PySem PySem.Spec PyProof.Rows L2

/-! ### outcomes put together -/
namespace R
variable {α β : Type}
def bind2 (g : D → D → R D) (x y : R D) : R D := x.bind fun a => y.bind fun b => g a b
@[simp] theorem bind2_ok (g : D → D → R D) (a b : D) : bind2 g (.ok a) (.ok b) = g a b := (rfl)
@[simp] theorem bind2_exc (g : D → D → R D) (c : Str) (y : R D) : bind2 g (.exc c) y = .exc c := (rfl)
@[simp] theorem bind2_exc2 (g : D → D → R D) (a : D) (c : Str) : bind2 g (.ok a) (.exc c) = .exc c := (rfl)
def cons2 (x : R D) (y : R (List D)) : R (List D) := x.bind fun a => y.bind fun b => .ok (a :: b)
@[simp] theorem cons2_ok (a : D) (b : List D) : cons2 (.ok a) (.ok b) = .ok (a :: b) := (rfl)
@[simp] theorem cons2_exc (c : Str) (b : R (List D)) : cons2 (.exc c) b = .exc c := (rfl)
def tst (x : R D) : R Bool := x.bind fun d => match d with | .bl b => .ok b | _ => .bad
@[simp] theorem tst_ok (b : Bool) : tst (.ok (.bl b)) = .ok b := (rfl)
@[simp] theorem tst_exc (c : Str) : tst (.exc c) = .exc c := (rfl)
def andB (x y : R Bool) : R Bool := x.bind fun b => if b then y else .ok false
@[simp] theorem andB_t (y : R Bool) : andB (.ok true) y = y := (rfl)
@[simp] theorem andB_f (y : R Bool) : andB (.ok false) y = .ok false := (rfl)
@[simp] theorem andB_exc (c : Str) (y : R Bool) : andB (.exc c) y = .exc c := (rfl)
@[simp] theorem andB_ok (a b : Bool) : andB (.ok a) (.ok b) = .ok (a && b) := by cases a <;> rfl
def orB (x y : R Bool) : R Bool := x.bind fun b => if b then .ok true else y
@[simp] theorem orB_t (y : R Bool) : orB (.ok true) y = .ok true := (rfl)
@[simp] theorem orB_f (y : R Bool) : orB (.ok false) y = y := (rfl)
@[simp] theorem orB_exc (c : Str) (y : R Bool) : orB (.exc c) y = .exc c := (rfl)
@[simp] theorem orB_ok (a b : Bool) : orB (.ok a) (.ok b) = .ok (a || b) := by cases a <;> rfl
def andV (x : R Bool) (y : R D) : R D := x.bind fun b => if b then y else .ok (.bl false)
@[simp] theorem andV_t (y : R D) : andV (.ok true) y = y := (rfl)
@[simp] theorem andV_f (y : R D) : andV (.ok false) y = .ok (.bl false) := (rfl)
@[simp] theorem andV_exc (c : Str) (y : R D) : andV (.exc c) y = .exc c := (rfl)
@[simp] theorem andV_ok (a b : Bool) : andV (.ok a) (.ok (.bl b)) = .ok (.bl (a && b)) := by cases a <;> rfl
def orV (x : R Bool) (y : R D) : R D := x.bind fun b => if b then .ok (.bl true) else y
@[simp] theorem orV_t (y : R D) : orV (.ok true) y = .ok (.bl true) := (rfl)
@[simp] theorem orV_f (y : R D) : orV (.ok false) y = y := (rfl)
@[simp] theorem orV_exc (c : Str) (y : R D) : orV (.exc c) y = .exc c := (rfl)
@[simp] theorem orV_ok (a b : Bool) : orV (.ok a) (.ok (.bl b)) = .ok (.bl (a || b)) := by cases a <;> rfl
def notV (x : R Bool) : R D := x.map fun b => .bl (!b)
@[simp] theorem notV_ok (b : Bool) : notV (.ok b) = .ok (.bl (!b)) := (rfl)
@[simp] theorem notV_exc (c : Str) : notV (.exc c) = .exc c := (rfl)
def iteB (c : R Bool) (f h : Ev → R D) (ρ : Ev) : R D := c.bind fun b => if b then f ρ else h ρ
@[simp] theorem iteB_t (f h : Ev → R D) (ρ : Ev) : iteB (.ok true) f h ρ = f ρ := (rfl)
@[simp] theorem iteB_f (f h : Ev → R D) (ρ : Ev) : iteB (.ok false) f h ρ = h ρ := (rfl)
@[simp] theorem iteB_exc (c : Str) (f h : Ev → R D) (ρ : Ev) : iteB (.exc c) f h ρ = .exc c := (rfl)
def chain2 (k : D → D → R D) (y : D) (z w : R D) : R D := z.bind fun z => match z with
  | .bl true => w.bind fun w => k y w
  | .bl false => .ok (.bl false)
  | _ => .bad
def chainB (g k : D → D → R D) (x y w : R D) : R D := x.bind fun x => y.bind fun y => chain2 k y (g x y) w
@[simp] theorem chainB_ok (g k : D → D → R D) (x y : D) (w : R D) : chainB g k (.ok x) (.ok y) w = chain2 k y (g x y) w := (rfl)
@[simp] theorem chain2_t (k : D → D → R D) (y w : D) : chain2 k y (.ok (.bl true)) (.ok w) = k y w := (rfl)
@[simp] theorem chain2_f (k : D → D → R D) (y : D) (w : R D) : chain2 k y (.ok (.bl false)) w = .ok (.bl false) := (rfl)
@[simp] theorem chain2_le (i n : Int) (b : Bool) : chain2 dLe (.int i) (.ok (.bl b)) (.ok (.int n)) = .ok (.bl (b && decide (i ≤ n))) := by cases b <;> rfl
def tupB (x : R (List D)) : R D := x.bind fun ds => if ds.length ≤ LINE then .ok (.tup ds) else .bad
@[simp] theorem tupB_ok {ds : List D} (h : ds.length ≤ LINE) : tupB (.ok ds) = .ok (.tup ds) := by unfold tupB; rw [bind_ok, if_pos h]
@[simp] theorem tupB_1 (a : D) : tupB (.ok [a]) = .ok (.tup [a]) := tupB_ok (by show 1 ≤ 1000000; decide)
@[simp] theorem tupB_2 (a b : D) : tupB (.ok [a, b]) = .ok (.tup [a, b]) := tupB_ok (by show 2 ≤ 1000000; decide)
@[simp] theorem tupB_3 (a b c : D) : tupB (.ok [a, b, c]) = .ok (.tup [a, b, c]) := tupB_ok (by show 3 ≤ 1000000; decide)
@[simp] theorem tupB_4 (a b c d : D) : tupB (.ok [a, b, c, d]) = .ok (.tup [a, b, c, d]) := tupB_ok (by show 4 ≤ 1000000; decide)
@[simp] theorem tupB_exc (c : Str) : tupB (.exc c) = .exc c := (rfl)
def lstB (x : R (List D)) : R (List D) := x.bind fun ds => if ds.length ≤ LINE then .ok ds else .bad
@[simp] theorem lstB_ok {ds : List D} (h : ds.length ≤ LINE) : lstB (.ok ds) = .ok ds := by unfold lstB; rw [bind_ok, if_pos h]
@[simp] theorem lstB_0 : lstB (.ok []) = .ok [] := (rfl)
@[simp] theorem lstB_1 (a : D) : lstB (.ok [a]) = .ok [a] := lstB_ok (by show 1 ≤ 1000000; decide)
@[simp] theorem lstB_2 (a b : D) : lstB (.ok [a, b]) = .ok [a, b] := lstB_ok (by show 2 ≤ 1000000; decide)
@[simp] theorem lstB_3 (a b c : D) : lstB (.ok [a, b, c]) = .ok [a, b, c] := lstB_ok (by show 3 ≤ 1000000; decide)
def compB (vs : List Nat) (g : D → R (List (Nat × D))) (p : Ev → R Bool) (f : Ev → R D) (ρ : Ev) (x : R (List D)) : R (List D) := x.bind fun ds => if ds.length ≤ LINE then compF g p f (wipeE vs ρ) ds else .bad
@[simp] theorem compB_ok {vs : List Nat} {g : D → R (List (Nat × D))} {p : Ev → R Bool} {f : Ev → R D} {ρ : Ev} {ds : List D} (h : ds.length ≤ LINE) : compB vs g p f ρ (.ok ds) = compF g p f (wipeE vs ρ) ds := by unfold compB; rw [bind_ok, if_pos h]
def catB (x y : R D) : R (List D) := x.bind fun x => y.bind fun y => match x, y with
  | .lst xs, .lst ys => if xs.length + ys.length ≤ LINE then .ok (xs ++ ys) else .bad
  | _, _ => .bad
@[simp] theorem catB_ok {xs ys : List D} (h : xs.length + ys.length ≤ LINE) : catB (.ok (.lst xs)) (.ok (.lst ys)) = .ok (xs ++ ys) := if_pos h
end R
section
variable (ρ : Ev) (f h j : Ev → R D) (p q : Ev → R Bool) (fs : Ev → R (List D))
/-- what stands in a slot -/
def look (s : Option Sl) : R D := match s with | some (.sh d) => .ok d | _ => .bad
@[simp] theorem look_sh (d : D) : look (some (.sh d)) = .ok d := (rfl)
@[simp] theorem var_ap (i : Nat) : E.var i ρ = look ρ[i]? := (rfl)
@[simp] theorem c_ap (d : D) : E.c d ρ = .ok d := (rfl)
@[simp] theorem bin_ap (g : D → D → R D) : E.bin g f h ρ = R.bind2 g (f ρ) (h ρ) := (rfl)
@[simp] theorem un_ap (g : D → R D) : E.un g f ρ = (f ρ).bind g := (rfl)
@[simp] theorem nil_ap : E.nil ρ = .ok [] := (rfl)
@[simp] theorem cons_ap : E.cons f fs ρ = R.cons2 (f ρ) (fs ρ) := (rfl)
@[simp] theorem app_ap (g : List D → R D) : E.app g fs ρ = (fs ρ).bind g := (rfl)
@[simp] theorem appL_ap (g : List D → R (List D)) : E.appL g fs ρ = (fs ρ).bind g := (rfl)
@[simp] theorem tst_ap : E.tst f ρ = R.tst (f ρ) := (rfl)
@[simp] theorem band_ap : E.band p q ρ = R.andB (p ρ) (q ρ) := (rfl)
@[simp] theorem bor_ap : E.bor p q ρ = R.orB (p ρ) (q ρ) := (rfl)
@[simp] theorem bnot_ap : E.bnot p ρ = (p ρ).map not := (rfl)
@[simp] theorem vand_ap : E.vand f h ρ = R.andV (R.tst (f ρ)) (h ρ) := (rfl)
@[simp] theorem vor_ap : E.vor f h ρ = R.orV (R.tst (f ρ)) (h ρ) := (rfl)
@[simp] theorem vnot_ap : E.vnot f ρ = R.notV (R.tst (f ρ)) := (rfl)
@[simp] theorem ite_ap : E.ite p f h ρ = R.iteB (p ρ) f h ρ := (rfl)
@[simp] theorem chain_ap (g k : D → D → R D) : E.chain g k f h j ρ = R.chainB g k (f ρ) (h ρ) (j ρ) := (rfl)
@[simp] theorem tup_ap : E.tup fs ρ = R.tupB (fs ρ) := (rfl)
@[simp] theorem lst_ap : E.lst fs ρ = R.lstB (fs ρ) := (rfl)
@[simp] theorem ofL_ap : E.ofL fs ρ = (fs ρ).map .lst := (rfl)
@[simp] theorem iter_ap : E.iter f ρ = (f ρ).bind dIter := (rfl)
@[simp] theorem iterA_ap (g : List D → R (List D)) : E.iterA g fs ρ = (fs ρ).bind g := (rfl)
@[simp] theorem comp_ap (vs : List Nat) (g : D → R (List (Nat × D))) : E.comp vs fs g p f ρ = R.compB vs g p f ρ (fs ρ) := (rfl)
@[simp] theorem yes_ap : yes ρ = .ok true := (rfl)
@[simp] theorem cat_ap : E.cat f h ρ = R.catB (f ρ) (h ρ) := (rfl)
end
@[simp] theorem one_ap (i : Nat) (d : D) : G.one i d = .ok [(i, d)] := (rfl)
@[simp] theorem gnil_ap : G.nil [] = .ok [] := (rfl)
@[simp] theorem gcons_ap (g : D → R (List (Nat × D))) (h : List D → R (List (Nat × D))) (d : D) (ds : List D) : G.cons g h (d :: ds) = (g d).bind fun ps => (h ds).bind fun qs => .ok (ps ++ qs) := (rfl)
@[simp] theorem gtup_ap (n : Nat) (h : List D → R (List (Nat × D))) (ds : List D) : G.tup n h (.tup ds) = if ds.length = n then h ds else .bad := (rfl)
@[simp] theorem setD_nil (ρ : Ev) : setD [] ρ = ρ := (rfl)
@[simp] theorem setD_cons (q : Nat × D) (qs : List (Nat × D)) (ρ : Ev) : setD (q :: qs) ρ = setD qs (ρ.set q.1 (.sh q.2)) := (rfl)
@[simp] theorem wipe_nil (ρ : Ev) : wipeE [] ρ = ρ := (rfl)
@[simp] theorem wipe_cons (v : Nat) (vs : List Nat) (ρ : Ev) : wipeE (v :: vs) ρ = (wipeE vs ρ).set v .no := (rfl)
@[simp] theorem fz_sh (d : D) : Sl.fz (.sh d) = .sh d := (rfl)
@[simp] theorem fz_no : Sl.fz .no = .no := (rfl)
@[simp] theorem fz_own (ds : List D) : Sl.fz (.own ds) = .sh (.lst ds) := (rfl)
@[simp] theorem full_nil : full [] = [] := (rfl)
@[simp] theorem full_cons (s : Sl) (ρ : Ev) : full (s :: ρ) = s.fz :: full ρ := (rfl)
@[simp] theorem frz_ap (i : Nat) (ρ : Ev) : frz i ρ = match ρ[i]? with | some (.own ds) => ρ.set i (.sh (.lst ds)) | _ => ρ := (rfl)
/-! ### statements -/
def then_ (o : Out) (k : Ev → Out) : Out := match o with | .nx ρ' => k ρ' | o => o
@[simp] theorem then_nx (ρ : Ev) (k : Ev → Out) : then_ (.nx ρ) k = k ρ := (rfl)
@[simp] theorem then_rt (d : D) (k : Ev → Out) : then_ (.rt d) k = .rt d := (rfl)
@[simp] theorem then_ro (d : List D) (k : Ev → Out) : then_ (.ro d) k = .ro d := (rfl)
@[simp] theorem then_ex (c : Str) (ρ : Ev) (k : Ev → Out) : then_ (.ex c ρ) k = .ex c ρ := (rfl)
def put_ (i : Nat) (ρ : Ev) (r : R D) : Out := match r with | .ok d => .nx (ρ.set i (.sh d)) | .exc c => .ex c ρ | .bad => .bad
@[simp] theorem put_ok_ (i : Nat) (ρ : Ev) (d : D) : put_ i ρ (.ok d) = .nx (ρ.set i (.sh d)) := (rfl)
@[simp] theorem put_exc (i : Nat) (ρ : Ev) (c : Str) : put_ i ρ (.exc c) = .ex c ρ := (rfl)
def putO (i : Nat) (ρ : Ev) (r : R (List D)) : Out := match r with | .ok d => .nx (ρ.set i (.own d)) | .exc c => .ex c ρ | .bad => .bad
@[simp] theorem putO_ok (i : Nat) (ρ : Ev) (d : List D) : putO i ρ (.ok d) = .nx (ρ.set i (.own d)) := (rfl)
@[simp] theorem putO_exc (i : Nat) (ρ : Ev) (c : Str) : putO i ρ (.exc c) = .ex c ρ := (rfl)
def flatR (r : R D) : R D := r.bind fun d => if flat d then .ok d else .bad
@[simp] theorem flatR_i (i : Int) : flatR (.ok (.int i)) = .ok (.int i) := (rfl)
@[simp] theorem flatR_s (i : Str) : flatR (.ok (.str i)) = .ok (.str i) := (rfl)
@[simp] theorem flatR_b (i : Bool) : flatR (.ok (.bl i)) = .ok (.bl i) := (rfl)
@[simp] theorem flatR_exc (c : Str) : flatR (.exc c) = .exc c := (rfl)
def flatsR (r : R (List D)) : R (List D) := r.bind fun ds => if ds.all flat then .ok ds else .bad
theorem flatsR_ok {ds : List D} (h : ds.all flat = true) : flatsR (.ok ds) = .ok ds := if_pos h
def ret_ (ρ : Ev) (r : R D) : Out := match r with | .ok d => .rt d | .exc c => .ex c ρ | .bad => .bad
@[simp] theorem ret_ok (ρ : Ev) (d : D) : ret_ ρ (.ok d) = .rt d := (rfl)
@[simp] theorem ret_exc (ρ : Ev) (c : Str) : ret_ ρ (.exc c) = .ex c ρ := (rfl)
def retL_ (ρ : Ev) (r : R (List D)) : Out := match r with | .ok d => .ro d | .exc c => .ex c ρ | .bad => .bad
@[simp] theorem retL_ok (ρ : Ev) (d : List D) : retL_ ρ (.ok d) = .ro d := (rfl)
@[simp] theorem retL_exc (ρ : Ev) (c : Str) : retL_ ρ (.exc c) = .ex c ρ := (rfl)
def drop_ (ρ : Ev) (r : R D) : Out := match r with | .ok _ => .nx ρ | .exc c => .ex c ρ | .bad => .bad
@[simp] theorem drop_ok (ρ : Ev) (d : D) : drop_ ρ (.ok d) = .nx ρ := (rfl)
@[simp] theorem drop_exc (ρ : Ev) (c : Str) : drop_ ρ (.exc c) = .ex c ρ := (rfl)
def ifs_ (g k : Ev → Out) (ρ : Ev) (r : R Bool) : Out := match r with | .ok b => if b then g ρ else k ρ | .exc c => .ex c ρ | .bad => .bad
@[simp] theorem ifs_t (g k : Ev → Out) (ρ : Ev) : ifs_ g k ρ (.ok true) = g ρ := (rfl)
@[simp] theorem ifs_f (g k : Ev → Out) (ρ : Ev) : ifs_ g k ρ (.ok false) = k ρ := (rfl)
@[simp] theorem ifs_exc (g k : Ev → Out) (ρ : Ev) (c : Str) : ifs_ g k ρ (.exc c) = .ex c ρ := (rfl)
def for_ (t : D → R (List (Nat × D))) (ws : List Nat) (g : Ev → Out) (ρ : Ev) (r : R (List D)) : Out := match r with | .ok ds => S.forF t ws g ds ρ | .exc c => .ex c ρ | .bad => .bad
@[simp] theorem for_ok (t : D → R (List (Nat × D))) (ws : List Nat) (g : Ev → Out) (ρ : Ev) (ds : List D) : for_ t ws g ρ (.ok ds) = S.forF t ws g ds ρ := (rfl)
@[simp] theorem for_exc (t : D → R (List (Nat × D))) (ws : List Nat) (g : Ev → Out) (ρ : Ev) (c : Str) : for_ t ws g ρ (.exc c) = .ex c ρ := (rfl)
def asgT_ (t : D → R (List (Nat × D))) (ρ : Ev) (r : R D) : Out := match r with | .ok d => (match t d with | .ok ps => .nx (setD ps ρ) | _ => .bad) | .exc c => .ex c ρ | .bad => .bad
theorem asgT_ok {t : D → R (List (Nat × D))} {ρ : Ev} {d : D} {ps : List (Nat × D)} (h : t d = .ok ps) : asgT_ t ρ (.ok d) = .nx (setD ps ρ) := by
  show (match t d with | .ok ps => Out.nx (setD ps ρ) | _ => Out.bad) = _
  rw [h]
section
variable (ρ : Ev) (f h : Ev → R D) (p : Ev → R Bool) (fs : Ev → R (List D)) (g k : Ev → Out)
@[simp] theorem seq_ap : S.seq g k ρ = then_ (g ρ) k := (rfl)
@[simp] theorem skip_ap : S.skip ρ = .nx ρ := (rfl)
@[simp] theorem pre_ap (t : Ev → Ev) : S.pre t g ρ = g (t ρ) := (rfl)
@[simp] theorem asg_f (i : Nat) : S.asg false i f ρ = put_ i ρ (f ρ) := (rfl)
@[simp] theorem asg_t (i : Nat) : S.asg true i f ρ = put_ i ρ (flatR (f (full ρ))) := (rfl)
@[simp] theorem asgO_f (i : Nat) : S.asgO false i fs ρ = putO i ρ (fs ρ) := (rfl)
@[simp] theorem asgO_t (i : Nat) : S.asgO true i fs ρ = putO i ρ (flatsR (fs (full ρ))) := (rfl)
@[simp] theorem asgT_ap (t : D → R (List (Nat × D))) : S.asgT false t f ρ = asgT_ t ρ (f ρ) := (rfl)
@[simp] theorem drop_ap : S.drop f ρ = drop_ ρ (f (full ρ)) := (rfl)
@[simp] theorem ret_ap : S.ret f ρ = ret_ ρ (f (full ρ)) := (rfl)
@[simp] theorem retL_ap : S.retL fs ρ = retL_ ρ (fs (full ρ)) := (rfl)
@[simp] theorem retN_ap : S.retN ρ = .rt .non := (rfl)
def retO_ (s : Option Sl) : Out := match s with | some (.own ds) => .ro ds | _ => .bad
@[simp] theorem retO_ok (ds : List D) : retO_ (some (.own ds)) = .ro ds := (rfl)
@[simp] theorem retO_ap (i : Nat) : S.retO i ρ = retO_ ρ[i]? := (rfl)
@[simp] theorem ifs_ap : S.ifs p g k ρ = ifs_ g k ρ (p (full ρ)) := (rfl)
/-- a value put behind a list of one's own -/
def push_ (i : Nat) (ρ : Ev) (s : Option Sl) (r : R D) : Out := match s with
  | some (.own ds) => (match r with | .ok d => if ds.length < LINE then .nx (ρ.set i (.own (ds ++ [d]))) else .bad | .exc c => .ex c ρ | .bad => .bad)
  | _ => .bad
@[simp] theorem push_ok {i : Nat} {ρ : Ev} {ds : List D} {d : D} (h : ds.length < LINE) : push_ i ρ (some (.own ds)) (.ok d) = .nx (ρ.set i (.own (ds ++ [d]))) := if_pos h
@[simp] theorem push_exc (i : Nat) (ρ : Ev) (ds : List D) (c : Str) : push_ i ρ (some (.own ds)) (.exc c) = .ex c ρ := (rfl)
@[simp] theorem push_f (i : Nat) : S.push false i f ρ = push_ i ρ ρ[i]? (f ρ) := by
  simp only [S.push, S.run, S.ev, S.onO, Bool.false_eq_true, if_false, push_]
  cases e : ρ[i]? with
  | none => rfl
  | some s =>
    cases s with
    | own ds =>
      cases f ρ with
      | ok d => dsimp only; by_cases hz : ds.length < LINE <;> simp [hz]
      | exc c => rfl
      | bad => rfl
    | _ => rfl
@[simp] theorem push_t (i : Nat) : S.push true i f ρ = push_ i ρ ρ[i]? (flatR (f (full ρ))) := by
  simp only [S.push, S.run, S.ev, S.onO, if_true, push_, flatR]
  cases e : ρ[i]? with
  | none => rfl
  | some s =>
    cases s with
    | own ds =>
      cases f (full ρ) with
      | ok d =>
        simp only [R.bind_ok]
        by_cases hf : flat d = true
        · simp only [hf, if_true]; by_cases hz : ds.length < LINE <;> simp [hz]
        · simp [hf]
      | exc c => rfl
      | bad => rfl
    | _ => rfl
theorem put_ok {i : Nat} {ds : List D} {d : D} {n : Nat} {z : Int} (hi : ρ[i]? = some (.own ds)) (hf : f (full ρ) = .ok d) (hd : flat d = true) (hk : h (full ρ) = .ok (.int z)) (hn : ixN ds.length z = some n) : S.put i h f ρ = .nx (ρ.set i (.own (ds.set n d))) := by
  have e : flat (.int z) = true := rfl
  simp only [S.put, S.run, S.ev, S.onO, if_true, hf, R.bind_ok, hd, hi, hk, e, hn]
@[simp] theorem rev_ap (i : Nat) : S.rev i ρ = match ρ[i]? with | some (.own ds) => .nx (ρ.set i (.own ds.reverse)) | _ => .bad := (rfl)
@[simp] theorem clr_ap (i : Nat) : S.clr i ρ = match ρ[i]? with | some (.own ds) => .nx (ρ.set i (.own [])) | _ => .bad := (rfl)
@[simp] theorem forS_ap (t : D → R (List (Nat × D))) (ws : List Nat) : S.forS false fs t ws g ρ = for_ t ws g ρ (fs ρ) := (rfl)
@[simp] theorem wh_ap (fu : Ev → Nat) : S.wh fu p g ρ = S.whF p g (fu ρ) ρ := (rfl)
@[simp] theorem whF_succ (n : Nat) : S.whF p g (n + 1) ρ = match p (full ρ) with
    | .ok true => (match g ρ with
      | .nx ρ' => S.whF p g n ρ'
      | o => o)
    | .ok false => .nx ρ
    | .exc c => .ex c ρ
    | .bad => .bad := rfl
end
@[simp] theorem fin_rt (d : D) : fin (.rt d) = .ok d := (rfl)
@[simp] theorem fin_ro (d : List D) : fin (.ro d) = .ok (.lst d) := (rfl)
@[simp] theorem fin_nx (ρ : Ev) : fin (.nx ρ) = .ok .non := (rfl)
@[simp] theorem fin_ex (c : Str) (ρ : Ev) : fin (.ex c ρ) = .exc c := (rfl)
@[simp] theorem finL_ro (d : List D) : finL (.ro d) = .ok d := (rfl)
@[simp] theorem finL_ex (c : Str) (ρ : Ev) : finL (.ex c ρ) = .exc c := (rfl)
/-! ### data -/
@[simp] theorem add_ii (i j : Int) : dAdd (.int i) (.int j) = .ok (.int (i + j)) := (rfl)
@[simp] theorem sub_ii (i j : Int) : dSub (.int i) (.int j) = .ok (.int (i - j)) := (rfl)
theorem mul_ii {i j : Int} (h : (-(2 ^ 64) < i ∧ i < 2 ^ 64) ∨ (-(2 ^ 64) < j ∧ j < 2 ^ 64)) : dMul (.int i) (.int j) = .ok (.int (i * j)) := by
  show (if cMul i j = true then _ else _) = _
  exact if_pos (decide_eq_true h)
theorem div_ii {i j : Int} (h : 0 < j ∧ j < 1073741824) : dDiv (.int i) (.int j) = .ok (.int (i / j)) := by
  show (if cDiv i j = true then _ else _) = _
  exact if_pos (decide_eq_true h)
theorem mod_ii {i j : Int} (h : 0 < j) : dMod (.int i) (.int j) = .ok (.int (i % j)) := by
  show (if cMod i j = true then _ else _) = _
  exact if_pos (decide_eq_true h)
@[simp] theorem lt_ii (i j : Int) : dLt (.int i) (.int j) = .ok (.bl (decide (i < j))) := (rfl)
@[simp] theorem le_ii (i j : Int) : dLe (.int i) (.int j) = .ok (.bl (decide (i ≤ j))) := (rfl)
@[simp] theorem gt_ii (i j : Int) : dGt (.int i) (.int j) = .ok (.bl (decide (j < i))) := (rfl)
@[simp] theorem ge_ii (i j : Int) : dGe (.int i) (.int j) = .ok (.bl (decide (j ≤ i))) := (rfl)
@[simp] theorem eq_ii (i j : Int) : dEq (.int i) (.int j) = .ok (.bl (i == j)) := (rfl)
@[simp] theorem ne_ii (i j : Int) : dNe (.int i) (.int j) = .ok (.bl (!(i == j))) := (rfl)
@[simp] theorem eq_ss (i j : Str) : dEq (.str i) (.str j) = .ok (.bl (i == j)) := (rfl)
@[simp] theorem ne_ss (i j : Str) : dNe (.str i) (.str j) = .ok (.bl (!(i == j))) := (rfl)
@[simp] theorem len_l (ds : List D) : dLen [.lst ds] = .ok (.int ds.length) := (rfl)
@[simp] theorem len_t (ds : List D) : dLen [.tup ds] = .ok (.int ds.length) := (rfl)
@[simp] theorem len_s (ns : List Int) : dLen [.scr ns] = .ok (.int ns.length) := (rfl)
theorem len_x {x : Str} (h : x.length ≤ LINE) : dLen [.str x] = .ok (.int x.length) := by
  show (if x.length ≤ LINE then _ else _) = _
  rw [if_pos h]
@[simp] theorem neg_i (i : Int) : dNeg (.int i) = .ok (.int (-i)) := (rfl)
@[simp] theorem isi_i (T : String) (i : Int) : dIsi T (.int i) = .ok (.bl (subT "int" T)) := (rfl)
@[simp] theorem isi_b (T : String) (i : Bool) : dIsi T (.bl i) = .ok (.bl (subT "bool" T)) := (rfl)
@[simp] theorem isi_n (T : String) : dIsi T .non = .ok (.bl (subT "NoneType" T)) := (rfl)
@[simp] theorem isi_s (T : String) (i : Str) : dIsi T (.str i) = .ok (.bl (subT "str" T)) := (rfl)
@[simp] theorem isi_l (T : String) (i : List D) : dIsi T (.lst i) = .ok (.bl (subT "list" T)) := (rfl)
@[simp] theorem isi_t (T : String) (i : List D) : dIsi T (.tup i) = .ok (.bl (subT "tuple" T)) := (rfl)
@[simp] theorem list_l (ds : List D) : dList [.lst ds] = .ok ds := (rfl)
@[simp] theorem list_t (ds : List D) : dList [.tup ds] = .ok ds := (rfl)
@[simp] theorem tuple_l (ds : List D) : dTuple [.lst ds] = .ok (.tup ds) := (rfl)
@[simp] theorem iter_l (ds : List D) : dIter (.lst ds) = .ok ds := (rfl)
@[simp] theorem iter_t (ds : List D) : dIter (.tup ds) = .ok ds := (rfl)
@[simp] theorem int_b (b : Bool) : dInt [.bl b] = .ok (.int (if b then 1 else 0)) := (rfl)
@[simp] theorem zip_ll (ds es : List D) : dZip [.lst ds, .lst es] = .ok (pairs ds es) := (rfl)
@[simp] theorem zip_lt (ds es : List D) : dZip [.lst ds, .tup es] = .ok (pairs ds es) := (rfl)
@[simp] theorem enum_l (ds : List D) : dEnum [.lst ds] = .ok (numbered ds) := (rfl)
theorem ixN_nat {n i : Nat} (h : i < n) : ixN n (i : Int) = some i := by
  unfold ixN
  simp [h]
theorem atI_nat' {α : Type} (l : List α) (i : Nat) : atI l (i : Int) = l[i]? := by
  unfold atI
  by_cases h : i < l.length
  · rw [ixN_nat h]; rfl
  · unfold ixN
    simp [h]
theorem ix_l (ds : List D) (i : Int) : dIx (.lst ds) (.int i) = match atI ds i with | some d => .ok d | none => .bad := rfl
theorem ix_t (ds : List D) (i : Int) : dIx (.tup ds) (.int i) = match atI ds i with | some d => .ok d | none => .bad := rfl
theorem ix_s (ns : List Int) (i : Int) : dIx (.scr ns) (.int i) = match atI ns i with | some d => .ok (.int d) | none => .bad := rfl
theorem ix_ln {ds : List D} {i : Nat} {d : D} (h : ds[i]? = some d) : dIx (.lst ds) (.int i) = .ok d := by
  rw [ix_l, atI_nat', h]
theorem ix_tn {ds : List D} {i : Nat} {d : D} (h : ds[i]? = some d) : dIx (.tup ds) (.int i) = .ok d := by
  rw [ix_t, atI_nat', h]
theorem ix_sn {ns : List Int} {i : Nat} {d : Int} (h : ns[i]? = some d) : dIx (.scr ns) (.int i) = .ok (.int d) := by
  rw [ix_s, atI_nat', h]
theorem upTo_nat (n : Nat) : upTo 0 n = (List.range n).map fun (k : Nat) => D.int k := by
  unfold upTo
  exact List.map_congr_left fun k _ => by rw [Int.zero_add]
theorem range1_nat {n : Nat} (h : n < 1000000) : dRange1 [.int n] = .ok ((List.range n).map fun (k : Nat) => D.int k) := by
  have e : dRange1 [.int n] = if -(2 ^ 62) ≤ (n : Int) ∧ (n : Int) < 2 ^ 62 then .ok (upTo 0 (n : Int).toNat) else .bad := rfl
  rw [e, if_pos (by omega), Int.toNat_natCast, upTo_nat]
/-! ### == of the same -/
mutual
theorem eqv_same : ∀ (n : Nat) (d : D), wide n d = true → PyData.eqv d.py d.py = true
  | _, .non, _ => by simp [D.py, PyData.eqv]
  | _, .bl b, _ => by simp [D.py, PyData.eqv]
  | _, .int i, _ => by simp [D.py, PyData.eqv]
  | _, .str x, _ => by simp [D.py, PyData.eqv]
  | n, .lst ds, h => by
    simp only [wide] at h
    simp only [D.py, PyData.eqv]
    exact eqvs_same n ds h
  | n, .tup ds, h => by
    simp only [wide] at h
    simp only [D.py, PyData.eqv]
    exact eqvs_same n ds h
  | _, .shop _ _, h => by simp [wide] at h
  | _, .scr _, h => by simp [wide] at h
theorem eqvs_same : ∀ (n : Nat) (ds : List D), wides n ds = true → PyData.eqvAll (D.pys ds) (D.pys ds) = true
  | _, [], _ => by simp [D.pys, PyData.eqvAll]
  | 0, _ :: _, h => by simp [wides] at h
  | n + 1, d :: ds, h => by
    simp only [wides, Bool.and_eq_true] at h
    simp only [D.pys, PyData.eqvAll, eqv_same n d h.1, eqvs_same (n + 1) ds h.2, Bool.and_self]
end
theorem eqF_same (d : D) (h : scalD d d = true) : eqF d d = true := by
  cases d <;> simp_all [scalD, eqF]
theorem eq_same {d : D} (h : wide 9 d = true) : dEq d d = .ok (.bl true) := by
  unfold dEq
  by_cases q : scalD d d = true
  · rw [if_pos q, eqF_same d q]
  · rw [if_neg q, h, eqv_same 9 d h]
    rfl
theorem ne_same {d : D} (h : wide 9 d = true) : dNe d d = .ok (.bl false) := by
  unfold dNe
  by_cases q : scalD d d = true
  · rw [if_pos q, eqF_same d q]
    rfl
  · rw [if_neg q, h, eqv_same 9 d h]
    rfl
theorem wides_map {α : Type} {n : Nat} {f : α → D} {l : List α} (h : ∀ x ∈ l, wide n (f x) = true) : wides (n + 1) (l.map f) = true := by
  rw [wides_iff, List.all_map, List.all_eq_true]
  exact fun x hx => h x hx
theorem wide_ints {n : Nat} (l : List Int) : wide (n + 1) (.lst (l.map .int)) = true := by
  simp only [wide]
  exact wides_map fun _ _ => by simp [wide]
theorem wide_tints {n : Nat} (l : List Int) : wide (n + 1) (.tup (l.map .int)) = true := by
  simp only [wide]
  exact wides_map fun _ _ => by simp [wide]
/-! ### loops -/
/-- one turn -/
def turn (g : D → R (List (Nat × D))) (ws : List Nat) (body : Ev → Out) (d : D) (ρ : Ev) : Out := match g d with
  | .ok ps => match body (setD ps ρ) with
    | .nx ρ' => .nx (wipeE ws ρ')
    | o => o
  | _ => .bad
theorem forF_cons {g : D → R (List (Nat × D))} {ws : List Nat} {body : Ev → Out} {d : D} {ds : List D} {ρ : Ev} : S.forF g ws body (d :: ds) ρ = match turn g ws body d ρ with
    | .nx ρ' => S.forF g ws body ds ρ'
    | o => o := by
  show (match g d with | .ok ps => (match body (setD ps ρ) with | .nx ρ' => S.forF g ws body ds (wipeE ws ρ') | o => o) | _ => .bad) = _
  unfold turn
  cases g d with
  | ok ps =>
    dsimp only
    cases body (setD ps ρ) <;> rfl
  | exc c => rfl
  | bad => rfl
theorem forF_fold {α σ : Type} {g : D → R (List (Nat × D))} {ws : List Nat} {body : Ev → Out} (k : α → D) (env : σ → Ev) (step : σ → α → σ) (I : σ → Prop) : ∀ (xs : List α) (s : σ), I s →
    (∀ s x, x ∈ xs → I s → turn g ws body (k x) (env s) = .nx (env (step s x)) ∧ I (step s x)) → S.forF g ws body (xs.map k) (env s) = .nx (env (xs.foldl step s)) ∧ I (xs.foldl step s)
  | [], s, i, _ => ⟨rfl, i⟩
  | x :: xs, s, i, h => by
    obtain ⟨h1, h2⟩ := h s x List.mem_cons_self i
    rw [List.map_cons, forF_cons, h1]
    exact forF_fold k env step I xs (step s x) h2 fun s y hy => h s y (List.mem_cons_of_mem _ hy)
/-- .. with the turn's number -/
theorem forF_foldN {α σ : Type} {g : D → R (List (Nat × D))} {ws : List Nat} {body : Ev → Out} (k : α → D) (env : σ → Ev) (step : σ → α → σ) (I : Nat → σ → Prop) (xs : List α) (s : σ) (h0 : I 0 s)
    (h : ∀ i s x, xs[i]? = some x → I i s → turn g ws body (k x) (env s) = .nx (env (step s x)) ∧ I (i + 1) (step s x)) : S.forF g ws body (xs.map k) (env s) = .nx (env (xs.foldl step s)) ∧ I xs.length (xs.foldl step s) := by
  have go : ∀ (ys : List α) (i : Nat) (s : σ), I i s → (∀ j s x, ys[j]? = some x → I (i + j) s → turn g ws body (k x) (env s) = .nx (env (step s x)) ∧ I (i + j + 1) (step s x)) →
      S.forF g ws body (ys.map k) (env s) = .nx (env (ys.foldl step s)) ∧ I (i + ys.length) (ys.foldl step s) := by
    intro ys
    induction ys with
    | nil => exact fun i s hi _ => ⟨rfl, hi⟩
    | cons y ys ih =>
      intro i s hi hh
      obtain ⟨h1, h2⟩ := hh 0 s y rfl hi
      rw [List.map_cons, forF_cons, h1]
      have z := ih (i + 1) (step s y) h2 fun j s x hj hI => by
        have q := hh (j + 1) s x hj (by rw [show i + (j + 1) = i + 1 + j by omega]; exact hI)
        rw [show i + (j + 1) + 1 = i + 1 + j + 1 by omega] at q
        exact q
      rw [show i + 1 + ys.length = i + (y :: ys).length by simp; omega] at z
      exact z
  have z := go xs 0 s h0 fun j s x hj hI => by
    rw [Nat.zero_add] at hI ⊢
    exact h j s x hj hI
  rw [Nat.zero_add] at z
  exact z
/-- a loop that changes nothing and may answer -/
theorem forF_ans {α : Type} {g : D → R (List (Nat × D))} {ws : List Nat} {body : Ev → Out} (k : α → D) (ρ : Ev) (p : α → Bool) (d : D) : ∀ xs : List α,
    (∀ x ∈ xs, turn g ws body (k x) ρ = if p x then .rt d else .nx ρ) → S.forF g ws body (xs.map k) ρ = if xs.any p then .rt d else .nx ρ
  | [], _ => rfl
  | x :: xs, h => by
    rw [List.map_cons, forF_cons, h x List.mem_cons_self]
    by_cases q : p x = true
    · simp [q]
    · rw [if_neg q]
      simp only [List.any_cons, q, Bool.false_or]
      exact forF_ans k ρ p d xs fun y hy => h y (List.mem_cons_of_mem _ hy)
theorem forF_all {α : Type} {g : D → R (List (Nat × D))} {ws : List Nat} {body : Ev → Out} (k : α → D) (ρ : Ev) (xs : List α)
    (h : ∀ x ∈ xs, turn g ws body (k x) ρ = .nx ρ) : S.forF g ws body (xs.map k) ρ = .nx ρ := by
  rw [forF_ans k ρ (fun _ => false) .non xs fun x hx => by simpa using h x hx]
  simp
theorem compF_map {α : Type} {g : D → R (List (Nat × D))} {tt : Ev → R Bool} {te : Ev → R D} {ρ : Ev} (k : α → D) (p : α → Bool) (f : α → D) : ∀ xs : List α,
    (∀ x ∈ xs, ∃ ps, g (k x) = .ok ps ∧ tt (setD ps ρ) = .ok (p x) ∧ (p x = true → te (setD ps ρ) = .ok (f x))) → compF g tt te ρ (xs.map k) = .ok ((xs.filter p).map f)
  | [], _ => rfl
  | x :: xs, h => by
    obtain ⟨ps, h1, h2, h3⟩ := h x List.mem_cons_self
    have ih := compF_map k p f xs fun y hy => h y (List.mem_cons_of_mem _ hy)
    rw [List.map_cons]
    unfold compF
    rw [h1]
    dsimp only
    rw [h2]
    by_cases q : p x = true
    · rw [q]
      dsimp only
      rw [h3 q]
      dsimp only
      rw [ih, List.filter_cons_of_pos q]
      rfl
    · have q' : p x = false := by simpa using q
      rw [q']
      dsimp only
      rw [ih, List.filter_cons_of_neg (by simp [q'])]
theorem compF_all {α : Type} {g : D → R (List (Nat × D))} {te : Ev → R D} {ρ : Ev} (k : α → D) (f : α → D) (xs : List α)
    (h : ∀ x ∈ xs, ∃ ps, g (k x) = .ok ps ∧ te (setD ps ρ) = .ok (f x)) : compF g yes te ρ (xs.map k) = .ok (xs.map f) := by
  rw [compF_map k (fun _ => true) f xs fun x hx => by
    obtain ⟨ps, h1, h2⟩ := h x hx
    exact ⟨ps, h1, rfl, fun _ => h2⟩]
  rw [List.filter_eq_self.mpr fun _ _ => rfl]
end TB
namespace TB
open PySem PySem.Spec PyProof.Rows L2
def u_within : Ev → Out :=
    S.seq (S.asg false 1 (E.c (.int 1)))
    (S.seq (S.pre (wipeE [2]) (S.forS false (E.iter (E.var 0)) (G.one 2) [2]
      (S.asg false 1 (E.bin dMul (E.var 1) (E.bin dAdd (E.var 2) (E.c (.int 1)))))))
    (S.ret (E.var 1)))
def f_within (ds : List D) : R D := fin (u_within (start 3 ds))

def u_number_of : Ev → Out :=
    S.seq (S.asg false 2 (E.c (.int 0)))
    (S.seq (S.asg false 3 (E.c (.int 1)))
    (S.seq (S.pre (wipeE [4, 5]) (S.forS false (E.iterA dZip (E.cons (E.var 0) (E.cons (E.var 1) E.nil))) (G.tup 2 (G.cons (G.one 4) (G.cons (G.one 5) G.nil))) [4, 5]
      (S.seq (S.asg false 2 (E.bin dAdd (E.var 2) (E.bin dMul (E.var 5) (E.var 3))))
    (S.asg false 3 (E.bin dMul (E.var 3) (E.bin dAdd (E.var 4) (E.c (.int 1))))))))
    (S.ret (E.var 2))))
def f_number_of (ds : List D) : R D := fin (u_number_of (start 6 ds))

def u_counts_of : Ev → Out :=
    S.seq (S.asgO false 2 (E.lst E.nil))
    (S.seq (S.pre (wipeE [3]) (S.forS false (E.iter (E.var 0)) (G.one 3) [3]
      (S.seq (S.push false 2 (E.bin dMod (E.var 1) (E.bin dAdd (E.var 3) (E.c (.int 1)))))
    (S.asg false 1 (E.bin dDiv (E.var 1) (E.bin dAdd (E.var 3) (E.c (.int 1))))))))
    (S.retO 2))
def fl_counts_of (ds : List D) : R (List D) := finL (u_counts_of (start 4 ds))
def f_counts_of (ds : List D) : R D := (fl_counts_of ds).map .lst

def u__law_cell_at : Ev → Out :=
    S.seq (S.ifs (E.tst (E.bin dLt (E.var 1) (E.app dLen (E.cons (E.var 0) E.nil)))) (S.ret (E.bin dIx (E.var 0) (E.var 1))) S.skip)
    (S.ret (E.c (.int 0)))
def f__law_cell_at (ds : List D) : R D := fin (u__law_cell_at (start 2 ds))

def u__law_number : Ev → Out :=
    S.seq (S.ifs (E.tst (E.bin dEq (E.app dLen (E.cons (E.var 0) E.nil)) (E.c (.int 0)))) (S.ret (E.bin dMul (E.c (.int 5003)) (E.var 1))) S.skip)
    (S.seq (S.asg false 2 (E.bin dAdd (E.bin dAdd (E.bin dIx (E.var 0) (E.bin dMod (E.var 1) (E.app dLen (E.cons (E.var 0) E.nil)))) (E.bin dMul (E.c (.int 7919)) (E.bin dDiv (E.var 1) (E.app dLen (E.cons (E.var 0) E.nil))))) (E.bin dMul (E.c (.int 101)) (E.var 1))))
    (S.ret (E.bin dMod (E.bin dMul (E.var 2) (E.c (.int 48271))) (E.c (.int 2147483647)))))
def f__law_number (ds : List D) : R D := fin (u__law_number (start 3 ds))

def u__law_whole : Ev → Out :=
    S.ret (E.vand (E.un (dIsi "int") (E.var 0)) (E.vnot (E.un (dIsi "bool") (E.var 0))))
def f__law_whole (ds : List D) : R D := fin (u__law_whole (start 1 ds))

def u__law_listed : Ev → Out :=
    S.seq (S.ifs (E.bor (E.bnot (E.tst (E.un (dIsi "list") (E.var 0)))) (E.tst (E.bin dNe (E.app dLen (E.cons (E.var 0) E.nil)) (E.app dLen (E.cons (E.var 1) E.nil))))) (S.ret (E.c (.bl false))) S.skip)
    (S.seq (S.pre (wipeE [2]) (S.forS false (E.iter (E.var 0)) (G.one 2) [2]
      (S.ifs (E.bnot (E.tst (E.app f__law_whole (E.cons (E.var 2) E.nil)))) (S.ret (E.c (.bl false))) S.skip)))
    (S.ret (E.bin dEq (E.var 0) (E.var 1))))
def f__law_listed (ds : List D) : R D := fin (u__law_listed (start 3 ds))

def u__law_counts : Ev → Out :=
    S.seq (S.asgO false 2 (E.lst E.nil))
    (S.seq (S.pre (wipeE [3]) (S.forS false (E.iter (E.var 0)) (G.one 3) [3]
      (S.seq (S.push false 2 (E.bin dMod (E.var 1) (E.bin dAdd (E.var 3) (E.c (.int 1)))))
    (S.asg false 1 (E.bin dDiv (E.var 1) (E.bin dAdd (E.var 3) (E.c (.int 1))))))))
    (S.ret (E.var 2)))
def f__law_counts (ds : List D) : R D := fin (u__law_counts (start 4 ds))

def u__law_many : Ev → Out :=
    S.seq (S.asg false 1 (E.c (.int 1)))
    (S.seq (S.pre (wipeE [2]) (S.forS false (E.iter (E.var 0)) (G.one 2) [2]
      (S.asg false 1 (E.bin dMul (E.var 1) (E.bin dAdd (E.var 2) (E.c (.int 1)))))))
    (S.ret (E.var 1)))
def f__law_many (ds : List D) : R D := fin (u__law_many (start 3 ds))

def u__law_step : Ev → Out :=
    S.seq (S.asg false 2 (E.c (.int 1)))
    (S.seq (S.asg false 3 (E.c (.int 0)))
    (S.seq (S.pre (wipeE [4, 5]) (S.forS false (E.iterA dZip (E.cons (E.var 0) (E.cons (E.var 1) E.nil))) (G.tup 2 (G.cons (G.one 4) (G.cons (G.one 5) G.nil))) [4, 5]
      (S.seq (S.asg false 3 (E.bin dAdd (E.var 3) (E.bin dMul (E.var 5) (E.var 2))))
    (S.asg false 2 (E.bin dMul (E.var 2) (E.bin dAdd (E.var 4) (E.c (.int 1))))))))
    (S.ret (E.var 3))))
def f__law_step (ds : List D) : R D := fin (u__law_step (start 6 ds))

def u__law_has : Ev → Out :=
    S.ret (E.bin dEq (E.app dLen (E.cons (E.ofL (E.comp [2] (E.iterA dRange1 (E.cons (E.app dLen (E.cons (E.var 0) E.nil)) E.nil)) (G.one 2) (E.tst (E.bin dLt (E.bin dIx (E.var 0) (E.var 2)) (E.bin dIx (E.var 1) (E.var 2)))) (E.var 2))) E.nil)) (E.c (.int 0)))
def f__law_has (ds : List D) : R D := fin (u__law_has (start 3 ds))

def u_law : Ev → Out :=
    S.seq (S.asg false 1 (E.ofL (E.comp [9] (E.iterA dRange1 (E.cons (E.bin dAdd (E.c (.int 1)) (E.bin dMod (E.app f__law_cell_at (E.cons (E.var 0) (E.cons (E.c (.int 0)) E.nil))) (E.c (.int 5)))) E.nil)) (G.one 9) yes (E.bin dMod (E.bin dDiv (E.app f__law_number (E.cons (E.var 0) (E.cons (E.var 9) E.nil))) (E.c (.int 7))) (E.c (.int 10))))))
    (S.seq (S.asg false 2 (E.ofL (E.appL dList (E.cons (E.var 1) E.nil))))
    (S.seq (S.asg false 3 (E.app f_within (E.cons (E.var 2) E.nil)))
    (S.seq (S.ifs (E.bor (E.bnot (E.tst (E.app f__law_whole (E.cons (E.var 3) E.nil)))) (E.bor (E.tst (E.bin dNe (E.var 3) (E.app f__law_many (E.cons (E.var 1) E.nil)))) (E.tst (E.bin dNe (E.c (.int 300)) (E.c (.int 300)))))) (S.ret (E.c (.bl false))) S.skip)
    (S.seq (S.pre (wipeE [4, 5, 6, 7, 8]) (S.forS false (E.iter (E.tup (E.cons (E.c (.int 0)) (E.cons (E.bin dSub (E.var 3) (E.c (.int 1))) (E.cons (E.bin dMod (E.app f__law_cell_at (E.cons (E.var 0) (E.cons (E.c (.int 1)) E.nil))) (E.var 3)) (E.cons (E.bin dMod (E.app f__law_number (E.cons (E.var 0) (E.cons (E.c (.int 9)) E.nil))) (E.var 3)) E.nil)))))) (G.one 4) [4, 5, 6, 7, 8]
      (S.seq (S.asg false 5 (E.app f__law_counts (E.cons (E.var 1) (E.cons (E.var 4) E.nil))))
    (S.seq (S.asgO false 6 (E.appL fl_counts_of (E.cons (E.var 2) (E.cons (E.var 4) E.nil))))
    (S.seq (S.push false 6 (E.un dNeg (E.c (.int 1))))
    (S.seq (S.asg false 7 (E.ofL (E.appL fl_counts_of (E.cons (E.var 2) (E.cons (E.var 4) E.nil)))))
    (S.seq (S.ifs (E.tst (E.bin dNe (E.var 6) (E.bin dAdd (E.var 7) (E.ofL (E.lst (E.cons (E.un dNeg (E.c (.int 1))) E.nil)))))) (S.ret (E.c (.bl false))) S.skip)
    (S.seq (S.ifs (E.bnot (E.tst (E.app f__law_listed (E.cons (E.var 7) (E.cons (E.var 5) E.nil))))) (S.ret (E.c (.bl false))) S.skip)
    (S.seq (S.asg false 8 (E.app f_number_of (E.cons (E.var 2) (E.cons (E.var 7) E.nil))))
    (S.ifs (E.bor (E.bnot (E.tst (E.app f__law_whole (E.cons (E.var 8) E.nil)))) (E.bor (E.tst (E.bin dNe (E.var 8) (E.var 4))) (E.bor (E.tst (E.bin dNe (E.var 7) (E.var 5))) (E.tst (E.bin dNe (E.var 2) (E.var 1)))))) (S.ret (E.c (.bl false))) S.skip))))))))))
    (S.ret (E.bin dEq (E.app f__law_step (E.cons (E.var 1) (E.cons (E.var 1) E.nil))) (E.bin dSub (E.var 3) (E.c (.int 1)))))))))
def f_law (ds : List D) : R D := fin (u_law (start 10 ds))

end TB
namespace TB
open PySem PySem.Spec PyProof.Rows L2

def cellAt (ns : List Int) (k : Nat) : Int := ns.getD k 0
theorem cell_at_ok (ns : List Int) (k : Nat) : f__law_cell_at [.scr ns, .int k] = .ok (.int (cellAt ns k)) := by
  unfold f__law_cell_at u__law_cell_at start cellAt
  simp
  by_cases h : k < ns.length
  · simp [h, ix_sn (List.getElem?_eq_getElem h)]
  · simp [h]
def numAt (ns : List Int) (k : Nat) : Int := if ns.length = 0 then 5003 * k else (ns.getD (k % ns.length) 0 + 7919 * ((k / ns.length : Nat) : Int) + 101 * k) * 48271 % 2147483647
theorem numAt_nonneg (ns : List Int) (k : Nat) : 0 ≤ numAt ns k := by
  unfold numAt
  split
  · omega
  · exact Int.emod_nonneg _ (by decide)
theorem number_ok (ns : List Int) (k : Nat) (hl : ns.length ≤ 63) : f__law_number [.scr ns, .int k] = .ok (.int (numAt ns k)) := by
  unfold f__law_number u__law_number start numAt
  simp
  by_cases h : ns.length = 0
  · have h' : ns = [] := List.length_eq_zero_iff.mp h
    simp [h', mul_ii (i := 5003) (j := (k : Int)) (.inl ⟨by decide, by decide⟩)]
  · have hp : 0 < ns.length := by omega
    have lt : k % ns.length < ns.length := Nat.mod_lt _ hp
    have h' : ns ≠ [] := fun z => h (by rw [z]; rfl)
    have e3 := ix_sn (List.getElem?_eq_getElem lt)
    rw [Int.natCast_emod] at e3
    have e1 := mod_ii (i := k) (j := ns.length) (by omega)
    have e2 := div_ii (i := k) (j := ns.length) (by omega)
    have e4 : (((ns.length : Nat) : Int) == 0) = false := by simpa using h'
    simp [h, e1, e2, e3, e4, h', mul_ii (i := 7919) (.inl ⟨by decide, by decide⟩), mul_ii (i := 101) (.inl ⟨by decide, by decide⟩), mul_ii (j := 48271) (.inr ⟨by decide, by decide⟩), mod_ii (j := 2147483647) (by decide), List.getElem?_eq_getElem lt]
/-! ### baskets -/
abbrev iL (ns : List Int) : List D := ns.map .int
def many : List Int → Int
  | [] => 1
  | m :: b => (m + 1) * many b
def cnts : List Int → Int → List Int
  | [], _ => []
  | m :: b, n => n % (m + 1) :: cnts b (n / (m + 1))
def num : List Int → List Int → Int
  | m :: b, c :: cs => c + (m + 1) * num b cs
  | _, _ => 0
/-- counts of a basket -/
def Cnt (b : List Int) : Prop := ∀ c ∈ b, 0 ≤ c ∧ c ≤ 9
theorem Cnt.tail {m : Int} {b : List Int} (h : Cnt (m :: b)) : Cnt b := fun c hc => h c (List.mem_cons_of_mem _ hc)
theorem many_pos : ∀ {b : List Int}, Cnt b → 0 < many b
  | [], _ => by simp [many]
  | m :: b, h => by
    have h1 := h m List.mem_cons_self
    have ih := many_pos h.tail
    unfold many
    exact Int.mul_pos (by omega) ih
theorem many_fold : ∀ (b : List Int) (a : Int), b.foldl (fun m c => m * (c + 1)) a = a * many b
  | [], a => by simp [many]
  | m :: b, a => by rw [List.foldl_cons, many_fold b, many, Int.mul_assoc]
theorem within_ok {b : List Int} (h : Cnt b) : f_within [.lst (iL b)] = .ok (.int (many b)) := by
  unfold f_within u_within start
  simp
  have z := (forF_fold (g := G.one 2) (ws := [2]) (body := S.asg false 1 (E.bin dMul (E.var 1) (E.bin dAdd (E.var 2) (E.c (.int 1))))) D.int (fun m : Int => [.sh (.lst (iL b)), .sh (.int m), .no]) (fun m c => m * (c + 1)) (fun _ => True) b 1 trivial ?_).1
  · simp only [iL] at z ⊢
    rw [z, many_fold, Int.one_mul]
    simp
  · intro s x hx _
    have := h x hx
    unfold turn
    simp [mul_ii (i := s) (j := x + 1) (.inr (by omega))]
/-- numbers that a product may have -/
def Small (l : List Int) : Prop := ∀ c ∈ l, -(2 ^ 64) < c ∧ c < 2 ^ 64
theorem Cnt.small {b : List Int} (h : Cnt b) : Small b := fun c hc => by have := h c hc; omega
theorem pairs_map {α β : Type} (f : α → D) (g : β → D) : ∀ (xs : List α) (ys : List β), pairs (xs.map f) (ys.map g) = (xs.zip ys).map fun p => .tup [f p.1, g p.2]
  | [], _ => by simp [pairs]
  | _ :: _, [] => by simp [pairs]
  | x :: xs, y :: ys => by
    have := pairs_map f g xs ys
    simp [pairs] at this ⊢
    exact this
theorem num_fold : ∀ (b cs : List Int) (n s : Int), ((b.zip cs).foldl (fun (q : Int × Int) p => (q.1 + p.2 * q.2, q.2 * (p.1 + 1))) (n, s)).1 = n + s * num b cs
  | [], _, n, s => by simp [num]
  | _ :: _, [], n, s => by simp [num]
  | m :: b, c :: cs, n, s => by
    rw [List.zip_cons_cons, List.foldl_cons, num_fold b cs]
    simp only [num]
    rw [Int.mul_add s c, Int.mul_assoc, Int.mul_comm c s, Int.add_assoc]
theorem number_of_ok {b cs : List Int} (hb : Cnt b) (hc : Small cs) : f_number_of [.lst (iL b), .lst (iL cs)] = .ok (.int (num b cs)) ∧ f_number_of [.lst (iL b), .tup (iL cs)] = .ok (.int (num b cs)) := by
  have key : ∀ d : D, S.forF (G.tup 2 (G.cons (G.one 4) (G.cons (G.one 5) G.nil))) [4, 5]
      (S.seq (S.asg false 2 (E.bin dAdd (E.var 2) (E.bin dMul (E.var 5) (E.var 3)))) (S.asg false 3 (E.bin dMul (E.var 3) (E.bin dAdd (E.var 4) (E.c (.int 1)))))) (pairs (iL b) (iL cs))
      [.sh (.lst (iL b)), .sh d, .sh (.int 0), .sh (.int 1), .no, .no] = .nx ((fun q : Int × Int => [.sh (.lst (iL b)), .sh d, .sh (.int q.1), .sh (.int q.2), .no, .no]) ((b.zip cs).foldl (fun (q : Int × Int) p => (q.1 + p.2 * q.2, q.2 * (p.1 + 1))) (0, 1))) := fun d => by
    rw [pairs_map]
    refine (forF_fold (fun p : Int × Int => .tup [.int p.1, .int p.2]) (fun q : Int × Int => [.sh (.lst (iL b)), .sh d, .sh (.int q.1), .sh (.int q.2), .no, .no]) (fun (q : Int × Int) p => (q.1 + p.2 * q.2, q.2 * (p.1 + 1))) (fun _ => True) (b.zip cs) (0, 1) trivial ?_).1
    rintro ⟨n, s⟩ ⟨m, c⟩ hx _
    have h1 := hb m (List.of_mem_zip hx).1
    have h2 := hc c (List.of_mem_zip hx).2
    unfold turn
    simp [mul_ii (i := c) (j := s) (.inl h2), mul_ii (i := s) (j := m + 1) (.inr (by omega))]
  have e := num_fold b cs 0 1
  rw [Int.zero_add, Int.one_mul] at e
  constructor
  all_goals
    unfold f_number_of u_number_of start
    simp only [iL] at key ⊢
    simp [key, e]
theorem cnts_fold : ∀ (b : List Int) (l : List Int) (n : Int), (b.foldl (fun (q : List Int × Int) m => (q.1 ++ [q.2 % (m + 1)], q.2 / (m + 1))) (l, n)).1 = l ++ cnts b n
  | [], l, n => by simp [cnts]
  | m :: b, l, n => by rw [List.foldl_cons, cnts_fold b, cnts]; simp
theorem cnts_len : ∀ (b : List Int) (n : Int), (cnts b n).length = b.length
  | [], _ => rfl
  | m :: b, n => by simp [cnts, cnts_len b]
theorem counts_key {b : List Int} (hb : Cnt b) (hl : b.length < 1000) (n : Int) : ∃ n', S.forF (G.one 3) [3]
      (S.seq (S.push false 2 (E.bin dMod (E.var 1) (E.bin dAdd (E.var 3) (E.c (.int 1))))) (S.asg false 1 (E.bin dDiv (E.var 1) (E.bin dAdd (E.var 3) (E.c (.int 1)))))) (iL b) [.sh (.lst (iL b)), .sh (.int n), .own [], .no] =
      .nx [.sh (.lst (iL b)), .sh (.int n'), .own (iL (cnts b n)), .no] := by
  have z := forF_foldN (g := G.one 3) (ws := [3]) (body := S.seq (S.push false 2 (E.bin dMod (E.var 1) (E.bin dAdd (E.var 3) (E.c (.int 1))))) (S.asg false 1 (E.bin dDiv (E.var 1) (E.bin dAdd (E.var 3) (E.c (.int 1)))))) D.int
    (fun q : List Int × Int => [.sh (.lst (iL b)), .sh (.int q.2), .own (iL q.1), .no]) (fun q m => (q.1 ++ [q.2 % (m + 1)], q.2 / (m + 1))) (fun i q => q.1.length = i) b ([], n) rfl ?_
  · have e := cnts_fold b [] n
    rw [List.nil_append] at e
    refine ⟨(b.foldl (fun (q : List Int × Int) m => (q.1 ++ [q.2 % (m + 1)], q.2 / (m + 1))) ([], n)).2, z.1.trans ?_⟩
    rw [e]
  · rintro i ⟨l, r⟩ m hm rfl
    have hi : l.length < b.length := (List.getElem?_eq_some_iff.mp hm).1
    have h1 := hb m (List.mem_of_getElem? hm)
    refine ⟨?_, by simp⟩
    have hz : l.length < LINE := by show l.length < 1000000; omega
    unfold turn
    simp [mod_ii (i := r) (j := m + 1) (by omega), div_ii (i := r) (j := m + 1) (by omega), hz]
theorem counts_of_okl {b : List Int} (hb : Cnt b) (hl : b.length < 1000) (n : Int) : fl_counts_of [.lst (iL b), .int n] = .ok (iL (cnts b n)) := by
  obtain ⟨n', z⟩ := counts_key hb hl n
  unfold fl_counts_of u_counts_of start
  simp only [iL] at z ⊢
  simp [z]
theorem counts_of_ok {b : List Int} (hb : Cnt b) (hl : b.length < 1000) (n : Int) : f_counts_of [.lst (iL b), .int n] = .ok (.lst (iL (cnts b n))) := by
  unfold f_counts_of
  rw [counts_of_okl hb hl]
  rfl
theorem law_counts_ok {b : List Int} (hb : Cnt b) (hl : b.length < 1000) (n : Int) : f__law_counts [.lst (iL b), .int n] = .ok (.lst (iL (cnts b n))) := by
  obtain ⟨n', z⟩ := counts_key hb hl n
  unfold f__law_counts u__law_counts start
  simp only [iL] at z ⊢
  simp [z]
theorem law_many_ok {b : List Int} (h : Cnt b) : f__law_many [.lst (iL b)] = .ok (.int (many b)) := within_ok h
theorem law_step_ok {b cs : List Int} (hb : Cnt b) (hc : Small cs) : f__law_step [.lst (iL b), .lst (iL cs)] = .ok (.int (num b cs)) ∧ f__law_step [.lst (iL b), .tup (iL cs)] = .ok (.int (num b cs)) := by
  have key : ∀ d : D, S.forF (G.tup 2 (G.cons (G.one 4) (G.cons (G.one 5) G.nil))) [4, 5]
      (S.seq (S.asg false 3 (E.bin dAdd (E.var 3) (E.bin dMul (E.var 5) (E.var 2)))) (S.asg false 2 (E.bin dMul (E.var 2) (E.bin dAdd (E.var 4) (E.c (.int 1)))))) (pairs (iL b) (iL cs))
      [.sh (.lst (iL b)), .sh d, .sh (.int 1), .sh (.int 0), .no, .no] = .nx ((fun q : Int × Int => [.sh (.lst (iL b)), .sh d, .sh (.int q.2), .sh (.int q.1), .no, .no]) ((b.zip cs).foldl (fun (q : Int × Int) p => (q.1 + p.2 * q.2, q.2 * (p.1 + 1))) (0, 1))) := fun d => by
    rw [pairs_map]
    refine (forF_fold (fun p : Int × Int => .tup [.int p.1, .int p.2]) (fun q : Int × Int => [.sh (.lst (iL b)), .sh d, .sh (.int q.2), .sh (.int q.1), .no, .no]) (fun (q : Int × Int) p => (q.1 + p.2 * q.2, q.2 * (p.1 + 1))) (fun _ => True) (b.zip cs) (0, 1) trivial ?_).1
    rintro ⟨n, s⟩ ⟨m, c⟩ hx _
    have h1 := hb m (List.of_mem_zip hx).1
    have h2 := hc c (List.of_mem_zip hx).2
    unfold turn
    simp [mul_ii (i := c) (j := s) (.inl h2), mul_ii (i := s) (j := m + 1) (.inr (by omega))]
  have e := num_fold b cs 0 1
  rw [Int.zero_add, Int.one_mul] at e
  constructor
  all_goals
    unfold f__law_step u__law_step start
    simp only [iL] at key ⊢
    simp [key, e]
@[simp] theorem whole_i (i : Int) : f__law_whole [.int i] = .ok (.bl true) := (rfl)
theorem listed_ok (l : List Int) : f__law_listed [.lst (iL l), .lst (iL l)] = .ok (.bl true) := by
  have key : S.forF (G.one 2) [2] (S.ifs (E.bnot (E.tst (E.app f__law_whole (E.cons (E.var 2) E.nil)))) (S.ret (E.c (.bl false))) S.skip) (iL l) [.sh (.lst (iL l)), .sh (.lst (iL l)), .no] = .nx [.sh (.lst (iL l)), .sh (.lst (iL l)), .no] := by
    refine forF_all D.int _ l fun x hx => ?_
    unfold turn
    simp
  have e := eq_same (wide_ints (n := 8) l)
  unfold f__law_listed u__law_listed start
  simp only [iL] at key ⊢
  simp [key, subT, e]
/-! ### the mathematics -/
theorem num_cnts : ∀ {b : List Int}, Cnt b → ∀ n, 0 ≤ n → n < many b → num b (cnts b n) = n
  | [], _, n, h0, h1 => by simp [many] at h1; simp [num]; omega
  | m :: b, h, n, h0, h1 => by
    have hm := h m List.mem_cons_self
    have q : n / (m + 1) < many b := by
      unfold many at h1
      exact Int.ediv_lt_of_lt_mul (by omega) (by rw [Int.mul_comm]; exact h1)
    have ih := num_cnts h.tail (n / (m + 1)) (Int.ediv_nonneg h0 (by omega)) q
    simp only [cnts, num, ih]
    have := Int.emod_add_mul_ediv n (m + 1)
    omega
theorem num_self : ∀ {b : List Int}, Cnt b → num b b = many b - 1
  | [], _ => by simp [num, many]
  | m :: b, h => by
    have ih := num_self h.tail
    simp only [num, many, ih, Int.mul_sub, Int.mul_one]
    omega
theorem cnts_small : ∀ {b : List Int}, Cnt b → ∀ n, Small (cnts b n)
  | [], _, _ => fun c hc => by simp [cnts] at hc
  | m :: b, h, n => fun c hc => by
    have hm := h m List.mem_cons_self
    rcases List.mem_cons.mp hc with rfl | hc
    · have h1 := Int.emod_nonneg n (show m + 1 ≠ 0 by omega)
      have h2 := Int.emod_lt_of_pos n (show 0 < m + 1 by omega)
      omega
    · exact cnts_small h.tail _ c hc
/-! ### the law -/
def kindsN (ns : List Int) : Nat := (1 + cellAt ns 0 % 5).toNat
def basketOf (ns : List Int) : List Int := (List.range (kindsN ns)).map fun k => numAt ns k / 7 % 10
theorem kindsN_le (ns : List Int) : kindsN ns ≤ 5 := by unfold kindsN; omega
theorem basket_cnt (ns : List Int) : Cnt (basketOf ns) := by
  intro c hc
  obtain ⟨k, _, rfl⟩ := List.mem_map.mp hc
  omega
theorem basket_len (ns : List Int) : (basketOf ns).length ≤ 5 := by
  unfold basketOf
  rw [List.length_map, List.length_range]
  exact kindsN_le ns
def lawBody : Ev → Out :=
      (S.seq (S.asg false 5 (E.app f__law_counts (E.cons (E.var 1) (E.cons (E.var 4) E.nil))))
    (S.seq (S.asgO false 6 (E.appL fl_counts_of (E.cons (E.var 2) (E.cons (E.var 4) E.nil))))
    (S.seq (S.push false 6 (E.un dNeg (E.c (.int 1))))
    (S.seq (S.asg false 7 (E.ofL (E.appL fl_counts_of (E.cons (E.var 2) (E.cons (E.var 4) E.nil)))))
    (S.seq (S.ifs (E.tst (E.bin dNe (E.var 6) (E.bin dAdd (E.var 7) (E.ofL (E.lst (E.cons (E.un dNeg (E.c (.int 1))) E.nil)))))) (S.ret (E.c (.bl false))) S.skip)
    (S.seq (S.ifs (E.bnot (E.tst (E.app f__law_listed (E.cons (E.var 7) (E.cons (E.var 5) E.nil))))) (S.ret (E.c (.bl false))) S.skip)
    (S.seq (S.asg false 8 (E.app f_number_of (E.cons (E.var 2) (E.cons (E.var 7) E.nil))))
    (S.ifs (E.bor (E.bnot (E.tst (E.app f__law_whole (E.cons (E.var 8) E.nil)))) (E.bor (E.tst (E.bin dNe (E.var 8) (E.var 4))) (E.bor (E.tst (E.bin dNe (E.var 7) (E.var 5))) (E.tst (E.bin dNe (E.var 2) (E.var 1)))))) (S.ret (E.c (.bl false))) S.skip))))))))
theorem turn_ok {b : List Int} (hb : Cnt b) (hl : b.length ≤ 5) {d : D} {e : D} (n : Int) (h0 : 0 ≤ n) (h1 : n < many b) :
    turn (G.one 4) [4, 5, 6, 7, 8] lawBody (.int n) [.sh d, .sh (.lst (iL b)), .sh (.lst (iL b)), .sh e, .no, .no, .no, .no, .no, .no] = .nx [.sh d, .sh (.lst (iL b)), .sh (.lst (iL b)), .sh e, .no, .no, .no, .no, .no, .no] := by
  have hl' : b.length < 1000 := by omega
  have e1 := law_counts_ok hb hl' n
  have e2 := counts_of_okl hb hl' n
  have e3 := (number_of_ok hb (cnts_small hb n)).1
  rw [num_cnts hb n h0 h1] at e3
  have e4 := listed_ok (cnts b n)
  have e5 := ne_same (wide_ints (n := 8) (cnts b n))
  have e6 := ne_same (wide_ints (n := 8) b)
  have e7 := ne_same (wide_ints (n := 8) (cnts b n ++ [-1]))
  have hz : b.length < LINE := by show b.length < 1000000; omega
  have hz1 : b.length + 1 ≤ LINE := by show b.length + 1 ≤ 1000000; omega
  have hz2 : 1 ≤ LINE := by decide
  unfold turn lawBody
  simp only [iL] at e1 e2 e3 e4 e5 e6 e7 ⊢
  rw [List.map_append, List.map_cons, List.map_nil] at e7
  simp [e1, e2, e3, e4, e5, e6, e7, hz, hz1, hz2, dAdd, cnts_len]
theorem law_true (ns : List Int) (hl : ns.length ≤ 63) : f_law [.scr ns] = .ok (.bl true) := by
  have hb := basket_cnt ns
  have hbl := basket_len ns
  have mp := many_pos hb
  have c0 : f__law_cell_at [.scr ns, .int 0] = _ := cell_at_ok ns 0
  have c1 : f__law_cell_at [.scr ns, .int 1] = _ := cell_at_ok ns 1
  have n9 : f__law_number [.scr ns, .int 9] = _ := number_ok ns 9 hl
  have kn : 1 + cellAt ns 0 % 5 = (kindsN ns : Int) := by unfold kindsN; omega
  have kl := kindsN_le ns
  have r1 := range1_nat (n := kindsN ns) (by omega)
  have cm : ∀ ρ : Ev, compF (G.one 9) yes (E.bin dMod (E.bin dDiv (E.app f__law_number (E.cons (E.var 0) (E.cons (E.var 9) E.nil))) (E.c (.int 7))) (E.c (.int 10))) [.sh (.scr ns), .no, .no, .no, .no, .no, .no, .no, .no, .no] ((List.range (kindsN ns)).map fun (k : Nat) => D.int k) = .ok (iL (basketOf ns)) := fun _ => by
    unfold basketOf iL
    rw [List.map_map]
    refine compF_all _ _ _ fun k hk => ⟨_, rfl, ?_⟩
    simp [number_ok ns k hl, div_ii (j := 7) (by decide), mod_ii (j := 10) (by decide)]
  have w1 := within_ok hb
  have m1 := law_many_ok hb
  have s1 := (law_step_ok hb hb.small).1
  rw [num_self hb] at s1
  have z0 : ∀ x ∈ [0, many (basketOf ns) - 1, cellAt ns 1 % many (basketOf ns), numAt ns 9 % many (basketOf ns)], 0 ≤ x ∧ x < many (basketOf ns) := by
    intro x hx
    have a1 := Int.emod_nonneg (cellAt ns 1) (show many (basketOf ns) ≠ 0 by omega)
    have a2 := Int.emod_lt_of_pos (cellAt ns 1) mp
    have a3 := Int.emod_nonneg (numAt ns 9) (show many (basketOf ns) ≠ 0 by omega)
    have a4 := Int.emod_lt_of_pos (numAt ns 9) mp
    simp only [List.mem_cons, List.not_mem_nil, or_false] at hx
    rcases hx with rfl | rfl | rfl | rfl <;> omega
  have fr : S.forF (G.one 4) [4, 5, 6, 7, 8] lawBody (iL [0, many (basketOf ns) - 1, cellAt ns 1 % many (basketOf ns), numAt ns 9 % many (basketOf ns)]) [.sh (.scr ns), .sh (.lst (iL (basketOf ns))), .sh (.lst (iL (basketOf ns))), .sh (.int (many (basketOf ns))), .no, .no, .no, .no, .no, .no] =
      .nx [.sh (.scr ns), .sh (.lst (iL (basketOf ns))), .sh (.lst (iL (basketOf ns))), .sh (.int (many (basketOf ns))), .no, .no, .no, .no, .no, .no] :=
    forF_all D.int _ _ fun x hx => turn_ok hb hbl x (z0 x hx).1 (z0 x hx).2
  have cm := cm []
  have hz : kindsN ns ≤ LINE := by show kindsN ns ≤ 1000000; omega
  unfold f_law u_law start
  unfold lawBody at fr
  simp only [iL] at w1 m1 s1 cm
  simp only [iL, List.map_cons, List.map_nil] at fr
  simp [c0, c1, n9, kn, r1, cm, w1, m1, s1, fr, mod_ii (j := 5) (by decide), mod_ii (j := many (basketOf ns)) mp, hz]
end TB
namespace TB
open PySem PySem.Spec PyProof.Rows L2
def top (i : Nat) : Stmt := PySem.Challenge.pw_tillbasket_k01_baskets_numbered.main.body.getD i (.Pass ⟨0, 0, 0, 0⟩)
/-- what the top has written -/
structure Txt (K : PySem.W.Frag) (mg : Str → Option Value) : Prop where
  d_within : Df K mg "within" (top 2) ["basket"]
  d_number_of : Df K mg "number_of" (top 3) ["basket", "inner"]
  d_counts_of : Df K mg "counts_of" (top 4) ["basket", "number"]
  d__law_cell_at : Df K mg "_law_cell_at" (top 6) ["_law_script", "_law_k"]
  d__law_number : Df K mg "_law_number" (top 7) ["_law_script", "_law_k"]
  d__law_whole : Df K mg "_law_whole" (top 8) ["_law_found"]
  d__law_listed : Df K mg "_law_listed" (top 9) ["_law_found", "_law_due"]
  d__law_counts : Df K mg "_law_counts" (top 10) ["_law_basket", "_law_number_here"]
  d__law_many : Df K mg "_law_many" (top 11) ["_law_basket"]
  d__law_step : Df K mg "_law_step" (top 12) ["_law_basket", "_law_wants"]
  d__law_has : Df K mg "_law_has" (top 13) ["_law_counts_here", "_law_wants"]
  d_law : Df K mg "law" (top 14) ["_law_script"]
  bl_law : ∀ (s : Shared) (u : Value), BindsTo s (fdOf K (He.ga K "law")) ⟨[u], []⟩ [("_law_script", u)]
  n_bool : mg "bool" = none
  n_int : mg "int" = none
  n_isinstance : mg "isinstance" = none
  n_len : mg "len" = none
  n_list : mg "list" = none
  n_range : mg "range" = none
  n_zip : mg "zip" = none
  c_MOST : ∃ t, mg "MOST" = some (.int 300 t)
section
variable {P : Program} {w : World} {K : PySem.W.Frag} {mg : Str → Option Value} {base : Heap}
abbrev N_within : List Str := ["basket", "many", "count"]
theorem sc_within : FnScope N_within ["basket"] (defScope (top 2)) := ⟨rfl, rfl, rfl, by decide +kernel, rfl, by decide +kernel, by decide +kernel⟩
theorem ok_within (T : Txt K mg) : OkD P w K mg base 1 "within" ["basket"] f_within := fnD (k := 0) (u := u_within) (N := N_within) T.d_within sc_within fun cdv A outer s H E hr W tk =>
    ss_cons (s_asg (ps_set (i := 1) sc_within.nd rfl (.inl rfl) d_int))
    (ss_cons (s_pre (k_wipe [2]) (s_for rfl (passes_of rfl) rfl (i_dyn (d_var (pv 0))) (g_one (pg_name (i := 2) sc_within.nd rfl (.inl rfl)))
      (ss_one (s_asg (ps_set (i := 1) sc_within.nd rfl (.inl rfl) (d_mul (d_var (pv 1)) (d_add (d_var (pv 2)) d_int)))))))
    (ss_one (s_ret (ps_ret (d_var (pv 1))))))

abbrev N_number_of : List Str := ["basket", "inner", "number", "step", "most", "count"]
theorem sc_number_of : FnScope N_number_of ["basket", "inner"] (defScope (top 3)) := ⟨rfl, rfl, rfl, by decide +kernel, rfl, by decide +kernel, by decide +kernel⟩
theorem ok_number_of (T : Txt K mg) : OkD P w K mg base 1 "number_of" ["basket", "inner"] f_number_of := fnD (k := 0) (u := u_number_of) (N := N_number_of) T.d_number_of sc_number_of fun cdv A outer s H E hr W tk =>
    ss_cons (s_asg (ps_set (i := 2) sc_number_of.nd rfl (.inl rfl) d_int))
    (ss_cons (s_asg (ps_set (i := 3) sc_number_of.nd rfl (.inl rfl) d_int))
    (ss_cons (s_pre (k_wipe [4, 5]) (s_for rfl (passes_of rfl) rfl (i_zip rfl T.n_zip (a_cons (d_var (pv 0)) (a_cons (d_var (pv 1)) a_nil))) (g_tup rfl (g_cons (g_one (pg_name (i := 4) sc_number_of.nd rfl (.inl rfl))) (g_cons (g_one (pg_name (i := 5) sc_number_of.nd rfl (.inl rfl))) g_nil)))
      (ss_cons (s_asg (ps_set (i := 2) sc_number_of.nd rfl (.inl rfl) (d_add (d_var (pv 2)) (d_mul (d_var (pv 5)) (d_var (pv 3))))))
    (ss_one (s_asg (ps_set (i := 3) sc_number_of.nd rfl (.inl rfl) (d_mul (d_var (pv 3)) (d_add (d_var (pv 4)) d_int))))))))
    (ss_one (s_ret (ps_ret (d_var (pv 2)))))))

abbrev N_counts_of : List Str := ["basket", "number", "counts", "most"]
theorem sc_counts_of : FnScope N_counts_of ["basket", "number"] (defScope (top 4)) := ⟨rfl, rfl, rfl, by decide +kernel, rfl, by decide +kernel, by decide +kernel⟩
theorem okl_counts_of (T : Txt K mg) : OkL P w K mg base 1 "counts_of" ["basket", "number"] fl_counts_of := fnL (k := 0) (u := u_counts_of) (N := N_counts_of) T.d_counts_of sc_counts_of fun cdv A outer s H E hr W tk =>
    ss_cons (s_asgO (ps_set (i := 2) sc_counts_of.nd rfl (.inl rfl) (l_lst a_nil)))
    (ss_cons (s_pre (k_wipe [3]) (s_for rfl (passes_of rfl) rfl (i_dyn (d_var (pv 0))) (g_one (pg_name (i := 3) sc_counts_of.nd rfl (.inl rfl)))
      (ss_cons (s_push (ps_expr (pe_bm PySem.F.plainAttrs_list PySem.F.slot_list_append PySem.F.type_list_append mt_append (pv 2) (pa_cons (d_mod (d_var (pv 1)) (d_add (d_var (pv 3)) d_int)) pa_nil))))
    (ss_one (s_asg (ps_set (i := 1) sc_counts_of.nd rfl (.inl rfl) (d_fdiv (d_var (pv 1)) (d_add (d_var (pv 3)) d_int))))))))
    (ss_one (s_retO (ps_ret (pv 2)))))
theorem ok_counts_of (T : Txt K mg) : OkD P w K mg base 1 "counts_of" ["basket", "number"] f_counts_of := fnLD (okl_counts_of T)

abbrev N__law_cell_at : List Str := ["_law_script", "_law_k"]
theorem sc__law_cell_at : FnScope N__law_cell_at ["_law_script", "_law_k"] (defScope (top 6)) := ⟨rfl, rfl, rfl, by decide +kernel, rfl, by decide +kernel, by decide +kernel⟩
theorem ok__law_cell_at (T : Txt K mg) : OkD P w K mg base 1 "_law_cell_at" ["_law_script", "_law_k"] f__law_cell_at := fnD (k := 0) (u := u__law_cell_at) (N := N__law_cell_at) T.d__law_cell_at sc__law_cell_at fun cdv A outer s H E hr W tk =>
    ss_cons (s_if (b_cmp op_lt dC_D dC_calm (d_var (pv 1)) (d_callB call_lenB len_D len_calm rfl T.n_len (by decide +kernel) (a_cons (d_var (pv 0)) a_nil))) (ss_one (s_ret (ps_ret (d_ix (d_var (pv 0)) (d_var (pv 1)))))) ss_nil)
    (ss_one (s_ret (ps_ret d_int)))

abbrev N__law_number : List Str := ["_law_script", "_law_k", "_law_base"]
theorem sc__law_number : FnScope N__law_number ["_law_script", "_law_k"] (defScope (top 7)) := ⟨rfl, rfl, rfl, by decide +kernel, rfl, by decide +kernel, by decide +kernel⟩
theorem ok__law_number (T : Txt K mg) : OkD P w K mg base 1 "_law_number" ["_law_script", "_law_k"] f__law_number := fnD (k := 0) (u := u__law_number) (N := N__law_number) T.d__law_number sc__law_number fun cdv A outer s H E hr W tk =>
    ss_cons (s_if (b_cmp (op_eqB hr.units) eq_D eq_calm (d_callB call_lenB len_D len_calm rfl T.n_len (by decide +kernel) (a_cons (d_var (pv 0)) a_nil)) d_int) (ss_one (s_ret (ps_ret (d_mul d_int (d_var (pv 1)))))) ss_nil)
    (ss_cons (s_asg (ps_set (i := 2) sc__law_number.nd rfl (.inl rfl) (d_add (d_add (d_ix (d_var (pv 0)) (d_mod (d_var (pv 1)) (d_callB call_lenB len_D len_calm rfl T.n_len (by decide +kernel) (a_cons (d_var (pv 0)) a_nil)))) (d_mul d_int (d_fdiv (d_var (pv 1)) (d_callB call_lenB len_D len_calm rfl T.n_len (by decide +kernel) (a_cons (d_var (pv 0)) a_nil))))) (d_mul d_int (d_var (pv 1))))))
    (ss_one (s_ret (ps_ret (d_mod (d_mul (d_var (pv 2)) d_int) d_int)))))

abbrev N__law_whole : List Str := ["_law_found"]
theorem sc__law_whole : FnScope N__law_whole ["_law_found"] (defScope (top 8)) := ⟨rfl, rfl, rfl, by decide +kernel, rfl, by decide +kernel, by decide +kernel⟩
theorem ok__law_whole (T : Txt K mg) : OkD P w K mg base 1 "_law_whole" ["_law_found"] f__law_whole := fnD (k := 0) (u := u__law_whole) (N := N__law_whole) T.d__law_whole sc__law_whole fun cdv A outer s H E hr W tk =>
    ss_one (s_ret (ps_ret (d_and (d_isi (by decide) rfl T.n_isinstance rfl T.n_int rfl (d_var (pv 0))) (d_one (d_not (d_isi (by decide) rfl T.n_isinstance rfl T.n_bool rfl (d_var (pv 0))))))))

abbrev N__law_listed : List Str := ["_law_found", "_law_due", "_law_one"]
theorem sc__law_listed : FnScope N__law_listed ["_law_found", "_law_due"] (defScope (top 9)) := ⟨rfl, rfl, rfl, by decide +kernel, rfl, by decide +kernel, by decide +kernel⟩
theorem ok__law_listed (T : Txt K mg) : OkD P w K mg base 2 "_law_listed" ["_law_found", "_law_due"] f__law_listed := fnD (k := 1) (u := u__law_listed) (N := N__law_listed) T.d__law_listed sc__law_listed fun cdv A outer s H E hr W tk =>
    ss_cons (s_if (b_w (w_or (b_not (b_val (d_isi (by decide) rfl T.n_isinstance rfl T.n_list rfl (d_var (pv 0))))) (w_or1 (b_cmp (op_neB hr.units) ne_D ne_calm (d_callB call_lenB len_D len_calm rfl T.n_len (by decide +kernel) (a_cons (d_var (pv 0)) a_nil)) (d_callB call_lenB len_D len_calm rfl T.n_len (by decide +kernel) (a_cons (d_var (pv 1)) a_nil)))))) (ss_one (s_ret (ps_ret d_bl))) ss_nil)
    (ss_cons (s_pre (k_wipe [2]) (s_for rfl (passes_of rfl) rfl (i_dyn (d_var (pv 0))) (g_one (pg_name (i := 2) sc__law_listed.nd rfl (.inl rfl)))
      (ss_one (s_if (b_not (b_val (d_def (ok__law_whole T) T.d__law_whole hr (by decide) tk (a_cons (d_var (pv 2)) a_nil) (cons_len nil_len)))) (ss_one (s_ret (ps_ret d_bl))) ss_nil))))
    (ss_one (s_ret (ps_ret (d_cmp (op_eqB hr.units) eq_D eq_calm (d_var (pv 0)) (d_var (pv 1)))))))

abbrev N__law_counts : List Str := ["_law_basket", "_law_number_here", "_law_counts_here", "_law_most"]
theorem sc__law_counts : FnScope N__law_counts ["_law_basket", "_law_number_here"] (defScope (top 10)) := ⟨rfl, rfl, rfl, by decide +kernel, rfl, by decide +kernel, by decide +kernel⟩
theorem ok__law_counts (T : Txt K mg) : OkD P w K mg base 1 "_law_counts" ["_law_basket", "_law_number_here"] f__law_counts := fnD (k := 0) (u := u__law_counts) (N := N__law_counts) T.d__law_counts sc__law_counts fun cdv A outer s H E hr W tk =>
    ss_cons (s_asgO (ps_set (i := 2) sc__law_counts.nd rfl (.inl rfl) (l_lst a_nil)))
    (ss_cons (s_pre (k_wipe [3]) (s_for rfl (passes_of rfl) rfl (i_dyn (d_var (pv 0))) (g_one (pg_name (i := 3) sc__law_counts.nd rfl (.inl rfl)))
      (ss_cons (s_push (ps_expr (pe_bm PySem.F.plainAttrs_list PySem.F.slot_list_append PySem.F.type_list_append mt_append (pv 2) (pa_cons (d_mod (d_var (pv 1)) (d_add (d_var (pv 3)) d_int)) pa_nil))))
    (ss_one (s_asg (ps_set (i := 1) sc__law_counts.nd rfl (.inl rfl) (d_fdiv (d_var (pv 1)) (d_add (d_var (pv 3)) d_int))))))))
    (ss_one (s_ret (ps_ret (d_var (pv 2))))))

abbrev N__law_many : List Str := ["_law_basket", "_law_many_here", "_law_most"]
theorem sc__law_many : FnScope N__law_many ["_law_basket"] (defScope (top 11)) := ⟨rfl, rfl, rfl, by decide +kernel, rfl, by decide +kernel, by decide +kernel⟩
theorem ok__law_many (T : Txt K mg) : OkD P w K mg base 1 "_law_many" ["_law_basket"] f__law_many := fnD (k := 0) (u := u__law_many) (N := N__law_many) T.d__law_many sc__law_many fun cdv A outer s H E hr W tk =>
    ss_cons (s_asg (ps_set (i := 1) sc__law_many.nd rfl (.inl rfl) d_int))
    (ss_cons (s_pre (k_wipe [2]) (s_for rfl (passes_of rfl) rfl (i_dyn (d_var (pv 0))) (g_one (pg_name (i := 2) sc__law_many.nd rfl (.inl rfl)))
      (ss_one (s_asg (ps_set (i := 1) sc__law_many.nd rfl (.inl rfl) (d_mul (d_var (pv 1)) (d_add (d_var (pv 2)) d_int)))))))
    (ss_one (s_ret (ps_ret (d_var (pv 1))))))

abbrev N__law_step : List Str := ["_law_basket", "_law_wants", "_law_step_here", "_law_number_here", "_law_most", "_law_want"]
theorem sc__law_step : FnScope N__law_step ["_law_basket", "_law_wants"] (defScope (top 12)) := ⟨rfl, rfl, rfl, by decide +kernel, rfl, by decide +kernel, by decide +kernel⟩
theorem ok__law_step (T : Txt K mg) : OkD P w K mg base 1 "_law_step" ["_law_basket", "_law_wants"] f__law_step := fnD (k := 0) (u := u__law_step) (N := N__law_step) T.d__law_step sc__law_step fun cdv A outer s H E hr W tk =>
    ss_cons (s_asg (ps_set (i := 2) sc__law_step.nd rfl (.inl rfl) d_int))
    (ss_cons (s_asg (ps_set (i := 3) sc__law_step.nd rfl (.inl rfl) d_int))
    (ss_cons (s_pre (k_wipe [4, 5]) (s_for rfl (passes_of rfl) rfl (i_zip rfl T.n_zip (a_cons (d_var (pv 0)) (a_cons (d_var (pv 1)) a_nil))) (g_tup rfl (g_cons (g_one (pg_name (i := 4) sc__law_step.nd rfl (.inl rfl))) (g_cons (g_one (pg_name (i := 5) sc__law_step.nd rfl (.inl rfl))) g_nil)))
      (ss_cons (s_asg (ps_set (i := 3) sc__law_step.nd rfl (.inl rfl) (d_add (d_var (pv 3)) (d_mul (d_var (pv 5)) (d_var (pv 2))))))
    (ss_one (s_asg (ps_set (i := 2) sc__law_step.nd rfl (.inl rfl) (d_mul (d_var (pv 2)) (d_add (d_var (pv 4)) d_int))))))))
    (ss_one (s_ret (ps_ret (d_var (pv 3)))))))

abbrev N__law_has : List Str := ["_law_counts_here", "_law_wants", "_law_k"]
theorem sc__law_has : FnScope N__law_has ["_law_counts_here", "_law_wants"] (defScope (top 13)) := ⟨rfl, rfl, rfl, by decide +kernel, rfl, by decide +kernel, by decide +kernel⟩
theorem ok__law_has (T : Txt K mg) : OkD P w K mg base 1 "_law_has" ["_law_counts_here", "_law_wants"] f__law_has := fnD (k := 0) (u := u__law_has) (N := N__law_has) T.d__law_has sc__law_has fun cdv A outer s H E hr W tk =>
    ss_one (s_ret (ps_ret (d_cmp (op_eqB hr.units) eq_D eq_calm (d_callB call_lenB len_D len_calm rfl T.n_len (by decide +kernel) (a_cons (d_ofL (l_comp (own := [("_law_k", 2)]) rfl sc__law_has.nd (i_range1 rfl T.n_range (a_cons (d_callB call_lenB len_D len_calm rfl T.n_len (by decide +kernel) (a_cons (d_var (pv 0)) a_nil)) a_nil)) (blkOk_by (N := N__law_has) (sc := defScope (top 13)) (by decide +kernel)) (fun _ _ _ _ _ => g_one (pg_name (i := 2) sc__law_has.nd rfl (.inl rfl))) (sub_one (by decide)) (fun _ _ _ _ _ => t_one (b_cmp op_lt dC_D dC_calm (d_ix (d_var (pv 0)) (d_var (pv 2))) (d_ix (d_var (pv 1)) (d_var (pv 2))))) (fun _ _ _ _ _ => d_var (pv 2)))) a_nil)) d_int)))

abbrev N_law : List Str := ["_law_script", "_law_basket", "_law_handed", "_law_many_here", "_law_number_here", "_law_due", "_law_early", "_law_counts_here", "_law_back", "_law_k"]
theorem sc_law : FnScope N_law ["_law_script"] (defScope (top 14)) := ⟨rfl, rfl, rfl, by decide +kernel, rfl, by decide +kernel, by decide +kernel⟩
theorem ok_law (T : Txt K mg) : OkD P w K mg base 3 "law" ["_law_script"] f_law := fnD (k := 2) (u := u_law) (N := N_law) T.d_law sc_law fun cdv A outer s H E hr W tk =>
    ss_cons (s_asgL (ps_setComp (own := [("_law_k", 9)]) (i := 1) rfl rfl (sw_true rfl rfl rfl (by decide +kernel)) rfl sc_law.nd (i_range1 rfl T.n_range (a_cons (d_add d_int (d_mod (d_def (ok__law_cell_at T) T.d__law_cell_at hr (by decide) tk (a_cons (d_var (pv 0)) (a_cons d_int a_nil)) (cons_len (cons_len nil_len))) d_int)) a_nil)) (blkOk_by (N := N_law) (sc := defScope (top 14)) (by decide +kernel)) (fun _ _ _ _ _ => g_one (pg_name (i := 9) sc_law.nd rfl (.inl rfl))) (sub_one (by decide)) (fun _ _ _ _ _ => t_nil) (fun _ _ _ _ _ => d_mod (d_fdiv (d_def (ok__law_number T) T.d__law_number hr (by decide) takes0 (a_cons (d_var (pv 0)) (a_cons (d_var (pv 9)) a_nil)) (cons_len (cons_len nil_len))) d_int) d_int)))
    (ss_cons (s_asg (ps_set (i := 2) sc_law.nd rfl (.inl rfl) (d_ofL (l_callT call_listB list_D list_calm rfl T.n_list (by decide +kernel) (a_cons (d_var (pv 1)) a_nil)))))
    (ss_cons (s_asg (ps_set (i := 3) sc_law.nd rfl (.inl rfl) (d_def (ok_within T) T.d_within hr (by decide) tk (a_cons (d_var (pv 2)) a_nil) (cons_len nil_len))))
    (ss_cons (s_if (b_w (w_or (b_not (b_val (d_def (ok__law_whole T) T.d__law_whole hr (by decide) tk (a_cons (d_var (pv 3)) a_nil) (cons_len nil_len)))) (w_or (b_cmp (op_neB hr.units) ne_D ne_calm (d_var (pv 3)) (d_def (ok__law_many T) T.d__law_many hr (by decide) tk (a_cons (d_var (pv 1)) a_nil) (cons_len nil_len))) (w_or1 (b_cmp (op_neB hr.units) ne_D ne_calm (d_gint rfl T.c_MOST) d_int))))) (ss_one (s_ret (ps_ret d_bl))) ss_nil)
    (ss_cons (s_pre (k_wipe [4, 5, 6, 7, 8]) (s_for rfl (passes_of rfl) rfl (i_dyn (d_tup (a_cons d_int (a_cons (d_sub (d_var (pv 3)) d_int) (a_cons (d_mod (d_def (ok__law_cell_at T) T.d__law_cell_at hr (by decide) tk (a_cons (d_var (pv 0)) (a_cons d_int a_nil)) (cons_len (cons_len nil_len))) (d_var (pv 3))) (a_cons (d_mod (d_def (ok__law_number T) T.d__law_number hr (by decide) tk (a_cons (d_var (pv 0)) (a_cons d_int a_nil)) (cons_len (cons_len nil_len))) (d_var (pv 3))) a_nil)))))) (g_one (pg_name (i := 4) sc_law.nd rfl (.inl rfl)))
      (ss_cons (s_asg (ps_set (i := 5) sc_law.nd rfl (.inl rfl) (d_def (ok__law_counts T) T.d__law_counts hr (by decide) tk (a_cons (d_var (pv 1)) (a_cons (d_var (pv 4)) a_nil)) (cons_len (cons_len nil_len)))))
    (ss_cons (s_asgO (ps_set (i := 6) sc_law.nd rfl (.inl rfl) (l_def (okl_counts_of T) T.d_counts_of hr (by decide) tk (a_cons (d_var (pv 2)) (a_cons (d_var (pv 4)) a_nil)) (cons_len (cons_len nil_len)))))
    (ss_cons (s_push (ps_expr (pe_bm PySem.F.plainAttrs_list PySem.F.slot_list_append PySem.F.type_list_append mt_append (pv 6) (pa_cons (d_neg d_int) pa_nil))))
    (ss_cons (s_asg (ps_set (i := 7) sc_law.nd rfl (.inl rfl) (d_ofL (l_def (okl_counts_of T) T.d_counts_of hr (by decide) tk (a_cons (d_var (pv 2)) (a_cons (d_var (pv 4)) a_nil)) (cons_len (cons_len nil_len))))))
    (ss_cons (s_if (b_cmp (op_neB hr.units) ne_D ne_calm (d_var (pv 6)) (d_add (d_var (pv 7)) (d_ofL (l_lst (a_cons (d_neg d_int) a_nil))))) (ss_one (s_ret (ps_ret d_bl))) ss_nil)
    (ss_cons (s_if (b_not (b_val (d_def (ok__law_listed T) T.d__law_listed hr (by decide) tk (a_cons (d_var (pv 7)) (a_cons (d_var (pv 5)) a_nil)) (cons_len (cons_len nil_len))))) (ss_one (s_ret (ps_ret d_bl))) ss_nil)
    (ss_cons (s_asg (ps_set (i := 8) sc_law.nd rfl (.inl rfl) (d_def (ok_number_of T) T.d_number_of hr (by decide) tk (a_cons (d_var (pv 2)) (a_cons (d_var (pv 7)) a_nil)) (cons_len (cons_len nil_len)))))
    (ss_one (s_if (b_w (w_or (b_not (b_val (d_def (ok__law_whole T) T.d__law_whole hr (by decide) tk (a_cons (d_var (pv 8)) a_nil) (cons_len nil_len)))) (w_or (b_cmp (op_neB hr.units) ne_D ne_calm (d_var (pv 8)) (d_var (pv 4))) (w_or (b_cmp (op_neB hr.units) ne_D ne_calm (d_var (pv 7)) (d_var (pv 5))) (w_or1 (b_cmp (op_neB hr.units) ne_D ne_calm (d_var (pv 2)) (d_var (pv 1)))))))) (ss_one (s_ret (ps_ret d_bl))) ss_nil)))))))))))
    (ss_one (s_ret (ps_ret (d_cmp (op_eqB hr.units) eq_D eq_calm (d_def (ok__law_step T) T.d__law_step hr (by decide) tk (a_cons (d_var (pv 1)) (a_cons (d_var (pv 1)) a_nil)) (cons_len (cons_len nil_len))) (d_sub (d_var (pv 3)) d_int)))))))))

end
end TB
namespace TB
open PySem PySem.Spec PyProof.Rows L2
def D_within : He.FnD := ⟨("within", none), "within", "within", defArgs (top 2), defBody (top 2), defScope (top 2)⟩
def D_number_of : He.FnD := ⟨("number_of", none), "number_of", "number_of", defArgs (top 3), defBody (top 3), defScope (top 3)⟩
def D_counts_of : He.FnD := ⟨("counts_of", none), "counts_of", "counts_of", defArgs (top 4), defBody (top 4), defScope (top 4)⟩
def D__law_cell_at : He.FnD := ⟨("_law_cell_at", none), "_law_cell_at", "_law_cell_at", defArgs (top 6), defBody (top 6), defScope (top 6)⟩
def D__law_number : He.FnD := ⟨("_law_number", none), "_law_number", "_law_number", defArgs (top 7), defBody (top 7), defScope (top 7)⟩
def D__law_whole : He.FnD := ⟨("_law_whole", none), "_law_whole", "_law_whole", defArgs (top 8), defBody (top 8), defScope (top 8)⟩
def D__law_listed : He.FnD := ⟨("_law_listed", none), "_law_listed", "_law_listed", defArgs (top 9), defBody (top 9), defScope (top 9)⟩
def D__law_counts : He.FnD := ⟨("_law_counts", none), "_law_counts", "_law_counts", defArgs (top 10), defBody (top 10), defScope (top 10)⟩
def D__law_many : He.FnD := ⟨("_law_many", none), "_law_many", "_law_many", defArgs (top 11), defBody (top 11), defScope (top 11)⟩
def D__law_step : He.FnD := ⟨("_law_step", none), "_law_step", "_law_step", defArgs (top 12), defBody (top 12), defScope (top 12)⟩
def D__law_has : He.FnD := ⟨("_law_has", none), "_law_has", "_law_has", defArgs (top 13), defBody (top 13), defScope (top 13)⟩
def D_law : He.FnD := ⟨("law", none), "law", "law", defArgs (top 14), defBody (top 14), defScope (top 14)⟩
def fn : List He.FnD := [
  D_within,
  D_number_of,
  D_counts_of,
  D__law_cell_at,
  D__law_number,
  D__law_whole,
  D__law_listed,
  D__law_counts,
  D__law_many,
  D__law_step,
  D__law_has,
  D_law]
def fa : List He.Fa := [
  .glo "within",
  .glo "number_of",
  .glo "counts_of",
  .glo "_law_cell_at",
  .glo "_law_number",
  .glo "_law_whole",
  .glo "_law_listed",
  .glo "_law_counts",
  .glo "_law_many",
  .glo "_law_step",
  .glo "_law_has",
  .glo "law",
  .keep "within",
  .keep "number_of",
  .keep "counts_of",
  .keep "_law_cell_at",
  .keep "_law_number",
  .keep "_law_whole",
  .keep "_law_listed",
  .keep "_law_counts",
  .keep "_law_many",
  .keep "_law_step",
  .keep "_law_has",
  .keep "law",
  .free "bool",
  .free "int",
  .free "isinstance",
  .free "len",
  .free "list",
  .free "range",
  .free "zip",
  .int "MOST" 300]
theorem txt_of {K : PySem.W.Frag} {h : Heap} {mg : Str → Option Value} (X : K.In h) (G : h.Ns mainGlobals mg) (c : He.SaysE fa fn K) : Txt K mg where
  d_within := df_of (c.def_ 0 (d := D_within) rfl) (He.glo_ok X G (c.fact 0 (f := .glo "within") rfl)) (He.keep_ok (c.fact 12 (f := .keep "within") rfl)) fun _ _ _ _ _ _ us hl => match us, hl with | [_], _ => rfl
  d_number_of := df_of (c.def_ 1 (d := D_number_of) rfl) (He.glo_ok X G (c.fact 1 (f := .glo "number_of") rfl)) (He.keep_ok (c.fact 13 (f := .keep "number_of") rfl)) fun _ _ _ _ _ _ us hl => match us, hl with | [_, _], _ => rfl
  d_counts_of := df_of (c.def_ 2 (d := D_counts_of) rfl) (He.glo_ok X G (c.fact 2 (f := .glo "counts_of") rfl)) (He.keep_ok (c.fact 14 (f := .keep "counts_of") rfl)) fun _ _ _ _ _ _ us hl => match us, hl with | [_, _], _ => rfl
  d__law_cell_at := df_of (c.def_ 3 (d := D__law_cell_at) rfl) (He.glo_ok X G (c.fact 3 (f := .glo "_law_cell_at") rfl)) (He.keep_ok (c.fact 15 (f := .keep "_law_cell_at") rfl)) fun _ _ _ _ _ _ us hl => match us, hl with | [_, _], _ => rfl
  d__law_number := df_of (c.def_ 4 (d := D__law_number) rfl) (He.glo_ok X G (c.fact 4 (f := .glo "_law_number") rfl)) (He.keep_ok (c.fact 16 (f := .keep "_law_number") rfl)) fun _ _ _ _ _ _ us hl => match us, hl with | [_, _], _ => rfl
  d__law_whole := df_of (c.def_ 5 (d := D__law_whole) rfl) (He.glo_ok X G (c.fact 5 (f := .glo "_law_whole") rfl)) (He.keep_ok (c.fact 17 (f := .keep "_law_whole") rfl)) fun _ _ _ _ _ _ us hl => match us, hl with | [_], _ => rfl
  d__law_listed := df_of (c.def_ 6 (d := D__law_listed) rfl) (He.glo_ok X G (c.fact 6 (f := .glo "_law_listed") rfl)) (He.keep_ok (c.fact 18 (f := .keep "_law_listed") rfl)) fun _ _ _ _ _ _ us hl => match us, hl with | [_, _], _ => rfl
  d__law_counts := df_of (c.def_ 7 (d := D__law_counts) rfl) (He.glo_ok X G (c.fact 7 (f := .glo "_law_counts") rfl)) (He.keep_ok (c.fact 19 (f := .keep "_law_counts") rfl)) fun _ _ _ _ _ _ us hl => match us, hl with | [_, _], _ => rfl
  d__law_many := df_of (c.def_ 8 (d := D__law_many) rfl) (He.glo_ok X G (c.fact 8 (f := .glo "_law_many") rfl)) (He.keep_ok (c.fact 20 (f := .keep "_law_many") rfl)) fun _ _ _ _ _ _ us hl => match us, hl with | [_], _ => rfl
  d__law_step := df_of (c.def_ 9 (d := D__law_step) rfl) (He.glo_ok X G (c.fact 9 (f := .glo "_law_step") rfl)) (He.keep_ok (c.fact 21 (f := .keep "_law_step") rfl)) fun _ _ _ _ _ _ us hl => match us, hl with | [_, _], _ => rfl
  d__law_has := df_of (c.def_ 10 (d := D__law_has) rfl) (He.glo_ok X G (c.fact 10 (f := .glo "_law_has") rfl)) (He.keep_ok (c.fact 22 (f := .keep "_law_has") rfl)) fun _ _ _ _ _ _ us hl => match us, hl with | [_, _], _ => rfl
  d_law := df_of (c.def_ 11 (d := D_law) rfl) (He.glo_ok X G (c.fact 11 (f := .glo "law") rfl)) (He.keep_ok (c.fact 23 (f := .keep "law") rfl)) fun _ _ _ _ _ _ us hl => match us, hl with | [_], _ => rfl
  bl_law := bl_of (st := top 14) (c.def_ 11 (d := D_law) rfl) fun _ _ _ _ _ _ _ => rfl
  n_bool := He.free_ok X G (c.fact 24 (f := .free "bool") rfl)
  n_int := He.free_ok X G (c.fact 25 (f := .free "int") rfl)
  n_isinstance := He.free_ok X G (c.fact 26 (f := .free "isinstance") rfl)
  n_len := He.free_ok X G (c.fact 27 (f := .free "len") rfl)
  n_list := He.free_ok X G (c.fact 28 (f := .free "list") rfl)
  n_range := He.free_ok X G (c.fact 29 (f := .free "range") rfl)
  n_zip := He.free_ok X G (c.fact 30 (f := .free "zip") rfl)
  c_MOST := He.int_ok X G (c.fact 31 (f := .int "MOST" 300) rfl)
def loose0 : List PySem.Str := ["MOST", "within", "number_of", "counts_of", "_law_cell_at", "_law_number", "_law_whole", "_law_listed", "_law_counts", "_law_many", "_law_step", "_law_has"]
def loose : List PySem.Str := loose0
abbrev RR : PySem.W.OpenRow := PySem.W.OpenLaw.row PySem.Challenge.rw_tillbasket_k01_baskets_numbered
abbrev hk : PySem.W.Hook := hookL 5 fa fn
def ob (s : PySem.W.SharedT) : He.Al := obsL 5 fa fn (HandSHeadRun.getT s)
theorem ob_eq (s : PySem.W.SharedT) : ob s = hk.obs s.abs := obsL_eq (HandSHeadRun.getT_eq s)
theorem run (w : World) : HandSHeadRun.RunEq RR (PySem.W.view RR.prog [14]) hk ob 6000 loose w := by
  intro os
  kernel_rfl
end TB
open PySem PySem.W PySem.Calls PyProof.Rows
theorem PySem.Challenge.cw_tillbasket_k01_baskets_numbered_holds : PySem.Challenge.rw_tillbasket_k01_baskets_numbered.Holds := by
  w_on; o_law
  refine HandSHeadRun.head_any (r := OpenLaw.row PySem.Challenge.rw_tillbasket_k01_baskets_numbered) (q := view (OpenLaw.row PySem.Challenge.rw_tillbasket_k01_baskets_numbered).prog [14]) (H := TB.hk) (ob := TB.ob) (M := 6000) (loose := TB.loose) (d := HandSHeadRun.topDef (OpenLaw.row PySem.Challenge.rw_tillbasket_k01_baskets_numbered).prog 14) (kwd := []) TB.ob_eq
    (by kernel_rfl) (fun s => by kernel_rfl) TB.run (by kernel_rfl) (by kernel_rfl) (by kernel_rfl) (by rfl) (by first | assumption | decide +kernel) (by decide +kernel) ⟨rfl, rfl, rfl, rfl, rfl, by decide +kernel⟩ ?hw ?hc
  case hw => w_witness2
  case hc =>
    refine TB.law_end (l := PySem.Challenge.rw_tillbasket_k01_baskets_numbered) (n := 63) (k := 3) (x := "_law_script") (g := TB.f_law) rfl (by decide) (by kernel_rfl) (by kernel_rfl) ⟨rfl, by decide, by decide⟩ ?F TB.law_true
    intro w K mg h c G
    have T := TB.txt_of c.kin G c.says
    exact ⟨T.d_law.g, fun s u => T.bl_law s u, fun base => TB.ok_law T⟩
