import PyProof.Rows.All
import Wide.All
import OpenK.AllK
import Wide.FinOn
import HandS.ForMost
import HandS.Walk
import HandS.Conv
import HandS.Strs
import HandS.SortInts
import HandS.SortRule
import HandS.TupAny
import HandS.Deep
import HandS.Zip
import HandS.Wide
import HandS.SetFor
import HandS.DictComp
import HandS.IsInst
import HandS.Style
import HandS.NoneIn
import KE.SortData
import KE.DataMinMax
import PyProof.ListCopy
import PyProof.P3Eq
import KE.GoesEnum
import KE.GoesMore
import KE.GoesZip
import HandS.Small
import HandS.SetBool
import HandS.SetIn
import HandS.Ends
import PySem.Challenge.RW_allworlds_k87_whole_clusters_of_all_thin
set_option Elab.async false
set_option linter.all false
set_option maxRecDepth 100000
set_option maxHeartbeats 4000000
/-! FL1: data, the relation of values and data, the monad of mirrors, the judgements of expressions. -/
namespace FL
open PySem PySem.Spec L2

inductive D where
  | non | bl (b : Bool) | int (i : Int) | str (s : Str) | hp
  | tup (xs : List D) | lst (xs : List D)
  | dct (ks : List Key) (vs : List D)
  | dcT (ks : List (List Key)) (vs : List D)
  | seti (xs : List Int)
  | scr (xs : List Int)
  | dctN (ks : List (Option Key)) (vs : List Int)

mutual
def imm : D → Bool
  | .tup xs => immL xs
  | .lst _ => false
  | .dct _ _ => false
  | .dcT _ _ => false
  | .seti _ => false
  | .scr _ => true
  | .dctN _ _ => false
  | .non => true
  | .bl _ => true
  | .int _ => true
  | .str _ => true
  | .hp => true
def immL : List D → Bool
  | [] => true
  | x :: xs => imm x && immL xs
end
theorem immL_eq : ∀ xs : List D, immL xs = xs.all imm
  | [] => rfl
  | x :: xs => by rw [List.all_cons, ← immL_eq xs]; rfl

/-- the draw heap's two cells -/
abbrev Zn := Option (Addr × Addr)
def Zm (z : Zn) (a : Addr) : Prop := ∃ p, z = some p ∧ (a = p.1 ∨ a = p.2)
/-- the draws: great cells, the stir -/
abbrev Ds := List Int × Int
def ZRep (z : Zn) (H : Hp) (s : Ds) : Prop := ∀ a b, z = some (a, b) → a ≠ b ∧ H a = some (.lst [.ref b, .int s.2]) ∧ H b = some (.lst (s.1.map V.int))
/-- all cells but the draws' stand -/
def Keep (z : Zn) (H H' : Hp) : Prop := ∀ a x, H a = some x → ¬ Zm z a → H' a = some x
theorem Keep.refl {z : Zn} (H : Hp) : Keep z H H := fun _ _ h _ => h
theorem Keep.trans {z : Zn} {H H1 H2 : Hp} (a : Keep z H H1) (b : Keep z H1 H2) : Keep z H H2 := fun c x h n => b c x (a c x h n) n
theorem Keep.same {z : Zn} {H H' : Hp} (h : Same H H') : Keep z H H' := fun a x e _ => h a x e
theorem Keep.upd {z : Zn} {H : Hp} {p : Addr} {o : HO} (h : H p = none) : Keep z H (upd H p o) := fun a x e _ => by
  rw [upd_ne (ne_of_none e h)]; exact e
theorem ZRep.upd {z : Zn} {H : Hp} {s : Ds} {p : Addr} {o : HO} (r : ZRep z H s) (h : H p = none) : ZRep z (upd H p o) s := fun a b e => by
  obtain ⟨n, h1, h2⟩ := r a b e
  refine ⟨n, ?_, ?_⟩
  · rw [upd_ne (ne_of_none h1 h)]; exact h1
  · rw [upd_ne (ne_of_none h2 h)]; exact h2
theorem ZRep.zm {z : Zn} {H : Hp} {s : Ds} {p : Addr} (r : ZRep z H s) (h : H p = none) : ¬ Zm z p := fun ⟨q, e, h'⟩ => by
  obtain ⟨a, b⟩ := q
  obtain ⟨n, h1, h2⟩ := r a b e
  rcases h' with h' | h' <;> simp only at h' <;> subst h'
  · rw [h] at h1; cases h1
  · rw [h] at h2; cases h2

/-- objects that never change (by this layer) -/
def stays : HO → Prop
  | .tup _ => True
  | .frz _ _ => True
  | .ins _ _ _ => True
  | .own _ => True
  | _ => False

/-- the list that the law is given: it stays as it is -/
def SqS (K : PySem.W.Frag) (H : Hp) (a : Addr) (vs : List V) : Prop := (∃ o, H a = some (.frz o (.lst vs))) ∨ SqL K (fun _ => none) a vs
theorem SqS.sq {K : PySem.W.Frag} {H : Hp} {a : Addr} {vs : List V} (h : SqS K H a vs) : SqL K H a vs := by
  rcases h with ⟨o, h⟩ | (h | h) | h
  · exact .inl (.inr ⟨o, h⟩)
  · cases h
  · obtain ⟨_, h⟩ := h; cases h
  · exact .inr h
/-- a dict of ints whose keys are ints, texts or None -/
def NonO (w : World) (a : Addr) (ks : List (Option Key)) (vs : List Int) : HO := .ext fun h => (a == sysModules) = false ∧ ∃ us : List Value, Vals (vs.map V.int) us ∧ ∀ P : Program, h.DictOf (noneKind P w) a (ks.zip us)
mutual
inductive Rp (w : World) (K : PySem.W.Frag) (z : Zn) (H : Hp) : V → D → List Addr → Prop
  | non : Rp w K z H .non .non []
  | bl (b : Bool) : Rp w K z H (.bl b) (.bl b) []
  | int (i : Int) : Rp w K z H (.int i) (.int i) []
  | str (x : Str) : Rp w K z H (.str x) (.str x) []
  | hp {a b : Addr} : z = some (a, b) → Rp w K z H (.ref a) .hp []
  | tup {a : Addr} {vs : List V} {ds : List D} {fp : List Addr} : SqT K H a vs → ¬ Zm z a → vs.length ≤ sizeLine → RpA w K z H vs ds fp → Rp w K z H (.ref a) (.tup ds) fp
  | lst {a : Addr} {vs : List V} {ds : List D} {fp : List Addr} : H a = some (.lst vs) → ¬ Zm z a → vs.length ≤ sizeLine → RpA w K z H vs ds fp → Rp w K z H (.ref a) (.lst ds) (a :: fp)
  | dct {a : Addr} {ks : List Key} {vs : List V} {ds : List D} {fp : List Addr} : H a = some (.dK (ks.zip vs)) → ¬ Zm z a → ks.length = vs.length → ks.length ≤ sizeLine → ks.Nodup → RpA w K z H vs ds fp → Rp w K z H (.ref a) (.dct ks ds) (a :: fp)
  | dcT {a : Addr} {ks : List (List Key)} {vs : List V} {ds : List D} {fp : List Addr} : H a = some (.dT (ks.zip vs)) → ¬ Zm z a → ks.length = vs.length → ks.length ≤ sizeLine → ks.Nodup → RpA w K z H vs ds fp → Rp w K z H (.ref a) (.dcT ks ds) (a :: fp)
  | seti {a : Addr} {xs : List Int} : H a = some (SetO w a (fun k => xs.contains k) xs.length) → ¬ Zm z a → xs.Nodup → Rp w K z H (.ref a) (.seti xs) [a]
  | scr {a : Addr} {xs : List Int} : SqS K H a (xs.map V.int) → ¬ Zm z a → xs.length ≤ sizeLine → Rp w K z H (.ref a) (.scr xs) []
  | dctN {a : Addr} {ks : List (Option Key)} {vs : List Int} : H a = some (NonO w a ks vs) → ¬ Zm z a → ks.length = vs.length → ks.length ≤ sizeLine → ks.Nodup → Rp w K z H (.ref a) (.dctN ks vs) [a]
inductive RpA (w : World) (K : PySem.W.Frag) (z : Zn) (H : Hp) : List V → List D → List Addr → Prop
  | nil : RpA w K z H [] [] []
  | cons {v : V} {vs : List V} {d : D} {ds : List D} {f g : List Addr} : Rp w K z H v d f → RpA w K z H vs ds g → RpA w K z H (v :: vs) (d :: ds) (f ++ g)
end
section
variable {w : World} {K : PySem.W.Frag} {z : Zn} {H H' : Hp}

theorem SqT.keepz {a : Addr} {vs : List V} (h : SqT K H a vs) (k : ∀ x, H a = some x → stays x → H' a = some x) : SqT K H' a vs := by
  rcases h with (h | ⟨o, h⟩) | h
  · exact .inl (.inl (k _ h trivial))
  · exact .inl (.inr ⟨o, k _ h trivial⟩)
  · exact .inr h
mutual
theorem Rp.keep : ∀ (d : D) {v : V} {fp : List Addr}, Rp w K z H v d fp → (∀ b x, H b = some x → ¬ Zm z b → (b ∈ fp ∨ stays x) → H' b = some x) → Rp w K z H' v d fp
  | .non, _, _, .non, _ => .non
  | .bl _, _, _, .bl b, _ => .bl b
  | .int _, _, _, .int b, _ => .int b
  | .str _, _, _, .str b, _ => .str b
  | .hp, _, _, .hp e, _ => .hp e
  | .tup ds, _, _, .tup h n l r, k => .tup (SqT.keepz h fun x e s => k _ x e n (.inr s)) n l (RpA.keep ds r k)
  | .lst ds, _, _, .lst h n l r, k => .lst (k _ _ h n (.inl List.mem_cons_self)) n l (RpA.keep ds r fun b x e m q => k b x e m (q.imp (List.mem_cons_of_mem _) id))
  | .dct _ ds, _, _, .dct h n l1 l2 nd r, k => .dct (k _ _ h n (.inl List.mem_cons_self)) n l1 l2 nd (RpA.keep ds r fun b x e m q => k b x e m (q.imp (List.mem_cons_of_mem _) id))
  | .dcT _ ds, _, _, .dcT h n l1 l2 nd r, k => .dcT (k _ _ h n (.inl List.mem_cons_self)) n l1 l2 nd (RpA.keep ds r fun b x e m q => k b x e m (q.imp (List.mem_cons_of_mem _) id))
  | .seti _, _, _, .seti h n nd, k => .seti (k _ _ h n (.inl List.mem_cons_self)) n nd
  | .scr _, _, _, .scr h n l, k => .scr (h.imp (fun ⟨o, e⟩ => ⟨o, k _ _ e n (.inr trivial)⟩) id) n l
  | .dctN _ _, _, _, .dctN h n l1 l2 nd, k => .dctN (k _ _ h n (.inl List.mem_cons_self)) n l1 l2 nd
theorem RpA.keep : ∀ (ds : List D) {vs : List V} {fp : List Addr}, RpA w K z H vs ds fp → (∀ b x, H b = some x → ¬ Zm z b → (b ∈ fp ∨ stays x) → H' b = some x) → RpA w K z H' vs ds fp
  | [], _, _, .nil, _ => .nil
  | d :: ds, _, _, .cons h r, k => .cons (Rp.keep d h fun b x e m q => k b x e m (q.imp (fun z => List.mem_append_left _ z) id)) (RpA.keep ds r fun b x e m q => k b x e m (q.imp (fun z => List.mem_append_right _ z) id))
end
theorem Rp.of_keep {d : D} {v : V} {fp : List Addr} (r : Rp w K z H v d fp) (k : Keep z H H') : Rp w K z H' v d fp := Rp.keep d r fun b x e n _ => k b x e n
theorem RpA.of_keep {ds : List D} {vs : List V} {fp : List Addr} (r : RpA w K z H vs ds fp) (k : Keep z H H') : RpA w K z H' vs ds fp := RpA.keep ds r fun b x e n _ => k b x e n
mutual
theorem Rp.imm : ∀ (d : D) {v : V} {fp : List Addr}, Rp w K z H v d fp → FL.imm d = true → fp = []
  | .non, _, _, .non, _ => rfl
  | .bl _, _, _, .bl b, _ => rfl
  | .int _, _, _, .int b, _ => rfl
  | .str _, _, _, .str b, _ => rfl
  | .hp, _, _, .hp e, _ => rfl
  | .tup ds, _, _, .tup h n l r, i => RpA.imm ds r i
  | .scr _, _, _, .scr _ _ _, _ => rfl
theorem RpA.imm : ∀ (ds : List D) {vs : List V} {fp : List Addr}, RpA w K z H vs ds fp → FL.immL ds = true → fp = []
  | [], _, _, .nil, _ => rfl
  | d :: ds, _, _, .cons h r, i => by
    have i' : FL.imm d = true ∧ FL.immL ds = true := by
      have : (FL.imm d && FL.immL ds) = true := i
      simpa using this
    rw [Rp.imm d h i'.1, RpA.imm ds r i'.2]; rfl
end
mutual
theorem Rp.there : ∀ (d : D) {v : V} {fp : List Addr}, Rp w K z H v d fp → ∀ a ∈ fp, H a ≠ none ∧ ¬ Zm z a ∧ ∀ x, H a = some x → ¬ stays x
  | .non, _, _, .non, a, h => by cases h
  | .bl _, _, _, .bl b, a, h => by cases h
  | .int _, _, _, .int b, a, h => by cases h
  | .str _, _, _, .str b, a, h => by cases h
  | .hp, _, _, .hp e, a, h => by cases h
  | .tup ds, _, _, .tup h n l r, a, m => RpA.there ds r a m
  | .lst ds, _, _, .lst h n l r, a, m => by
    rcases List.mem_cons.mp m with e | m
    · subst e; rw [h]; exact ⟨by simp, n, fun x e => by cases e; exact id⟩
    · exact RpA.there ds r a m
  | .dct _ ds, _, _, .dct h n l1 l2 nd r, a, m => by
    rcases List.mem_cons.mp m with e | m
    · subst e; rw [h]; exact ⟨by simp, n, fun x e => by cases e; exact id⟩
    · exact RpA.there ds r a m
  | .dcT _ ds, _, _, .dcT h n l1 l2 nd r, a, m => by
    rcases List.mem_cons.mp m with e | m
    · subst e; rw [h]; exact ⟨by simp, n, fun x e => by cases e; exact id⟩
    · exact RpA.there ds r a m
  | .seti _, _, _, .seti h n nd, a, m => by
    have e := List.mem_singleton.mp m
    subst e; rw [h]; exact ⟨by simp, n, fun x e => by cases e; exact id⟩
  | .scr _, _, _, .scr _ _ _, a, m => by cases m
  | .dctN _ _, _, _, .dctN h n l1 l2 nd, a, m => by
    have e := List.mem_singleton.mp m
    subst e; rw [h]; exact ⟨by simp, n, fun x e => by cases e; exact id⟩
theorem RpA.there : ∀ (ds : List D) {vs : List V} {fp : List Addr}, RpA w K z H vs ds fp → ∀ a ∈ fp, H a ≠ none ∧ ¬ Zm z a ∧ ∀ x, H a = some x → ¬ stays x
  | [], _, _, .nil, a, h => by cases h
  | d :: ds, _, _, .cons h r, a, m => by
    rcases List.mem_append.mp m with m | m
    · exact Rp.there d h a m
    · exact RpA.there ds r a m
end
theorem RpA.length : ∀ {ds : List D} {vs : List V} {fp : List Addr}, RpA w K z H vs ds fp → vs.length = ds.length
  | [], _, _, .nil => rfl
  | d :: ds, _, _, .cons h r => by rw [List.length_cons, List.length_cons, RpA.length r]
theorem RpA.get : ∀ {ds : List D} {vs : List V} {fp : List Addr} {i : Nat} {d : D}, RpA w K z H vs ds fp → ds[i]? = some d → ∃ v f, vs[i]? = some v ∧ Rp w K z H v d f ∧ ∀ a ∈ f, a ∈ fp
  | [], _, _, _, _, .nil, e => by simp at e
  | d :: ds, _, _, 0, _, .cons h r, e => by
    simp at e; subst e
    exact ⟨_, _, rfl, h, fun a m => List.mem_append_left _ m⟩
  | d :: ds, _, _, i + 1, d', .cons h r, e => by
    obtain ⟨v, f, e1, r1, m⟩ := RpA.get (i := i) (d := d') r (by simpa using e)
    exact ⟨v, f, by simpa using e1, r1, fun a q => List.mem_append_right _ (m a q)⟩
/-- item by item, where all are immutable -/
theorem RpA.of_imm : ∀ {ds : List D} {vs : List V}, vs.length = ds.length → immL ds = true → (∀ (i : Nat) v d, vs[i]? = some v → ds[i]? = some d → ∃ f, Rp w K z H v d f) → RpA w K z H vs ds []
  | [], [], _, _, _ => .nil
  | d :: ds, v :: vs, l, i, h => by
    have i' : FL.imm d = true ∧ FL.immL ds = true := by
      have : (FL.imm d && FL.immL ds) = true := i
      simpa using this
    obtain ⟨f, r⟩ := h 0 v d rfl rfl
    have e := Rp.imm d r i'.1
    subst e
    exact RpA.cons (f := []) (g := []) r (RpA.of_imm (by simpa using l) i'.2 fun j v' d' e1 e2 => h (j + 1) v' d' (by simpa using e1) (by simpa using e2))
theorem RpA.append : ∀ {ds es : List D} {vs us : List V} {f g : List Addr}, RpA w K z H vs ds f → RpA w K z H us es g → RpA w K z H (vs ++ us) (ds ++ es) (f ++ g)
  | [], _, _, _, _, _, .nil, r => r
  | d :: ds, es, _, _, _, g, .cons (f := f1) h r', r => by
    rw [List.append_assoc]
    exact .cons h (RpA.append r' r)
end

/-! ### the monad of mirrors -/
def Mo (α : Type) := Ds → Option (α × Ds)
namespace Mo
variable {α β γ : Type}
def pure (a : α) : Mo α := fun s => some (a, s)
def bind (m : Mo α) (f : α → Mo β) : Mo β := fun s => match m s with
  | none => none
  | some (a, s') => f a s'
def fail : Mo α := fun _ => none
def ofO : Option α → Mo α
  | some a => pure a
  | none => fail
@[simp] theorem ofO_some (a : α) : ofO (some a) = pure a := id rfl
@[simp] theorem ofO_none : ofO (none : Option α) = fail := id rfl
@[simp] theorem pure_bind (a : α) (f : α → Mo β) : bind (pure a) f = f a := id rfl
@[simp] theorem fail_bind (f : α → Mo β) : bind fail f = fail := id rfl
@[simp] theorem bind_pure (m : Mo α) : bind m pure = m := by
  funext s; unfold bind pure; cases m s <;> rfl
@[simp] theorem bind_assoc (m : Mo α) (f : α → Mo β) (g : β → Mo γ) : bind (bind m f) g = bind m fun a => bind (f a) g := by
  funext s; unfold bind; cases m s <;> rfl
theorem bind_some {m : Mo α} {f : α → Mo β} {s : Ds} {r : β × Ds} (h : bind m f s = some r) : ∃ a s1, m s = some (a, s1) ∧ f a s1 = some r := by
  unfold bind at h
  cases e : m s with
  | none => rw [e] at h; cases h
  | some p => rw [e] at h; exact ⟨p.1, p.2, rfl, h⟩
theorem pure_some {a b : α} {s s' : Ds} (h : pure a s = some (b, s')) : b = a ∧ s' = s := by
  cases h; exact ⟨rfl, rfl⟩
theorem ofO_some' {o : Option α} {b : α} {s s' : Ds} (h : ofO o s = some (b, s')) : o = some b ∧ s' = s := by
  cases o with
  | none => cases h
  | some a => cases h; exact ⟨rfl, rfl⟩
end Mo
/-- a guard -/
def gd (b : Bool) : Mo Unit := if b then Mo.pure () else Mo.fail
@[simp] theorem gd_true : gd true = Mo.pure () := id rfl
@[simp] theorem gd_false : gd false = Mo.fail := id rfl
theorem gd_some {b : Bool} {s s' : Ds} {u : Unit} (h : gd b s = some (u, s')) : b = true ∧ s' = s := by
  cases b with
  | false => cases h
  | true => cases h; exact ⟨rfl, rfl⟩
theorem gd_of {b : Bool} (h : b = true) : gd b = Mo.pure () := by rw [h]; rfl

/-! ### expressions -/
abbrev Ev := List (Option D)
section
variable (w : World) (K : PySem.W.Frag)
def VRep (z : Zn) (B : Addr → Prop) (H : Hp) (σ : L2.St) (ρ : Ev) : Prop := ∀ (i : Nat) (d : D), ρ[i]? = some (some d) → ∃ v fp, σ[i]? = some (some v) ∧ Rp w K z H v d fp ∧ ∀ a ∈ fp, B a
structure EIn (z : Zn) (B : Addr → Prop) (H : Hp) (σ : L2.St) (ρ : Ev) (s : Ds) : Prop where
  v : VRep w K z B H σ ρ
  z : ZRep z H s
  b : ∀ a, B a → H a ≠ none
  len : σ.length = ρ.length
/-- fresh: owned by nobody else -/
def tE (f : Ev → Mo D) : TE := fun σ H Q => ∃ z B ρ s d s', EIn w K z B H σ ρ s ∧ f ρ s = some (d, s') ∧
  ∀ v H' fp, Keep z H H' → Rp w K z H' v d fp → (∀ a ∈ fp, H a = none) → fp.Nodup → ZRep z H' s' → Q v H'
/-- borrowed: its cells may be those of the names -/
def tB (f : Ev → Mo D) : TE := fun σ H Q => ∃ z B ρ s d s', EIn w K z B H σ ρ s ∧ f ρ s = some (d, s') ∧
  ∀ v H' fp, Keep z H H' → Rp w K z H' v d fp → (∀ a ∈ fp, H a = none ∨ B a) → ZRep z H' s' → Q v H'
def tT (f : Ev → Mo Bool) : TT := fun σ H Q => ∃ z B ρ s b s', EIn w K z B H σ ρ s ∧ f ρ s = some (b, s') ∧
  ∀ H', Keep z H H' → ZRep z H' s' → Q b H'
def tA (f : Ev → Mo (List D)) : TA := fun σ H Q => ∃ z B ρ s ds s', EIn w K z B H σ ρ s ∧ f ρ s = some (ds, s') ∧
  ∀ vs H' fp, Keep z H H' → RpA w K z H' vs ds fp → (∀ a ∈ fp, H a = none ∨ B a) → ZRep z H' s' → Q vs H'
def tEA (f : Ev → Mo (List D)) : TA := fun σ H Q => ∃ z B ρ s ds s', EIn w K z B H σ ρ s ∧ f ρ s = some (ds, s') ∧
  ∀ vs H' fp, Keep z H H' → RpA w K z H' vs ds fp → (∀ a ∈ fp, H a = none) → fp.Nodup → ZRep z H' s' → Q vs H'
end
def E (X : Cx) (e : Expr) (f : Ev → Mo D) : Prop := PE X e (tE X.w X.K f)
def B (X : Cx) (e : Expr) (f : Ev → Mo D) : Prop := PE X e (tB X.w X.K f)
def T (X : Cx) (e : Expr) (f : Ev → Mo Bool) : Prop := PT X e (tT X.w X.K f)
def TW (X : Cx) (e : Expr) (f : Ev → Mo Bool) : Prop := PW X e (tT X.w X.K f)
def AB (X : Cx) (es : List Expr) (f : Ev → Mo (List D)) : Prop := PA X es (tA X.w X.K f)
def AE (X : Cx) (es : List Expr) (f : Ev → Mo (List D)) : Prop := PA X es (tEA X.w X.K f)

theorem PE.weak {X : Cx} {e : Expr} {t t' : TE} (h : PE X e t) (i : ∀ σ H Q, t' σ H Q → t σ H Q) : PE X e t' := ⟨fun pins s σ H Q I q => h.run pins s σ H Q I (i σ H Q q)⟩
theorem PT.weak {X : Cx} {e : Expr} {t t' : TT} (h : PT X e t) (i : ∀ σ H Q, t' σ H Q → t σ H Q) : PT X e t' := ⟨fun pins s σ H Q I q => h.run pins s σ H Q I (i σ H Q q)⟩
theorem PW.weak {X : Cx} {e : Expr} {t t' : TT} (h : PW X e t) (i : ∀ σ H Q, t' σ H Q → t σ H Q) : PW X e t' := ⟨fun wh pins s σ H Q I q => h.run wh pins s σ H Q I (i σ H Q q)⟩
theorem PA.weak {X : Cx} {e : List Expr} {t t' : TA} (h : PA X e t) (i : ∀ σ H Q, t' σ H Q → t σ H Q) : PA X e t' := ⟨fun p pins s σ H Q I q => h.run p pins s σ H Q I (i σ H Q q)⟩

section
variable {w : World} {K : PySem.W.Frag} {z : Zn} {Bs : Addr → Prop} {H H' : Hp} {σ : L2.St} {ρ : Ev} {s s' : Ds}
/-- the environment behind an expression -/
theorem EIn.next (I : EIn w K z Bs H σ ρ s) (k : Keep z H H') (q : ZRep z H' s') : EIn w K z Bs H' σ ρ s' :=
  ⟨fun i d e => by
    obtain ⟨v, fp, e1, r, m⟩ := I.v i d e
    exact ⟨v, fp, e1, r.of_keep k, m⟩, q, fun a h => by
    have n := I.b a h
    cases e : H a with
    | none => exact absurd e n
    | some x =>
      by_cases hz : Zm z a
      · obtain ⟨p, e1, e2⟩ := hz
        obtain ⟨_, h1, h2⟩ := q p.1 p.2 e1
        rcases e2 with e2 | e2 <;> subst e2
        · rw [h1]; simp
        · rw [h2]; simp
      · rw [k a x e hz]; simp, I.len⟩
theorem Keep.free (k : Keep z H H') (r : ZRep z H' s) {a : Addr} (h : H' a = none) : H a = none := by
  cases e : H a with
  | none => rfl
  | some x =>
    have n := r.zm h
    rw [k a x e n] at h; cases h
end

section
variable {X : Cx}
/-- fresh is borrowed -/
theorem E.b {e : Expr} {f : Ev → Mo D} (h : E X e f) : B X e f := PE.weak h fun σ H Q ⟨z, Bs, ρ, s, d, s', I, hf, k⟩ =>
  ⟨z, Bs, ρ, s, d, s', I, hf, fun v H' fp hk r fr _ hz => k v H' fp hk r (fun a m => .inl (fr a m)) hz⟩
def fImm (f : Ev → Mo D) : Ev → Mo D := fun ρ => (f ρ).bind fun d => (gd (imm d)).bind fun _ => Mo.pure d
/-- a borrowed immutable is fresh -/
theorem B.e {e : Expr} {f : Ev → Mo D} (h : B X e f) : E X e (fImm f) := PE.weak h fun σ H Q ⟨z, Bs, ρ, s, d, s', I, hf, k⟩ => by
  obtain ⟨d1, s1, h1, h2⟩ := Mo.bind_some hf
  obtain ⟨_, s2, h3, h4⟩ := Mo.bind_some h2
  obtain ⟨i, rfl⟩ := gd_some h3
  obtain ⟨rfl, rfl⟩ := Mo.pure_some h4
  refine ⟨z, Bs, ρ, s, d, s', I, h1, fun v H' fp hk r _ hz => ?_⟩
  have e := Rp.imm _ r i
  subst e
  exact k v H' [] hk r (fun a m => by cases m) List.nodup_nil hz
def fVar (i : Nat) : Ev → Mo D := fun ρ => Mo.ofO (ρ[i]?.join)
theorem b_var (i : Nat) {x : Str} {pos : Pos} (hN : X.N[i]? = some x := by rfl) (hv : Vis X.env.scope x := by first | exact Or.inl rfl | exact Or.inr (Or.inl rfl) | exact Or.inr (Or.inr rfl)) (hd : (x == ("__debug__" : Str)) = false := by decide)
    (hcd : (x == ("__classdict__" : Str)) = false := by decide) : B X (.Name x pos) (fVar i) := PE.weak (pe_var hN hv hd hcd) fun σ H Q ⟨z, Bs, ρ, s, d, s', I, hf, k⟩ => by
  obtain ⟨e, rfl⟩ := Mo.ofO_some' hf
  have e' : ρ[i]? = some (some d) := by
    cases q : ρ[i]? with
    | none => rw [q] at e; cases e
    | some o => rw [q] at e; exact congrArg some e
  obtain ⟨v, fp, e1, r, m⟩ := I.v i d e'
  exact ⟨v, e1, k v H fp (Keep.refl H) r (fun a h => .inr (m a h)) I.z⟩
def fC (d : D) : Ev → Mo D := fun _ => Mo.pure d
theorem e_const {e : Expr} {v : V} {d : D} (h : PE X e (tC v)) (r : ∀ z H, Rp X.w X.K z H v d []) : E X e (fC d) := PE.weak h fun σ H Q ⟨z, Bs, ρ, s, d', s', I, hf, k⟩ => by
  obtain ⟨rfl, rfl⟩ := Mo.pure_some hf
  exact k v H [] (Keep.refl H) (r z H) (fun a m => by cases m) List.nodup_nil I.z
theorem e_int {i : Int} {j pos} : E X (.Constant (.int i) j pos) (fC (.int i)) := e_const pe_int fun _ _ => .int i
theorem e_bl {i : Bool} {j pos} : E X (.Constant (.bool i) j pos) (fC (.bl i)) := e_const pe_bl fun _ _ => .bl i
theorem e_str {i : Str} {j pos} : E X (.Constant (.str i) j pos) (fC (.str i)) := e_const pe_str fun _ _ => .str i
theorem e_non {j pos} : E X (.Constant .none j pos) (fC .non) := e_const pe_non fun _ _ => .non

/-! ### two-place operators -/
def fBin (g : D → D → Option D) (fa fb : Ev → Mo D) : Ev → Mo D := fun ρ => (fa ρ).bind fun x => (fb ρ).bind fun y => Mo.ofO (g x y)
/-- what a two-place operator is to do -/
def rD (w : World) (K : PySem.W.Frag) (g : D → D → Option D) : R2 := fun x y H Q => ∃ z s da db fa fb d, ZRep z H s ∧ Rp w K z H x da fa ∧ Rp w K z H y db fb ∧ g da db = some d ∧
  ∀ v H' fp, Keep z H H' → Rp w K z H' v d fp → (∀ a ∈ fp, H a = none) → fp.Nodup → ZRep z H' s → Q v H'
theorem bin_read {w : World} {K : PySem.W.Frag} {g : D → D → Option D} {fa fb : Ev → Mo D} {σ : L2.St} {H : Hp} {Q : VK} (h : tE w K (fBin g fa fb) σ H Q) :
    tB w K fa σ H fun x H1 => tB w K fb σ H1 fun y H2 => rD w K g x y H2 Q := by
  obtain ⟨z, Bs, ρ, s, d, s', I, hf, k⟩ := h
  obtain ⟨da, s1, h1, h2⟩ := Mo.bind_some hf
  obtain ⟨db, s2, h3, h4⟩ := Mo.bind_some h2
  obtain ⟨e, rfl⟩ := Mo.ofO_some' h4
  refine ⟨z, Bs, ρ, s, da, s1, I, h1, fun v H1 fp k1 r1 _ z1 => ?_⟩
  refine ⟨z, Bs, ρ, s1, db, s', I.next k1 z1, h3, fun u H2 fq k2 r2 _ z2 => ?_⟩
  refine ⟨z, s', da, db, fp, fq, d, z2, r1.of_keep k2, r2, e, fun v' H' fr k3 r3 f3 n3 z3 => ?_⟩
  exact k v' H' fr (k1.trans (k2.trans k3)) r3 (fun a m => k1.free z1 (k2.free z2 (f3 a m))) n3 z3
theorem e_bin {a b : Expr} {op : Operator} {pos : Pos} {g : D → D → Option D} {fa fb : Ev → Mo D} (ho : OpR X (binaryOp op) (rD X.w X.K g)) (ha : B X a fa) (hb : B X b fb) : E X (.BinOp a op b pos) (fBin g fa fb) :=
  PE.weak (pe_op ho ha hb) fun σ H Q h => bin_read h
/-- comparisons -/
def rC (w : World) (K : PySem.W.Frag) (g : D → D → Option Bool) : R2 := fun x y H Q => ∃ z s da db fa fb b, ZRep z H s ∧ Rp w K z H x da fa ∧ Rp w K z H y db fb ∧ g da db = some b ∧ Q (.bl b) H
def fCmp (g : D → D → Option Bool) (fa fb : Ev → Mo D) : Ev → Mo Bool := fun ρ => (fa ρ).bind fun x => (fb ρ).bind fun y => Mo.ofO (g x y)
def fB (f : Ev → Mo Bool) : Ev → Mo D := fun ρ => (f ρ).bind fun b => Mo.pure (.bl b)
theorem cmp_read {w : World} {K : PySem.W.Frag} {g : D → D → Option Bool} {fa fb : Ev → Mo D} {σ : L2.St} {H : Hp} {Q : Bool → Hp → Prop} (h : tT w K (fCmp g fa fb) σ H Q) :
    tB w K fa σ H fun x H1 => tB w K fb σ H1 fun y H2 => rC w K g x y H2 fun v H3 => ∃ k, v = .bl k ∧ Q k H3 := by
  obtain ⟨z, Bs, ρ, s, d, s', I, hf, k⟩ := h
  obtain ⟨da, s1, h1, h2⟩ := Mo.bind_some hf
  obtain ⟨db, s2, h3, h4⟩ := Mo.bind_some h2
  obtain ⟨e, rfl⟩ := Mo.ofO_some' h4
  refine ⟨z, Bs, ρ, s, da, s1, I, h1, fun v H1 fp k1 r1 _ z1 => ?_⟩
  refine ⟨z, Bs, ρ, s1, db, s', I.next k1 z1, h3, fun u H2 fq k2 r2 _ z2 => ?_⟩
  exact ⟨z, s', da, db, fp, fq, d, z2, r1.of_keep k2, r2, e, d, rfl, k H2 (k1.trans k2) z2⟩
theorem t_cmp {a b : Expr} {op : CmpOp} {pos : Pos} {g : D → D → Option Bool} {fa fb : Ev → Mo D} (ho : OpR X (compareOp op) (rC X.w X.K g)) (ha : B X a fa) (hb : B X b fb) (hm : behindInMarks op b = false) : T X (.Compare a [op] [b] pos) (fCmp g fa fb) :=
  PT.weak (pt_cmpR ho ha hb hm) fun σ H Q h => cmp_read h
/-- a test as a value, through its reading -/
theorem tE_of_tT {w : World} {K : PySem.W.Frag} {f : Ev → Mo Bool} {σ : L2.St} {H : Hp} {Q : VK} (h : tE w K (fB f) σ H Q) : tT w K f σ H fun b H1 => Q (.bl b) H1 := by
  obtain ⟨z, Bs, ρ, s, d, s', I, hf, k⟩ := h
  obtain ⟨b, s1, h1, h2⟩ := Mo.bind_some hf
  obtain ⟨rfl, rfl⟩ := Mo.pure_some h2
  exact ⟨z, Bs, ρ, s, b, s', I, h1, fun H' k1 z1 => k _ H' [] k1 (.bl b) (fun a m => by cases m) List.nodup_nil z1⟩
theorem e_cmp {a b : Expr} {op : CmpOp} {pos : Pos} {g : D → D → Option Bool} {fa fb : Ev → Mo D} (ho : OpR X (compareOp op) (rC X.w X.K g)) (ha : B X a fa) (hb : B X b fb) (hm : behindInMarks op b = false) : E X (.Compare a [op] [b] pos) (fB (fCmp g fa fb)) :=
  PE.weak (pe_cmpR ho ha hb hm) fun σ H Q h => by
    obtain ⟨z, Bs, ρ, s, da, s', I, hf, k⟩ := cmp_read (tE_of_tT h)
    refine ⟨z, Bs, ρ, s, da, s', I, hf, fun v H' fp k1 r f z1 => ?_⟩
    obtain ⟨z2, Bs2, ρ2, s2, db, s3, I2, hf2, k2⟩ := k v H' fp k1 r f z1
    refine ⟨z2, Bs2, ρ2, s2, db, s3, I2, hf2, fun v2 H2 fp2 k3 r2 f2 z3 => ?_⟩
    obtain ⟨z4, s4, da', db', fa', fb', b', h1, h2, h3, h4, kk, e, q⟩ := k2 v2 H2 fp2 k3 r2 f2 z3
    cases e
    exact ⟨z4, s4, da', db', fa', fb', _, h1, h2, h3, h4, q⟩

/-! ### and, or, not, if-else -/
def fAnd (f g : Ev → Mo Bool) : Ev → Mo Bool := fun ρ => (f ρ).bind fun b => if b then g ρ else Mo.pure false
def fOr (f g : Ev → Mo Bool) : Ev → Mo Bool := fun ρ => (f ρ).bind fun b => if b then Mo.pure true else g ρ
def fNot (f : Ev → Mo Bool) : Ev → Mo Bool := fun ρ => (f ρ).bind fun b => Mo.pure (!b)
def fIf (c : Ev → Mo Bool) (f g : Ev → Mo D) : Ev → Mo D := fun ρ => (c ρ).bind fun b => if b then f ρ else g ρ
variable {w : World} {K : PySem.W.Frag} {f g : Ev → Mo Bool} {fa fb : Ev → Mo D} {σ : L2.St} {H : Hp} {Q : Bool → Hp → Prop} {a b c : Expr} {rest : List Expr} {pos : Pos}
theorem and_read (h : tT w K (fAnd f g) σ H Q) : tAnd (tT w K f) (tT w K g) σ H Q := by
  obtain ⟨z, Bs, ρ, s, d, s', I, hf, k⟩ := h
  obtain ⟨b, s1, h1, h2⟩ := Mo.bind_some hf
  refine ⟨z, Bs, ρ, s, b, s1, I, h1, fun H1 k1 z1 => ?_⟩
  cases b with
  | true => exact ⟨z, Bs, ρ, s1, d, s', I.next k1 z1, h2, fun H2 k2 z2 => k H2 (k1.trans k2) z2⟩
  | false =>
    obtain ⟨rfl, rfl⟩ := Mo.pure_some h2
    exact k H1 k1 z1
theorem or_read (h : tT w K (fOr f g) σ H Q) : tOr (tT w K f) (tT w K g) σ H Q := by
  obtain ⟨z, Bs, ρ, s, d, s', I, hf, k⟩ := h
  obtain ⟨b, s1, h1, h2⟩ := Mo.bind_some hf
  refine ⟨z, Bs, ρ, s, b, s1, I, h1, fun H1 k1 z1 => ?_⟩
  cases b with
  | false => exact ⟨z, Bs, ρ, s1, d, s', I.next k1 z1, h2, fun H2 k2 z2 => k H2 (k1.trans k2) z2⟩
  | true =>
    obtain ⟨rfl, rfl⟩ := Mo.pure_some h2
    exact k H1 k1 z1
theorem not_read (h : tT w K (fNot f) σ H Q) : tNot (tT w K f) σ H Q := by
  obtain ⟨z, Bs, ρ, s, d, s', I, hf, k⟩ := h
  obtain ⟨b, s1, h1, h2⟩ := Mo.bind_some hf
  obtain ⟨rfl, rfl⟩ := Mo.pure_some h2
  exact ⟨z, Bs, ρ, s, b, s', I, h1, k⟩
theorem t_and1 (h : T X a f) : TW X (.BoolOp .And [a] pos) f := pw_and1 h
theorem t_or1 (h : T X a f) : TW X (.BoolOp .Or [a] pos) f := pw_or1 h
theorem t_and (h : T X a f) (h' : TW X (.BoolOp .And (b :: rest) pos) g) : TW X (.BoolOp .And (a :: b :: rest) pos) (fAnd f g) := PW.weak (pw_and h h') fun _ _ _ q => and_read q
theorem t_or (h : T X a f) (h' : TW X (.BoolOp .Or (b :: rest) pos) g) : TW X (.BoolOp .Or (a :: b :: rest) pos) (fOr f g) := PW.weak (pw_or h h') fun _ _ _ q => or_read q
theorem TW.t (h : TW X a f) : T X a f := PW.pt h
theorem t_not (h : T X a f) : T X (.UnaryOp .Not a pos) (fNot f) := PT.weak (pt_not h) fun _ _ _ q => not_read q
/-- an expression that is a bool, as a test -/
def fTB (f : Ev → Mo D) : Ev → Mo Bool := fun ρ => (f ρ).bind fun d => match d with
  | .bl b => Mo.pure b
  | _ => Mo.fail
theorem tb_read {f : Ev → Mo D} (h : tT w K (fTB f) σ H Q) : tB w K f σ H fun x H1 => ∃ c, x = .bl c ∧ Q c H1 := by
  obtain ⟨z, Bs, ρ, s, d, s', I, hf, k⟩ := h
  obtain ⟨x, s1, h1, h2⟩ := Mo.bind_some hf
  refine ⟨z, Bs, ρ, s, x, s1, I, h1, fun v H1 fp k1 r _ z1 => ?_⟩
  cases r with
  | bl b => obtain ⟨rfl, rfl⟩ := Mo.pure_some h2; exact ⟨_, rfl, k H1 k1 z1⟩
  | non => cases h2
  | int _ => cases h2
  | str _ => cases h2
  | hp _ => cases h2
  | tup _ _ _ _ => cases h2
  | lst _ _ _ _ => cases h2
  | dct _ _ _ _ _ _ => cases h2
  | dcT _ _ _ _ _ _ => cases h2
  | seti _ _ _ => cases h2
  | scr _ _ _ => cases h2
  | dctN _ _ _ _ _ => cases h2
theorem t_val {e : Expr} {f : Ev → Mo D} (h : B X e f) (he : ∀ whole, isTrue e X.env whole = (do let v ← whole; standAt e.pos; holding [v] (truthy v)) := by intro _; rfl) : T X e (fTB f) :=
  PT.weak (pt_val h he) fun _ _ _ q => tb_read q
theorem e_ifExp {f g : Ev → Mo D} {t : Ev → Mo Bool} (hc : T X c t) (ha : E X a f) (hb : E X b g) : E X (.IfExp c a b pos) (fIf t f g) := PE.weak (pe_ifExp hc ha hb) fun σ H Q ⟨z, Bs, ρ, s, d, s', I, hf, k⟩ => by
  obtain ⟨b, s1, h1, h2⟩ := Mo.bind_some hf
  refine ⟨z, Bs, ρ, s, b, s1, I, h1, fun H1 k1 z1 => ?_⟩
  cases b with
  | true => exact ⟨z, Bs, ρ, s1, d, s', I.next k1 z1, h2, fun v H' fp k2 r f n z2 => k v H' fp (k1.trans k2) r (fun a m => k1.free z1 (f a m)) n z2⟩
  | false => exact ⟨z, Bs, ρ, s1, d, s', I.next k1 z1, h2, fun v H' fp k2 r f n z2 => k v H' fp (k1.trans k2) r (fun a m => k1.free z1 (f a m)) n z2⟩
theorem b_ifExp {f g : Ev → Mo D} {t : Ev → Mo Bool} (hc : T X c t) (ha : B X a f) (hb : B X b g) : B X (.IfExp c a b pos) (fIf t f g) := PE.weak (pe_ifExp hc ha hb) fun σ H Q ⟨z, Bs, ρ, s, d, s', I, hf, k⟩ => by
  obtain ⟨b, s1, h1, h2⟩ := Mo.bind_some hf
  refine ⟨z, Bs, ρ, s, b, s1, I, h1, fun H1 k1 z1 => ?_⟩
  cases b with
  | true => exact ⟨z, Bs, ρ, s1, d, s', I.next k1 z1, h2, fun v H' fp k2 r f z2 => k v H' fp (k1.trans k2) r (fun a m => (f a m).imp (k1.free z1) id) z2⟩
  | false => exact ⟨z, Bs, ρ, s1, d, s', I.next k1 z1, h2, fun v H' fp k2 r f z2 => k v H' fp (k1.trans k2) r (fun a m => (f a m).imp (k1.free z1) id) z2⟩
/-- and, or, not as values (bools) -/
theorem and_readE {f g : Ev → Mo Bool} {Q : VK} (h : tE w K (fB (fAnd f g)) σ H Q) : tE w K (fB f) σ H fun x H1 => ∃ c, x = .bl c ∧ if c = true then tE w K (fB g) σ H1 Q else Q (.bl false) H1 := by
  obtain ⟨z, Bs, ρ, s, d, s', I, hf, k⟩ := h
  obtain ⟨b, s1, h1, h2⟩ := Mo.bind_some hf
  obtain ⟨rfl, rfl⟩ := Mo.pure_some h2
  obtain ⟨b1, s2, h3, h4⟩ := Mo.bind_some h1
  refine ⟨z, Bs, ρ, s, .bl b1, s2, I, by unfold fB Mo.bind; rw [h3]; rfl, fun v H1 fp k1 r _ _ z1 => ?_⟩
  cases r
  refine ⟨b1, rfl, ?_⟩
  cases b1 with
  | true => exact ⟨z, Bs, ρ, s2, .bl b, s', I.next k1 z1, by unfold fB Mo.bind; rw [show g ρ s2 = some (b, s') from h4]; rfl, fun v H' fp k2 r f n z2 => k v H' fp (k1.trans k2) r (fun a m => k1.free z1 (f a m)) n z2⟩
  | false =>
    obtain ⟨rfl, rfl⟩ := Mo.pure_some h4
    exact k _ H1 [] k1 (.bl false) (fun a m => by cases m) List.nodup_nil z1
theorem or_readE {f g : Ev → Mo Bool} {Q : VK} (h : tE w K (fB (fOr f g)) σ H Q) : tE w K (fB f) σ H fun x H1 => ∃ c, x = .bl c ∧ if c = true then Q (.bl true) H1 else tE w K (fB g) σ H1 Q := by
  obtain ⟨z, Bs, ρ, s, d, s', I, hf, k⟩ := h
  obtain ⟨b, s1, h1, h2⟩ := Mo.bind_some hf
  obtain ⟨rfl, rfl⟩ := Mo.pure_some h2
  obtain ⟨b1, s2, h3, h4⟩ := Mo.bind_some h1
  refine ⟨z, Bs, ρ, s, .bl b1, s2, I, by unfold fB Mo.bind; rw [h3]; rfl, fun v H1 fp k1 r _ _ z1 => ?_⟩
  cases r
  refine ⟨b1, rfl, ?_⟩
  cases b1 with
  | false => exact ⟨z, Bs, ρ, s2, .bl b, s', I.next k1 z1, by unfold fB Mo.bind; rw [show g ρ s2 = some (b, s') from h4]; rfl, fun v H' fp k2 r f n z2 => k v H' fp (k1.trans k2) r (fun a m => k1.free z1 (f a m)) n z2⟩
  | true =>
    obtain ⟨rfl, rfl⟩ := Mo.pure_some h4
    exact k _ H1 [] k1 (.bl true) (fun a m => by cases m) List.nodup_nil z1
theorem e_and1 (h : E X a (fB f)) : E X (.BoolOp .And [a] pos) (fB f) := pe_one h
theorem e_or1 (h : E X a (fB f)) : E X (.BoolOp .Or [a] pos) (fB f) := pe_one h
theorem e_and (h : E X a (fB f)) (h' : E X (.BoolOp .And (b :: rest) pos) (fB g)) : E X (.BoolOp .And (a :: b :: rest) pos) (fB (fAnd f g)) := PE.weak (pe_and h h') fun _ _ _ q => and_readE q
theorem e_or (h : E X a (fB f)) (h' : E X (.BoolOp .Or (b :: rest) pos) (fB g)) : E X (.BoolOp .Or (a :: b :: rest) pos) (fB (fOr f g)) := PE.weak (pe_or h h') fun _ _ _ q => or_readE q
theorem e_not (h : E X a (fB f)) : E X (.UnaryOp .Not a pos) (fB (fNot f)) := PE.weak (pe_not h) fun σ H Q ⟨z, Bs, ρ, s, d, s', I, hf, k⟩ => by
  obtain ⟨b, s1, h1, h2⟩ := Mo.bind_some hf
  obtain ⟨rfl, rfl⟩ := Mo.pure_some h2
  obtain ⟨b1, s2, h3, h4⟩ := Mo.bind_some h1
  obtain ⟨rfl, rfl⟩ := Mo.pure_some h4
  refine ⟨z, Bs, ρ, s, .bl b1, s', I, by unfold fB Mo.bind; rw [h3]; rfl, fun v H1 fp k1 r _ _ z1 => ?_⟩
  cases r
  exact ⟨b1, rfl, k _ H1 [] k1 (.bl _) (fun a m => by cases m) List.nodup_nil z1⟩
/-- a bool-valued expression seen as fB -/
theorem e_asB {e : Expr} {f : Ev → Mo D} (h : B X e f) : E X e (fB (fTB f)) := PE.weak h fun σ H Q h => by
  obtain ⟨z, Bs, ρ, s, d, s', I, hf, k⟩ := tb_read (tE_of_tT h)
  refine ⟨z, Bs, ρ, s, d, s', I, hf, fun v H' fp k1 r f z1 => ?_⟩
  obtain ⟨c, e, q⟩ := k v H' fp k1 r f z1
  rw [e]; exact q

/-! ### arguments -/
def fNil : Ev → Mo (List D) := fun _ => Mo.pure []
def fCons (f : Ev → Mo D) (g : Ev → Mo (List D)) : Ev → Mo (List D) := fun ρ => (f ρ).bind fun x => (g ρ).bind fun xs => Mo.pure (x :: xs)
theorem ab_nil : AB X [] fNil := PA.weak pa_nil fun σ H Q ⟨z, Bs, ρ, s, d, s', I, hf, k⟩ => by
  obtain ⟨rfl, rfl⟩ := Mo.pure_some hf
  exact k [] H [] (Keep.refl H) .nil (fun a m => by cases m) I.z
theorem ae_nil : AE X [] fNil := PA.weak pa_nil fun σ H Q ⟨z, Bs, ρ, s, d, s', I, hf, k⟩ => by
  obtain ⟨rfl, rfl⟩ := Mo.pure_some hf
  exact k [] H [] (Keep.refl H) .nil (fun a m => by cases m) List.nodup_nil I.z
end
end FL

set_option Elab.async false
set_option linter.all false
set_option maxRecDepth 100000
set_option maxHeartbeats 4000000
/-! FL2: operators, displays, subscripts, slices, calls. -/
namespace FL
open PySem PySem.Spec L2

section
variable {w : World} {K : PySem.W.Frag} {z : Zn} {H : Hp} {s : Ds} {p : Addr} {vs : List V} {ds : List D} {fp : List Addr}
theorem Rp.newL (zr : ZRep z H s) (np : H p = none) (l : vs.length ≤ sizeLine) (r : RpA w K z H vs ds fp) : Rp w K z (upd H p (.lst vs)) (.ref p) (.lst ds) (p :: fp) :=
  .lst upd_same (zr.zm np) l (r.of_keep (Keep.upd np))
theorem Rp.newT (zr : ZRep z H s) (np : H p = none) (l : vs.length ≤ sizeLine) (r : RpA w K z H vs ds fp) : Rp w K z (upd H p (.tup vs)) (.ref p) (.tup ds) fp :=
  .tup (.inl (.inl upd_same)) (zr.zm np) l (r.of_keep (Keep.upd np))
theorem RpA.notin (np : H p = none) (r : RpA w K z H vs ds fp) : p ∉ fp := fun m => (RpA.there ds r p m).1 np
theorem Rp.notin {v : V} {d : D} (np : H p = none) (r : Rp w K z H v d fp) : p ∉ fp := fun m => (Rp.there d r p m).1 np
end

/-! ### operators on data -/
def dAdd : D → D → Option D
  | .int a, .int b => some (.int (a + b))
  | .tup a, .tup b => if immL a && immL b && decide (a.length + b.length ≤ sizeLine) then some (.tup (a ++ b)) else none
  | .lst a, .lst b => if immL a && immL b && decide (a.length + b.length ≤ sizeLine) then some (.lst (a ++ b)) else none
  | .str a, .str b => if decide (a.length + b.length ≤ sizeLine) then some (.str (a ++ b)) else none
  | _, _ => none
def dSub : D → D → Option D
  | .int a, .int b => some (.int (a - b))
  | _, _ => none
def small64 (a : Int) : Bool := decide (-(2 ^ 64) < a) && decide (a < 2 ^ 64)
def dMul : D → D → Option D
  | .int a, .int b => if small64 a || small64 b then some (.int (a * b)) else none
  | _, _ => none
def dFdiv : D → D → Option D
  | .int a, .int b => if decide (0 < b) && decide (b < 1073741824) then some (.int (a / b)) else none
  | _, _ => none
def dMod : D → D → Option D
  | .int a, .int b => if decide (0 < b) then some (.int (a % b)) else none
  | _, _ => none
section
variable {X : Cx}
theorem fin_int {w : World} {K : PySem.W.Frag} {z : Zn} {H : Hp} {s : Ds} {Q : VK} {i : Int} (zr : ZRep z H s)
    (k : ∀ v H' fp, Keep z H H' → Rp w K z H' v (.int i) fp → (∀ a ∈ fp, H a = none) → fp.Nodup → ZRep z H' s → Q v H') : Q (.int i) H :=
  k _ H [] (Keep.refl H) (.int i) (fun a m => by cases m) List.nodup_nil zr
theorem op_dSub : OpR X (binaryOp .Sub) (rD X.w X.K dSub) := fun pins st σ H x y v u Q I rx ry ⟨z, s, da, db, fa, fb, d, zr, ra, rb, e, k⟩ => by
  unfold dSub at e
  split at e
  · cases e; cases ra; cases rb
    exact op_sub pins st σ H _ _ v u Q I rx ry ⟨_, _, rfl, rfl, fin_int zr k⟩
  · cases e
theorem op_dMul : OpR X (binaryOp .Mult) (rD X.w X.K dMul) := fun pins st σ H x y v u Q I rx ry ⟨z, s, da, db, fa, fb, d, zr, ra, rb, e, k⟩ => by
  unfold dMul at e
  split at e
  · split at e
    · rename_i g
      cases e; cases ra; cases rb
      refine op_mul pins st σ H _ _ v u Q I rx ry ⟨_, _, rfl, rfl, ?_, fin_int zr k⟩
      unfold small64 at g
      simp only [Bool.or_eq_true, Bool.and_eq_true, decide_eq_true_eq] at g
      exact g
    · cases e
  · cases e
theorem op_dFdiv : OpR X (binaryOp .FloorDiv) (rD X.w X.K dFdiv) := fun pins st σ H x y v u Q I rx ry ⟨z, s, da, db, fa, fb, d, zr, ra, rb, e, k⟩ => by
  unfold dFdiv at e
  split at e
  · split at e
    · rename_i g
      cases e; cases ra; cases rb
      simp only [Bool.and_eq_true, decide_eq_true_eq] at g
      exact op_fdiv pins st σ H _ _ v u Q I rx ry ⟨_, _, rfl, rfl, g, fin_int zr k⟩
    · cases e
  · cases e
theorem op_dMod : OpR X (binaryOp .Mod) (rD X.w X.K dMod) := fun pins st σ H x y v u Q I rx ry ⟨z, s, da, db, fa, fb, d, zr, ra, rb, e, k⟩ => by
  unfold dMod at e
  split at e
  · split at e
    · rename_i g
      cases e; cases ra; cases rb
      simp only [decide_eq_true_eq] at g
      exact op_mod pins st σ H _ _ v u Q I rx ry ⟨_, _, rfl, rfl, g, fin_int zr k⟩
    · cases e
  · cases e
theorem and3 {a b c : Bool} (h : (a && b && c) = true) : a = true ∧ b = true ∧ c = true := by
  cases a <;> cases b <;> cases c <;> simp_all
theorem op_dAdd : OpR X (binaryOp .Add) (rD X.w X.K dAdd) := fun pins st σ H x y v u Q I rx ry ⟨z, s, da, db, fa, fb, d, zr, ra, rb, e, k⟩ => by
  unfold dAdd at e
  split at e
  · cases e; cases ra; cases rb
    exact op_add pins st σ H _ _ v u Q I rx ry ⟨_, _, rfl, rfl, fin_int zr k⟩
  · split at e
    · rename_i xs ys g
      obtain ⟨g1, g2, g3⟩ := and3 g
      have g3 := of_decide_eq_true g3
      cases e
      cases ra with
      | tup ha na la qa =>
        cases rb with
        | tup hb nb lb qb =>
          have e1 := RpA.imm _ qa g1
          have e2 := RpA.imm _ qb g2
          subst e1 e2
          have qq := RpA.append qa qb
          have l2 := RpA.length qq
          rw [List.length_append] at l2
          refine op_catA pins st σ H _ _ v u Q I rx ry ⟨_, _, _, _, rfl, rfl, ha, hb, ?_, fun e0 => ?_, fun e0 e1 => ?_, fun e0 e1 p np => ?_⟩
          · rw [← List.length_append, RpA.length qq, List.length_append]; exact g3
          · subst e0
            cases qa
            exact k _ H [] (Keep.refl H) (.tup hb nb lb qb) (fun a m => by cases m) List.nodup_nil zr
          · subst e1
            cases qb
            rw [List.append_nil] at k
            exact k _ H [] (Keep.refl H) (.tup ha na la qa) (fun a m => by cases m) List.nodup_nil zr
          · refine k _ _ [] (Keep.upd np) (Rp.newT zr np ?_ qq) (fun a m => by cases m) List.nodup_nil (zr.upd np)
            rw [RpA.length qq, List.length_append]; exact g3
    · cases e
  · split at e
    · rename_i xs ys g
      obtain ⟨g1, g2, g3⟩ := and3 g
      have g3 := of_decide_eq_true g3
      cases e
      cases ra with
      | lst ha na la qa =>
        cases rb with
        | lst hb nb lb qb =>
          have e1 := RpA.imm _ qa g1
          have e2 := RpA.imm _ qb g2
          subst e1 e2
          have qq := RpA.append qa qb
          refine op_cat pins st σ H _ _ v u Q I rx ry ⟨_, _, _, _, rfl, rfl, ha, hb, ?_, fun p np => ?_⟩
          · rw [← List.length_append, RpA.length qq, List.length_append]; exact g3
          · refine k _ _ [p] (Keep.upd np) (Rp.newL zr np ?_ qq) (fun a m => by rw [List.mem_singleton.mp m]; exact np) (List.nodup_cons.mpr ⟨by simp, List.nodup_nil⟩) (zr.upd np)
            rw [RpA.length qq, List.length_append]; exact g3
    · cases e
  · split at e
    · rename_i g
      have g := of_decide_eq_true g
      cases e; cases ra; cases rb
      exact op_add_str pins st σ H _ _ v u Q I rx ry ⟨_, _, rfl, rfl, g, k _ H [] (Keep.refl H) (.str _) (fun a m => by cases m) List.nodup_nil zr⟩
    · cases e
  · cases e
/-- - x -/
def fNeg (f : Ev → Mo D) : Ev → Mo D := fun ρ => (f ρ).bind fun x => match x with
  | .int i => Mo.pure (.int (-i))
  | _ => Mo.fail
theorem e_neg {a : Expr} {pos : Pos} {f : Ev → Mo D} (h : B X a f) : E X (.UnaryOp .USub a pos) (fNeg f) := PE.weak (pe_un un_neg h) fun σ H Q ⟨z, Bs, ρ, s, d, s', I, hf, k⟩ => by
  obtain ⟨x, s1, h1, h2⟩ := Mo.bind_some hf
  refine ⟨z, Bs, ρ, s, x, s1, I, h1, fun v H1 fp k1 r _ z1 => ?_⟩
  split at h2
  · obtain ⟨rfl, rfl⟩ := Mo.pure_some h2
    cases r
    exact ⟨_, rfl, k _ H1 [] k1 (.int _) (fun a m => by cases m) List.nodup_nil z1⟩
  · cases h2

/-! ### comparisons -/
mutual
def toPy : D → PyData
  | .tup xs => .tuple (toPyL xs)
  | .lst xs => .list (toPyL xs)
  | .dct _ _ => .dict []
  | .dcT _ _ => .dict []
  | .seti _ => .dict []
  | .scr _ => .dict []
  | .dctN _ _ => .dict []
  | .non => .none
  | .bl b => .bool b
  | .int i => .int i
  | .str s => .str s
  | .hp => .dict []
def toPyL : List D → List PyData
  | [] => []
  | x :: xs => toPy x :: toPyL xs
end
theorem toPyL_map : ∀ xs : List D, toPyL xs = xs.map toPy
  | [] => rfl
  | x :: xs => by rw [List.map_cons, ← toPyL_map xs]; rfl
mutual
theorem Rp.dp {w : World} {K : PySem.W.Frag} {z : Zn} {H : Hp} : ∀ (d : D) {v : V} {fp : List Addr}, Rp w K z H v d fp → (toPy d).canLay0 = true → Dp K H v (toPy d)
  | .non, _, _, .non, _ => .non
  | .bl _, _, _, .bl b, _ => .bl b
  | .int _, _, _, .int b, _ => .int b
  | .str _, _, _, .str b, _ => .str b
  | .tup ds, _, _, .tup h n l r, i => .tup h (RpA.dp ds r i)
  | .lst ds, _, _, .lst h n l r, i => .lst (.inl (.inl h)) (RpA.dp ds r i)
theorem RpA.dp {w : World} {K : PySem.W.Frag} {z : Zn} {H : Hp} : ∀ (ds : List D) {vs : List V} {fp : List Addr}, RpA w K z H vs ds fp → PyData.canLayAll0 (toPyL ds) = true → DpAll K H vs (toPyL ds)
  | [], _, _, .nil, _ => .nil
  | d :: ds, _, _, .cons h r, i => by
    have i' : (toPy d).canLay0 = true ∧ PyData.canLayAll0 (toPyL ds) = true := by
      have : ((toPy d).canLay0 && PyData.canLayAll0 (toPyL ds)) = true := i
      simpa using this
    exact .cons (Rp.dp d h i'.1) (RpA.dp ds r i'.2)
end
def okD (d : D) : Bool := SeqAt.shaped (toPy d)
theorem okD_lay {d : D} (h : okD d = true) : (toPy d).canLay0 = true := by
  unfold okD SeqAt.shaped at h
  simp only [Bool.and_eq_true] at h
  exact h.1
def dEq (a b : D) : Option Bool := if okD a && okD b then some (PyData.eqv (toPy a) (toPy b)) else none
def dNe (a b : D) : Option Bool := if okD a && okD b then some (!PyData.eqv (toPy a) (toPy b)) else none
theorem op_dEq (hu : X.A.units + 64 < cLine) : OpR X (compareOp .Eq) (rC X.w X.K dEq) := fun pins st σ H x y v u Q I rx ry ⟨z, s, da, db, fa, fb, b, zr, ra, rb, e, q⟩ => by
  unfold dEq at e
  split at e
  · rename_i g
    simp only [Bool.and_eq_true] at g
    cases e
    exact op_eqD hu pins st σ H x y v u Q I rx ry ⟨_, _, ra.dp _ (okD_lay g.1), rb.dp _ (okD_lay g.2), g.1, g.2, q⟩
  · cases e
theorem op_dNe (hu : X.A.units + 64 < cLine) : OpR X (compareOp .NotEq) (rC X.w X.K dNe) := fun pins st σ H x y v u Q I rx ry ⟨z, s, da, db, fa, fb, b, zr, ra, rb, e, q⟩ => by
  unfold dNe at e
  split at e
  · rename_i g
    simp only [Bool.and_eq_true] at g
    cases e
    exact op_neD hu pins st σ H x y v u Q I rx ry ⟨_, _, ra.dp _ (okD_lay g.1), rb.dp _ (okD_lay g.2), g.1, g.2, q⟩
  · cases e
def dCmpI (g : Int → Int → Bool) : D → D → Option Bool
  | .int a, .int b => some (g a b)
  | _, _ => none
theorem op_dCmpI {op : CmpOp} {g : Int → Int → Bool} (h : OpR X (compareOp op) (rI0 fun i j => .bl (g i j))) : OpR X (compareOp op) (rC X.w X.K (dCmpI g)) := fun pins st σ H x y v u Q I rx ry ⟨z, s, da, db, fa, fb, b, zr, ra, rb, e, q⟩ => by
  unfold dCmpI at e
  split at e
  · cases e; cases ra; cases rb
    exact h pins st σ H _ _ v u Q I rx ry ⟨_, _, rfl, rfl, q⟩
  · cases e
def dLt := dCmpI fun i j => decide (i < j)
def dLe := dCmpI fun i j => decide (i ≤ j)
def dGt := dCmpI fun i j => decide (j < i)
def dGe := dCmpI fun i j => decide (j ≤ i)
theorem op_dLt : OpR X (compareOp .Lt) (rC X.w X.K dLt) := op_dCmpI op_lt
theorem op_dLe : OpR X (compareOp .LtE) (rC X.w X.K dLe) := op_dCmpI op_le
theorem op_dGt : OpR X (compareOp .Gt) (rC X.w X.K dGt) := op_dCmpI op_gt
theorem op_dGe : OpR X (compareOp .GtE) (rC X.w X.K dGe) := op_dCmpI op_ge
/-- is None -/
def isNon : D → Bool
  | .non => true
  | _ => false
theorem Rp.non_iff {w : World} {K : PySem.W.Frag} {z : Zn} {H : Hp} {d : D} {v : V} {fp : List Addr} (r : Rp w K z H v d fp) : decide (v = .non) = isNon d := by
  cases r <;> first | rfl | exact decide_eq_false (fun e => by cases e)
def dIsN (a b : D) : Option Bool := if isNon b then some (isNon a) else none
def dNotN (a b : D) : Option Bool := if isNon b then some (!isNon a) else none
theorem isNon_v {w : World} {K : PySem.W.Frag} {z : Zn} {H : Hp} {d : D} {v : V} {fp : List Addr} (r : Rp w K z H v d fp) (h : isNon d = true) : v = .non := by
  rw [← r.non_iff] at h; exact of_decide_eq_true h
theorem op_dIsN : OpR X (compareOp .Is) (rC X.w X.K dIsN) := fun pins st σ H x y v u Q I rx ry ⟨z, s, da, db, fa, fb, b, zr, ra, rb, e, q⟩ => by
  unfold dIsN at e
  split at e
  · rename_i g
    cases e
    have e2 := isNon_v rb g
    rw [← ra.non_iff] at q
    exact op_isN pins st σ H _ _ v u Q I rx ry ⟨e2, q⟩
  · cases e
theorem op_dNotN : OpR X (compareOp .IsNot) (rC X.w X.K dNotN) := fun pins st σ H x y v u Q I rx ry ⟨z, s, da, db, fa, fb, b, zr, ra, rb, e, q⟩ => by
  unfold dNotN at e
  split at e
  · rename_i g
    cases e
    have e2 := isNon_v rb g
    rw [← ra.non_iff] at q
    exact op_notN pins st σ H _ _ v u Q I rx ry ⟨e2, q⟩
  · cases e
/-! in -/
def flat : D → Bool
  | .non => true
  | .bl _ => true
  | .int _ => true
  | .str _ => true
  | _ => false
def eqF : D → D → Bool
  | .non, .non => true
  | .bl a, .bl b => a == b
  | .bl a, .int b => (if a then 1 else 0) == b
  | .int a, .bl b => a == (if b then 1 else 0)
  | .int a, .int b => a == b
  | .str a, .str b => a == b
  | _, _ => false
instance : DecidableEq Key := inferInstanceAs (DecidableEq (Sum Int Str))
def keyOf : D → Option Key
  | .int i => some (.inl i)
  | .str x => some (.inr x)
  | _ => none
def dIn (x : D) : D → Option Bool
  | .tup ys => if flat x && ys.all flat then some (ys.any fun y => eqF y x) else none
  | .lst ys => if flat x && ys.all flat then some (ys.any fun y => eqF y x) else if okD x && okD (.lst ys) then some (ys.any fun y => PyData.eqv (toPy y) (toPy x)) else none
  | .dct ks _ => (keyOf x).map fun k => ks.any fun a => decide (a = k)
  | .seti xs => match x with
    | .int i => some (xs.contains i)
    | _ => none
  | _ => none
def dNotIn (x y : D) : Option Bool := (dIn x y).map (!·)
theorem flat_v {w : World} {K : PySem.W.Frag} {z : Zn} {H : Hp} {d : D} {v : V} {fp : List Addr} (r : Rp w K z H v d fp) (h : flat d = true) : flatV v = true := by
  cases r <;> first | rfl | cases h
theorem eqF_v {w : World} {K : PySem.W.Frag} {z : Zn} {H : Hp} {d e : D} {v u : V} {fp fq : List Addr} (r : Rp w K z H v d fp) (q : Rp w K z H u e fq) (h : flat d = true) (h' : flat e = true) : eqV v u = eqF d e := by
  cases r <;> (first | (cases h; done) | skip) <;> cases q <;> first | (cases h'; done) | rfl
theorem flatL_v {w : World} {K : PySem.W.Frag} {z : Zn} {H : Hp} : ∀ {ds : List D} {vs : List V} {fp : List Addr}, RpA w K z H vs ds fp → ds.all flat = true → vs.all flatV = true
  | [], _, _, .nil, _ => rfl
  | d :: ds, _, _, .cons h r, i => by
    rw [List.all_cons, Bool.and_eq_true] at i ⊢
    exact ⟨flat_v h i.1, flatL_v r i.2⟩
theorem inF_v {w : World} {K : PySem.W.Frag} {z : Zn} {H : Hp} {x : D} {u : V} {fq : List Addr} (q : Rp w K z H u x fq) (hx : flat x = true) : ∀ {ds : List D} {vs : List V} {fp : List Addr}, RpA w K z H vs ds fp → ds.all flat = true → inV u vs = ds.any fun y => eqF y x
  | [], _, _, .nil, _ => rfl
  | d :: ds, _, _, .cons h r, i => by
    rw [List.all_cons, Bool.and_eq_true] at i
    show (eqV _ u || inV u _) = _
    rw [List.any_cons, inF_v q hx r i.2, eqF_v h q i.1 hx]
theorem keyOf_v {w : World} {K : PySem.W.Frag} {z : Zn} {H : Hp} {d : D} {v : V} {fp : List Addr} {k : Key} (r : Rp w K z H v d fp) (h : keyOf d = some k) : v = kV k := by
  cases r <;> first | (cases h; rfl) | cases h
theorem valV_zip {κ : Type} [DecidableEq κ] (k : κ) : ∀ (ks : List κ) (vs : List V), ks.length = vs.length → (valV (ks.zip vs) k).isSome = ks.any fun a => decide (a = k)
  | [], [], _ => rfl
  | a :: ks, v :: vs, l => by
    have ih := valV_zip k ks vs (by simpa using l)
    by_cases e : a = k
    · rw [List.zip_cons_cons, valV_pos e]
      subst e; simp
    · rw [List.zip_cons_cons, valV_neg e, ih]
      simp [e]
theorem op_dIn (hu : X.A.units + 65 < cLine) : OpR X (compareOp .In) (rC X.w X.K dIn) := fun pins st σ H x y v u Q I rx ry ⟨z, s, da, db, fa, fb, b, zr, ra, rb, e, q⟩ => by
  unfold dIn at e
  split at e
  · split at e
    · rename_i g
      simp only [Bool.and_eq_true] at g
      cases e
      cases rb with
      | tup hb nb lb qb =>
        rw [← inF_v ra g.1 qb g.2] at q
        exact op_in_seq pins st σ H _ _ v u Q I rx ry ⟨_, _, rfl, .inr hb, flat_v ra g.1, flatL_v qb g.2, q⟩
    · cases e
  · split at e
    · rename_i g
      simp only [Bool.and_eq_true] at g
      cases e
      cases rb with
      | lst hb nb lb qb =>
        rw [← inF_v ra g.1 qb g.2] at q
        exact op_in_seq pins st σ H _ _ v u Q I rx ry ⟨_, _, rfl, .inl (.inl (.inl hb)), flat_v ra g.1, flatL_v qb g.2, q⟩
    · split at e
      · rename_i ys _ g
        simp only [Bool.and_eq_true] at g
        cases e
        have e2 : (ys.any fun y => PyData.eqv (toPy y) (toPy da)) = (toPyL ys).any fun y => PyData.eqv y (toPy da) := by
          rw [toPyL_map, List.any_map]; rfl
        rw [e2] at q
        exact op_inD hu pins st σ H _ _ v u Q I rx ry ⟨_, _, ra.dp _ (okD_lay g.1), rb.dp _ (okD_lay g.2), g.1, g.2, q⟩
      · cases e
  · rename_i ks vs
    cases hk : keyOf da with
    | none => rw [hk] at e; cases e
    | some k =>
      rw [hk] at e
      cases e
      cases rb with
      | dct hb nb l1 l2 nd qb =>
        have ek := keyOf_v ra hk
        subst ek
        dsimp only at q
        rw [← valV_zip k ks _ l1] at q
        cases ry
        exact d_in (by omega) I (DGet.k hb) rx fun s' I' => ⟨.bl _, H, I', rfl, q⟩
  · split at e
    · cases e
      cases ra
      cases rb with
      | seti hb nb nd =>
        exact or_sin pins st σ H _ _ v u Q I rx ry ⟨_, _, _, _, rfl, rfl, hb, q⟩
    · cases e
  · cases e
/-- `in` refuted: by the same rules, as notIn -/
theorem op_dNotIn (hu : X.A.units + 65 < cLine) : OpR X (compareOp .NotIn) (rC X.w X.K dNotIn) := fun pins st σ H x y v u Q I rx ry ⟨z, s, da, db, fa, fb, b, zr, ra, rb, e, q⟩ => by
  unfold dNotIn at e
  cases e1 : dIn da db with
  | none => rw [e1] at e; cases e
  | some b1 =>
  rw [e1] at e
  cases e
  unfold dIn at e1
  split at e1
  · split at e1
    · rename_i g
      simp only [Bool.and_eq_true] at g
      cases e1
      cases rb with
      | tup hb nb lb qb =>
        rw [← inF_v ra g.1 qb g.2] at q
        exact op_notIn_seq pins st σ H _ _ v u Q I rx ry ⟨_, _, rfl, .inr hb, flat_v ra g.1, flatL_v qb g.2, q⟩
    · cases e1
  · split at e1
    · rename_i g
      simp only [Bool.and_eq_true] at g
      cases e1
      cases rb with
      | lst hb nb lb qb =>
        rw [← inF_v ra g.1 qb g.2] at q
        exact op_notIn_seq pins st σ H _ _ v u Q I rx ry ⟨_, _, rfl, .inl (.inl (.inl hb)), flat_v ra g.1, flatL_v qb g.2, q⟩
    · split at e1
      · rename_i ys _ g
        simp only [Bool.and_eq_true] at g
        cases e1
        have e2 : (ys.any fun y => PyData.eqv (toPy y) (toPy da)) = (toPyL ys).any fun y => PyData.eqv y (toPy da) := by
          rw [toPyL_map, List.any_map]; rfl
        rw [e2] at q
        exact op_notInD hu pins st σ H _ _ v u Q I rx ry ⟨_, _, ra.dp _ (okD_lay g.1), rb.dp _ (okD_lay g.2), g.1, g.2, q⟩
      · cases e1
  · rename_i ks vs
    cases hk : keyOf da with
    | none => rw [hk] at e1; cases e1
    | some k =>
      rw [hk] at e1
      cases e1
      cases rb with
      | dct hb nb l1 l2 nd qb =>
        have ek := keyOf_v ra hk
        subst ek
        dsimp only at q
        rw [← valV_zip k ks _ l1] at q
        cases ry
        exact d_notIn (by omega) I (DGet.k hb) rx fun s' I' => ⟨.bl _, H, I', rfl, q⟩
  · split at e1
    · cases e1
      cases ra
      cases rb with
      | seti hb nb nd =>
        exact or_snotin pins st σ H _ _ v u Q I rx ry ⟨_, _, _, _, rfl, rfl, hb, q⟩
    · cases e1
  · cases e1
end
end FL

set_option Elab.async false
set_option linter.all false
set_option maxRecDepth 100000
set_option maxHeartbeats 4000000
/-! FL3: arguments, displays, subscripts, slices, calls of built-ins and of defs. -/
namespace FL
open PySem PySem.Spec L2

section
variable {X : Cx}
/-! ### arguments -/
theorem ab_cons {e : Expr} {es : List Expr} {f : Ev → Mo D} {g : Ev → Mo (List D)} (ha : B X e f) (hr : AB X es g) (hs : starEach (e :: es) X.env = (false, eval e X.env) :: starEach es X.env := by rfl) : AB X (e :: es) (fCons f g) :=
  PA.weak (pa_cons ha hr hs) fun σ H Q ⟨z, Bs, ρ, s, d, s', I, hf, k⟩ => by
    obtain ⟨x, s1, h1, h2⟩ := Mo.bind_some hf
    obtain ⟨xs, s2, h3, h4⟩ := Mo.bind_some h2
    obtain ⟨rfl, rfl⟩ := Mo.pure_some h4
    refine ⟨z, Bs, ρ, s, x, s1, I, h1, fun v H1 fp k1 r1 f1 z1 => ?_⟩
    refine ⟨z, Bs, ρ, s1, xs, s', I.next k1 z1, h3, fun vs H2 fq k2 r2 f2 z2 => ?_⟩
    refine k (v :: vs) H2 (fp ++ fq) (k1.trans k2) (.cons (r1.of_keep k2) r2) (fun a m => ?_) z2
    rcases List.mem_append.mp m with m | m
    · exact f1 a m
    · exact (f2 a m).imp (k1.free z1) id
theorem ae_cons {e : Expr} {es : List Expr} {f : Ev → Mo D} {g : Ev → Mo (List D)} (ha : E X e f) (hr : AE X es g) (hs : starEach (e :: es) X.env = (false, eval e X.env) :: starEach es X.env := by rfl) : AE X (e :: es) (fCons f g) :=
  PA.weak (pa_cons ha hr hs) fun σ H Q ⟨z, Bs, ρ, s, d, s', I, hf, k⟩ => by
    obtain ⟨x, s1, h1, h2⟩ := Mo.bind_some hf
    obtain ⟨xs, s2, h3, h4⟩ := Mo.bind_some h2
    obtain ⟨rfl, rfl⟩ := Mo.pure_some h4
    refine ⟨z, Bs, ρ, s, x, s1, I, h1, fun v H1 fp k1 r1 f1 n1 z1 => ?_⟩
    refine ⟨z, Bs, ρ, s1, xs, s', I.next k1 z1, h3, fun vs H2 fq k2 r2 f2 n2 z2 => ?_⟩
    refine k (v :: vs) H2 (fp ++ fq) (k1.trans k2) (.cons (r1.of_keep k2) r2) (fun a m => ?_) ?_ z2
    · rcases List.mem_append.mp m with m | m
      · exact f1 a m
      · exact k1.free z1 (f2 a m)
    · refine List.nodup_append.mpr ⟨n1, n2, fun a m b m' e => ?_⟩
      subst e
      exact (Rp.there _ r1 a m).1 (f2 a m')
/-! ### displays -/
def fTup (g : Ev → Mo (List D)) : Ev → Mo D := fun ρ => (g ρ).bind fun xs => (gd (decide (xs.length ≤ sizeLine))).bind fun _ => Mo.pure (.tup xs)
def fLst (g : Ev → Mo (List D)) : Ev → Mo D := fun ρ => (g ρ).bind fun xs => (gd (decide (xs.length ≤ sizeLine))).bind fun _ => Mo.pure (.lst xs)
theorem e_tup {es : List Expr} {x1 pos} {g : Ev → Mo (List D)} (h : AE X es g) : E X (.Tuple es x1 pos) (fTup g) := PE.weak (pe_tup h) fun σ H Q ⟨z, Bs, ρ, s, d, s', I, hf, k⟩ => by
  obtain ⟨xs, s1, h1, h2⟩ := Mo.bind_some hf
  obtain ⟨_, s2, h3, h4⟩ := Mo.bind_some h2
  obtain ⟨g, rfl⟩ := gd_some h3
  obtain ⟨rfl, rfl⟩ := Mo.pure_some h4
  refine ⟨z, Bs, ρ, s, xs, _, I, h1, fun vs H1 fp k1 r f n z1 => ⟨?_, fun p np => ?_⟩⟩
  · rw [r.length]; exact of_decide_eq_true g
  · exact k _ _ fp (k1.trans (Keep.upd np)) (Rp.newT z1 np (by rw [r.length]; exact of_decide_eq_true g) r) f n (z1.upd np)
theorem e_lst {es : List Expr} {pos} {g : Ev → Mo (List D)} (h : AE X es g) : E X (.List es pos) (fLst g) := PE.weak (pe_lst h) fun σ H Q ⟨z, Bs, ρ, s, d, s', I, hf, k⟩ => by
  obtain ⟨xs, s1, h1, h2⟩ := Mo.bind_some hf
  obtain ⟨_, s2, h3, h4⟩ := Mo.bind_some h2
  obtain ⟨g, rfl⟩ := gd_some h3
  obtain ⟨rfl, rfl⟩ := Mo.pure_some h4
  refine ⟨z, Bs, ρ, s, xs, _, I, h1, fun vs H1 fp k1 r f n z1 => ⟨?_, fun p np => ?_⟩⟩
  · rw [r.length]; exact of_decide_eq_true g
  · refine k _ _ (p :: fp) (k1.trans (Keep.upd np)) (Rp.newL z1 np (by rw [r.length]; exact of_decide_eq_true g) r) (fun a m => ?_) (List.nodup_cons.mpr ⟨r.notin np, n⟩) (z1.upd np)
    rcases List.mem_cons.mp m with e | m
    · rw [e]; exact k1.free z1 np
    · exact f a m
/-- {} -/
theorem e_dict0 {pos} : E X (.Dict [] [] pos) (fC (.dct [] [])) := PE.weak pe_dnewK fun σ H Q ⟨z, Bs, ρ, s, d, s', I, hf, k⟩ => by
  obtain ⟨rfl, rfl⟩ := Mo.pure_some hf
  intro p np
  exact k _ _ [p] (Keep.upd np) (.dct (vs := []) upd_same (I.z.zm np) rfl (Nat.zero_le _) List.nodup_nil .nil) (fun a m => by rw [List.mem_singleton.mp m]; exact np) (List.nodup_cons.mpr ⟨by simp, List.nodup_nil⟩) (I.z.upd np)
theorem e_dictT0 {pos} : E X (.Dict [] [] pos) (fC (.dcT [] [])) := PE.weak pe_dnewT fun σ H Q ⟨z, Bs, ρ, s, d, s', I, hf, k⟩ => by
  obtain ⟨rfl, rfl⟩ := Mo.pure_some hf
  intro p np
  exact k _ _ [p] (Keep.upd np) (.dcT (vs := []) upd_same (I.z.zm np) rfl (Nat.zero_le _) List.nodup_nil .nil) (fun a m => by rw [List.mem_singleton.mp m]; exact np) (List.nodup_cons.mpr ⟨by simp, List.nodup_nil⟩) (I.z.upd np)

/-! ### subscripts -/
def lookD (ks : List Key) (vs : List D) (k : Key) : Option D := ((ks.zip vs).find? fun p => decide (p.1 = k)).map (·.2)
def dIx : D → D → Option D
  | .lst xs, .int i => atI xs i
  | .tup xs, .int i => atI xs i
  | .str x, .int i => if decide (x.length ≤ sizeLine) then (atI x.cps.toList i).map fun c => .str ⟨#[c]⟩ else none
  | .dct ks vs, k => (keyOf k).bind fun k => lookD ks vs k
  | _, _ => none
end
section
variable {w : World} {K : PySem.W.Frag} {z : Zn} {H : Hp}
theorem RpA.atI {ds : List D} {vs : List V} {fp : List Addr} {i : Int} {d : D} (r : RpA w K z H vs ds fp) (h : atI ds i = some d) : ∃ v f, atI vs i = some v ∧ Rp w K z H v d f ∧ ∀ a ∈ f, a ∈ fp := by
  unfold L2.atI at h ⊢
  rw [r.length]
  cases e : ixN ds.length i with
  | none => rw [e] at h; cases h
  | some j =>
    rw [e] at h
    exact r.get h
theorem RpA.look {k : Key} : ∀ {ks : List Key} {ds : List D} {vs : List V} {fp : List Addr} {d : D}, ks.length = vs.length → RpA w K z H vs ds fp → lookD ks ds k = some d → ∃ v f, valV (ks.zip vs) k = some v ∧ Rp w K z H v d f ∧ ∀ a ∈ f, a ∈ fp
  | [], _, _, _, _, _, _, h => by cases h
  | a :: ks, _, _, _, _, l, .nil, h => by simp at l
  | a :: ks, d' :: ds, v' :: vs, _, d, l, .cons r rs, h => by
    unfold lookD at h
    rw [List.zip_cons_cons, List.find?_cons] at h
    by_cases e : a = k
    · rw [List.zip_cons_cons, valV_pos e]
      simp only [e, decide_true] at h
      cases h
      exact ⟨_, _, rfl, r, fun b m => List.mem_append_left _ m⟩
    · rw [List.zip_cons_cons, valV_neg e]
      simp only [e, decide_false] at h
      obtain ⟨v, f, e1, r1, m⟩ := RpA.look (by simpa using l) rs h
      exact ⟨v, f, e1, r1, fun b q => List.mem_append_right _ (m b q)⟩
end
section
variable {X : Cx}
def fIx (fa fb : Ev → Mo D) : Ev → Mo D := fun ρ => (fa ρ).bind fun x => (fb ρ).bind fun y => Mo.ofO (dIx x y)
/-- any of two readings -/
theorem PE.or {e : Expr} {t t' : TE} (h : PE X e t) (h' : PE X e t') : PE X e (fun σ H Q => t σ H Q ∨ t' σ H Q) := ⟨fun pins s σ H Q I q => q.elim (h.run pins s σ H Q I) (h'.run pins s σ H Q I)⟩
theorem b_ix {a b : Expr} {pos : Pos} {fa fb : Ev → Mo D} (hu : X.A.units + 1 < cLine) (ha : B X a fa) (hb : B X b fb) (hs : PlainIx b := by exact fun _ _ => rfl) : B X (.Subscript a b pos) (fIx fa fb) := by
  refine PE.weak (PE.or (pe_ix ix_seq ha hb hs) (pe_dget hu ha hb hs)) fun σ H Q ⟨z, Bs, ρ, s, d, s', I, hf, k⟩ => ?_
  obtain ⟨x, s1, h1, h2⟩ := Mo.bind_some hf
  obtain ⟨y, s2, h3, h4⟩ := Mo.bind_some h2
  obtain ⟨e, rfl⟩ := Mo.ofO_some' h4
  have left : (∀ v u H2 fp fq, Keep z H H2 → ZRep z H2 s' → Rp X.w X.K z H2 v x fp → Rp X.w X.K z H2 u y fq → (∀ a ∈ fp, H a = none ∨ Bs a) → rIx X.K v u H2 Q) → tOp (rIx X.K) (tB X.w X.K fa) (tB X.w X.K fb) σ H Q := fun q => by
    refine ⟨z, Bs, ρ, s, x, s1, I, h1, fun v H1 fp k1 r1 f1 z1 => ?_⟩
    refine ⟨z, Bs, ρ, s1, y, s', I.next k1 z1, h3, fun u H2 fq k2 r2 f2 z2 => ?_⟩
    exact q v u H2 fp fq (k1.trans k2) z2 (r1.of_keep k2) r2 f1
  unfold dIx at e
  split at e
  · refine .inl (left fun v u H2 fp fq kk zz r1 r2 f1 => ?_)
    cases r2
    cases r1 with
    | lst h n l r =>
      obtain ⟨v', f', e1, r1', m⟩ := r.atI e
      exact .inl ⟨_, _, _, v', rfl, rfl, .inl (.inl h), e1, k v' H2 f' kk r1' (fun a q => f1 a (List.mem_cons_of_mem _ (m a q))) zz⟩
  · refine .inl (left fun v u H2 fp fq kk zz r1 r2 f1 => ?_)
    cases r2
    cases r1 with
    | tup h n l r =>
      obtain ⟨v', f', e1, r1', m⟩ := r.atI e
      exact .inr (.inl ⟨_, _, _, v', rfl, rfl, h, e1, k v' H2 f' kk r1' (fun a q => f1 a (m a q)) zz⟩)
  · split at e
    · rename_i g
      refine .inl (left fun v u H2 fp fq kk zz r1 r2 f1 => ?_)
      cases r2
      cases r1
      rename_i zs i
      cases ec : atI zs.cps.toList i with
      | none => rw [ec] at e; cases e
      | some c =>
        rw [ec] at e
        cases e
        exact .inr (.inr ⟨_, _, c, rfl, rfl, of_decide_eq_true g, ec, k _ H2 [] kk (.str _) (fun a q => by cases q) zz⟩)
    · cases e
  · refine .inr ⟨z, Bs, ρ, s, _, s1, I, h1, fun v H1 fp k1 r1 f1 z1 => ?_⟩
    refine ⟨z, Bs, ρ, s1, y, s', I.next k1 z1, h3, fun u H2 fq k2 r2 f2 z2 => ?_⟩
    cases ek : keyOf y with
    | none => rw [ek] at e; cases e
    | some kk =>
      rw [ek] at e
      have r1' := r1.of_keep k2
      cases r1' with
      | dct h n l1 l2 nd r =>
        obtain ⟨v', f', e1, rr, m⟩ := r.look l1 e
        have eu := keyOf_v r2 ek
        subst eu
        refine ⟨_, v', rfl, ?_, k v' H2 f' (k1.trans k2) rr (fun a q => f1 a (List.mem_cons_of_mem _ (m a q))) z2⟩
        rw [← e1]
        exact DGet.k h
  · cases e

/-! ### slices -/
def cutD (xs : List D) (lo hi : Option Int) : List D := (xs.drop (HT.sIx xs.length 0 lo)).take (HT.sIx xs.length xs.length hi - HT.sIx xs.length 0 lo)
def dSl (lo hi : Option Int) : D → Option D
  | .lst xs => if immL xs then some (.lst (cutD xs lo hi)) else none
  | .tup xs => if immL xs then some (.tup (cutD xs lo hi)) else none
  | _ => none
end
section
variable {w : World} {K : PySem.W.Frag} {z : Zn} {H : Hp}
theorem RpA.drop : ∀ {ds : List D} {vs : List V} {fp : List Addr} (n : Nat), RpA w K z H vs ds fp → ∃ fq, RpA w K z H (vs.drop n) (ds.drop n) fq
  | _, _, _, 0, r => ⟨_, r⟩
  | [], _, _, n + 1, .nil => ⟨_, .nil⟩
  | d :: ds, _, _, n + 1, .cons h r => RpA.drop n r
theorem RpA.take : ∀ {ds : List D} {vs : List V} {fp : List Addr} (n : Nat), RpA w K z H vs ds fp → ∃ fq, RpA w K z H (vs.take n) (ds.take n) fq
  | _, _, _, 0, r => ⟨_, .nil⟩
  | [], _, _, n + 1, .nil => ⟨_, .nil⟩
  | d :: ds, _, _, n + 1, .cons h r => let ⟨_, q⟩ := RpA.take n r; ⟨_, .cons h q⟩
theorem immL_sub {xs ys : List D} (h : immL xs = true) (m : ∀ x ∈ ys, x ∈ xs) : immL ys = true := by
  rw [immL_eq] at h ⊢
  rw [List.all_eq_true] at h ⊢
  exact fun x q => h x (m x q)
theorem cutD_mem {xs : List D} {lo hi : Option Int} : ∀ x ∈ cutD xs lo hi, x ∈ xs := fun x m => List.mem_of_mem_drop (List.mem_of_mem_take m)
theorem RpA.cut {ds : List D} {vs : List V} {fp : List Addr} {lo hi : Option Int} (r : RpA w K z H vs ds fp) (i : immL ds = true) : RpA w K z H (cutV vs lo hi) (cutD ds lo hi) [] := by
  unfold cutV cutD
  rw [r.length]
  obtain ⟨f1, r1⟩ := r.drop (HT.sIx ds.length 0 lo)
  obtain ⟨f2, r2⟩ := r1.take (HT.sIx ds.length ds.length hi - HT.sIx ds.length 0 lo)
  have e := RpA.imm _ r2 (immL_sub i (cutD_mem (lo := lo) (hi := hi)))
  subst e
  exact r2
end
section
variable {X : Cx}
/-- a slice's part -/
def fPart (f : Ev → Mo D) : Ev → Mo (Option Int) := fun ρ => (f ρ).bind fun d => match d with
  | .int i => Mo.pure (some i)
  | _ => Mo.fail
def fNoPart : Ev → Mo (Option Int) := fun _ => Mo.pure none
def tO (w : World) (K : PySem.W.Frag) (f : Ev → Mo (Option Int)) : L2.St → Hp → (Option Int → Hp → Prop) → Prop := fun σ H Q => ∃ z B ρ s d s', EIn w K z B H σ ρ s ∧ f ρ s = some (d, s') ∧ ∀ H', Keep z H H' → ZRep z H' s' → Q d H'
def O (X : Cx) (e : Option Expr) (f : Ev → Mo (Option Int)) : Prop := PO X e (tO X.w X.K f)
theorem PO.weak {e : Option Expr} {t t' : L2.St → Hp → (Option Int → Hp → Prop) → Prop} (h : PO X e t) (i : ∀ σ H Q, t' σ H Q → t σ H Q) : PO X e t' := ⟨fun pins s σ H Q I q => h.run pins s σ H Q I (i σ H Q q)⟩
theorem o_none : O X none fNoPart := PO.weak po_none fun σ H Q ⟨z, Bs, ρ, s, d, s', I, hf, k⟩ => by
  obtain ⟨rfl, rfl⟩ := Mo.pure_some hf
  exact k H (Keep.refl H) I.z
theorem o_some {e : Expr} {f : Ev → Mo D} (h : B X e f) : O X (some e) (fPart f) := PO.weak (po_some h) fun σ H Q ⟨z, Bs, ρ, s, d, s', I, hf, k⟩ => by
  obtain ⟨x, s1, h1, h2⟩ := Mo.bind_some hf
  refine ⟨z, Bs, ρ, s, x, s1, I, h1, fun v H1 fp k1 r _ z1 => ?_⟩
  split at h2
  · obtain ⟨rfl, rfl⟩ := Mo.pure_some h2
    cases r
    exact ⟨_, rfl, k H1 k1 z1⟩
  · cases h2
def fSl (f : Ev → Mo D) (lo hi : Ev → Mo (Option Int)) : Ev → Mo D := fun ρ => (f ρ).bind fun x => (lo ρ).bind fun a => (hi ρ).bind fun b => Mo.ofO (dSl a b x)
theorem e_slice {e : Expr} {lo hi : Option Expr} {p2 pos : Pos} {f : Ev → Mo D} {fl fh : Ev → Mo (Option Int)} (he : B X e f) (hl : O X lo fl) (hh : O X hi fh) : E X (.Subscript e (.Slice lo hi none p2) pos) (fSl f fl fh) := by
  refine PE.weak (pe_slice (SlR.or sl_list sl_tupA) he hl hh) fun σ H Q ⟨z, Bs, ρ, s, d, s', I, hf, k⟩ => ?_
  obtain ⟨x, s1, h1, h2⟩ := Mo.bind_some hf
  obtain ⟨a, s2, h3, h4⟩ := Mo.bind_some h2
  obtain ⟨b, s3, h5, h6⟩ := Mo.bind_some h4
  obtain ⟨e, rfl⟩ := Mo.ofO_some' h6
  refine ⟨z, Bs, ρ, s, x, s1, I, h1, fun v H1 fp k1 r1 f1 z1 => ?_⟩
  refine ⟨z, Bs, ρ, s1, a, s2, I.next k1 z1, h3, fun H2 k2 z2 => ?_⟩
  refine ⟨z, Bs, ρ, s2, b, s', I.next (k1.trans k2) z2, h5, fun H3 k3 z3 => ?_⟩
  have r3 := (r1.of_keep k2).of_keep k3
  have kk := k1.trans (k2.trans k3)
  unfold dSl at e
  split at e
  · split at e
    · rename_i g
      cases e
      cases r3 with
      | lst h n l r =>
        refine .inl ⟨_, _, rfl, .inl (.inl h), fun p np => ?_⟩
        exact k _ _ [p] (kk.trans (Keep.upd np)) (Rp.newL z3 np (Nat.le_trans (cutV_length _ _ _) l) (r.cut g)) (fun a m => by rw [List.mem_singleton.mp m]; exact kk.free z3 np) (List.nodup_cons.mpr ⟨by simp, List.nodup_nil⟩) (z3.upd np)
    · cases e
  · split at e
    · rename_i g
      cases e
      cases r3 with
      | tup h n l r =>
        refine .inr ⟨_, _, rfl, h, fun ew => ?_, fun ew p np => ?_⟩
        · have rc := r.cut (lo := a) (hi := b) g
          have e1 := RpA.imm _ r g
          subst e1
          have ec : ∀ xs : List D, xs.length = _ → cutD xs a b = xs := fun xs hx => by
            unfold cutD
            rw [hx, ew.1, ew.2, List.drop_zero, Nat.sub_zero, ← hx, List.take_length]
          rw [ec _ r.length.symm] at k
          exact k _ H3 [] kk (.tup h n l r) (fun a m => by cases m) List.nodup_nil z3
        · exact k _ _ [] (kk.trans (Keep.upd np)) (Rp.newT z3 np (Nat.le_trans (cutV_length _ _ _) l) (r.cut g)) (fun a m => by cases m) List.nodup_nil (z3.upd np)
    · cases e
  · cases e
/-- xs[::-1] -/
def dRev : D → Option D
  | .lst xs => if immL xs then some (.lst xs.reverse) else none
  | _ => none
def fRev (f : Ev → Mo D) : Ev → Mo D := fun ρ => (f ρ).bind fun x => Mo.ofO (dRev x)
end
section
variable {w : World} {K : PySem.W.Frag} {z : Zn} {H : Hp}
theorem RpA.reverse : ∀ {ds : List D} {vs : List V} {fp : List Addr}, RpA w K z H vs ds fp → ∃ fq, RpA w K z H vs.reverse ds.reverse fq
  | [], _, _, .nil => ⟨_, .nil⟩
  | d :: ds, _, _, .cons h r => by
    obtain ⟨f, q⟩ := RpA.reverse r
    rw [List.reverse_cons, List.reverse_cons]
    exact ⟨_, RpA.append q (.cons h .nil)⟩
end
section
variable {X : Cx}
theorem e_rev {e : Expr} {k : Nat} {p1 p2 p3 pos : Pos} {f : Ev → Mo D} (he : B X e f) : E X (.Subscript e (.Slice none none (some (.UnaryOp .USub (.Constant (.int 1) k p1) p2)) p3) pos) (fRev f) := PE.weak (pe_revL he) fun σ H Q ⟨z, Bs, ρ, s, d, s', I, hf, k⟩ => by
  obtain ⟨x, s1, h1, h2⟩ := Mo.bind_some hf
  obtain ⟨e, rfl⟩ := Mo.ofO_some' h2
  refine ⟨z, Bs, ρ, s, x, s', I, h1, fun v H1 fp k1 r1 f1 z1 => ?_⟩
  unfold dRev at e
  split at e
  · split at e
    · rename_i g
      cases e
      cases r1 with
      | lst h n l r =>
        refine ⟨_, _, rfl, .inl (.inl h), fun p np => ?_⟩
        obtain ⟨fq, rq⟩ := r.reverse
        have e := RpA.imm _ rq (immL_sub g fun x m => List.mem_reverse.mp m)
        subst e
        exact k _ _ [p] (k1.trans (Keep.upd np)) (Rp.newL z1 np (by rw [List.length_reverse]; exact l) rq) (fun a m => by rw [List.mem_singleton.mp m]; exact k1.free z1 np) (List.nodup_cons.mpr ⟨by simp, List.nodup_nil⟩) (z1.upd np)
    · cases e
  · cases e

/-! ### calls -/
/-- what a built-in is to do -/
def rCall (w : World) (K : PySem.W.Frag) (g : List D → Option D) : List V → Hp → VK → Prop := fun vs H Q => ∃ z s ds fp d, ZRep z H s ∧ RpA w K z H vs ds fp ∧ g ds = some d ∧
  ∀ v H' fp, Keep z H H' → Rp w K z H' v d fp → (∀ a ∈ fp, H a = none) → fp.Nodup → ZRep z H' s → Q v H'
def fCallB (g : List D → Option D) (f : Ev → Mo (List D)) : Ev → Mo D := fun ρ => (f ρ).bind fun xs => Mo.ofO (g xs)
theorem callB_read {w : World} {K : PySem.W.Frag} {g : List D → Option D} {f : Ev → Mo (List D)} {σ : L2.St} {H : Hp} {Q : VK} (h : tE w K (fCallB g f) σ H Q) : tCB (rCall w K g) (tA w K f) σ H Q := by
  obtain ⟨z, Bs, ρ, s, d, s', I, hf, k⟩ := h
  obtain ⟨xs, s1, h1, h2⟩ := Mo.bind_some hf
  obtain ⟨e, rfl⟩ := Mo.ofO_some' h2
  refine ⟨z, Bs, ρ, s, xs, s', I, h1, fun vs H1 fp k1 r f1 z1 => ?_⟩
  exact ⟨z, s', xs, fp, d, z1, r, e, fun v H' fq k2 r2 f2 n2 z2 => k v H' fq (k1.trans k2) r2 (fun a m => k1.free z1 (f2 a m)) n2 z2⟩
theorem e_callB {x : Str} {e : Expr} {es : List Expr} {p pos : Pos} {id : String} {g : List D → Option D} {f : Ev → Mo (List D)} (hc : CallR X (.builtin id) (rCall X.w X.K g)) (hg : Gl X x) (hm : X.mg x = none) (hv : bootBuiltins x = some (.builtin id)) (ha : AB X (e :: es) f)
    (hn : x ≠ "__name__" := by decide) (hd : (x == ("__debug__" : Str)) = false := by decide) (he : starEach (e :: es) X.env = (false, eval e X.env) :: starEach es X.env := by rfl) (hpl : (backTo pos (starEach es X.env)).any (·.1) = false := by rfl) : E X (.Call (.Name x p) (e :: es) [] pos) (fCallB g f) :=
  PE.weak (pe_callB hc hg hm hv ha hn hd he hpl) fun σ H Q q => callB_read q
theorem e_callTy {x : Str} {e : Expr} {es : List Expr} {p pos : Pos} {T : String} {g : List D → Option D} {f : Ev → Mo (List D)} (hc : CallR X (.type T) (rCall X.w X.K g)) (hg : Gl X x) (hm : X.mg x = none) (hv : bootBuiltins x = some (.type T)) (ha : AB X (e :: es) f)
    (hn : x ≠ "__name__" := by decide) (hd : (x == ("__debug__" : Str)) = false := by decide) (he : starEach (e :: es) X.env = (false, eval e X.env) :: starEach es X.env := by rfl) (hpl : (backTo pos (starEach es X.env)).any (·.1) = false := by rfl) : E X (.Call (.Name x p) (e :: es) [] pos) (fCallB g f) :=
  PE.weak (pe_callTy hc hg hm hv ha hn hd he hpl) fun σ H Q q => callB_read q
/-- the promise of a def: it is its mirror -/
def spF (w : World) (K : PySem.W.Frag) (n : Nat) (m : List D → Mo D) : Sp := fun vs H Q _ => ∃ z s ds fp d s', ZRep z H s ∧ RpA w K z H vs ds fp ∧ ds.length = n ∧ m ds s = some (d, s') ∧
  ∀ v H' fp, Keep z H H' → Rp w K z H' v d fp → (∀ a ∈ fp, H a = none) → fp.Nodup → ZRep z H' s' → Q v H'
def fCall (n : Nat) (m : List D → Mo D) (f : Ev → Mo (List D)) : Ev → Mo D := fun ρ => (f ρ).bind fun xs => (gd (decide (xs.length = n))).bind fun _ => m xs
theorem e_call {x : Str} {e : Expr} {es : List Expr} {p pos : Pos} {k : Nat} {f : Addr} {fd : FuncData} {ps : List Str} {n : Nat} {m : List D → Mo D} {g : Ev → Mo (List D)} (F : FnOk X.prog X.w X.K X.mg X.base CX0 k f fd ps (spF X.w X.K n m)) (hr : Room k X.A) (hg : Gl X x) (hm : X.mg x = some (.ref f)) (hk : PySem.W.keepIn X.K (.ref f) = true) (hb : Binds X.K fd ps [])
    (ha : AB X (e :: es) g) (hdb : (x == ("__debug__" : Str)) = false := by decide) (he : starEach (e :: es) X.env = (false, eval e X.env) :: starEach es X.env := by rfl) (hpl : (backTo pos (starEach es X.env)).any (·.1) = false := by rfl) : E X (.Call (.Name x p) (e :: es) [] pos) (fCall n m g) :=
  PE.weak (pe_call F hr hg hm hk hb .nil pass0 ha hdb he hpl) fun σ H Q ⟨z, Bs, ρ, s, d, s', I, hf, k⟩ => by
    obtain ⟨xs, s1, h1, h2⟩ := Mo.bind_some hf
    obtain ⟨_, s2, h3, h4⟩ := Mo.bind_some h2
    obtain ⟨g, rfl⟩ := gd_some h3
    refine ⟨z, Bs, ρ, s, xs, s2, I, h1, fun vs H1 fp k1 r f1 z1 => ?_⟩
    show spF X.w X.K n m (vs ++ []) H1 Q E0
    rw [List.append_nil]
    exact ⟨z, s2, xs, fp, d, s', z1, r, of_decide_eq_true g, h4, fun v H' fq k2 r2 f2 n2 z2 => k v H' fq (k1.trans k2) r2 (fun a m => k1.free z1 (f2 a m)) n2 z2⟩
end
end FL

set_option Elab.async false
set_option linter.all false
set_option maxRecDepth 100000
set_option maxHeartbeats 4000000
/-! FL4: built-ins. -/

/-! ### sorted of a tuple -/
namespace FL.Srt
open PySem PySem.W PySem.Calls PyProof.Rows
section
variable {prog : Program} {w : World} {A : Around} {E : Value → Shared → Prop} {s : Shared}
/-- a list or a tuple of these items -/
def IsSeqV (h : Heap) (l : Addr) (vs : List Value) : Prop := ∃ (T : String) (o : Obj) (n : Nat), (T = "list" ∨ T = "tuple") ∧ h.get? l = some o ∧ o.cls = .type T ∧ o.data = .seq vs.toArray n
theorem collect_sq {l : Addr} {vs : List Value} {Q : List Value → Shared → Prop} (hl : IsSeqV s.heap l vs) (hsz : vs.length ≤ sizeLine)
    (h : Q vs { s with heap := (s.heap.push (seqObj "list" #[] 0)).update s.heap.objs.size (Obj.mapSeq (· ++ vs.toArray)) }) : wpAny (model prog w) A (collect (.ref l)) Q E s := by
  obtain ⟨T, o, n, hT, ho, hc, hd⟩ := hl
  unfold collect
  refine wpAny_bind (wpAny_runValue (codeAny_builtin entry_proto_collect' ?_))
  show wpAny _ _ (do again (.builtin "list.__iadd__" ⟨[← newList [], .ref l], []⟩)) _ _ s
  refine wpAny_bind (wpAny_newList (wpAny_pure ⟨Code.quiet_builtin _ (by decide +kernel), codeAny_builtin entry_list_iadd' ?_⟩))
  have hnew : (s.heap.push (seqObj "list" #[] 0)).get? s.heap.objs.size = some (seqObj "list" #[] 0) := Heap.get?_push_size _ rfl
  refine wpAny_mono (wpAny_extend_seq (hsz := by simpa using hsz) s.heap.objs.size l (.ref s.heap.objs.size) 0 hT hnew (Heap.get?_push_of_some _ ho) hc hd (R := fun r s' => r = .ok (.ret (.ref s.heap.objs.size)) ∧ s' = { s with heap := (s.heap.push (seqObj "list" #[] 0)).update s.heap.objs.size (Obj.mapSeq (· ++ vs.toArray)) }) ⟨rfl, rfl⟩) (fun fin s' hf => ?_) fun e s' he => nomatch he.1
  have goal : ∀ s', s' = { s with heap := (s.heap.push (seqObj "list" #[] 0)).update s.heap.objs.size (Obj.mapSeq (· ++ vs.toArray)) } → wpAny (model prog w) A (do
      let o ← load s.heap.objs.size
      match o.data with
      | .seq xs _ => pure xs.toList
      | _ => unsupported "internal:collect") Q E s' := fun s' es => by
    subst es
    refine wpAny_bind (wpAny_load (get?_update_seq hnew _) ?_)
    show wpAny _ _ (pure ((#[] : Array Value) ++ vs.toArray).toList) Q E _
    rw [show ((#[] : Array Value) ++ vs.toArray).toList = vs by simp]
    exact wpAny_pure h
  cases fin with
  | done f =>
    obtain ⟨e1, e2⟩ := hf
    cases e1
    exact goal _ e2
  | again c' =>
    refine ⟨hf.1, codeAny_mono hf.2 fun r s' hr => ?_⟩
    obtain ⟨e1, e2⟩ := hr
    subst e1
    exact goal _ e2
theorem sorted_sq {β : Type} {vs : List Value} {bs : List β} {enc : β → PyData} {R : Value → β → Prop} {l : Addr} {Q : Value → Shared → Prop} (hl : IsSeqV s.heap l vs) (e : EachIs R vs bs) (er : EachIs (fun v b => ∃ as, Reads s.heap v (enc b) as) vs bs) (hal : AllAlike (bs.map enc)) (hk : Sortable (bs.map enc)) (hL : bs.length ≤ sizeLine)
    (hu : ∀ b, b ∈ bs → A.units + 2 + (enc b).depth < cLine) (h : ∀ out, out.length = bs.length → EachIs R out (bs.mergeSort (dataLe false enc)) → Q (.ref (s.heap.objs.size + 1)) { s with heap := sortedAll s.heap vs (List.toArray out) }) :
    wpAny (model prog w) A (call (.builtin "sorted") [.ref l]) Q E s := by
  have hL' : vs.length ≤ sizeLine := by rw [e.length]; exact hL
  have er' : EachIs (fun v b => ∃ as, Reads (sortingHeap (copyHeap s.heap vs) (s.heap.objs.size + 1) vs) v (enc b) as) vs bs := er.mono fun _ _ ⟨as, r⟩ => ⟨as, PyProof.Rows.Reads.keeps (fun _ _ => sorting_copy_old) r⟩
  have S := SortsAt.data (prog := prog) (w := w) (A := A.in1.in1) (s := { s with heap := sortingHeap (copyHeap s.heap vs) (s.heap.objs.size + 1) vs }) (each_map (R := fun v d => ∃ as, Reads (sortingHeap (copyHeap s.heap vs) (s.heap.objs.size + 1) vs) v d as) enc er') hal hk (bound_map hu)
  have fin := h _ (by rw [sortVals_length false rfl]; exact e.length) (sortVals_data false e er' hal)
  refine call_function_entry_kw kind_sorted plain_sorted entry_sorted (args_sorted1 _) ?_
  unfold Builtin.«sorted»
  refine wpAny_bind (m := checkCount "sorted" 1 1 _) (wpAny_pure ?_)
  refine wpAny_bind (collect_sq hl hL' ?_)
  refine wpAny_bind (wpAny_newList ?_ hL')
  have hsz : ((s.heap.push (seqObj "list" #[] 0)).update s.heap.objs.size (Obj.mapSeq (· ++ vs.toArray))).objs.size = s.heap.objs.size + 1 := by
    rw [Heap.size_update, size_push']
  show wpAny _ _ _ _ _ { s with heap := copyHeap s.heap vs }
  rw [hsz]
  refine wpAny_bind (wpAny_holding (wpAny_call_entry_kw slot_list_sort ⟨_, copyHeap_at s.heap vs, rfl⟩ entry_list_sort ?body (args_list_sort _)))
  case body =>
    refine wpAny_mono (list_sort_vals (prog := prog) (w := w) (E := fun _ _ => False) (A := A.in1.in1) (P := fun f s' => f = .done (.ret .none) ∧ Q (.ref (s.heap.objs.size + 1)) s') (s := { s with heap := copyHeap s.heap vs }) (copyHeap_at s.heap vs) S hL' ⟨rfl, fin⟩) (fun f s' hf => ?_) fun _ _ e => e.elim
    obtain ⟨rfl, hq⟩ := hf
    exact ⟨_, rfl, wpAny_pure ⟨_, rfl, hq⟩⟩
end
end FL.Srt

set_option Elab.async false
set_option linter.all false
set_option maxRecDepth 100000
set_option maxHeartbeats 4000000
/-! FL5: built-ins on data. -/
namespace FL
open PySem PySem.Spec L2
mutual
theorem toPy_inj : ∀ d e : D, (toPy d).canLay0 = true → toPy d = toPy e → d = e
  | .non, e, _, h => by cases e <;> first | rfl | (simp only [toPy] at h; cases h)
  | .bl b, e, _, h => by cases e <;> simp only [toPy] at h <;> cases h; rfl
  | .int i, e, _, h => by cases e <;> simp only [toPy] at h <;> cases h; rfl
  | .str x, e, _, h => by cases e <;> simp only [toPy] at h <;> cases h; rfl
  | .tup xs, e, c, h => by
    cases e <;> simp only [toPy] at h <;> first | (cases h; done) | skip
    rename_i ys
    rw [toPyL_inj xs ys c (PyData.tuple.inj h)]
  | .lst xs, e, c, h => by
    cases e <;> simp only [toPy] at h <;> first | (cases h; done) | skip
    rename_i ys
    rw [toPyL_inj xs ys c (PyData.list.inj h)]
  | .dct _ _, _, c, _ => by cases c
  | .dcT _ _, _, c, _ => by cases c
  | .seti _, _, c, _ => by cases c
  | .hp, _, c, _ => by cases c
theorem toPyL_inj : ∀ xs ys : List D, PyData.canLayAll0 (toPyL xs) = true → toPyL xs = toPyL ys → xs = ys
  | [], [], _, _ => rfl
  | [], _ :: _, _, h => by cases h
  | _ :: _, [], _, h => by cases h
  | x :: xs, y :: ys, c, h => by
    have c' : (toPy x).canLay0 = true ∧ PyData.canLayAll0 (toPyL xs) = true := by
      have : ((toPy x).canLay0 && PyData.canLayAll0 (toPyL xs)) = true := c
      simpa using this
    have h' : toPy x = toPy y ∧ toPyL xs = toPyL ys := List.cons.inj h
    rw [toPy_inj x y c'.1 h'.1, toPyL_inj xs ys c'.2 h'.2]
end
/-! ints and bools in lists -/
def intsOf : List D → Option (List Int)
  | [] => some []
  | .int i :: xs => (intsOf xs).map (i :: ·)
  | _ :: _ => none
def boolsOf : List D → Option (List Bool)
  | [] => some []
  | .bl i :: xs => (boolsOf xs).map (i :: ·)
  | _ :: _ => none
@[simp] theorem intsOf_map : ∀ l : List Int, intsOf (l.map D.int) = some l
  | [] => rfl
  | i :: l => by rw [List.map_cons]; unfold intsOf; rw [intsOf_map l]; rfl
@[simp] theorem boolsOf_map : ∀ l : List Bool, boolsOf (l.map D.bl) = some l
  | [] => rfl
  | i :: l => by rw [List.map_cons]; unfold boolsOf; rw [boolsOf_map l]; rfl
theorem intsOf_eq : ∀ {xs : List D} {l : List Int}, intsOf xs = some l → xs = l.map D.int
  | [], _, h => by cases h; rfl
  | .int i :: xs, l, h => by
    unfold intsOf at h
    cases e : intsOf xs with
    | none => rw [e] at h; cases h
    | some m => rw [e] at h; cases h; rw [intsOf_eq e]; rfl
  | .non :: _, _, h => by cases h
  | .bl _ :: _, _, h => by cases h
  | .str _ :: _, _, h => by cases h
  | .hp :: _, _, h => by cases h
  | .tup _ :: _, _, h => by cases h
  | .lst _ :: _, _, h => by cases h
  | .dct _ _ :: _, _, h => by cases h
  | .dcT _ _ :: _, _, h => by cases h
  | .seti _ :: _, _, h => by cases h
theorem boolsOf_eq : ∀ {xs : List D} {l : List Bool}, boolsOf xs = some l → xs = l.map D.bl
  | [], _, h => by cases h; rfl
  | .bl i :: xs, l, h => by
    unfold boolsOf at h
    cases e : boolsOf xs with
    | none => rw [e] at h; cases h
    | some m => rw [e] at h; cases h; rw [boolsOf_eq e]; rfl
  | .non :: _, _, h => by cases h
  | .int _ :: _, _, h => by cases h
  | .str _ :: _, _, h => by cases h
  | .hp :: _, _, h => by cases h
  | .tup _ :: _, _, h => by cases h
  | .lst _ :: _, _, h => by cases h
  | .dct _ _ :: _, _, h => by cases h
  | .dcT _ _ :: _, _, h => by cases h
  | .seti _ :: _, _, h => by cases h
section
variable {w : World} {K : PySem.W.Frag} {z : Zn} {H : Hp}
theorem RpA.ints : ∀ {l : List Int} {vs : List V} {fp : List Addr}, RpA w K z H vs (l.map D.int) fp → vs = l.map V.int
  | [], _, _, .nil => rfl
  | i :: l, _, _, .cons (.int _) r => by rw [RpA.ints r]; rfl
theorem RpA.bools : ∀ {l : List Bool} {vs : List V} {fp : List Addr}, RpA w K z H vs (l.map D.bl) fp → vs = l.map V.bl
  | [], _, _, .nil => rfl
  | i :: l, _, _, .cons (.bl _) r => by rw [RpA.bools r]; rfl
theorem RpA.of_ints : ∀ (l : List Int), RpA w K z H (l.map V.int) (l.map D.int) []
  | [] => .nil
  | i :: l => RpA.cons (f := []) (g := []) (.int i) (RpA.of_ints l)
theorem RpA.one {ds : List D} {vs : List V} {fp : List Addr} {d : D} (r : RpA w K z H vs ds fp) (e : ds = [d]) : ∃ v, vs = [v] ∧ Rp w K z H v d fp := by
  subst e
  cases r with
  | cons h t =>
    cases t
    rw [List.append_nil]
    exact ⟨_, rfl, h⟩
end
/-! ### the functions -/
def bLen : List D → Option D
  | [.lst xs] => some (.int xs.length)
  | [.tup xs] => some (.int xs.length)
  | [.str x] => if decide (x.length ≤ sizeLine) then some (.int x.length) else none
  | [.dct ks _] => some (.int ks.length)
  | _ => none
def keyD : Key → D
  | .inl i => .int i
  | .inr x => .str x
def bList : List D → Option D
  | [.lst xs] => if immL xs then some (.lst xs) else none
  | [.tup xs] => if immL xs then some (.lst xs) else none
  | [.dct ks _] => some (.lst (ks.map keyD))
  | _ => none
def bTuple : List D → Option D
  | [.lst xs] => if immL xs then some (.tup xs) else none
  | [.tup xs] => if immL xs then some (.tup xs) else none
  | _ => none
def bAbs : List D → Option D
  | [.int i] => some (.int (if i < 0 then -i else i))
  | _ => none
def bInt : List D → Option D
  | [.int i] => some (.int i)
  | [.bl b] => some (.int (if b then 1 else 0))
  | _ => none
def bSum : List D → Option D
  | [.lst xs] => (intsOf xs).map fun ns => .int ns.sum
  | _ => none
def bAny : List D → Option D
  | [.lst xs] => (boolsOf xs).map fun ns => .bl (ns.any id)
  | _ => none
def bAll : List D → Option D
  | [.lst xs] => (boolsOf xs).map fun ns => .bl (ns.all id)
  | _ => none
section
variable {X : Cx} {w : World} {K : PySem.W.Frag} {z : Zn} {H : Hp} {s : Ds} {Q : VK}
theorem fin_imm {v : V} {d : D} (zr : ZRep z H s) (r : Rp w K z H v d []) (k : ∀ v H' fp, Keep z H H' → Rp w K z H' v d fp → (∀ a ∈ fp, H a = none) → fp.Nodup → ZRep z H' s → Q v H') : Q v H :=
  k _ H [] (Keep.refl H) r (fun a m => by cases m) List.nodup_nil zr
theorem fin_newL {vs : List V} {ds : List D} {p : Addr} (zr : ZRep z H s) (np : H p = none) (l : vs.length ≤ sizeLine) (r : RpA w K z H vs ds [])
    (k : ∀ v H' fp, Keep z H H' → Rp w K z H' v (.lst ds) fp → (∀ a ∈ fp, H a = none) → fp.Nodup → ZRep z H' s → Q v H') : Q (.ref p) (upd H p (.lst vs)) :=
  k _ _ [p] (Keep.upd np) (Rp.newL zr np l r) (fun a m => by rw [List.mem_singleton.mp m]; exact np) (List.nodup_cons.mpr ⟨by simp, List.nodup_nil⟩) (zr.upd np)
theorem fin_newT {vs : List V} {ds : List D} {p : Addr} (zr : ZRep z H s) (np : H p = none) (l : vs.length ≤ sizeLine) (r : RpA w K z H vs ds [])
    (k : ∀ v H' fp, Keep z H H' → Rp w K z H' v (.tup ds) fp → (∀ a ∈ fp, H a = none) → fp.Nodup → ZRep z H' s → Q v H') : Q (.ref p) (upd H p (.tup vs)) :=
  k _ _ [] (Keep.upd np) (Rp.newT zr np l r) (fun a m => by cases m) List.nodup_nil (zr.upd np)
theorem cr_bLen : CallR X (.builtin "len") (rCall X.w X.K bLen) := fun pins st σ H vs us Q I rv ⟨z, s, ds, fp, d, zr, r, e, k⟩ => by
  unfold bLen at e
  split at e
  · cases e
    obtain ⟨v, rfl, r1⟩ := r.one rfl
    cases r1 with
    | lst h n l q => exact call_len_seq pins st σ H _ us Q I rv ⟨_, _, rfl, .inl (.inl (.inl h)), by rw [q.length]; exact fin_imm zr (.int _) k⟩
  · cases e
    obtain ⟨v, rfl, r1⟩ := r.one rfl
    cases r1 with
    | tup h n l q => exact call_len_seq pins st σ H _ us Q I rv ⟨_, _, rfl, .inr h, by rw [q.length]; exact fin_imm zr (.int _) k⟩
  · split at e
    · rename_i g
      cases e
      obtain ⟨v, rfl, r1⟩ := r.one rfl
      cases r1
      exact call_len_str pins st σ H _ us Q I rv ⟨_, rfl, of_decide_eq_true g, fin_imm zr (.int _) k⟩
    · cases e
  · cases e
    obtain ⟨v, rfl, r1⟩ := r.one rfl
    cases r1 with
    | dct h n l1 l2 nd q =>
      refine call_lenD pins st σ H _ us Q I rv ⟨_, _, rfl, h, ?_⟩
      rw [List.length_zip, ← l1, Nat.min_self]
      exact fin_imm zr (.int _) k
  · cases e
theorem RpA.of_keys : ∀ (ks : List Key), RpA w K z H (ks.map kV) (ks.map keyD) []
  | [] => .nil
  | .inl i :: l => RpA.cons (f := []) (g := []) (.int i) (RpA.of_keys l)
  | .inr i :: l => RpA.cons (f := []) (g := []) (.str i) (RpA.of_keys l)
theorem zip_keys : ∀ (ks : List Key) (vs : List V), ks.length = vs.length → (ks.zip vs).map (fun kv => kV kv.1) = ks.map kV
  | [], [], _ => rfl
  | k :: ks, v :: vs, l => by rw [List.zip_cons_cons, List.map_cons, zip_keys ks vs (by simpa using l)]; rfl
theorem cr_bList (hc : X.calm = true) : CallR X (.type "list") (rCall X.w X.K bList) := fun pins st σ H vs us Q I rv ⟨z, s, ds, fp, d, zr, r, e, k⟩ => by
  unfold bList at e
  split at e
  · split at e
    · rename_i g
      cases e
      obtain ⟨v, rfl, r1⟩ := r.one rfl
      cases r1 with
      | lst h n l q =>
        have e1 := RpA.imm _ q g
        subst e1
        exact call_list_of pins st σ H _ us Q I rv ⟨_, _, rfl, .inl (.inl (.inl h)), fun p np => fin_newL zr np l q k⟩
    · cases e
  · split at e
    · rename_i g
      cases e
      obtain ⟨v, rfl, r1⟩ := r.one rfl
      cases r1 with
      | tup h n l q =>
        have e1 := RpA.imm _ q g
        subst e1
        exact call_list_of pins st σ H _ us Q I rv ⟨_, _, rfl, .inr h, fun p np => fin_newL zr np l q k⟩
    · cases e
  · cases e
    obtain ⟨v, rfl, r1⟩ := r.one rfl
    cases r1 with
    | dct h n l1 l2 nd q =>
      refine call_list_dK hc pins st σ H _ us Q I rv ⟨_, _, rfl, h, fun p np => ?_⟩
      rw [zip_keys _ _ l1]
      exact fin_newL zr np (by rw [List.length_map]; exact l2) (RpA.of_keys _) k
  · cases e
theorem cr_bTuple : CallR X (.type "tuple") (rCall X.w X.K bTuple) := fun pins st σ H vs us Q I rv ⟨z, s, ds, fp, d, zr, r, e, k⟩ => by
  unfold bTuple at e
  split at e
  · split at e
    · rename_i g
      cases e
      obtain ⟨v, rfl, r1⟩ := r.one rfl
      cases r1 with
      | lst h n l q =>
        have e1 := RpA.imm _ q g
        subst e1
        exact call_tuple_of pins st σ H _ us Q I rv ⟨_, _, rfl, .inl ⟨.inl (.inl h), fun p np => fin_newT zr np l q k⟩⟩
    · cases e
  · split at e
    · rename_i g
      cases e
      obtain ⟨v, rfl, r1⟩ := r.one rfl
      cases r1 with
      | tup h n l q =>
        have e1 := RpA.imm _ q g
        subst e1
        exact call_tuple_of pins st σ H _ us Q I rv ⟨_, _, rfl, .inr ⟨h, fin_imm zr (.tup h n l q) k⟩⟩
    · cases e
  · cases e
theorem cr_bAbs : CallR X (.builtin "abs") (rCall X.w X.K bAbs) := fun pins st σ H vs us Q I rv ⟨z, s, ds, fp, d, zr, r, e, k⟩ => by
  unfold bAbs at e
  split at e
  · cases e
    obtain ⟨v, rfl, r1⟩ := r.one rfl
    cases r1
    exact call_abs pins st σ H _ us Q I rv ⟨_, rfl, fin_imm zr (.int _) k⟩
  · cases e
theorem cr_bInt : CallR X (.type "int") (rCall X.w X.K bInt) := fun pins st σ H vs us Q I rv ⟨z, s, ds, fp, d, zr, r, e, k⟩ => by
  unfold bInt at e
  split at e
  · cases e
    obtain ⟨v, rfl, r1⟩ := r.one rfl
    cases r1
    exact call_int1 pins st σ H _ us Q I rv (.inl ⟨_, rfl, fin_imm zr (.int _) k⟩)
  · cases e
    obtain ⟨v, rfl, r1⟩ := r.one rfl
    cases r1
    exact call_int1 pins st σ H _ us Q I rv (.inr ⟨_, rfl, fin_imm zr (.int _) k⟩)
  · cases e
theorem cr_bSum (hc : X.calm = true) : CallR X (.builtin "sum") (rCall X.w X.K bSum) := fun pins st σ H vs us Q I rv ⟨z, s, ds, fp, d, zr, r, e, k⟩ => by
  unfold bSum at e
  split at e
  · rename_i xs
    cases ei : intsOf xs with
    | none => rw [ei] at e; cases e
    | some ns =>
      rw [ei] at e
      cases e
      have ex := intsOf_eq ei
      subst ex
      obtain ⟨v, rfl, r1⟩ := r.one rfl
      cases r1 with
      | lst h n l q =>
        have ev := q.ints
        subst ev
        exact cr_sum hc pins st σ H _ us Q I rv ⟨_, ns, rfl, .inl (.inl h), fin_imm zr (.int _) k⟩
  · cases e
theorem cr_bAny (hc : X.calm = true) : CallR X (.builtin "any") (rCall X.w X.K bAny) := fun pins st σ H vs us Q I rv ⟨z, s, ds, fp, d, zr, r, e, k⟩ => by
  unfold bAny at e
  split at e
  · rename_i xs
    cases ei : boolsOf xs with
    | none => rw [ei] at e; cases e
    | some ns =>
      rw [ei] at e
      cases e
      have ex := boolsOf_eq ei
      subst ex
      obtain ⟨v, rfl, r1⟩ := r.one rfl
      cases r1 with
      | lst h n l q =>
        have ev := q.bools
        subst ev
        exact cr_any hc pins st σ H _ us Q I rv ⟨_, ns, rfl, .inl (.inl h), fin_imm zr (.bl _) k⟩
  · cases e
theorem cr_bAll (hc : X.calm = true) : CallR X (.builtin "all") (rCall X.w X.K bAll) := fun pins st σ H vs us Q I rv ⟨z, s, ds, fp, d, zr, r, e, k⟩ => by
  unfold bAll at e
  split at e
  · rename_i xs
    cases ei : boolsOf xs with
    | none => rw [ei] at e; cases e
    | some ns =>
      rw [ei] at e
      cases e
      have ex := boolsOf_eq ei
      subst ex
      obtain ⟨v, rfl, r1⟩ := r.one rfl
      cases r1 with
      | lst h n l q =>
        have ev := q.bools
        subst ev
        exact cr_all hc pins st σ H _ us Q I rv ⟨_, ns, rfl, .inl (.inl h), fin_imm zr (.bl _) k⟩
  · cases e

/-! ### order -/
def dLess (a b : D) : Bool := PySem.W.dataLt (toPy a) (toPy b)
def dLeq (a b : D) : Bool := PySem.W.dataLe false toPy a b
def minL (x : D) (xs : List D) : D := xs.foldl (fun a y => if dLess y a then y else a) x
def maxL (x : D) (xs : List D) : D := xs.foldl (fun a y => if dLess a y then y else a) x
def alikeL (xs : List D) : Bool := immL xs && (xs.all okD && xs.all fun a => xs.all fun b => PySem.W.alike (toPy a) (toPy b))
def noNon (xs : List D) : Bool := xs.all fun a => !isNon a
def tupled : D → Bool
  | .tup (_ :: _) => true
  | _ => false
def notTup : D → Bool
  | .tup _ => false
  | .non => false
  | _ => true
def sortable (xs : List D) : Bool := alikeL xs && (xs.all tupled || xs.all notTup)
def bMin : List D → Option D
  | [.int i, .int j] => some (.int (if j < i then j else i))
  | [.lst (x :: xs)] => if alikeL (x :: xs) && noNon (x :: xs) then some (minL x xs) else none
  | [.tup (x :: xs)] => if alikeL (x :: xs) && noNon (x :: xs) then some (minL x xs) else none
  | _ => none
def bMax : List D → Option D
  | [.int i, .int j] => some (.int (if j > i then j else i))
  | [.lst (x :: xs)] => if alikeL (x :: xs) && noNon (x :: xs) then some (maxL x xs) else none
  | [.tup (x :: xs)] => if alikeL (x :: xs) && noNon (x :: xs) then some (maxL x xs) else none
  | _ => none
def bSorted : List D → Option D
  | [.lst xs] => if sortable xs then some (.lst (xs.mergeSort dLeq)) else none
  | [.tup xs] => if sortable xs then some (.lst (xs.mergeSort dLeq)) else none
  | [.seti xs] => if decide (xs.length < 64) then some (.lst ((xs.map D.int).mergeSort dLeq)) else none
  | _ => none
end
end FL

set_option Elab.async false
set_option linter.all false
set_option maxRecDepth 100000
set_option maxHeartbeats 4000000
/-! FL6: min, max, sorted. -/
namespace FL
open PySem PySem.Spec L2
theorem minL_py (x : D) : ∀ (xs : List D), toPy (minL x xs) = PySem.W.minD (toPy x) (toPyL xs) := fun xs => by
  unfold minL PySem.W.minD
  rw [toPyL_map]
  induction xs generalizing x with
  | nil => rfl
  | cons y ys ih =>
    rw [List.map_cons, List.foldl_cons, List.foldl_cons, ih]
    unfold dLess
    split <;> rfl
theorem maxL_py (x : D) : ∀ (xs : List D), toPy (maxL x xs) = PySem.W.maxD (toPy x) (toPyL xs) := fun xs => by
  unfold maxL PySem.W.maxD
  rw [toPyL_map]
  induction xs generalizing x with
  | nil => rfl
  | cons y ys ih =>
    rw [List.map_cons, List.foldl_cons, List.foldl_cons, ih]
    unfold dLess
    split <;> rfl
theorem depth_all : ∀ {xs : List D}, (∀ x ∈ xs, (toPy x).depth ≤ 64) → PyData.depthAll (toPyL xs) ≤ 64
  | [], _ => Nat.zero_le _
  | x :: xs, h => by
    show max (toPy x).depth (PyData.depthAll (toPyL xs)) ≤ 64
    have h1 := h x List.mem_cons_self
    have h2 := depth_all fun y m => h y (List.mem_cons_of_mem _ m)
    omega
theorem lay_all : ∀ {xs : List D}, (∀ x ∈ xs, (toPy x).canLay0 = true) → PyData.canLayAll0 (toPyL xs) = true
  | [], _ => rfl
  | x :: xs, h => by
    show ((toPy x).canLay0 && PyData.canLayAll0 (toPyL xs)) = true
    rw [h x List.mem_cons_self, lay_all fun y m => h y (List.mem_cons_of_mem _ m)]; rfl
theorem okD_depth {d : D} (h : okD d = true) : (toPy d).depth ≤ 64 := by
  unfold okD SeqAt.shaped at h
  simp only [Bool.and_eq_true, decide_eq_true_eq] at h
  exact h.2
structure Alike (xs : List D) : Prop where
  im : immL xs = true
  ok : ∀ x ∈ xs, okD x = true
  al : ∀ x ∈ xs, ∀ y ∈ xs, PySem.W.alike (toPy x) (toPy y) = true
theorem alikeL_iff {xs : List D} (h : alikeL xs = true) : Alike xs := by
  unfold alikeL at h
  simp only [Bool.and_eq_true, List.all_eq_true] at h
  exact ⟨h.1, h.2.1, h.2.2⟩
theorem mem_toPyL {xs : List D} {p : PyData} (h : p ∈ toPyL xs) : ∃ x ∈ xs, toPy x = p := by
  rw [toPyL_map] at h
  obtain ⟨x, m, e⟩ := List.mem_map.mp h
  exact ⟨x, m, e⟩
theorem alikeAll_of {xs : List D} (h : alikeL xs = true) (h' : noNon xs = true) : PySem.W.AlikeAll (toPyL xs) := by
  have A := alikeL_iff h
  refine ⟨fun x hx y hy => ?_, fun x hx e => ?_⟩
  · obtain ⟨a, ma, rfl⟩ := mem_toPyL hx
    obtain ⟨b, mb, rfl⟩ := mem_toPyL hy
    exact A.al a ma b mb
  · obtain ⟨a, ma, ea⟩ := mem_toPyL hx
    unfold noNon at h'
    rw [List.all_eq_true] at h'
    have := h' a ma
    rw [e] at ea
    cases a <;> simp only [toPy] at ea <;> first | (cases ea; done) | (cases this)
theorem Vals.back {vs : List V} {us : List Value} (r : Vals vs us) {i : Nat} {u : Value} (e : us[i]? = some u) : ∃ v, vs[i]? = some v ∧ RelV v u := by
  have l := r.length
  have hi := (List.getElem?_eq_some_iff.mp e).1
  have hv : vs[i]? = some vs[i] := List.getElem?_eq_getElem (by omega)
  obtain ⟨u', e1, r1⟩ := r.get hv
  rw [e] at e1
  cases e1
  exact ⟨_, hv, r1⟩
section
variable {X : Cx} {pins : List (Addr × Obj)} {σ : L2.St} {H : Hp} {st : Shared} {z : Zn} {s : Ds} {Q : VK} {x : D} {xs : List D} {vs : List V} {fp : List Addr} {a : Addr} {its : List Value}
/-- the item picked -/
theorem picked {m : D} {d : PyData} {i : Nat} {u : Value} {h' : Heap} {tk : Nat} {bs : List Addr} (I : L2.Inv X pins σ H st) (zr : ZRep z H s) (q : RpA X.w X.K z H vs xs fp) (A : Alike xs) (rv : Vals vs its) (e : its[i]? = some u) (em : toPy m = d) (r : Reads h' u d bs)
    (keep : ∀ b o, st.heap.get? b = some o → h'.get? b = some o)
    (k : ∀ v H' fp, Keep z H H' → Rp X.w X.K z H' v m fp → (∀ a ∈ fp, H a = none) → fp.Nodup → ZRep z H' s → Q v H') : EP X pins σ Q u { st with heap := h', toks := tk } := by
  obtain ⟨v, ev, r1⟩ := Vals.back rv e
  have hi : i < xs.length := by rw [← q.length]; exact (List.getElem?_eq_some_iff.mp ev).1
  have ed : xs[i]? = some xs[i] := List.getElem?_eq_getElem hi
  obtain ⟨v', f, e1, rp, _⟩ := q.get ed
  rw [ev] at e1
  cases e1
  have mm := List.getElem_mem hi
  have lay := okD_lay (A.ok _ mm)
  have im : imm xs[i] = true := by
    have := A.im
    rw [immL_eq, List.all_eq_true] at this
    exact this _ mm
  have ef := Rp.imm _ rp im
  subst ef
  obtain ⟨as, rr⟩ := Dp.reads I _ _ _ (rp.dp _ lay) r1
  have eq1 := SeqAt.Reads.unique _ _ _ _ _ lay (PyProof.Rows.Reads.keeps keep rr) r
  have eq2 : xs[i] = m := toPy_inj _ _ lay (eq1.trans em.symm)
  rw [eq2] at rp
  exact ⟨v, H, I.kept keep, r1, fin_imm zr rp k⟩
end
section
variable {X : Cx}
theorem cr_bMin (hc : X.calm = true) (hu : X.A.units + 100 < cLine) : CallR X (.builtin "min") (rCall X.w X.K bMin) := fun pins st σ H vs us Q I rv ⟨z, s, ds, fp, d, zr, r, e, k⟩ => by
  unfold bMin at e
  split at e
  · cases e
    cases r with
    | cons h1 t =>
      cases t with
      | cons h2 t =>
        cases t
        cases h1; cases h2
        exact call_min2 hc pins st σ H _ us Q I rv ⟨_, _, rfl, fin_imm zr (.int _) k⟩
  · split at e
    · rename_i x xs g
      rw [Bool.and_eq_true] at g
      cases e
      obtain ⟨v, rfl, r1⟩ := r.one rfl
      cases r1 with
      | lst h n l q =>
        have A := alikeL_iff g.1
        obtain ⟨its, rv2, pl, hz⟩ := I.list (.inl (.inl h))
        obtain ⟨as, hr⟩ := Dp.readsAll I (toPyL (x :: xs)) _ _ (RpA.dp _ q (lay_all fun y m => okD_lay (A.ok y m))) rv2
        rw [Vals.ref1 rv]
        refine PySem.W.min_list_data (I.ok.hd hc) pl.isList hr (alikeAll_of g.1 g.2) ?_ fun i u h' tk bs e1 e2 e3 => ?_
        · have := depth_all (xs := x :: xs) fun y m => okD_depth (A.ok y m)
          show X.A.units + 1 + PyData.depthAll (toPyL (x :: xs)) < cLine
          omega
        · exact picked I zr q A rv2 (by simpa using e1) (minL_py x xs) e2 e3 k
    · cases e
  · split at e
    · rename_i x xs g
      rw [Bool.and_eq_true] at g
      cases e
      obtain ⟨v, rfl, r1⟩ := r.one rfl
      cases r1 with
      | tup h n l q =>
        have A := alikeL_iff g.1
        obtain ⟨its, rv2, pl, hz⟩ := I.tuple h
        obtain ⟨as, hr⟩ := Dp.readsAll I (toPyL (x :: xs)) _ _ (RpA.dp _ q (lay_all fun y m => okD_lay (A.ok y m))) rv2
        rw [Vals.ref1 rv]
        refine PySem.W.min_tuple_data (I.ok.hd hc) pl hr (alikeAll_of g.1 g.2) ?_ fun i u h' tk bs e1 e2 e3 => ?_
        · have := depth_all (xs := x :: xs) fun y m => okD_depth (A.ok y m)
          show X.A.units + 1 + PyData.depthAll (toPyL (x :: xs)) < cLine
          omega
        · exact picked I zr q A rv2 (by simpa using e1) (minL_py x xs) e2 e3 k
    · cases e
  · cases e
theorem cr_bMax (hc : X.calm = true) (hu : X.A.units + 100 < cLine) : CallR X (.builtin "max") (rCall X.w X.K bMax) := fun pins st σ H vs us Q I rv ⟨z, s, ds, fp, d, zr, r, e, k⟩ => by
  unfold bMax at e
  split at e
  · cases e
    cases r with
    | cons h1 t =>
      cases t with
      | cons h2 t =>
        cases t
        cases h1; cases h2
        exact call_max2 hc pins st σ H _ us Q I rv ⟨_, _, rfl, fin_imm zr (.int _) k⟩
  · split at e
    · rename_i x xs g
      rw [Bool.and_eq_true] at g
      cases e
      obtain ⟨v, rfl, r1⟩ := r.one rfl
      cases r1 with
      | lst h n l q =>
        have A := alikeL_iff g.1
        obtain ⟨its, rv2, pl, hz⟩ := I.list (.inl (.inl h))
        obtain ⟨as, hr⟩ := Dp.readsAll I (toPyL (x :: xs)) _ _ (RpA.dp _ q (lay_all fun y m => okD_lay (A.ok y m))) rv2
        rw [Vals.ref1 rv]
        refine PySem.W.max_list_data (I.ok.hd hc) pl.isList hr (alikeAll_of g.1 g.2) ?_ fun i u h' tk bs e1 e2 e3 => ?_
        · have := depth_all (xs := x :: xs) fun y m => okD_depth (A.ok y m)
          show X.A.units + 1 + PyData.depthAll (toPyL (x :: xs)) < cLine
          omega
        · exact picked I zr q A rv2 (by simpa using e1) (maxL_py x xs) e2 e3 k
    · cases e
  · split at e
    · rename_i x xs g
      rw [Bool.and_eq_true] at g
      cases e
      obtain ⟨v, rfl, r1⟩ := r.one rfl
      cases r1 with
      | tup h n l q =>
        have A := alikeL_iff g.1
        obtain ⟨its, rv2, pl, hz⟩ := I.tuple h
        obtain ⟨as, hr⟩ := Dp.readsAll I (toPyL (x :: xs)) _ _ (RpA.dp _ q (lay_all fun y m => okD_lay (A.ok y m))) rv2
        rw [Vals.ref1 rv]
        refine PySem.W.max_tuple_data (I.ok.hd hc) pl hr (alikeAll_of g.1 g.2) ?_ fun i u h' tk bs e1 e2 e3 => ?_
        · have := depth_all (xs := x :: xs) fun y m => okD_depth (A.ok y m)
          show X.A.units + 1 + PyData.depthAll (toPyL (x :: xs)) < cLine
          omega
        · exact picked I zr q A rv2 (by simpa using e1) (maxL_py x xs) e2 e3 k
    · cases e
  · cases e
/-- the items and their data, value by value -/
def RV (w : World) (K : PySem.W.Frag) (z : Zn) (H : Hp) (u : Value) (d : D) : Prop := ∃ v, RelV v u ∧ Rp w K z H v d []
theorem each_of {w : World} {K : PySem.W.Frag} {z : Zn} {H : Hp} : ∀ {vs : List V} {us : List Value} {ds : List D} {fp : List Addr}, RpA w K z H vs ds fp → immL ds = true → Vals vs us → PySem.W.EachIs (RV w K z H) us ds
  | _, _, [], _, .nil, _, .nil => .nil
  | _, _, d :: ds, _, .cons h r, i, .cons q t => by
    have i' : FL.imm d = true ∧ FL.immL ds = true := by
      have : (FL.imm d && FL.immL ds) = true := i
      simpa using this
    have e := Rp.imm _ h i'.1
    subst e
    exact .cons ⟨_, q, h⟩ (each_of r i'.2 t)
theorem of_each {w : World} {K : PySem.W.Frag} {z : Zn} {H : Hp} : ∀ {us : List Value} {ds : List D}, PySem.W.EachIs (RV w K z H) us ds → ∃ vs, Vals vs us ∧ RpA w K z H vs ds []
  | _, _, .nil => ⟨[], .nil, .nil⟩
  | _, _, .cons h t => by
    obtain ⟨v, r, p⟩ := h
    obtain ⟨vs, rs, ps⟩ := of_each t
    exact ⟨v :: vs, .cons r rs, RpA.cons (f := []) (g := []) p ps⟩
theorem sort_go {pins : List (Addr × Obj)} {st : Shared} {σ : L2.St} {H : Hp} {Q : VK} {z : Zn} {s : Ds} {a : Addr} {xs : List D} {vs : List V} {fp : List Addr} {its : List Value} (hu : X.A.units + 100 < cLine) (I : L2.Inv X pins σ H st) (zr : ZRep z H s) (g : sortable xs = true) (q : RpA X.w X.K z H vs xs fp) (l : vs.length ≤ sizeLine) (rv : Vals vs its) (hs : Srt.IsSeqV st.heap a its)
    (k : ∀ v H' fp, Keep z H H' → Rp X.w X.K z H' v (.lst (xs.mergeSort dLeq)) fp → (∀ a ∈ fp, H a = none) → fp.Nodup → ZRep z H' s → Q v H') : wpAny (model X.prog X.w) X.A (call (.builtin "sorted") [.ref a]) (EP X pins σ Q) X.xe st := by
  unfold sortable at g
  rw [Bool.and_eq_true] at g
  have A := alikeL_iff g.1
  have er : ∀ u d, RV X.w X.K z H u d → d ∈ xs → ∃ as, Reads st.heap u (toPy d) as := fun u d ⟨v, r, p⟩ m => Dp.reads I _ _ _ (p.dp _ (okD_lay (A.ok d m))) r
  have e1 := each_of q A.im rv
  have e2 : PySem.W.EachIs (fun v b => ∃ as, Reads st.heap v (toPy b) as) its xs := (PySem.W.each_mem e1).mono fun u d ⟨p, m⟩ => er u d p m
  refine Srt.sorted_sq hs e1 e2 (fun d hd d' hd' => ?_) ?_ (by rw [← q.length]; exact l) (fun b m => ?_) fun out hl ho => ?_
  · obtain ⟨x, mx, rfl⟩ := List.mem_map.mp hd
    obtain ⟨y, my, rfl⟩ := List.mem_map.mp hd'
    exact A.al x mx y my
  · rcases Bool.or_eq_true_iff.mp g.2 with h | h
    · refine .inl fun d hd => ?_
      obtain ⟨x, mx, rfl⟩ := List.mem_map.mp hd
      rw [List.all_eq_true] at h
      have hx := h x mx
      cases x <;> first | (cases hx; done) | skip
      rename_i ys
      cases ys with
      | nil => cases hx
      | cons y ys => exact ⟨toPy y, toPyL ys, rfl⟩
    · refine .inr fun d hd => ?_
      obtain ⟨x, mx, rfl⟩ := List.mem_map.mp hd
      rw [List.all_eq_true] at h
      have hx := h x mx
      cases x <;> first | (cases hx; done) | exact ⟨(fun e => by cases e), (fun ys e => by cases e)⟩
  · have := okD_depth (A.ok b m)
    omega
  · obtain ⟨vs', rv', q'⟩ := of_each (show PySem.W.EachIs (RV X.w X.K z H) out (xs.mergeSort dLeq) from ho)
    obtain ⟨ep, he'⟩ := PyProof.Rows.sortedAll_at st.heap its out.toArray
    have np := I.hok.fresh (Nat.le_succ st.heap.objs.size)
    have hlen : vs'.length ≤ sizeLine := by
      rw [q'.length, (List.mergeSort_perm xs dLeq).length_eq, ← q.length]; exact l
    exact ⟨.ref _, upd H (st.heap.objs.size + 1) (.lst vs'), I.laid (t' := st.toks) (fun _ _ => PyProof.Rows.sortedAll_old) (Nat.le_succ _) ⟨hlen, out, ep, rv', he'⟩, rfl, fin_newL zr np hlen q' k⟩
theorem perm_sort {xs : List Int} {ys : List Int} (p : ys.Pairwise (· < ·)) (h : ys.Perm xs) : (xs.map D.int).mergeSort dLeq = ys.map D.int := by
  have e : (xs.map D.int).mergeSort dLeq = (xs.mergeSort fun a b => decide (a ≤ b)).map D.int := by
    refine (PySem.W.sort_maps D.int fun a _ b _ => ?_).symm
    show decide (a ≤ b) = dLeq (.int a) (.int b)
    have := congrFun (congrFun (PySem.W.dataLe_int (β := Int) id) a) b
    exact this.symm
  rw [e]
  congr 1
  refine List.Perm.eq_of_pairwise (le := fun a b => a ≤ b) (fun a b _ _ h1 h2 => Int.le_antisymm h1 h2) ?_ (p.imp fun h => Int.le_of_lt h) ((List.mergeSort_perm xs _).trans h.symm)
  have := List.pairwise_mergeSort (le := fun a b : Int => decide (a ≤ b)) (fun a b c h1 h2 => by simp at *; omega) (fun a b => by simp; omega) xs
  exact this.imp fun h => by simpa using h
theorem cr_bSorted (hc : X.calm = true) (hu : X.A.units + 100 < cLine) : CallR X (.builtin "sorted") (rCall X.w X.K bSorted) := fun pins st σ H vs us Q I rv ⟨z, s, ds, fp, d, zr, r, e, k⟩ => by
  unfold bSorted at e
  split at e
  · split at e
    · rename_i xs g
      cases e
      obtain ⟨v, rfl, r1⟩ := r.one rfl
      cases r1 with
      | lst h n l q =>
        obtain ⟨its, rv2, ⟨o, n', ho, hcl, hdt, hd⟩, hz⟩ := I.list (.inl (.inl h))
        rw [Vals.ref1 rv]
        exact sort_go hu I zr g q l rv2 ⟨"list", o, n', .inl rfl, ho, hcl, hd⟩ k
    · cases e
  · split at e
    · rename_i xs g
      cases e
      obtain ⟨v, rfl, r1⟩ := r.one rfl
      cases r1 with
      | tup h n l q =>
        obtain ⟨its, rv2, ⟨o, ho, hcl, n', hd⟩, hz⟩ := I.tuple h
        rw [Vals.ref1 rv]
        exact sort_go hu I zr g q l rv2 ⟨"tuple", o, n', .inr rfl, ho, hcl, hd⟩ k
    · cases e
  · split at e
    · rename_i xs g
      cases e
      obtain ⟨v, rfl, r1⟩ := r.one rfl
      cases r1 with
      | seti h n nd =>
        refine cr_sortedSet hc pins st σ H _ us Q I rv ⟨_, _, _, rfl, h, of_decide_eq_true g, fun ns p h1 h2 h3 np => ?_⟩
        have pm : ns.Perm xs := (List.perm_ext_iff_of_nodup (h1.imp fun h => Int.ne_of_lt h) nd).mpr fun a => by rw [h2]; simp
        have es := perm_sort h1 pm
        rw [es] at k
        exact fin_newL zr np (by rw [List.length_map, h3]; have := of_decide_eq_true g; exact Nat.le_trans (Nat.le_of_lt this) (by decide)) (RpA.of_ints ns) k
    · cases e
  · cases e
end
end FL

set_option Elab.async false
set_option linter.all false
set_option maxRecDepth 100000
set_option maxHeartbeats 4000000
/-! FL7: enumerate and zip over lists and tuples in any mix. -/
namespace FL.It
open PySem
set_option maxHeartbeats 1000000 in
theorem enum_new1 {v : Value} {o : Obj} {H : Heap → Prop} (B : Begins v o H) :
    Meets (Builtin.«enumerate.__new__» ⟨[.type "enumerate", v], []⟩) (fun _ R s => H s.heap ∧
      R (.ok (.ret (.ref (s.heap.push o).objs.size))) { s with heap := (s.heap.push o).push { cls := .type "enumerate", data := .fields #[.none, .bool false, .ref s.heap.objs.size, rawInt 0, .none, .none] } }) :=
  .of_wp fun prog w A R s h => by
    obtain ⟨hp, g, d, tk, os⟩ := s
    obtain ⟨h1, h⟩ := h
    have hsub := sub_enumerate
    have it : ∀ {A' : Around} {E : Value → Shared → Prop} {Q : Value → Shared → Prop}, Q (.ref hp.objs.size) ⟨hp.push o, g, d, tk, os⟩ → wpAny (model prog w) A' (pyIter v) Q E ⟨hp, g, d, tk, os⟩ :=
      fun q => B.iter prog w _ _ ⟨hp, g, d, tk, os⟩ _ h1 q
    wp_walk using it
    refine wpAny_stack_any fun st => wpAny_pure ?_
    split
    · rename_i c _ _ _ _ _
      cases (c == Value.type "enumerate")
      all_goals
        wp_walk using it
        exact ⟨_, rfl, h⟩
    · wp_walk using it
      exact ⟨_, rfl, h⟩
theorem call_enum1 {prog : Program} {w : World} {A : Around} {E : Value → Shared → Prop} {s : Shared} {v : Value} {o : Obj} {H : Heap → Prop} {Q : Value → Shared → Prop} (B : Begins v o H) (h1 : H s.heap)
    (h : ∀ h', IsEnum h' (s.heap.objs.size + 1) s.heap.objs.size 0 .none → h'.get? s.heap.objs.size = some o → h'.objs.size = s.heap.objs.size + 2 →
      (∀ b ob, s.heap.get? b = some ob → h'.get? b = some ob) → Q (.ref (s.heap.objs.size + 1)) { s with heap := h' }) : wpAny (model prog w) A (call (.type "enumerate") [v]) Q E s := by
  refine callType_new F.called_enumerate (by decide) (F.typeCall_enumerate_1 _) (F.newCall_enumerate_1 _) (fun obj => F.args_object_init_2 obj _) F.entry_enumerate_new (enum_new1 B) ⟨h1, ?_⟩
  have hz : (s.heap.push o).objs.size = s.heap.objs.size + 1 := Heap.size_push ..
  show _ ∧ _
  rw [hz]
  have he : IsEnum ((s.heap.push o).push { cls := .type "enumerate", data := .fields #[.none, .bool false, .ref s.heap.objs.size, rawInt 0, .none, .none] }) (s.heap.objs.size + 1) s.heap.objs.size 0 .none := by
    have q := Heap.get?_push_size (s.heap.push o) (o := { cls := .type "enumerate", data := .fields #[.none, .bool false, .ref s.heap.objs.size, rawInt 0, .none, .none] }) rfl
    rwa [hz] at q
  exact ⟨⟨_, he, rfl⟩, h _ he (Heap.get?_push_of_some _ (Heap.get?_push_size _ B.free)) (by rw [Heap.size_push, hz]) fun b ob x => Heap.get?_push_of_some _ (Heap.get?_push_of_some _ x)⟩
end FL.It
namespace FL
open PySem PySem.Spec L2
/-- a list or a tuple -/
inductive SK where
  | l | t
def SK.Sq (k : SK) (K : PySem.W.Frag) (H : Hp) (a : Addr) (xs : List V) : Prop := match k with
  | .l => SqL K H a xs
  | .t => SqT K H a xs
def SK.Is (k : SK) (h : Heap) (a : Addr) (items : Array Value) : Prop := match k with
  | .l => h.IsList a items
  | .t => h.IsTuple a items
def SK.At (k : SK) (h : Heap) (it a : Addr) (i : Nat) : Prop := match k with
  | .l => h.IsListIter it a i
  | .t => h.IsTupleIter it a i
def SK.ob (k : SK) (a : Addr) : Obj := match k with
  | .l => { cls := .type "list_iterator", data := .fields #[.ref a, .int 0 0] }
  | .t => { cls := .type "tuple_iterator", data := .fields #[.ref a, .int 0 0] }
section
variable {k : SK} {K : PySem.W.Frag}
theorem SK.begins (k : SK) (a : Addr) (items : Array Value) : Begins (.ref a) (k.ob a) (fun h => k.Is h a items) := match k with
  | .l => begins_list a items
  | .t => begins_tuple a items
theorem SK.draws {prog : Program} {w : World} {A : Around} (k : SK) (hh : A.handled = none) (it a : Addr) (hne : a ≠ it) (items : Array Value) :
    Draws prog w A it [it, a] items.size (fun i v => items[i]? = some v) (fun i h => k.At h it a i ∧ k.Is h a items) := match k with
  | .l => Draws.list hh it a hne items
  | .t => Draws.tuple hh it a hne items
theorem SK.at0 {h : Heap} {it a : Addr} (e : h.get? it = some (k.ob a)) : k.At h it a 0 := match k, e with
  | .l, e => ⟨_, e, rfl, rfl⟩
  | .t, e => ⟨_, e, rfl, rfl⟩
theorem SK.atKeep {h h' : Heap} {it a : Addr} {i : Nat} (x : k.At h it a i) (e : ∀ o, h.get? it = some o → h'.get? it = some o) : k.At h' it a i := match k, x with
  | .l, x => Heap.IsListIter.at x e
  | .t, x => Heap.IsTupleIter.at x e
theorem SK.atObj {h : Heap} {it a : Addr} {i : Nat} (x : k.At h it a i) : ∃ o, h.get? it = some o ∧ ∀ v, o.data ≠ .cell v := by
  cases k with
  | l => obtain ⟨o, e, _, d⟩ := (show h.IsListIter it a i from x); exact ⟨o, e, fun v q => by rw [d] at q; cases q⟩
  | t => obtain ⟨o, e, _, d⟩ := (show h.IsTupleIter it a i from x); exact ⟨o, e, fun v q => by rw [d] at q; cases q⟩
theorem SK.read {X : Cx} {pins : List (Addr × Obj)} {σ : L2.St} {H : Hp} {s : Shared} {a : Addr} {xs : List V} (I : L2.Inv X pins σ H s) (h : k.Sq X.K H a xs) : ∃ its : List Value, Vals xs its ∧ k.Is s.heap a its.toArray ∧ xs.length ≤ sizeLine ∧ a < s.heap.objs.size := by
  cases k with
  | l =>
    obtain ⟨its, r, p, z⟩ := I.list h
    exact ⟨its, r, p.isList, z, p.lt⟩
  | t =>
    obtain ⟨its, r, p, z⟩ := I.tuple h
    exact ⟨its, r, p, z, p.lt⟩
theorem SK.inj {X : Cx} {pins : List (Addr × Obj)} {σ : L2.St} {H : Hp} {s : Shared} {a : Addr} {xs ys : List V} (I : L2.Inv X pins σ H s) (h : k.Sq X.K H a xs) (h' : k.Sq X.K H a ys) : xs = ys := by
  cases k with
  | l => exact I.list_inj h h'
  | t => exact I.tuple_inj h h'
end
/-- n new tuples, one a turn, while G holds -/
def ItR (n : Nat) (G : Hp → Prop) (row : Nat → List V) : It := ⟨fun i H => i < n ∧ G H, fun i H x H' => ∃ T, x = .ref T ∧ H T = none ∧ H' = upd H T (.tup (row i)), fun i H => i = n ∧ G H⟩
section
variable {P : Program} {w : World} {K : PySem.W.Frag}
theorem turn_wt {elts : List Expr} {kk : Nat} {tpos : Pos} {ι : Type} {n : Nat} {G : Hp → Prop} {row : Nat → List V} {fpU wr : List Addr} {it : Addr} {tn : Nat → Heap → Prop} {fp : ι → List Addr} {m : ι → Nat} {Pt : ι → Nat → Array Value → Prop} {St : ι → Nat → Heap → Prop} {Mid : ι → Nat → Addr → Heap → Prop}
    (W : ∀ (u : ι) (A : Around), A.handled = none → WalksT P w A it (fp u) wr (m u) (Pt u) (St u) (Mid u)) (mem : it ∈ fpU) (wsub : ∀ b ∈ wr, b ∈ fpU)
    (obj : ∀ i h, tn i h → ∀ b ∈ fpU, ∃ o, h.get? b = some o ∧ ∀ v, o.data ≠ .cell v) (keep : ∀ i h h', tn i h → (∀ b ∈ fpU, ∀ o, h.get? b = some o → h'.get? b = some o) → tn i h')
    (up : ∀ (X : Cx) (pins : List (Addr × Obj)) (s : Shared) (σ : L2.St) (H : Hp) (i : Nat), X.prog = P → X.w = w → X.K = K → L2.Inv X pins σ H s → tn i s.heap → G H → ∃ u, St u i s.heap ∧ m u = n ∧ ∀ vals, i < n → Pt u i vals → Vals (row i) vals.toList)
    (down : ∀ u i h, St u i h → tn i h) (small : ∀ i, (row i).length ≤ sizeLine)
    (self : ∀ (A : Around) (i : Nat) (s : Shared) (Q : Value → Shared → Prop) (E : Value → Shared → Prop), tn i s.heap → Q (.ref it) s → wpAny (model P w) A (pyIter (.ref it)) Q E s) :
    Turn P w K (.Tuple elts kk tpos) (ItR n G row) fpU it tn where
  mem := mem
  obj := obj
  keep := keep
  item := by
    intro X hP hw hK hc i pins s σ H E I hf st ⟨hi, hg⟩
    obtain ⟨u, su, en, hv⟩ := up X pins s σ H i hP hw hK I st hg
    subst hP hw hK
    have Wu := W u X.A (I.ok.hd hc)
    refine Wu.item i s _ E (by rw [en]; exact hi) su fun T vals h1 tk p1 t1 tup mid k1 => ⟨.ref T, rfl, ?_⟩
    refine Wu.go elts kk tpos i T { s with heap := h1, toks := tk } _ E mid fun h2 st2 k2 => ?_
    have hn := I.hok.fresh t1
    have tup2 : PyProof.Rows.IsTup h2 T vals.toList.toArray := by
      have q : h2.IsTuple T vals := tup.at fun o e => k2 T o (Wu.apart i T h1 mid) e
      show h2.IsTuple T vals.toList.toArray
      simpa using q
    have I1 : L2.Inv X pins σ (upd H T (.tup (row i))) { s with heap := h2, toks := tk } :=
      I.turnedNew (ch := wr) (fun b o hb e => k2 b o hb (k1 b o hb e)) (fun b hb => hf b (wsub b hb)) t1 ⟨small i, vals.toList, hv vals hi p1, tup2⟩
    refine ⟨.ref T, _, I1, rfl, ⟨T, rfl, hn, rfl⟩, down u (i + 1) h2 st2, fun b hb => ?_⟩
    obtain ⟨o, e, _⟩ := obj i _ st b hb
    have hlt : b < s.heap.objs.size := Heap.lt_size e
    rw [upd_ne (Nat.ne_of_lt (Nat.lt_of_lt_of_le hlt t1))]
    exact (hf b hb).1
  done := by
    intro X hP hw hK hc i pins s σ H E I hf st ⟨hi, hg⟩
    obtain ⟨u, su, en, hv⟩ := up X pins s σ H i hP hw hK I st hg
    subst hP hw hK
    have Wu := W u X.A (I.ok.hd hc)
    refine Wu.done s _ E (by rw [en, ← hi]; exact su) fun h' tk hk => ⟨rfl, I.turnedL (ch := wr) (fun b o hb e => hk b o hb e) fun b hb => hf b (wsub b hb)⟩
  self := self
/-! enumerate -/
def enumRow (xs : List V) (i : Nat) : List V := match xs[i]? with
  | some x => [.int i, x]
  | none => []
theorem enumRow_small (xs : List V) (i : Nat) : (enumRow xs i).length ≤ sizeLine := by
  unfold enumRow
  split
  · show 2 ≤ sizeLine; decide
  · exact Nat.zero_le _
theorem turn_enumK {elts : List Expr} {kk : Nat} {tpos : Pos} (k : SK) {e it a : Addr} {xs : List V} (hei : e ≠ it) (hai : a ≠ it) (hea : e ≠ a) :
    Turn P w K (.Tuple elts kk tpos) (ItR xs.length (fun H => k.Sq K H a xs) (enumRow xs)) [e, it] e (fun i h => (∃ old, IsEnum h e it (0 + (i : Int)) old) ∧ k.At h it a i) :=
  turn_wt (ι := List Value) (fp := fun _ => e :: [it, a]) (m := fun its => its.toArray.size)
    (Pt := fun its i vals => ∃ t x, its.toArray[i]? = some x ∧ vals = #[.int (0 + (i : Int)) t, x])
    (St := fun its i h => (∃ old, IsEnum h e it (0 + (i : Int)) old) ∧ (k.At h it a i ∧ k.Is h a its.toArray))
    (fun its A hh => WalksT.enumFrom 0 (k.draws (A := A.in1) hh it a hai its.toArray) e hei (by simp [hei, hea]) (by simp))
    (by simp) (by simp)
    (fun i h st b hb => by
      obtain ⟨⟨old, he⟩, hit⟩ := st
      rcases List.mem_cons.mp hb with q | q
      · rw [q]; exact ⟨_, he, fun v z => by cases z⟩
      · rw [List.mem_singleton.mp q]; exact SK.atObj hit)
    (fun i h h' st hk => ⟨let ⟨old, he⟩ := st.1; ⟨old, hk e (by simp) _ he⟩, SK.atKeep st.2 fun o q => hk it (by simp) o q⟩)
    (fun X pins s σ H i hP hw hK I st hg => by
      subst hP hw hK
      obtain ⟨its, r, p, z, _⟩ := SK.read I hg
      refine ⟨its, ⟨st.1, st.2, p⟩, by simp [r.length], fun vals hi hp => ?_⟩
      obtain ⟨t, x, ex, rfl⟩ := hp
      obtain ⟨y, ey, ry⟩ := Vals.back r (show its[i]? = some x by simpa using ex)
      unfold enumRow
      rw [ey]
      exact .cons ⟨t, by simp⟩ (.cons ry .nil))
    (fun its i h st => ⟨st.1, st.2.1⟩) (enumRow_small xs)
    (fun A i s Q E st q => by
      obtain ⟨⟨old, he⟩, _⟩ := st
      exact wpAny_pyIter_enum he q)
/-! zip -/
def zipRow (xs ys : List V) (i : Nat) : List V := match xs[i]?, ys[i]? with
  | some x, some y => [x, y]
  | _, _ => []
theorem zipRow_small (xs ys : List V) (i : Nat) : (zipRow xs ys i).length ≤ sizeLine := by
  unfold zipRow
  split
  · show 2 ≤ sizeLine; decide
  · exact Nat.zero_le _
theorem turn_zipK {elts : List Expr} {kk : Nat} {tpos : Pos} (k1 k2 : SK) {z TI TO i1 i2 a b : Addr} {xs ys : List V} (S : ZipSep2 z TI TO i1 i2 [i1, a] [i2, b]) (ha : a ≠ i1) (hb : b ≠ i2) :
    Turn P w K (.Tuple elts kk tpos) (ItR (min xs.length ys.length) (fun H => k1.Sq K H a xs ∧ k2.Sq K H b ys) (zipRow xs ys)) [z, TI, TO, i1, i2] z
      (fun i h => IsZip h z TI TO .none ∧ IsTupOf2 h TI (.ref i1) (.ref i2) ∧ (∃ a1 a2, IsTupOf2 h TO a1 a2) ∧ k1.At h i1 a i ∧ k2.At h i2 b i) :=
  turn_wt (ι := List Value × List Value) (fp := fun _ => z :: TI :: TO :: ([i1, a] ++ [i2, b])) (wr := [z, TO, i1, i2]) (m := fun u => min u.1.toArray.size u.2.toArray.size)
    (Pt := fun u i vals => ∃ x1 x2, u.1.toArray[i]? = some x1 ∧ u.2.toArray[i]? = some x2 ∧ vals = #[x1, x2])
    (St := fun u i h => IsZip h z TI TO .none ∧ IsTupOf2 h TI (.ref i1) (.ref i2) ∧ (∃ a1 a2, IsTupOf2 h TO a1 a2) ∧ (k1.At h i1 a i ∧ k1.Is h a u.1.toArray) ∧ (k2.At h i2 b i ∧ k2.Is h b u.2.toArray))
    (fun u A hh => WalksT.zipD2 S (k1.draws (A := A.in1) hh i1 a ha u.1.toArray) (k2.draws (A := A.in1) hh i2 b hb u.2.toArray))
    (by simp) (by simp)
    (fun i h st c hc => by
      obtain ⟨hz, hTI, ⟨a1, a2, hTO⟩, h1, h2⟩ := st
      simp only [List.mem_cons, List.not_mem_nil, or_false] at hc
      rcases hc with q | q | q | q | q
      · rw [q]; exact ⟨_, hz, fun v z => by cases z⟩
      · rw [q]; exact ⟨_, hTI, fun v z => by cases z⟩
      · rw [q]; exact ⟨_, hTO, fun v z => by cases z⟩
      · rw [q]; exact SK.atObj h1
      · rw [q]; exact SK.atObj h2)
    (fun i h h' st hk => by
      obtain ⟨hz, hTI, ⟨a1, a2, hTO⟩, h1, h2⟩ := st
      exact ⟨hk z (by simp) _ hz, hk TI (by simp) _ hTI, ⟨a1, a2, hk TO (by simp) _ hTO⟩, SK.atKeep h1 fun o q => hk i1 (by simp) o q, SK.atKeep h2 fun o q => hk i2 (by simp) o q⟩)
    (fun X pins s σ H i hP hw hK I st hg => by
      subst hP hw hK
      obtain ⟨its, r, p, _, _⟩ := SK.read I hg.1
      obtain ⟨its2, r2, p2, _, _⟩ := SK.read I hg.2
      obtain ⟨hz, hTI, hTO, h1, h2⟩ := st
      refine ⟨(its, its2), ⟨hz, hTI, hTO, ⟨h1, p⟩, ⟨h2, p2⟩⟩, by simp [r.length, r2.length], fun vals hi hp => ?_⟩
      obtain ⟨x1, x2, e1, e2, rfl⟩ := hp
      obtain ⟨y, ey, ry⟩ := Vals.back r (show its[i]? = some x1 by simpa using e1)
      obtain ⟨y2, ey2, ry2⟩ := Vals.back r2 (show its2[i]? = some x2 by simpa using e2)
      unfold zipRow
      rw [ey, ey2]
      exact .cons ry (.cons ry2 .nil))
    (fun u i h st => ⟨st.1, st.2.1, st.2.2.1, st.2.2.2.1.1, st.2.2.2.2.1⟩) (zipRow_small xs ys)
    (fun A i s Q E st q => wpAny_pyIter_zip st.1 q)
end
section
variable {X : Cx}
/-- what is walked: a list or a tuple at a -/
def iEnumK (K : PySem.W.Frag) (ta : TA) : TI := fun σ H R => ta σ H fun vs H1 => ∃ (k : SK) (a : Addr) (xs : List V), vs = [.ref a] ∧ k.Sq K H1 a xs ∧ R (ItR xs.length (fun H => k.Sq K H a xs) (enumRow xs)) H1
theorem fpNew {pins : List (Addr × Obj)} {σ : L2.St} {H : Hp} {s : Shared} {b : Addr} (I : L2.Inv X pins σ H s) {s' : Shared} (I' : L2.Inv X pins σ H s') (h : s.heap.objs.size ≤ b) : FpOk X pins H b := I.fpOk h (I.hok.fresh h)
theorem pi_enumK {e : Expr} {ta : TA} {p pos tpos : Pos} {elts : List Expr} {kk : Nat} (hg : Gl X "enumerate") (hm : X.mg "enumerate" = none) (ha : PA X [e] ta) (hs : starEach [e] X.env = [(false, eval e X.env)] := by rfl) :
    PI X (.Tuple elts kk tpos) (.Call (.Name "enumerate" p) [e] [] pos) (iEnumK X.K ta) := by
  constructor
  intro pins s σ H R I h
  refine PyProof.Rows.Call_ (ld_blt I hg hm PyProof.Rows.boot_enumerate (PyProof.Rows.callWith_type1 (thn (ha.run pos pins s σ H _ I h) fun us s1 ⟨vs, H1, I1, r1, q1⟩ => ?_) hs rfl))
  obtain ⟨k, a, xs, ex, hq, q⟩ := q1
  subst ex
  cases r1 with
  | cons r rr =>
    cases rr
    cases r
    obtain ⟨its, rv, p', hz, hlt⟩ := SK.read I1 hq
    refine It.call_enum1 (k.begins a its.toArray) p' fun h' he hit hsz hk => wpAny_pyIter_enum he ?_
    have I2 : L2.Inv X pins σ H1 { s1 with heap := h' } := I1.kept (t' := s1.toks) hk
    refine ⟨s1.heap.objs.size + 1, [s1.heap.objs.size + 1, s1.heap.objs.size], _, _, H1, rfl, I2, turn_enumK k (e := s1.heap.objs.size + 1) (it := s1.heap.objs.size) (a := a) (xs := xs) (Nat.succ_ne_self _) (Nat.ne_of_lt hlt) (Nat.ne_of_gt (Nat.lt_succ_of_lt hlt)), ⟨⟨_, by simpa using he⟩, SK.at0 hit⟩, fun b hb => ?_, q⟩
    refine fpNew I1 I2 ?_
    rcases List.mem_cons.mp hb with z | z
    · rw [z]; exact Nat.le_succ _
    · rw [List.mem_singleton.mp z]; exact Nat.le_refl _
def iZipK (K : PySem.W.Frag) (ta : TA) : TI := fun σ H R => ta σ H fun vs H1 => ∃ (k1 k2 : SK) (a b : Addr) (xs ys : List V), vs = [.ref a, .ref b] ∧ k1.Sq K H1 a xs ∧ k2.Sq K H1 b ys ∧ R (ItR (min xs.length ys.length) (fun H => k1.Sq K H a xs ∧ k2.Sq K H b ys) (zipRow xs ys)) H1
theorem not2 {x p q : Nat} (h1 : x ≠ p) (h2 : x ≠ q) : x ∉ [p, q] := by simp [h1, h2]
theorem sep_new (n a b : Nat) (ha : a < n) (hb : b < n) : ZipSep2 (n + 4) (n + 2) (n + 3) n (n + 1) [n, a] [n + 1, b] :=
  ⟨(show (n + 2 : Nat) ≠ n + 4 by omega), (show (n + 3 : Nat) ≠ n + 4 by omega), (show (n + 2 : Nat) ≠ n + 3 by omega), (show (n + 2 : Nat) ≠ n by omega), List.mem_cons_self, not2 (by omega) (by omega), not2 (by omega) (by omega),
    (show (n + 2 : Nat) ≠ n + 1 by omega), List.mem_cons_self, not2 (by omega) (by omega), not2 (by omega) (by omega), not2 (by omega) (by omega), not2 (by omega) (by omega)⟩
theorem pi_zipK {e e2 : Expr} {ta : TA} {p pos tpos : Pos} {elts : List Expr} {kk : Nat} (hg : Gl X "zip") (hm : X.mg "zip" = none) (ha : PA X [e, e2] ta)
    (hs : starEach [e, e2] X.env = (false, eval e X.env) :: starEach [e2] X.env := by rfl) (hpl : (backTo pos (starEach [e2] X.env)).any (·.1) = false := by rfl) :
    PI X (.Tuple elts kk tpos) (.Call (.Name "zip" p) [e, e2] [] pos) (iZipK X.K ta) := by
  constructor
  intro pins s σ H R I h
  refine PyProof.Rows.Call_ (ld_blt I hg hm PyProof.Rows.boot_zip (PyProof.Rows.callWith_type1 (thn (ha.run pos pins s σ H _ I h) fun us s1 ⟨vs, H1, I1, r1, q1⟩ => ?_) hs hpl))
  obtain ⟨k1, k2, a, b, xs, ys, ex, hq1, hq2, q⟩ := q1
  subst ex
  obtain ⟨u1, u2, rfl, r, r'⟩ := vals2 r1
  cases r
  cases r'
  obtain ⟨its, rv, p1, _, hlt⟩ := SK.read I1 hq1
  obtain ⟨its2, rv2, p2, _, hlt2⟩ := SK.read I1 hq2
  refine zip_begins2 (k1.begins a its.toArray) (k2.begins b its2.toArray) p1 p2 fun h' hz hTI hTO e1 e2 hsz hk => wpAny_pyIter_zip hz ?_
  have I2 : L2.Inv X pins σ H1 { s1 with heap := h' } := I1.kept (t' := s1.toks) hk
  refine ⟨s1.heap.objs.size + 4, [s1.heap.objs.size + 4, s1.heap.objs.size + 2, s1.heap.objs.size + 3, s1.heap.objs.size, s1.heap.objs.size + 1], _, _, H1, rfl, I2,
    turn_zipK k1 k2 (xs := xs) (ys := ys) (sep_new s1.heap.objs.size a b hlt hlt2) (Nat.ne_of_lt hlt) (Nat.ne_of_lt (Nat.lt_succ_of_lt hlt2)), ⟨hz, hTI, ⟨_, _, hTO⟩, SK.at0 e1, SK.at0 e2⟩, fun c hc => ?_, q⟩
  refine fpNew I1 I2 ?_
  simp only [List.mem_cons, List.not_mem_nil, or_false] at hc
  rcases hc with z | z | z | z | z <;> rw [z] <;> first | exact Nat.le_refl _ | exact Nat.le_add_right _ _
end
end FL

set_option Elab.async false
set_option linter.all false
set_option maxRecDepth 100000
set_option maxHeartbeats 4000000
/-! FL8: what is walked, targets, list comprehensions. -/
namespace FL
open PySem PySem.Spec L2

/-! ### what is walked -/
/-- the cells of L, and all that never changes, stand -/
def KeepL (z : Zn) (L : Addr → Prop) (H H' : Hp) : Prop := ∀ a x, H a = some x → ¬ Zm z a → (L a ∨ stays x) → H' a = some x
theorem Keep.l {z : Zn} {L : Addr → Prop} {H H' : Hp} (k : Keep z H H') : KeepL z L H H' := fun a x e n _ => k a x e n
structure WalkD (w : World) (K : PySem.W.Frag) (z : Zn) (H1 : Hp) (J : It) (L : Addr → Prop) (ds : List D) : Prop where
  go : ∀ i H, i < ds.length → KeepL z L H1 H → J.go i H
  stop : ∀ H, KeepL z L H1 H → J.stop ds.length H
  yld : ∀ i H x H' d s, ds[i]? = some d → KeepL z L H1 H → ZRep z H s → J.yld i H x H' → Keep z H H' ∧ ZRep z H' s ∧ ∃ fp, Rp w K z H' x d fp ∧ ∀ a ∈ fp, L a
  len : ds.length ≤ sizeLine
/-- whose cells these are: new ones (pNew), or also those of the names (pAny) -/
abbrev PW2 := Hp → (Addr → Prop) → Addr → Prop
abbrev pNew : PW2 := fun H _ a => H a = none
abbrev pAny : PW2 := fun H B a => H a = none ∨ B a
def tBP (P : PW2) (w : World) (K : PySem.W.Frag) (f : Ev → Mo D) : TE := fun σ H Q => ∃ z B ρ s d s', EIn w K z B H σ ρ s ∧ f ρ s = some (d, s') ∧
  ∀ v H' fp, Keep z H H' → Rp w K z H' v d fp → (∀ a ∈ fp, P H B a) → ZRep z H' s' → Q v H'
def tAP (P : PW2) (w : World) (K : PySem.W.Frag) (f : Ev → Mo (List D)) : TA := fun σ H Q => ∃ z B ρ s ds s', EIn w K z B H σ ρ s ∧ f ρ s = some (ds, s') ∧
  ∀ vs H' fp, Keep z H H' → RpA w K z H' vs ds fp → (∀ a ∈ fp, P H B a) → ZRep z H' s' → Q vs H'
def BP (P : PW2) (X : Cx) (e : Expr) (f : Ev → Mo D) : Prop := PE X e (tBP P X.w X.K f)
def AP (P : PW2) (X : Cx) (es : List Expr) (f : Ev → Mo (List D)) : Prop := PA X es (tAP P X.w X.K f)
theorem B.p {X : Cx} {e : Expr} {f : Ev → Mo D} (h : B X e f) : BP pAny X e f := h
theorem AB.p {X : Cx} {es : List Expr} {f : Ev → Mo (List D)} (h : AB X es f) : AP pAny X es f := h
theorem E.p {X : Cx} {e : Expr} {f : Ev → Mo D} (h : E X e f) : BP pNew X e f := PE.weak h fun σ H Q ⟨z, Bs, ρ, s, d, s', I, hf, k⟩ => ⟨z, Bs, ρ, s, d, s', I, hf, fun v H' fp hk r fr _ hz => k v H' fp hk r fr hz⟩
theorem AE.p {X : Cx} {es : List Expr} {f : Ev → Mo (List D)} (h : AE X es f) : AP pNew X es f := PA.weak h fun σ H Q ⟨z, Bs, ρ, s, d, s', I, hf, k⟩ => ⟨z, Bs, ρ, s, d, s', I, hf, fun v H' fp hk r fr _ hz => k v H' fp hk r fr hz⟩
def tI (P : PW2) (w : World) (K : PySem.W.Frag) (f : Ev → Mo (List D)) : TI := fun σ H R => ∃ z B ρ s ds s', EIn w K z B H σ ρ s ∧ f ρ s = some (ds, s') ∧
  ∀ J H1 L, Keep z H H1 → ZRep z H1 s' → (∀ a, L a → H1 a ≠ none) → (∀ a, L a → P H B a) → WalkD w K z H1 J L ds → R J H1
def I (P : PW2) (X : Cx) (tg it : Expr) (f : Ev → Mo (List D)) : Prop := PI X tg it (tI P X.w X.K f)
theorem PI.weak {X : Cx} {tg it : Expr} {t t' : TI} (h : PI X tg it t) (i : ∀ σ H Q, t' σ H Q → t σ H Q) : PI X tg it t' := ⟨fun pins s σ H Q I q => h.run pins s σ H Q I (i σ H Q q)⟩
theorem PI.or {X : Cx} {tg it : Expr} {t t' : TI} (h : PI X tg it t) (h' : PI X tg it t') : PI X tg it (fun σ H Q => t σ H Q ∨ t' σ H Q) := ⟨fun pins s σ H Q I q => q.elim (h.run pins s σ H Q I) (h'.run pins s σ H Q I)⟩
def items : D → Option (List D)
  | .lst xs => some xs
  | .tup xs => some xs
  | _ => none
def fItems (f : Ev → Mo D) : Ev → Mo (List D) := fun ρ => (f ρ).bind fun d => Mo.ofO (items d)
theorem I.any {X : Cx} {tg it : Expr} {f : Ev → Mo (List D)} (h : I pNew X tg it f) : I pAny X tg it f := PI.weak h fun σ H Q ⟨z, Bs, ρ, s, d, s', I, hf, k⟩ => ⟨z, Bs, ρ, s, d, s', I, hf, fun J H1 L k1 z1 l1 l2 W => k J H1 L k1 z1 l1 (fun a h => .inl (l2 a h)) W⟩
section
variable {X : Cx} {tg : Expr} {P : PW2}
theorem walkD_sq {w : World} {K : PySem.W.Frag} {z : Zn} {H1 : Hp} {J : It} {L : Addr → Prop} {ds : List D} {k : SK} {a : Addr} {vs : List V} {fq : List Addr} (hJ : J = match k with | .l => Itl K a | .t => Itt K a)
    (sq : ∀ H, KeepL z L H1 H → k.Sq K H a vs) (l : vs.length ≤ sizeLine) (r : RpA w K z H1 vs ds fq) (m : ∀ b ∈ fq, L b) : WalkD w K z H1 J L ds := by
  have el := r.length
  have W : Walk J vs.length (fun H => k.Sq K H a vs) (YAt vs) := by
    subst hJ
    cases k
    · exact walk_list
    · exact walk_tup
  refine ⟨fun i H hi q => W.goes i H (by omega) (sq H q), fun H q => el ▸ W.stops H (sq H q), fun i H x H' d s e q zr y => ?_, by omega⟩
  have hi : i < vs.length := by rw [el]; exact (List.getElem?_eq_some_iff.mp e).1
  obtain ⟨eH, ex⟩ := W.yields i H x H' hi (sq H q) y
  subst eH
  obtain ⟨v, f, ev, rv, mf⟩ := r.get e
  rw [ex] at ev
  cases ev
  exact ⟨Keep.refl _, zr, f, Rp.keep _ rv fun b o eb n hb => q b o eb n (hb.imp (fun z => m b (mf b z)) id), fun b hb => m b (mf b hb)⟩
theorem i_seq {e : Expr} {f : Ev → Mo D} (h : BP P X e f) : I P X tg e (fItems f) := PI.weak (PI.or (pi_list h) (pi_tup h)) fun σ H R ⟨z, Bs, ρ, s, ds, s', I, hf, k⟩ => by
  obtain ⟨d, s1, h1, h2⟩ := Mo.bind_some hf
  obtain ⟨e, rfl⟩ := Mo.ofO_some' h2
  have go : ∀ (kd : SK), (∀ (v : V) H1 fp, Keep z H H1 → Rp X.w X.K z H1 v d fp → (∀ a ∈ fp, P H Bs a) → ZRep z H1 s' → ∃ (a : Addr) (vs : List V) (fq : List Addr), v = .ref a ∧ kd.Sq X.K H1 a vs ∧ vs.length ≤ sizeLine ∧ RpA X.w X.K z H1 vs ds fq ∧ (∀ b ∈ fq, b ∈ fp) ∧ ∀ (L : Addr → Prop) H', (∀ b ∈ fp, L b) → KeepL z L H1 H' → kd.Sq X.K H' a vs) →
      tBP P X.w X.K f σ H fun x H1 => ∃ a, x = .ref a ∧ (∃ xs, kd.Sq X.K H1 a xs) ∧ R (match kd with | .l => Itl X.K a | .t => Itt X.K a) H1 := fun kd hk => by
    refine ⟨z, Bs, ρ, s, d, s', I, h1, fun v H1 fp k1 r f1 z1 => ?_⟩
    obtain ⟨a, vs, fq, ev, sq, l, ra, m, kp⟩ := hk v H1 fp k1 r f1 z1
    refine ⟨a, ev, ⟨vs, sq⟩, k _ H1 (fun b => b ∈ fp) k1 z1 (fun b hb => (Rp.there _ r b hb).1) f1 (walkD_sq rfl (fun H' q => kp _ H' (fun b hb => hb) q) l ra m)⟩
  cases d <;> try (cases e; done)
  · refine .inr (go .t fun v H1 fp k1 r f1 z1 => ?_)
    cases e
    cases r with
    | tup h n l r => exact ⟨_, _, fp, rfl, h, l, r, fun b m => m, fun L H' m k => SqT.keepz h fun x ex s => k _ x ex n (.inr s)⟩
  · refine .inl (go .l fun v H1 fp k1 r f1 z1 => ?_)
    cases e
    cases r with
    | lst h n l r => exact ⟨_, _, _, rfl, .inl (.inl h), l, r, fun b m => List.mem_cons_of_mem _ m, fun L H' m k => .inl (.inl (k _ _ h n (.inl (m _ List.mem_cons_self))))⟩
/-! ranges -/
def rangeD (lo hi : Int) : List D := (List.range (hi - lo).toNat).map fun (k : Nat) => D.int (lo + (k : Int))
def rgOk (lo hi : Int) : Bool := decide (-(2 ^ 62) ≤ lo) && decide (lo < 2 ^ 62) && decide (-(2 ^ 62) ≤ hi) && decide (hi < 2 ^ 62) && decide ((hi - lo).toNat ≤ sizeLine)
def dRange1 : List D → Option (List D)
  | [.int j] => if rgOk 0 j then some (rangeD 0 j) else none
  | _ => none
def dRange2 : List D → Option (List D)
  | [.int i, .int j] => if rgOk i j then some (rangeD i j) else none
  | _ => none
def fRange1 (g : Ev → Mo (List D)) : Ev → Mo (List D) := fun ρ => (g ρ).bind fun ds => Mo.ofO (dRange1 ds)
def fRange2 (g : Ev → Mo (List D)) : Ev → Mo (List D) := fun ρ => (g ρ).bind fun ds => Mo.ofO (dRange2 ds)
theorem rgOk_iff {lo hi : Int} (h : rgOk lo hi = true) : -(2 ^ 62) ≤ lo ∧ lo < 2 ^ 62 ∧ -(2 ^ 62) ≤ hi ∧ hi < 2 ^ 62 ∧ (hi - lo).toNat ≤ sizeLine := by
  unfold rgOk at h
  simp only [Bool.and_eq_true, decide_eq_true_eq] at h
  exact ⟨h.1.1.1.1, h.1.1.1.2, h.1.1.2, h.1.2, h.2⟩
theorem walkD_rg {w : World} {K : PySem.W.Frag} {z : Zn} {H1 : Hp} {L : Addr → Prop} {lo hi : Int} (g : (hi - lo).toNat ≤ sizeLine) : WalkD w K z H1 (Itr lo (hi - lo).toNat) L (rangeD lo hi) := by
  have W : Walk (Itr lo (hi - lo).toNat) (hi - lo).toNat (fun _ => True) (YFn fun i => .int (lo + i)) := walk_range
  have el : (rangeD lo hi).length = (hi - lo).toNat := by unfold rangeD; rw [List.length_map, List.length_range]
  refine ⟨fun i H h _ => W.goes i H (by omega) trivial, fun H _ => el ▸ W.stops H trivial, fun i H x H' d s e q zr y => ?_, by omega⟩
  have h : i < (hi - lo).toNat := by rw [← el]; exact (List.getElem?_eq_some_iff.mp e).1
  obtain ⟨eH, ex⟩ := W.yields i H x H' h trivial y
  subst eH ex
  unfold rangeD at e
  rw [List.getElem?_map, List.getElem?_range h] at e
  cases e
  exact ⟨Keep.refl _, zr, [], .int _, fun a m => by cases m⟩
theorem i_range1 {a : Expr} {g : Ev → Mo (List D)} {p pos : Pos} (hg : Gl X "range") (hm : X.mg "range" = none) (ha : AB X [a] g) (hs : starEach [a] X.env = [(false, eval a X.env)] := by rfl) : I P X tg (.Call (.Name "range" p) [a] [] pos) (fRange1 g) :=
  PI.weak (pi_range1 hg hm ha hs) fun σ H R ⟨z, Bs, ρ, s, ds, s', I, hf, k⟩ => by
    obtain ⟨as, s1, h1, h2⟩ := Mo.bind_some hf
    obtain ⟨e, rfl⟩ := Mo.ofO_some' h2
    refine ⟨z, Bs, ρ, s, as, s', I, h1, fun vs H1 fp k1 r f1 z1 => ?_⟩
    unfold dRange1 at e
    split at e
    · split at e
      · rename_i j g
        cases e
        obtain ⟨v, rfl, r1⟩ := r.one rfl
        cases r1
        obtain ⟨g1, g2, g3, g4, g5⟩ := rgOk_iff g
        refine ⟨j, rfl, g3, g4, ?_⟩
        have e0 : j.toNat = (j - 0).toNat := by omega
        rw [e0]
        exact k _ H1 (fun _ => False) k1 z1 (fun _ h => h.elim) (fun _ h => h.elim) (walkD_rg g5)
      · cases e
    · cases e
theorem i_range2 {a b : Expr} {g : Ev → Mo (List D)} {p pos : Pos} (hg : Gl X "range") (hm : X.mg "range" = none) (ha : AB X [a, b] g) (hs : starEach [a, b] X.env = [(false, eval a X.env), (false, eval b X.env)] := by rfl) (hs2 : starEach [b] X.env = [(false, eval b X.env)] := by rfl) :
    I P X tg (.Call (.Name "range" p) [a, b] [] pos) (fRange2 g) :=
  PI.weak (pi_range2 hg hm ha hs hs2) fun σ H R ⟨z, Bs, ρ, s, ds, s', I, hf, k⟩ => by
    obtain ⟨as, s1, h1, h2⟩ := Mo.bind_some hf
    obtain ⟨e, rfl⟩ := Mo.ofO_some' h2
    refine ⟨z, Bs, ρ, s, as, s', I, h1, fun vs H1 fp k1 r f1 z1 => ?_⟩
    unfold dRange2 at e
    split at e
    · split at e
      · rename_i i j g
        cases e
        cases r with
        | cons ha hb =>
          cases hb with
          | cons hb hc =>
            cases hc
            cases ha
            cases hb
            obtain ⟨g1, g2, g3, g4, g5⟩ := rgOk_iff g
            exact ⟨i, j, rfl, ⟨g1, g2, g3, g4⟩, k _ H1 (fun _ => False) k1 z1 (fun _ h => h.elim) (fun _ h => h.elim) (walkD_rg g5)⟩
      · cases e
    · cases e
end
/-! enumerate, zip -/
def enumD (ds : List D) : List D := ds.zipIdx.map fun p => D.tup [.int (p.2 : Int), p.1]
def zipD (xs ys : List D) : List D := (xs.zip ys).map fun p => D.tup [p.1, p.2]
def dEnum : List D → Option (List D)
  | [d] => (items d).map enumD
  | _ => none
def dZip : List D → Option (List D)
  | [a, b] => (items a).bind fun xs => (items b).map fun ys => zipD xs ys
  | _ => none
def fEnum (g : Ev → Mo (List D)) : Ev → Mo (List D) := fun ρ => (g ρ).bind fun ds => Mo.ofO (dEnum ds)
def fZip (g : Ev → Mo (List D)) : Ev → Mo (List D) := fun ρ => (g ρ).bind fun ds => Mo.ofO (dZip ds)
section
variable {w : World} {K : PySem.W.Frag} {z : Zn} {H : Hp}
/-- a list or a tuple of data, read -/
theorem Rp.sq {v : V} {d : D} {fp : List Addr} {ds : List D} (r : Rp w K z H v d fp) (e : FL.items d = some ds) :
    ∃ (k : SK) (a : Addr) (vs : List V) (fq : List Addr), v = .ref a ∧ k.Sq K H a vs ∧ vs.length ≤ sizeLine ∧ RpA w K z H vs ds fq ∧ (∀ b ∈ fq, b ∈ fp) ∧ ∀ (L : Addr → Prop) H', (∀ b ∈ fp, L b) → KeepL z L H H' → k.Sq K H' a vs := by
  cases d <;> try (cases e; done)
  · cases e
    cases r with
    | tup h n l r => exact ⟨.t, _, _, fp, rfl, h, l, r, fun b m => m, fun L H' m k => SqT.keepz h fun x ex s => k _ x ex n (.inr s)⟩
  · cases e
    cases r with
    | lst h n l r => exact ⟨.l, _, _, _, rfl, .inl (.inl h), l, r, fun b m => List.mem_cons_of_mem _ m, fun L H' m k => .inl (.inl (k _ _ h n (.inl (m _ List.mem_cons_self))))⟩
theorem pairOut {s : Ds} {T : Addr} {v u : V} {d e : D} {f g : List Addr} (zr : ZRep z H s) (nT : H T = none) (rv : Rp w K z H v d f) (ru : Rp w K z H u e g) : Keep z H (upd H T (.tup [v, u])) ∧ ZRep z (upd H T (.tup [v, u])) s ∧ Rp w K z (upd H T (.tup [v, u])) (.ref T) (.tup [d, e]) (f ++ g) := by
  refine ⟨Keep.upd nT, zr.upd nT, ?_⟩
  have := Rp.newT zr nT (by show 2 ≤ sizeLine; decide) (.cons rv (.cons ru .nil))
  rwa [List.append_nil] at this
end
section
variable {X : Cx} {elts : List Expr} {kk : Nat} {tpos : Pos} {P : PW2}
theorem i_enum {e : Expr} {g : Ev → Mo (List D)} {p pos : Pos} (hg : Gl X "enumerate") (hm : X.mg "enumerate" = none) (ha : AP P X [e] g) (hs : starEach [e] X.env = [(false, eval e X.env)] := by rfl) :
    I P X (.Tuple elts kk tpos) (.Call (.Name "enumerate" p) [e] [] pos) (fEnum g) := PI.weak (pi_enumK hg hm ha hs) fun σ H R ⟨z, Bs, ρ, s, ds, s', I, hf, k⟩ => by
  obtain ⟨as, s1, h1, h2⟩ := Mo.bind_some hf
  obtain ⟨e, rfl⟩ := Mo.ofO_some' h2
  refine ⟨z, Bs, ρ, s, as, s', I, h1, fun vs H1 fp k1 r f1 z1 => ?_⟩
  unfold dEnum at e
  split at e
  · rename_i d
    cases ei : items d with
    | none => rw [ei] at e; cases e
    | some xs =>
      rw [ei] at e
      cases e
      obtain ⟨v, rfl, r1⟩ := r.one rfl
      obtain ⟨kd, a, vx, fq, rfl, sq, l, ra, m, kp⟩ := r1.sq ei
      refine ⟨kd, a, vx, rfl, sq, k _ H1 (fun b => b ∈ fp) k1 z1 (fun b hb => (Rp.there _ r1 b hb).1) f1 ?_⟩
      have el := ra.length
      have en : (enumD xs).length = xs.length := by unfold enumD; rw [List.length_map, List.length_zipIdx]
      refine ⟨fun i H hi q => ⟨by omega, kp _ _ (fun b hb => hb) q⟩, fun H q => ⟨by omega, kp _ _ (fun b hb => hb) q⟩, fun i H x H' d' s2 e q zr y => ?_, by omega⟩
      obtain ⟨T, rfl, nT, rfl⟩ := y
      unfold enumD at e
      rw [List.getElem?_map, List.getElem?_zipIdx] at e
      cases ex : xs[i]? with
      | none => rw [ex] at e; cases e
      | some xd =>
        rw [ex] at e
        simp only [Option.map_some, Option.some.injEq, Nat.zero_add] at e
        subst e
        obtain ⟨v', f, ev, rv, mf⟩ := ra.get ex
        have row : enumRow vx i = [.int i, v'] := by unfold enumRow; rw [ev]
        rw [row]
        have rv' := Rp.keep _ rv fun b o eb n hb => q b o eb n (hb.imp (fun z => m b (mf b z)) id)
        obtain ⟨o1, o2, o3⟩ := pairOut zr nT (.int (i : Int)) rv'
        exact ⟨o1, o2, _, o3, fun b hb => m b (mf b (by simpa using hb))⟩
  · cases e
theorem i_zip {e e2 : Expr} {g : Ev → Mo (List D)} {p pos : Pos} (hg : Gl X "zip") (hm : X.mg "zip" = none) (ha : AP P X [e, e2] g)
    (hs : starEach [e, e2] X.env = (false, eval e X.env) :: starEach [e2] X.env := by rfl) (hpl : (backTo pos (starEach [e2] X.env)).any (·.1) = false := by rfl) :
    I P X (.Tuple elts kk tpos) (.Call (.Name "zip" p) [e, e2] [] pos) (fZip g) := PI.weak (pi_zipK hg hm ha hs hpl) fun σ H R ⟨z, Bs, ρ, s, ds, s', I, hf, k⟩ => by
  obtain ⟨as, s1, h1, h2⟩ := Mo.bind_some hf
  obtain ⟨e, rfl⟩ := Mo.ofO_some' h2
  refine ⟨z, Bs, ρ, s, as, s', I, h1, fun vs H1 fp k1 r f1 z1 => ?_⟩
  unfold dZip at e
  split at e
  · rename_i d1 d2
    cases ei : items d1 with
    | none => rw [ei] at e; cases e
    | some xs =>
      cases ej : items d2 with
      | none => rw [ei, ej] at e; cases e
      | some ys =>
        rw [ei, ej] at e
        cases e
        cases r with
        | cons r1 t =>
          cases t with
          | cons r2 t =>
            cases t
            obtain ⟨kd, a, vx, fq, rfl, sq, l, ra, m, kp⟩ := r1.sq ei
            obtain ⟨kd2, a2, vy, fq2, rfl, sq2, l2, ra2, m2, kp2⟩ := r2.sq ej
            rename_i fa fb
            have mm1 : ∀ b ∈ fa, b ∈ fa ++ (fb ++ []) := fun b hb => List.mem_append_left _ hb
            have mm2 : ∀ b ∈ fb, b ∈ fa ++ (fb ++ []) := fun b hb => List.mem_append_right _ (List.mem_append_left _ hb)
            refine ⟨kd, kd2, a, a2, vx, vy, rfl, sq, sq2, k _ H1 (fun b => b ∈ fa ++ (fb ++ [])) k1 z1 (fun b hb => ?_) f1 ?_⟩
            · rcases List.mem_append.mp hb with q | q
              · exact (Rp.there _ r1 b q).1
              · rw [List.append_nil] at q
                exact (Rp.there _ r2 b q).1
            have el := ra.length
            have el2 := ra2.length
            have en : (zipD xs ys).length = min xs.length ys.length := by unfold zipD; rw [List.length_map, List.length_zip]
            show WalkD X.w X.K z H1 _ _ (zipD xs ys)
            refine ⟨fun i H hi q => ⟨by omega, kp _ _ mm1 q, kp2 _ _ mm2 q⟩, fun H q => ⟨by omega, kp _ _ mm1 q, kp2 _ _ mm2 q⟩, fun i H x H' d' s2 e q zr y => ?_, by omega⟩
            obtain ⟨T, rfl, nT, rfl⟩ := y
            unfold zipD at e
            rw [List.getElem?_map] at e
            cases exy : (xs.zip ys)[i]? with
            | none => rw [exy] at e; cases e
            | some pr =>
              rw [exy] at e
              cases e
              obtain ⟨ex, ey⟩ := List.getElem?_zip_eq_some.mp exy
              obtain ⟨v', f, ev, rv, mf⟩ := ra.get ex
              obtain ⟨u', f2, eu, ru, mf2⟩ := ra2.get ey
              have row : zipRow vx vy i = [v', u'] := by unfold zipRow; rw [ev, eu]
              rw [row]
              have rv' := Rp.keep _ rv fun b o eb n hb => q b o eb n (hb.imp (fun z => mm1 b (m b (mf b z))) id)
              have ru' := Rp.keep _ ru fun b o eb n hb => q b o eb n (hb.imp (fun z => mm2 b (m2 b (mf2 b z))) id)
              obtain ⟨o1, o2, o3⟩ := pairOut zr nT rv' ru'
              refine ⟨o1, o2, _, o3, fun b hb => ?_⟩
              rcases List.mem_append.mp hb with q | q
              · exact mm1 b (m b (mf b q))
              · exact mm2 b (m2 b (mf2 b q))
  · cases e
end
end FL

set_option Elab.async false
set_option linter.all false
set_option maxRecDepth 100000
set_option maxHeartbeats 4000000
/-! FL9: targets, list comprehensions. -/
namespace FL
open PySem PySem.Spec L2

/-! ### targets -/
inductive Tg where
  | n (i : Nat) | t (is : List Nat)
def Tg.slots : Tg → List Nat
  | .n i => [i]
  | .t is => is
def setV (σ : L2.St) : List Nat → List V → L2.St
  | i :: is, v :: vs => setV (σ.set i (some v)) is vs
  | _, _ => σ
def setE (ρ : Ev) : List Nat → List D → Ev
  | i :: is, d :: ds => setE (ρ.set i (some d)) is ds
  | _, _ => ρ
def gTg (K : PySem.W.Frag) : Tg → TG
  | .n i => gName i
  | .t is => fun v σ H Q => ∃ a xs, v = .ref a ∧ SqT K H a xs ∧ xs.length = is.length ∧ Q (setV σ is xs) H
def gNs (is : List Nat) : TGs := fun vs σ H Q => vs.length = is.length ∧ Q (setV σ is vs) H
def G (X : Cx) (target : Expr) (tg : Tg) : Prop := PG X target (gTg X.K tg)
section
variable {X : Cx}
theorem g_n {i : Nat} {x : Str} {pos : Pos} (hN : X.N.Nodup) (hi : X.N[i]? = some x := by rfl) (hx : Loc X.env.scope x := by first | exact Or.inl rfl | exact Or.inr rfl) (hf : X.fn x = true ∨ X.env.scope.names.lookup x = some .local := by first | exact .inl rfl | exact .inr rfl) : G X (.Name x pos) (.n i) := pg_name hN hi hx hf
theorem gs_nil : PGs X [] (gNs []) := ⟨fun pins s σ H vs us Q I r h => pgs_nil.run pins s σ H vs us Q I r (by
  obtain ⟨e, q⟩ := h
  have : vs = [] := List.eq_nil_of_length_eq_zero e
  subst this
  exact ⟨rfl, q⟩)⟩
theorem gs_cons {i : Nat} {is : List Nat} {x : Str} {pos : Pos} {es : List Expr} (h : PGs X es (gNs is)) (hN : X.N.Nodup) (hi : X.N[i]? = some x := by rfl) (hx : Loc X.env.scope x := by first | exact Or.inl rfl | exact Or.inr rfl) (hf : X.fn x = true ∨ X.env.scope.names.lookup x = some .local := by first | exact .inl rfl | exact .inr rfl)
    (hs : (assignEach (.Name x pos :: es) X.env).map (·.2) = assign (.Name x pos) X.env :: (assignEach es X.env).map (·.2) := by rfl) : PGs X (.Name x pos :: es) (gNs (i :: is)) :=
  ⟨fun pins s σ H vs us Q I r q => (pgs_cons (pg_name hN hi hx hf) h hs).run pins s σ H vs us Q I r (by
    obtain ⟨e, q⟩ := q
    cases vs with
    | nil => cases e
    | cons v vs => exact ⟨v, vs, rfl, Nat.succ.inj e, q⟩)⟩
theorem g_t {is : List Nat} {es : List Expr} {k : Nat} {pos : Pos} (hc : X.calm = true) (h : PGs X es (gNs is)) (hn : (assignEach es X.env).length = is.length := by rfl) (hst : (assignEach es X.env).findIdx? (·.1) = none := by rfl) : G X (.Tuple es k pos) (.t is) :=
  ⟨fun pins s σ H v u Q I r q => (pg_tup hc h hn hst).run pins s σ H v u Q I r (by
    obtain ⟨a, xs, e1, e2, e3, q⟩ := q
    exact ⟨a, xs, e1, e2, e3, e3, q⟩)⟩
end
def bindE : Tg → D → Ev → Option Ev
  | .n i, d, ρ => some (ρ.set i (some d))
  | .t is, .tup ds, ρ => if decide (ds.length = is.length) then some (setE ρ is ds) else none
  | _, _, _ => none
/-! forgotten slots -/
def wipeE (ρ : Ev) : List Nat → Ev
  | [] => ρ
  | v :: vs => (wipeE ρ vs).set v none
theorem wipeE_length (ρ : Ev) : ∀ vs : List Nat, (wipeE ρ vs).length = ρ.length
  | [] => rfl
  | v :: vs => by unfold wipeE; rw [List.length_set, wipeE_length ρ vs]
theorem wipeE_some {ρ : Ev} {i : Nat} {x : D} : ∀ {vs : List Nat}, (wipeE ρ vs)[i]? = some (some x) → ρ[i]? = some (some x) ∧ i ∉ vs
  | [], h => ⟨h, by simp⟩
  | v :: vs, h => by
    unfold wipeE at h
    by_cases hi : v = i
    · subst hi
      rw [List.getElem?_set] at h
      simp only [if_true] at h
      split at h <;> cases h
    · rw [List.getElem?_set_ne hi] at h
      obtain ⟨h1, h2⟩ := wipeE_some h
      exact ⟨h1, fun m => (List.mem_cons.mp m).elim (fun e => hi e.symm) h2⟩
theorem set_comm' {α : Type} (l : List α) {i j : Nat} (a b : α) (h : i ≠ j) : (l.set i a).set j b = (l.set j b).set i a := List.set_comm a b h
theorem wipe_set (σ : L2.St) (i : Nat) (x : Option V) : ∀ vs : List Nat, wipe (σ.set i x) vs = if i ∈ vs then wipe σ vs else (wipe σ vs).set i x
  | [] => by simp [wipe]
  | v :: vs => by
    unfold wipe
    rw [wipe_set σ i x vs]
    by_cases h : i ∈ vs
    · simp [h]
    · by_cases e : i = v
      · subst e
        simp [h]
      · simp only [h, e, if_false, List.mem_cons, or_self]
        rw [set_comm' _ _ _ e]
theorem wipe_wipe (σ : L2.St) (vs : List Nat) : ∀ us : List Nat, (∀ u ∈ us, u ∈ vs) → wipe (wipe σ us) vs = wipe σ vs
  | [], _ => rfl
  | u :: us, h => by
    show wipe ((wipe σ us).set u none) vs = _
    rw [wipe_set, if_pos (h u List.mem_cons_self), wipe_wipe σ vs us fun w m => h w (List.mem_cons_of_mem _ m)]
theorem wipe_setV (vs : List Nat) : ∀ (is : List Nat) (xs : List V) (σ : L2.St), (∀ i ∈ is, i ∈ vs) → wipe (setV σ is xs) vs = wipe σ vs
  | [], _, _, _ => by unfold setV; rfl
  | i :: is, [], _, _ => by unfold setV; rfl
  | i :: is, x :: xs, σ, h => by
    unfold setV
    rw [wipe_setV vs is xs _ fun j m => h j (List.mem_cons_of_mem _ m), wipe_set, if_pos (h i List.mem_cons_self)]
section
variable {w : World} {K : PySem.W.Frag} {z : Zn} {H : Hp}
/-- slots told, their cells within B -/
structure VIn (w : World) (K : PySem.W.Frag) (z : Zn) (B : Addr → Prop) (H : Hp) (σ : L2.St) (ρ : Ev) : Prop where
  v : VRep w K z B H σ ρ
  len : σ.length = ρ.length
theorem VIn.set {B : Addr → Prop} {σ : L2.St} {ρ : Ev} {i : Nat} {v : V} {d : D} {fp : List Addr} (h : VIn w K z B H σ ρ) (r : Rp w K z H v d fp) (m : ∀ a ∈ fp, B a) : VIn w K z B H (σ.set i (some v)) (ρ.set i (some d)) := by
  refine ⟨fun j d' e => ?_, by rw [List.length_set, List.length_set, h.len]⟩
  by_cases hj : i = j
  · subst hj
    have hi : i < ρ.length := by
      have := (List.getElem?_eq_some_iff.mp e).1
      rwa [List.length_set] at this
    rw [List.getElem?_set_self hi] at e
    cases e
    exact ⟨v, fp, List.getElem?_set_self (by rw [h.len]; exact hi), r, m⟩
  · rw [List.getElem?_set_ne hj] at e
    obtain ⟨v', f, e1, r1, m1⟩ := h.v j d' e
    exact ⟨v', f, by rw [List.getElem?_set_ne hj]; exact e1, r1, m1⟩
theorem VIn.setL {B : Addr → Prop} : ∀ {is : List Nat} {ds : List D} {vs : List V} {fp : List Addr} {σ : L2.St} {ρ : Ev}, VIn w K z B H σ ρ → RpA w K z H vs ds fp → (∀ a ∈ fp, B a) → VIn w K z B H (setV σ is vs) (setE ρ is ds)
  | [], _, _, _, _, _, h, _, _ => by unfold setV setE; exact h
  | i :: is, [], _, _, _, _, h, .nil, _ => by unfold setV setE; exact h
  | i :: is, d :: ds, _, _, _, _, h, .cons r rs, m => by
    unfold setV setE
    exact VIn.setL (h.set r fun a q => m a (List.mem_append_left _ q)) rs fun a q => m a (List.mem_append_right _ q)
theorem VIn.wipe {B : Addr → Prop} {σ : L2.St} {ρ : Ev} (h : VIn w K z B H σ ρ) (vs : List Nat) : VIn w K z B H (L2.wipe σ vs) (wipeE ρ vs) := by
  refine ⟨fun i d e => ?_, by rw [L2.wipe_length, wipeE_length, h.len]⟩
  obtain ⟨e1, e2⟩ := wipeE_some e
  obtain ⟨v, fp, e3, r, m⟩ := h.v i d e1
  exact ⟨v, fp, by rw [L2.wipe_out e2]; exact e3, r, m⟩
/-- the target's store -/
theorem bind_go {tg : Tg} {B : Addr → Prop} {σ : L2.St} {ρ ρ' : Ev} {v : V} {d : D} {fp : List Addr} {Q : L2.St → Hp → Prop} (h : VIn w K z B H σ ρ) (r : Rp w K z H v d fp) (m : ∀ a ∈ fp, B a) (e : bindE tg d ρ = some ρ')
    (k : ∀ σ', VIn w K z B H σ' ρ' → (∀ vs, (∀ i ∈ tg.slots, i ∈ vs) → L2.wipe σ' vs = L2.wipe σ vs) → Q σ' H) : gTg K tg v σ H Q := by
  unfold bindE at e
  split at e
  · cases e
    refine k _ (h.set r m) fun vs hs => ?_
    rw [wipe_set, if_pos (hs _ (by simp [Tg.slots]))]
  · split at e
    · rename_i g
      have g := of_decide_eq_true g
      cases e
      cases r with
      | tup hq n l rs => exact ⟨_, _, rfl, hq, by rw [rs.length]; exact g, k _ (h.setL rs m) fun vs hs => wipe_setV vs _ _ _ hs⟩
    · cases e
  · cases e
end

/-! ### list comprehensions -/
def fYes : Ev → Mo Bool := fun _ => Mo.pure true
def Ts (X : Cx) (ifs : List Expr) (f : Ev → Mo Bool) : Prop := PTs X ifs (tT X.w X.K f)
theorem PTs.weak {X : Cx} {ifs : List Expr} {t t' : TT} (h : PTs X ifs t) (i : ∀ σ H Q, t' σ H Q → t σ H Q) : PTs X ifs t' := ⟨fun pins s σ H Q I q => h.run pins s σ H Q I (i σ H Q q)⟩
theorem ts_nil {X : Cx} : Ts X [] fYes := PTs.weak pts_nil fun σ H Q ⟨z, Bs, ρ, s, d, s', I, hf, k⟩ => by
  obtain ⟨rfl, rfl⟩ := Mo.pure_some hf
  exact k H (Keep.refl H) I.z
theorem ts_one {X : Cx} {c : Expr} {f : Ev → Mo Bool} (h : T X c f) : Ts X [c] f := pts_one h
def lcGo (tg : Tg) (ft : Ev → Mo Bool) (fe : Ev → Mo D) (ρ : Ev) : List D → Mo (List D)
  | [] => Mo.pure []
  | d :: ds => (Mo.ofO (bindE tg d ρ)).bind fun ρ' => (ft ρ').bind fun b => if b then (fe ρ').bind fun y => (lcGo tg ft fe ρ ds).bind fun ys => Mo.pure (y :: ys) else lcGo tg ft fe ρ ds
theorem lcGo_len {tg : Tg} {ft : Ev → Mo Bool} {fe : Ev → Mo D} {ρ : Ev} : ∀ {ds : List D} {s s' : Ds} {ys : List D}, lcGo tg ft fe ρ ds s = some (ys, s') → ys.length ≤ ds.length
  | [], s, s', ys, h => by cases h; exact Nat.le_refl _
  | d :: ds, s, s', ys, h => by
    unfold lcGo at h
    obtain ⟨ρ', s1, h1, h2⟩ := Mo.bind_some h
    obtain ⟨b, s2, h3, h4⟩ := Mo.bind_some h2
    cases b with
    | false => exact Nat.le_succ_of_le (lcGo_len h4)
    | true =>
      obtain ⟨y, s3, h5, h6⟩ := Mo.bind_some h4
      obtain ⟨zs, s4, h7, h8⟩ := Mo.bind_some h6
      obtain ⟨rfl, rfl⟩ := Mo.pure_some h8
      exact Nat.succ_le_succ (lcGo_len h7)
/-- all cells but the draws' and D stand -/
def KeepD (z : Zn) (D : Addr) (H H' : Hp) : Prop := ∀ a x, H a = some x → ¬ Zm z a → a ≠ D → H' a = some x
/-- the list at D holds these, whose cells are new since Ho -/
structure AccAt (w : World) (K : PySem.W.Frag) (z : Zn) (Ho H : Hp) (A : Addr) (ds : List D) : Prop where
  ex : ∃ acc fp, H A = some (.lst acc) ∧ RpA w K z H acc ds fp ∧ (∀ a ∈ fp, Ho a = none) ∧ fp.Nodup ∧ A ∉ fp
section
variable {w : World} {K : PySem.W.Frag} {z : Zn} {Ho H H' : Hp} {A : Addr} {ds : List D}
theorem KeepD.refl : KeepD z A H H := fun _ _ h _ _ => h
theorem KeepD.keep {H2 : Hp} (a : KeepD z A H H') (b : Keep z H' H2) : KeepD z A H H2 := fun c x e n m => b c x (a c x e n m) n
theorem KeepD.upd {o : HO} (a : KeepD z A H H') : KeepD z A H (upd H' A o) := fun c x e n m => by rw [upd_ne m]; exact a c x e n m
theorem AccAt.keep (a : AccAt w K z Ho H A ds) (k : Keep z H H') (n : ¬ Zm z A) : AccAt w K z Ho H' A ds := by
  obtain ⟨acc, fp, h1, h2, h3, h4, h5⟩ := a.ex
  exact ⟨acc, fp, k _ _ h1 n, h2.of_keep k, h3, h4, h5⟩
theorem AccAt.push {acc : List V} {v : V} {d : D} {fq : List Addr} (a : AccAt w K z Ho H A ds) (e : H A = some (.lst acc)) (r : Rp w K z H v d fq) (f : ∀ a ∈ fq, Ho a = none) (n : fq.Nodup) (nA : A ∉ fq)
    (dj : ∀ fp acc', H A = some (.lst acc') → RpA w K z H acc' ds fp → (∀ a ∈ fp, Ho a = none) → fp.Nodup → A ∉ fp → ∃ fp', RpA w K z H acc' ds fp' ∧ (∀ a ∈ fp', Ho a = none) ∧ fp'.Nodup ∧ A ∉ fp' ∧ ∀ a ∈ fp', a ∉ fq) : AccAt w K z Ho (upd H A (.lst (acc ++ [v]))) A (ds ++ [d]) := by
  obtain ⟨acc', fp, h1, h2, h3, h4, h5⟩ := a.ex
  rw [e] at h1
  cases h1
  obtain ⟨fp', g2, g3, g4, g5, g6⟩ := dj fp acc e h2 h3 h4 h5
  have ks : ∀ b x, H b = some x → b ≠ A → (upd H A (.lst (acc ++ [v]))) b = some x := fun b x eb hb => by rw [upd_ne hb]; exact eb
  have nS : ∀ b x, H b = some x → stays x → b ≠ A := fun b x eb sx z => by rw [z, e] at eb; cases eb; exact sx
  refine ⟨acc ++ [v], fp' ++ fq, upd_same, RpA.append (g2.keep _ fun b x eb _ hb => ks b x eb ?_) ?_, fun a m => (List.mem_append.mp m).elim (g3 a) (f a), List.nodup_append.mpr ⟨g4, n, fun a ma b mb eab => g6 a ma (eab ▸ mb)⟩, fun m => (List.mem_append.mp m).elim g5 nA⟩
  · rcases hb with hb | hb
    · exact fun z => g5 (z ▸ hb)
    · exact nS b x eb hb
  · have := RpA.cons (Rp.keep _ r (H' := upd H A (.lst (acc ++ [v]))) fun b x eb _ hb => ks b x eb (by
      rcases hb with hb | hb
      · exact fun z => nA (z ▸ hb)
      · exact nS b x eb hb)) RpA.nil
    rwa [List.append_nil] at this
end
section
variable {w : World} {K : PySem.W.Frag} {z : Zn}
theorem lc_loop {Ho H1 Hs : Hp} {J : It} {L : Addr → Prop} {ds acc0 ys : List D} {tg : Tg} {ft : Ev → Mo Bool} {fe : Ev → Mo D} {vs : List Nat} {σ : L2.St} {ρ : Ev} {A : Addr} {s0 s' : Ds} {Qd : Hp → Prop}
    (Wk : WalkD w K z H1 J L ds) (hs : ∀ i ∈ tg.slots, i ∈ vs) (nA : ¬ Zm z A) (nLA : ¬ L A) (hA : ∀ x, H1 A = some x → ¬ stays x) (oA : Ho A = none) (lt : ∀ a, L a → H1 a ≠ none)
    (env : VIn w K z (fun a => a ≠ A) H1 σ ρ) (kho : ∀ a x, Ho a = some x → ¬ Zm z a → H1 a = some x) (k0 : KeepD z A H1 Hs) (a0 : AccAt w K z Ho Hs A acc0) (z0 : ZRep z Hs s0)
    (run : lcGo tg ft fe (wipeE ρ vs) ds s0 = some (ys, s')) (sz : acc0.length + ys.length ≤ sizeLine) (fin : ∀ H, KeepD z A H1 H → AccAt w K z Ho H A (acc0 ++ ys) → ZRep z H s' → Qd H) :
    ∃ W : Nat → Nat → Hp → Prop, (∃ m, W 0 m Hs) ∧ ∀ i m H, W i m H → (J.stop i H ∧ Qd H) ∨ (J.go i H ∧ ∃ Nx : Hp → Prop, (∀ H', Nx H' → ∃ m', m' < m ∧ W (i + 1) m' H') ∧
      ∀ x H', J.yld i H x H' → gTg K tg x (L2.wipe σ vs) H' fun σ2 H2 => L2.wipe σ2 vs = L2.wipe σ vs ∧ tT w K ft σ2 H2 fun b H3 =>
        if b = true then tE w K fe σ2 H3 fun y H4 => ∃ acc, H4 A = some (.lst acc) ∧ acc.length < sizeLine ∧ Nx (upd H4 A (.lst (acc ++ [y]))) else Nx H3) := by
  refine ⟨fun i m H => m = ds.length - i ∧ i ≤ ds.length ∧ ∃ done sA rest, KeepD z A H1 H ∧ AccAt w K z Ho H A (acc0 ++ done) ∧ ZRep z H sA ∧ lcGo tg ft fe (wipeE ρ vs) (ds.drop i) sA = some (rest, s') ∧ done ++ rest = ys,
    ⟨ds.length, by simp, Nat.zero_le _, [], s0, ys, k0, by simpa using a0, z0, by simpa using run, rfl⟩, ?_⟩
  rintro i m H ⟨rfl, hi, done, sA, rest, kd, ac, zr, run', eys⟩
  have kl : KeepL z L H1 H := fun a x e n h => kd a x e n fun q => by
    subst q
    rcases h with h | h
    · exact nLA h
    · exact hA x e h
  by_cases hlt : i < ds.length
  · have ed : ds[i]? = some ds[i] := List.getElem?_eq_getElem hlt
    rw [List.drop_eq_getElem_cons hlt] at run'
    unfold lcGo at run'
    obtain ⟨ρ', s1, h1, h2⟩ := Mo.bind_some run'
    obtain ⟨b, s2, h3, h4⟩ := Mo.bind_some h2
    obtain ⟨eb, rfl⟩ := Mo.ofO_some' h1
    refine .inr ⟨Wk.go i H hlt kl, fun H' => ∃ m', m' < ds.length - i ∧ (m' = ds.length - (i + 1) ∧ i + 1 ≤ ds.length ∧ ∃ done sA rest, KeepD z A H1 H' ∧ AccAt w K z Ho H' A (acc0 ++ done) ∧ ZRep z H' sA ∧ lcGo tg ft fe (wipeE ρ vs) (ds.drop (i + 1)) sA = some (rest, s') ∧ done ++ rest = ys), fun H' h => h, fun x H' hy => ?_⟩
    obtain ⟨k1, z1, fp, rx, mx⟩ := Wk.yld i H x H' ds[i] s1 ed kl zr hy
    have kd1 : KeepD z A H1 H' := kd.keep k1
    have ac1 := ac.keep k1 nA
    have env1 : VIn w K z (fun a => a ≠ A) H' σ ρ := ⟨fun j d e => by
      obtain ⟨v, f, e1, r, m⟩ := env.v j d e
      refine ⟨v, f, e1, Rp.keep _ r fun b x eb n hb => kd1 b x eb n fun q => ?_, m⟩
      rcases hb with hb | hb
      · exact m b hb q
      · subst q; exact hA x eb hb, env.len⟩
    refine bind_go (env1.wipe vs) rx (fun a m q => nLA (q ▸ mx a m)) eb fun σ2 v2 w2 => ⟨by rw [w2 vs hs, wipe_wipe σ vs vs fun _ h => h], ?_⟩
    have ein : EIn w K z (fun a => a ≠ A ∧ H' a ≠ none) H' σ2 ρ' s1 := ⟨fun j d e => by
      obtain ⟨v, f, e1, r, m⟩ := v2.v j d e
      exact ⟨v, f, e1, r, fun a q => ⟨m a q, (Rp.there _ r a q).1⟩⟩, z1, fun a h => h.2, v2.len⟩
    refine ⟨z, _, ρ', s1, b, s2, ein, h3, fun H3 k3 z3 => ?_⟩
    cases b with
    | false =>
      simp only [Bool.false_eq_true, if_false] at h4 ⊢
      exact ⟨ds.length - (i + 1), by omega, rfl, hlt, done, s2, rest, kd1.keep k3, ac1.keep k3 nA, z3, h4, eys⟩
    | true =>
      simp only [if_true] at h4 ⊢
      obtain ⟨y, s3, h5, h6⟩ := Mo.bind_some h4
      obtain ⟨rest', s4, h7, h8⟩ := Mo.bind_some h6
      obtain ⟨rfl, rfl⟩ := Mo.pure_some h8
      refine ⟨z, _, ρ', s2, y, s3, ein.next k3 z3, h5, fun v H4 fq k4 r4 f4 n4 z4 => ?_⟩
      have ac3 := ac1.keep k3 nA
      have ac4 := ac3.keep k4 nA
      obtain ⟨acc, fpA, q1, q2, q3, q4, q5⟩ := ac3.ex
      have e4 : H4 A = some (.lst acc) := k4 _ _ q1 nA
      have lacc : acc.length = acc0.length + done.length := by rw [q2.length, List.length_append]
      have lys : ys.length = done.length + (rest'.length + 1) := by rw [← eys, List.length_append, List.length_cons]
      have kO : Keep z Ho H3 := fun a x e n => k3 _ _ (kd1 a x (kho a x e n) n fun q => by subst q; rw [oA] at e; cases e) n
      refine ⟨acc, e4, by omega, ds.length - (i + 1), by omega, rfl, hlt, done ++ [y], s3, rest', (kd1.keep (k3.trans k4)).upd, ?_, ?_, h7, by rw [← eys]; simp⟩
      · rw [← List.append_assoc]
        refine ac4.push e4 r4 (fun a m => kO.free z3 (f4 a m)) n4 (fun m => by rw [f4 A m] at q1; cases q1) fun fp acc' g1 g2 g3 g4 g5 => ?_
        rw [e4] at g1
        cases g1
        exact ⟨fpA, q2.of_keep k4, q3, q4, q5, fun a m m' => (RpA.there _ q2 a m).1 (f4 a m')⟩
      · intro a b e
        obtain ⟨n, p1, p2⟩ := z4 a b e
        refine ⟨n, ?_, ?_⟩
        · rw [upd_ne fun q => nA ⟨(a, b), e, .inl q.symm⟩]; exact p1
        · rw [upd_ne fun q => nA ⟨(a, b), e, .inr q.symm⟩]; exact p2
  · have e : i = ds.length := by omega
    subst e
    rw [List.drop_length] at run'
    unfold lcGo at run'
    obtain ⟨rfl, rfl⟩ := Mo.pure_some run'
    rw [List.append_nil] at eys
    subst eys
    exact .inl ⟨Wk.stop H kl, fin H kd ac zr⟩
end
def fLc (own : List Nat) (fi : Ev → Mo (List D)) (tg : Tg) (ft : Ev → Mo Bool) (fe : Ev → Mo D) : Ev → Mo D := fun ρ => (fi ρ).bind fun ds => (lcGo tg ft fe (wipeE ρ own) ds).bind fun ys => Mo.pure (.lst ys)
section
variable {w : World} {K : PySem.W.Frag}
theorem lc_read {own : List Nat} {fi : Ev → Mo (List D)} {tg : Tg} {ft : Ev → Mo Bool} {fe : Ev → Mo D} {σ : L2.St} {H : Hp} {Q : VK} (hs : ∀ i ∈ tg.slots, i ∈ own) (h : tE w K (fLc own fi tg ft fe) σ H Q) : tLc (tI pAny w K fi) (gTg K tg) (tT w K ft) (tE w K fe) own σ H Q := by
  obtain ⟨z, Bs, ρ, s, d, s', I, hf, k⟩ := h
  obtain ⟨ds, s1, h1, h2⟩ := Mo.bind_some hf
  obtain ⟨ys, s2, h3, h4⟩ := Mo.bind_some h2
  obtain ⟨rfl, rfl⟩ := Mo.pure_some h4
  refine ⟨z, Bs, ρ, s, ds, s1, I, h1, fun J H1 L k1 z1 lt lf Wk A nA1 => ?_⟩
  have nzA : ¬ Zm z A := z1.zm nA1
  have I1 := I.next k1 z1
  refine lc_loop (Ho := H) (H1 := H1) (acc0 := []) Wk hs nzA (fun q => lt A q nA1) (fun x e => by rw [nA1] at e; cases e) (k1.free z1 nA1) lt
    ⟨fun j d e => ?_, I1.len⟩ k1 (fun a x e n m => by rw [upd_ne m]; exact e) ⟨[], [], upd_same, .nil, (fun a m => by cases m), List.nodup_nil, (by simp)⟩ (z1.upd nA1) h3 ?_ fun H2 kd ac zr => ?_
  · obtain ⟨v, f, e1, r, m⟩ := I1.v j d e
    exact ⟨v, f, e1, r, fun a q z => (Rp.there _ r a q).1 (z ▸ nA1)⟩
  · have := lcGo_len h3
    have := Wk.len
    simp
    omega
  · obtain ⟨acc, fp, q1, q2, q3, q4, q5⟩ := ac.ex
    rw [List.nil_append] at q2
    have lacc : acc.length ≤ sizeLine := by
      have := lcGo_len h3
      have := Wk.len
      rw [q2.length]; omega
    refine k (.ref A) H2 (A :: fp) (fun a x e n => kd a x (k1 a x e n) n fun q => by subst q; rw [k1.free z1 nA1] at e; cases e) (.lst q1 nzA lacc q2) (fun a m => ?_) (List.nodup_cons.mpr ⟨q5, q4⟩) zr
    rcases List.mem_cons.mp m with e | m
    · rw [e]; exact k1.free z1 nA1
    · exact q3 a m
variable {X : Cx}
theorem e_lc {elt tgE iter : Expr} {ifs : List Expr} {scope : Scope} {own : List (Str × Nat)} {pos : Pos} {fi : Ev → Mo (List D)} {tg : Tg} {ft : Ev → Mo Bool} {fe : Ev → Mo D} (hc : X.calm = true) (hN : X.N.Nodup) (hi : FL.I pAny X tgE iter fi) (ok : BlkOk X.N X.env.scope scope own) (hs : ∀ i ∈ tg.slots, i ∈ own.map (·.2))
    (hg : ∀ (s : Shared) (H : Hp) (C : Addr) (cl : List (Str × Addr)) (fp : List Addr), G (X.blk s H scope (compEnvC scope cl C X.env) fp) tgE tg) (ht : ∀ (s : Shared) (H : Hp) (C : Addr) (cl : List (Str × Addr)) (fp : List Addr), Ts (X.blk s H scope (compEnvC scope cl C X.env) fp) ifs ft)
    (he : ∀ (s : Shared) (H : Hp) (C : Addr) (cl : List (Str × Addr)) (fp : List Addr), E (X.blk s H scope (compEnvC scope cl C X.env) fp) elt fe) (hf : ∀ x, foldedSetIterable iter X.env x = pure x := by intro _; rfl) :
    E X (.ListComp elt [⟨tgE, iter, ifs, 0⟩] scope pos) (fLc (own.map (·.2)) fi tg ft fe) := PE.weak (pe_lc (g := gTg X.K tg) (tt := tT X.w X.K ft) (te := tE X.w X.K fe) hc hN hi ok hg ht he hf) fun σ H Q h => lc_read hs h
end
end FL

set_option Elab.async false
set_option linter.all false
set_option maxRecDepth 100000
set_option maxHeartbeats 4000000
/-! FL10: statements. -/
namespace FL
open PySem PySem.Spec L2

/-- a slot: nothing known, owned, borrowed -/
inductive Sl where
  | no | own (d : D) | bor (d : D) | lok (d : D)
def Sl.vw : Sl → Option D
  | .no => none
  | .own d => some d
  | .bor d => some d
  | .lok d => some d
abbrev Se := List Sl
def vw (ρ : Se) : Ev := ρ.map Sl.vw
inductive Out where
  | nx | rt (d : D) | bk | ct
abbrev Sv := Se → Mo (Out × Se)

/-- the frame: B are the cells that must stand as in Hb; Lk the values of the locked slots; F i the cells that slot i owns -/
structure Bs where
  B : Addr → Prop
  Hb : Hp
  Lk : Nat → Option V
structure EF (w : World) (K : PySem.W.Frag) (z : Zn) (b : Bs) (H : Hp) (σ : L2.St) (ρ : Se) (F : Nat → List Addr) : Prop where
  len : σ.length = ρ.length
  base : ∀ a x, b.Hb a = some x → b.B a → ¬ Zm z a → H a = some x
  bex : ∀ a, b.B a → H a ≠ none
  own : ∀ (i : Nat) (d : D), ρ[i]? = some (.own d) → ∃ v, σ[i]? = some (some v) ∧ Rp w K z H v d (F i) ∧ (F i).Nodup ∧ ∀ a ∈ F i, ¬ b.B a
  bor : ∀ (i : Nat) (d : D), ρ[i]? = some (.bor d) → ∃ v fp, σ[i]? = some (some v) ∧ Rp w K z H v d fp ∧ ∀ a ∈ fp, b.B a
  lok : ∀ (i : Nat) (d : D), ρ[i]? = some (.lok d) → ∃ v fp, b.Lk i = some v ∧ σ[i]? = some (some v) ∧ Rp w K z H v d fp ∧ ∀ a ∈ fp, b.B a
  lk : ∀ (i : Nat) (v : V), b.Lk i = some v → ∃ d, ρ[i]? = some (.lok d)
  sep : ∀ (i j : Nat) (d d' : D), i ≠ j → ρ[i]? = some (.own d) → ρ[j]? = some (.own d') → ∀ a ∈ F i, a ∉ F j
def ERep (w : World) (K : PySem.W.Frag) (z : Zn) (b : Bs) (H : Hp) (σ : L2.St) (ρ : Se) : Prop := ∃ F, EF w K z b H σ ρ F
section
variable {w : World} {K : PySem.W.Frag} {z : Zn} {B : Bs} {H H' : Hp} {σ : L2.St} {ρ : Se} {F : Nat → List Addr} {s : Ds}
theorem ZRep.ne (r : ZRep z H s) {a : Addr} (h : Zm z a) : H a ≠ none := by
  obtain ⟨p, e1, e2⟩ := h
  obtain ⟨_, h1, h2⟩ := r p.1 p.2 e1
  rcases e2 with e2 | e2 <;> subst e2
  · rw [h1]; simp
  · rw [h2]; simp
theorem EF.keep (e : EF w K z B H σ ρ F) (k : Keep z H H') (zr : ZRep z H' s) : EF w K z B H' σ ρ F where
  len := e.len
  base := fun a x h b n => k _ _ (e.base a x h b n) n
  bex := fun a b => by
    by_cases n : Zm z a
    · exact zr.ne n
    · cases h : H a with
      | none => exact absurd h (e.bex a b)
      | some x => rw [k _ _ h n]; simp
  own := fun i d h => by
    obtain ⟨v, e1, r, n, b⟩ := e.own i d h
    exact ⟨v, e1, r.of_keep k, n, b⟩
  bor := fun i d h => by
    obtain ⟨v, fp, e1, r, b⟩ := e.bor i d h
    exact ⟨v, fp, e1, r.of_keep k, b⟩
  lok := fun i d h => by
    obtain ⟨v, fp, e0, e1, r, b⟩ := e.lok i d h
    exact ⟨v, fp, e0, e1, r.of_keep k, b⟩
  lk := e.lk
  sep := e.sep
theorem vw_get {ρ : Se} {i : Nat} {d : D} (h : (vw ρ)[i]? = some (some d)) : ρ[i]? = some (.own d) ∨ ρ[i]? = some (.bor d) ∨ ρ[i]? = some (.lok d) := by
  unfold vw at h
  rw [List.getElem?_map] at h
  cases e : ρ[i]? with
  | none => rw [e] at h; cases h
  | some x =>
    rw [e] at h
    cases x with
    | no => cases h
    | own d' => cases h; exact .inl rfl
    | bor d' => cases h; exact .inr (.inl rfl)
    | lok d' => cases h; exact .inr (.inr rfl)
theorem EF.ein (e : EF w K z B H σ ρ F) (zr : ZRep z H s) : EIn w K z (fun a => H a ≠ none) H σ (vw ρ) s where
  v := fun i d h => by
    rcases vw_get h with h | h | h
    · obtain ⟨v, e1, r, _, _⟩ := e.own i d h
      exact ⟨v, _, e1, r, fun a m => (Rp.there _ r a m).1⟩
    · obtain ⟨v, fp, e1, r, _⟩ := e.bor i d h
      exact ⟨v, _, e1, r, fun a m => (Rp.there _ r a m).1⟩
    · obtain ⟨v, fp, _, e1, r, _⟩ := e.lok i d h
      exact ⟨v, _, e1, r, fun a m => (Rp.there _ r a m).1⟩
  z := zr
  b := fun a h => h
  len := by unfold vw; rw [List.length_map]; exact e.len
theorem EF.set (e : EF w K z B H σ ρ F) {i : Nat} {v : V} {d : D} {fp : List Addr} (nl : ∀ d', ρ[i]? ≠ some (.lok d')) (r : Rp w K z H v d fp) (n : fp.Nodup) (nb : ∀ a ∈ fp, ¬ B.B a) (nf : ∀ a ∈ fp, ∀ j d', j ≠ i → ρ[j]? = some (.own d') → a ∉ F j) :
    EF w K z B H (σ.set i (some v)) (ρ.set i (.own d)) (fun k => if k = i then fp else F k) where
  len := by rw [List.length_set, List.length_set, e.len]
  base := e.base
  bex := e.bex
  own := fun j d' h => by
    by_cases hj : j = i
    · subst hj
      have hi : j < ρ.length := by
        have := (List.getElem?_eq_some_iff.mp h).1
        rwa [List.length_set] at this
      rw [List.getElem?_set_self hi] at h
      cases h
      simp only [if_true]
      exact ⟨v, List.getElem?_set_self (by rw [e.len]; exact hi), r, n, nb⟩
    · rw [List.getElem?_set_ne (Ne.symm hj)] at h
      simp only [hj, if_false]
      obtain ⟨v', e1, r', n', b'⟩ := e.own j d' h
      exact ⟨v', by rw [List.getElem?_set_ne (Ne.symm hj)]; exact e1, r', n', b'⟩
  bor := fun j d' h => by
    by_cases hj : j = i
    · subst hj
      have hi : j < ρ.length := by
        have := (List.getElem?_eq_some_iff.mp h).1
        rwa [List.length_set] at this
      rw [List.getElem?_set_self hi] at h
      cases h
    · rw [List.getElem?_set_ne (Ne.symm hj)] at h
      obtain ⟨v', f', e1, r', b'⟩ := e.bor j d' h
      exact ⟨v', f', by rw [List.getElem?_set_ne (Ne.symm hj)]; exact e1, r', b'⟩
  lok := fun j d' h => by
    by_cases hj : j = i
    · subst hj
      have hi : j < ρ.length := by
        have := (List.getElem?_eq_some_iff.mp h).1
        rwa [List.length_set] at this
      rw [List.getElem?_set_self hi] at h
      cases h
    · rw [List.getElem?_set_ne (Ne.symm hj)] at h
      obtain ⟨v', f', e0, e1, r', b'⟩ := e.lok j d' h
      exact ⟨v', f', e0, by rw [List.getElem?_set_ne (Ne.symm hj)]; exact e1, r', b'⟩
  lk := fun j v' h => by
    obtain ⟨d', e1⟩ := e.lk j v' h
    exact ⟨d', by
      have hne : i ≠ j := fun q => nl d' (by rw [q]; exact e1)
      rw [List.getElem?_set_ne hne]; exact e1⟩
  sep := fun j k d1 d2 hjk h1 h2 a m => by
    have other : ∀ {j d1}, j ≠ i → (ρ.set i (.own d))[j]? = some (.own d1) → ρ[j]? = some (.own d1) := fun {j d1} hj h => by
      rwa [List.getElem?_set_ne (Ne.symm hj)] at h
    by_cases hj : j = i
    · have hk : k ≠ i := fun q => hjk (hj.trans q.symm)
      simp only [hj, if_true] at m
      simp only [hk, if_false]
      exact nf a m k d2 hk (other hk h2)
    · simp only [hj, if_false] at m
      by_cases hk : k = i
      · simp only [hk, if_true]
        exact fun q => nf a q j d1 hj (other hj h1) m
      · simp only [hk, if_false]
        exact e.sep j k d1 d2 hjk (other hj h1) (other hk h2) a m
/-- a slot is forgotten -/
theorem EF.kill (e : EF w K z B H σ ρ F) (i : Nat) (nl : ∀ d', ρ[i]? ≠ some (.lok d')) : EF w K z B H σ (ρ.set i Sl.no) F := by
  have other : ∀ {j x}, (ρ.set i Sl.no)[j]? = some x → x ≠ Sl.no → ρ[j]? = some x := fun {j x} h hx => by
    by_cases hj : j = i
    · subst hj
      have hi : j < ρ.length := by
        have := (List.getElem?_eq_some_iff.mp h).1
        rwa [List.length_set] at this
      rw [List.getElem?_set_self hi] at h
      cases h
      exact absurd rfl hx
    · rwa [List.getElem?_set_ne (Ne.symm hj)] at h
  exact ⟨by rw [List.length_set]; exact e.len, e.base, e.bex, fun j d h => e.own j d (other h (by simp)), fun j d h => e.bor j d (other h (by simp)), fun j d h => e.lok j d (other h (by simp)), fun j v' h => (by
    obtain ⟨d', e1⟩ := e.lk j v' h
    exact ⟨d', by
      have hne : i ≠ j := fun q => nl d' (by rw [q]; exact e1)
      rw [List.getElem?_set_ne hne]; exact e1⟩), fun j k d d' n h1 h2 => e.sep j k d d' n (other h1 (by simp)) (other h2 (by simp))⟩
/-- a slot's object is changed in place -/
theorem EF.mut (e : EF w K z B H σ ρ F) {i : Nat} {a : Addr} {o : HO} {d d' : D} {fp : List Addr} (h : ρ[i]? = some (.own d)) (ha : a ∈ F i) (r : Rp w K z (upd H a o) (match σ[i]? with | some (some v) => v | _ => .non) d' fp) (n : fp.Nodup)
    (nb : ∀ b ∈ fp, ¬ B.B b) (nf : ∀ b ∈ fp, ∀ j d', j ≠ i → ρ[j]? = some (.own d') → b ∉ F j) :
    EF w K z B (upd H a o) σ (ρ.set i (.own d')) (fun k => if k = i then fp else F k) := by
  obtain ⟨v, ev, rv, nv, bv⟩ := e.own i d h
  have hz := (Rp.there _ rv a ha)
  have ne : ∀ b x, H b = some x → stays x → b ≠ a := fun b x eb sx q => hz.2.2 x (q ▸ eb) sx
  have k : ∀ {v' d' f'}, Rp w K z H v' d' f' → a ∉ f' → Rp w K z (upd H a o) v' d' f' := fun {v' d' f'} r' na => Rp.keep _ r' fun b x eb _ hb => by
    rw [upd_ne]
    · exact eb
    · rcases hb with hb | hb
      · exact fun q => na (q ▸ hb)
      · exact ne b x eb hb
  have hi : i < ρ.length := (List.getElem?_eq_some_iff.mp h).1
  have e1 : EF w K z B (upd H a o) σ (ρ.set i Sl.no) F := by
    have q := e.kill i fun d' z => by rw [h] at z; cases z
    refine ⟨q.len, fun b x hb bb nz => ?_, fun b bb => ?_, fun j dj hj => ?_, fun j dj hj => ?_, fun j dj hj => ?_, q.lk, q.sep⟩
    · rw [upd_ne (fun q => bv a ha (by rw [← q]; exact bb))]; exact e.base b x hb bb nz
    · rw [upd_ne (fun q => bv a ha (by rw [← q]; exact bb))]; exact e.bex b bb
    · obtain ⟨v', g1, g2, g3, g4⟩ := q.own j dj hj
      refine ⟨v', g1, k g2 fun m => ?_, g3, g4⟩
      have hji : j ≠ i := fun z => by
        subst z
        rw [List.getElem?_set_self hi] at hj
        cases hj
      rw [List.getElem?_set_ne (Ne.symm hji)] at hj
      exact e.sep i j d dj (Ne.symm hji) h hj a ha m
    · obtain ⟨v', f', g1, g2, g3⟩ := q.bor j dj hj
      exact ⟨v', f', g1, k g2 fun m => bv a ha (g3 a m), g3⟩
    · obtain ⟨v', f', g0, g1, g2, g3⟩ := q.lok j dj hj
      exact ⟨v', f', g0, g1, k g2 fun m => bv a ha (g3 a m), g3⟩
  rw [ev] at r
  have e2 := e1.set (i := i) (fun d' z => by rw [List.getElem?_set_self hi] at z; cases z) r n nb fun b m j dj hj hd => nf b m j dj hj (by rwa [List.getElem?_set_ne (Ne.symm hj)] at hd)
  rw [List.set_set] at e2
  have es : σ.set i (some v) = σ := by
    refine List.ext_getElem? fun j => ?_
    by_cases hj : i = j
    · subst hj
      rw [List.getElem?_set_self (by rw [e.len]; exact hi), ev]
    · rw [List.getElem?_set_ne hj]
  rw [es] at e2
  exact e2
end

/-! ### judgements -/
/-- behind a statement -/
def after (w : World) (K : PySem.W.Frag) (z : Zn) (B : Bs) (E : Ends) (s' : Ds) (ρ' : Se) : Out → Prop
  | .nx => ∀ σ' H', ERep w K z B H' σ' ρ' → ZRep z H' s' → E.nx σ' H'
  | .bk => ∀ σ' H', ERep w K z B H' σ' ρ' → ZRep z H' s' → E.bk σ' H'
  | .ct => ∀ σ' H', ERep w K z B H' σ' ρ' → ZRep z H' s' → E.ct σ' H'
  | .rt d => ∀ v H' fp, (∀ a x, B.Hb a = some x → B.B a → ¬ Zm z a → H' a = some x) → Rp w K z H' v d fp → (∀ a ∈ fp, ¬ B.B a) → fp.Nodup → ZRep z H' s' → E.rt v H'
def tS (w : World) (K : PySem.W.Frag) (g : Sv) : TS := fun E σ H => ∃ z B ρ s o ρ' s', ERep w K z B H σ ρ ∧ ZRep z H s ∧ g ρ s = some ((o, ρ'), s') ∧ after w K z B E s' ρ' o
def S (X : Cx) (st : Stmt) (g : Sv) : Prop := PS X st (tS X.w X.K g)
def Ss (X : Cx) (st : List Stmt) (g : Sv) : Prop := PSs X st (tS X.w X.K g)
theorem PS.weak {X : Cx} {e : Stmt} {t t' : TS} (h : PS X e t) (i : ∀ D σ H, t' D σ H → t D σ H) : PS X e t' := ⟨fun pins s σ H D I q => h.run pins s σ H D I (i D σ H q)⟩
theorem PSs.weak {X : Cx} {e : List Stmt} {t t' : TS} (h : PSs X e t) (i : ∀ D σ H, t' D σ H → t D σ H) : PSs X e t' := ⟨fun pins s σ H D I q => h.run pins s σ H D I (i D σ H q)⟩

def sPure (o : Out) : Sv := fun ρ => Mo.pure (o, ρ)
def sSeq (f g : Sv) : Sv := fun ρ => (f ρ).bind fun r => match r.1 with
  | .nx => g r.2
  | o => Mo.pure (o, r.2)
section
variable {X : Cx} {st : Stmt} {rest : List Stmt} {f g : Sv}
theorem ss_nil : Ss X [] (sPure .nx) := PSs.weak pss_nil fun E σ H ⟨z, B, ρ, s, o, ρ', s', er, zr, e, k⟩ => by
  cases e
  exact k σ H er zr
theorem ss_cons (h1 : S X st f) (h2 : Ss X rest g) : Ss X (st :: rest) (sSeq f g) := PSs.weak (pss_cons h1 h2) fun E σ H ⟨z, B, ρ, s, o, ρ', s', er, zr, e, k⟩ => by
  obtain ⟨⟨o1, ρ1⟩, s1, e1, e2⟩ := Mo.bind_some e
  refine ⟨z, B, ρ, s, o1, ρ1, s1, er, zr, e1, ?_⟩
  cases o1 with
  | nx => exact fun σ' H' er' zr' => ⟨z, B, ρ1, s1, o, ρ', s', er', zr', e2, k⟩
  | rt d => cases e2; exact k
  | bk => cases e2; exact k
  | ct => cases e2; exact k
theorem ss_one (h1 : S X st f) : Ss X [st] f := pss_one h1
theorem s_pass {pos : Pos} : S X (.Pass pos) (sPure .nx) := PS.weak ps_pass fun E σ H ⟨z, B, ρ, s, o, ρ', s', er, zr, e, k⟩ => by
  cases e
  exact k σ H er zr
theorem s_break {pos : Pos} : S X (.Break pos) (sPure .bk) := PS.weak ps_break fun E σ H ⟨z, B, ρ, s, o, ρ', s', er, zr, e, k⟩ => by
  cases e
  exact k σ H er zr
theorem s_continue {pos : Pos} : S X (.Continue pos) (sPure .ct) := PS.weak ps_continue fun E σ H ⟨z, B, ρ, s, o, ρ', s', er, zr, e, k⟩ => by
  cases e
  exact k σ H er zr
/-- return e -/
def sRet (f : Ev → Mo D) : Sv := fun ρ => (f (vw ρ)).bind fun d => Mo.pure (.rt d, ρ)
theorem s_ret {e : Expr} {pos : Pos} {f : Ev → Mo D} (h : E X e f) : S X (.Return (some e) pos) (sRet f) := PS.weak (ps_ret h) fun E σ H ⟨z, B, ρ, s, o, ρ', s', ⟨F, er⟩, zr, e, k⟩ => by
  obtain ⟨d, s1, e1, e2⟩ := Mo.bind_some e
  cases e2
  refine ⟨z, _, vw ρ, s, d, _, er.ein zr, e1, fun v H' fp kk r fr n zr' => ?_⟩
  exact k v H' fp (fun a x h b n => kk _ _ (er.base a x h b n) n) r (fun a m b => er.bex a b (fr a m)) n zr'
/-- return of an owned name -/
def sRetN (i : Nat) : Sv := fun ρ => match ρ[i]? with
  | some (.own d) => Mo.pure (.rt d, ρ)
  | _ => Mo.fail
theorem s_retN (i : Nat) {x : Str} {pos p : Pos} (hN : X.N[i]? = some x := by rfl) (hv : Vis X.env.scope x := by first | exact Or.inl rfl | exact Or.inr (Or.inl rfl) | exact Or.inr (Or.inr rfl)) (hd : (x == ("__debug__" : Str)) = false := by decide)
    (hcd : (x == ("__classdict__" : Str)) = false := by decide) : S X (.Return (some (.Name x p)) pos) (sRetN i) := PS.weak (ps_ret (pe_var hN hv hd hcd)) fun E σ H ⟨z, B, ρ, s, o, ρ', s', ⟨F, er⟩, zr, e, k⟩ => by
  unfold sRetN at e
  cases hx : ρ[i]? with
  | none => simp only [hx] at e; cases e
  | some x =>
    simp only [hx] at e
    cases x with
    | no => cases e
    | bor d => cases e
    | lok d => cases e
    | own d =>
      cases e
      obtain ⟨v, ev, r, n, b⟩ := er.own i d hx
      exact ⟨v, ev, k v H _ (fun a x h b n => er.base a x h b n) r b n zr⟩
/-- name = e -/
def notLok (ρ : Se) (i : Nat) : Bool := match ρ[i]? with
  | some (.lok _) => false
  | _ => true
theorem notLok_iff {ρ : Se} {i : Nat} (h : notLok ρ i = true) : ∀ d', ρ[i]? ≠ some (.lok d') := fun d' e => by
  unfold notLok at h
  rw [e] at h
  cases h
def sSet (i : Nat) (f : Ev → Mo D) : Sv := fun ρ => (f (vw ρ)).bind fun d => (gd (notLok ρ i)).bind fun _ => Mo.pure (.nx, ρ.set i (.own d))
theorem s_set_of {i : Nat} {f : Ev → Mo D} (h : PS X st (tAsg (tE X.w X.K f) (gName i))) : S X st (sSet i f) := PS.weak h fun E σ H ⟨z, B, ρ, s, o, ρ', s', ⟨F, er⟩, zr, e, k⟩ => by
  obtain ⟨d, s1, e1, e2⟩ := Mo.bind_some e
  obtain ⟨_, s2, e3, e4⟩ := Mo.bind_some e2
  obtain ⟨gl, rfl⟩ := gd_some e3
  cases e4
  refine ⟨z, _, vw ρ, s, d, _, er.ein zr, e1, fun v H' fp kk r fr n zr' => ?_⟩
  have e3 := er.keep kk zr'
  refine k _ H' ⟨_, e3.set (notLok_iff gl) r n (fun a m b => er.bex a b (fr a m)) fun a m j d' hj hd q => ?_⟩ zr'
  obtain ⟨v', _, r', _, _⟩ := er.own j d' hd
  exact (Rp.there _ r' a q).1 (fr a m)
theorem s_set {i : Nat} {x : Str} {e : Expr} {pos pos' : Pos} {f : Ev → Mo D} (h : E X e f) (hN : X.N.Nodup) (hi : X.N[i]? = some x := by rfl) (hx : Loc X.env.scope x := by first | exact Or.inl rfl | exact Or.inr rfl) (hs : swapsWith e (some (.Name x pos')) pos.line X.env = pure false := by rfl)
    (hf : X.fn x = true ∨ X.env.scope.names.lookup x = some .local := by first | exact .inl rfl | exact .inr rfl) : S X (.Assign [.Name x pos'] e pos) (sSet i f) := s_set_of (ps_set hN hi hx h hs hf)
/-- if -/
def sIf (c : Ev → Mo Bool) (f g : Sv) : Sv := fun ρ => (c (vw ρ)).bind fun b => if b then f ρ else g ρ
theorem s_if {c : Expr} {a b : List Stmt} {pos : Pos} {t : Ev → Mo Bool} (hc : T X c t) (ha : Ss X a f) (hb : Ss X b g) : S X (.If c a b pos) (sIf t f g) := PS.weak (ps_if hc ha hb) fun E σ H ⟨z, B, ρ, s, o, ρ', s', ⟨F, er⟩, zr, e, k⟩ => by
  obtain ⟨b, s1, e1, e2⟩ := Mo.bind_some e
  refine ⟨z, _, vw ρ, s, b, s1, er.ein zr, e1, fun H' kk zr' => ?_⟩
  cases b with
  | true => exact ⟨z, B, ρ, s1, o, ρ', s', ⟨F, er.keep kk zr'⟩, zr', e2, k⟩
  | false => exact ⟨z, B, ρ, s1, o, ρ', s', ⟨F, er.keep kk zr'⟩, zr', e2, k⟩
theorem Mo.bind_of {α β : Type} {m : Mo α} {f : α → Mo β} {s s1 : Ds} {a : α} (h : m s = some (a, s1)) : Mo.bind m f s = f a s1 := by
  unfold Mo.bind; rw [h]
/-- while, by its turns -/
def whN (c : Ev → Mo Bool) (f : Sv) : Nat → Sv
  | 0, _ => Mo.fail
  | n + 1, ρ => (c (vw ρ)).bind fun b => if b then (f ρ).bind fun r => match r.1 with
    | .nx => whN c f n r.2
    | .ct => whN c f n r.2
    | .bk => Mo.pure (.nx, r.2)
    | .rt d => Mo.pure (.rt d, r.2)
    else Mo.pure (.nx, ρ)
open Classical in
noncomputable def sWhile (c : Ev → Mo Bool) (f : Sv) : Sv := fun ρ s => if h : ∃ n r, whN c f n ρ s = some r then whN c f h.choose ρ s else none
theorem whN_mono {c : Ev → Mo Bool} {f : Sv} : ∀ {n m : Nat} {ρ : Se} {s : Ds} {r}, n ≤ m → whN c f n ρ s = some r → whN c f m ρ s = some r
  | 0, _, _, _, _, _, h => by cases h
  | n + 1, 0, _, _, _, l, _ => absurd l (by omega)
  | n + 1, m + 1, ρ, s, r, l, h => by
    unfold whN at h ⊢
    obtain ⟨b, s1, e1, e2⟩ := Mo.bind_some h
    rw [Mo.bind_of e1]
    cases b with
    | false => exact e2
    | true =>
      simp only [if_true] at e2 ⊢
      obtain ⟨⟨o, ρ1⟩, s2, e3, e4⟩ := Mo.bind_some e2
      rw [Mo.bind_of e3]
      cases o with
      | nx => exact whN_mono (by omega) e4
      | ct => exact whN_mono (by omega) e4
      | bk => exact e4
      | rt d => exact e4
theorem sWhile_of {c : Ev → Mo Bool} {f : Sv} {n : Nat} {ρ : Se} {s : Ds} {r} (h : whN c f n ρ s = some r) : sWhile c f ρ s = some r := by
  unfold sWhile
  have hx : ∃ n r, whN c f n ρ s = some r := ⟨n, r, h⟩
  rw [dif_pos hx]
  obtain ⟨r', hr⟩ := hx.choose_spec
  rcases Nat.le_total n hx.choose with l | l
  · exact whN_mono l h
  · have := whN_mono l hr
    rw [h] at this
    cases this
    exact hr
theorem sWhile_some {c : Ev → Mo Bool} {f : Sv} {ρ : Se} {s : Ds} {r} (h : sWhile c f ρ s = some r) : ∃ n, whN c f n ρ s = some r := by
  unfold sWhile at h
  split at h
  · exact ⟨_, h⟩
  · cases h
theorem s_while {c : Expr} {body : List Stmt} {pos : Pos} {t : Ev → Mo Bool} (hc : T X c t) (hb : Ss X body f) (hp : PassesOwn (model X.prog X.w) X.A X.env X.xe := by exact PassesOwn.never) : S X (.While c body [] pos) (sWhile t f) := PS.weak (ps_while hp hc hb) fun E σ H ⟨z, B, ρ, s, o, ρ', s', er, zr, e, k⟩ => by
  obtain ⟨n, e⟩ := sWhile_some e
  refine ⟨fun m σ H => ∃ ρ s, ERep X.w X.K z B H σ ρ ∧ ZRep z H s ∧ whN t f m ρ s = some ((o, ρ'), s'), ⟨n, ρ, s, er, zr, e⟩, ?_⟩
  rintro m σ H ⟨ρ, s, ⟨F, er⟩, zr, e⟩
  cases m with
  | zero => cases e
  | succ m =>
    unfold whN at e
    obtain ⟨b, s1, e1, e2⟩ := Mo.bind_some e
    refine ⟨z, _, vw ρ, s, b, s1, er.ein zr, e1, fun H' kk zr' => ?_⟩
    have e3 := er.keep kk zr'
    cases b with
    | false => cases e2; exact k σ H' ⟨F, e3⟩ zr'
    | true =>
      simp only [if_true] at e2 ⊢
      obtain ⟨⟨o1, ρ1⟩, s2, e4, e5⟩ := Mo.bind_some e2
      refine ⟨fun σ' H' => ERep X.w X.K z B H' σ' ρ1 ∧ ZRep z H' s2 ∧ whN t f m ρ1 s2 = some ((o, ρ'), s'), fun σ' H' ⟨h1, h2, h3⟩ => ⟨m, Nat.lt_succ_self m, ρ1, s2, h1, h2, h3⟩, ?_⟩
      refine ⟨z, B, ρ, s1, o1, ρ1, s2, ⟨F, e3⟩, zr', e4, ?_⟩
      cases o1 with
      | nx => exact fun σ' H' h1 h2 => ⟨h1, h2, e5⟩
      | ct => exact fun σ' H' h1 h2 => ⟨h1, h2, e5⟩
      | bk => cases e5; exact k
      | rt d => cases e5; exact k
end
end FL

set_option Elab.async false
set_option linter.all false
set_option maxRecDepth 100000
set_option maxHeartbeats 4000000
/-! FL11: for. -/
namespace FL
open PySem PySem.Spec L2

def lockX (b : Bool) : Sl → Sl
  | .no => .no
  | .bor d => .lok d
  | .lok d => .lok d
  | .own d => if b then .lok d else .own d
def lockG (lk : List Nat) : Nat → Se → Se
  | _, [] => []
  | n, x :: xs => lockX (lk.contains n) x :: lockG lk (n + 1) xs
def unlX : Sl → Sl → Sl
  | .bor d, _ => .bor d
  | .lok d, _ => .lok d
  | .own d, .lok _ => .own d
  | _, .own d => .own d
  | _, _ => .no
def unl : Se → Se → Se
  | _, [] => []
  | [], y :: ys => unlX .no y :: unl [] ys
  | x :: xs, y :: ys => unlX x y :: unl xs ys
def vwX (b : Bool) : Sl → Option D
  | .no => none
  | .bor d => some d
  | .lok d => some d
  | .own d => if b || imm d then some d else none
def vwG (lk : List Nat) : Nat → Se → Ev
  | _, [] => []
  | n, x :: xs => vwX (lk.contains n) x :: vwG lk (n + 1) xs
theorem lockG_get (lk : List Nat) : ∀ (ρ : Se) (n i : Nat), (lockG lk n ρ)[i]? = (ρ[i]?).map (lockX (lk.contains (n + i)))
  | [], n, i => by simp [lockG]
  | x :: xs, n, 0 => by simp [lockG]
  | x :: xs, n, i + 1 => by
    unfold lockG
    rw [List.getElem?_cons_succ, List.getElem?_cons_succ, lockG_get lk xs (n + 1) i, Nat.add_assoc, Nat.add_comm 1 i]
theorem vwG_get (lk : List Nat) : ∀ (ρ : Se) (n i : Nat), (vwG lk n ρ)[i]? = (ρ[i]?).map (vwX (lk.contains (n + i)))
  | [], n, i => by simp [vwG]
  | x :: xs, n, 0 => by simp [vwG]
  | x :: xs, n, i + 1 => by
    unfold vwG
    rw [List.getElem?_cons_succ, List.getElem?_cons_succ, vwG_get lk xs (n + 1) i, Nat.add_assoc, Nat.add_comm 1 i]
theorem vwG_length (lk : List Nat) : ∀ (ρ : Se) (n : Nat), (vwG lk n ρ).length = ρ.length
  | [], n => rfl
  | x :: xs, n => by unfold vwG; rw [List.length_cons, List.length_cons, vwG_length lk xs]
theorem lockG_length (lk : List Nat) : ∀ (ρ : Se) (n : Nat), (lockG lk n ρ).length = ρ.length
  | [], n => rfl
  | x :: xs, n => by unfold lockG; rw [List.length_cons, List.length_cons, lockG_length lk xs]
theorem unl_get : ∀ (ρ ρ' : Se) (i : Nat), (unl ρ ρ')[i]? = (ρ'[i]?).map (unlX ((ρ[i]?).getD .no))
  | [], [], i => by simp [unl]
  | _ :: _, [], i => by simp [unl]
  | [], y :: ys, 0 => by simp [unl]
  | [], y :: ys, i + 1 => by
    unfold unl
    rw [List.getElem?_cons_succ, List.getElem?_cons_succ, unl_get [] ys i]
    simp
  | x :: xs, y :: ys, 0 => by simp [unl]
  | x :: xs, y :: ys, i + 1 => by
    unfold unl
    rw [List.getElem?_cons_succ, List.getElem?_cons_succ, List.getElem?_cons_succ, unl_get xs ys i]
theorem unl_length : ∀ (ρ ρ' : Se), (unl ρ ρ').length = ρ'.length
  | [], [] => rfl
  | _ :: _, [] => rfl
  | [], y :: ys => by unfold unl; rw [List.length_cons, List.length_cons, unl_length]
  | x :: xs, y :: ys => by unfold unl; rw [List.length_cons, List.length_cons, unl_length]
section
variable {w : World} {K : PySem.W.Frag} {z : Zn} {b : Bs} {H H' : Hp} {σ σ' : L2.St} {ρ ρ' : Se} {F F' : Nat → List Addr} {lk : List Nat}
/-- what a locked slot was -/
theorem lok_of {i : Nat} {d : D} (h : (lockG lk 0 ρ)[i]? = some (.lok d)) : ρ[i]? = some (.bor d) ∨ ρ[i]? = some (.lok d) ∨ (ρ[i]? = some (.own d) ∧ lk.contains i = true) := by
  rw [lockG_get, Nat.zero_add] at h
  cases e : ρ[i]? with
  | none => rw [e] at h; cases h
  | some x =>
    rw [e] at h
    cases x with
    | no => cases h
    | bor d' => cases h; exact .inl rfl
    | lok d' => cases h; exact .inr (.inl rfl)
    | own d' =>
      simp only [Option.map_some, lockX] at h
      split at h
      · rename_i g; cases h; exact .inr (.inr ⟨rfl, g⟩)
      · cases h
theorem own_of {i : Nat} {d : D} (h : (lockG lk 0 ρ)[i]? = some (.own d)) : ρ[i]? = some (.own d) ∧ lk.contains i = false := by
  rw [lockG_get, Nat.zero_add] at h
  cases e : ρ[i]? with
  | none => rw [e] at h; cases h
  | some x =>
    rw [e] at h
    cases x with
    | no => cases h
    | bor d' => cases h
    | lok d' => cases h
    | own d' =>
      simp only [Option.map_some, lockX] at h
      split at h
      · cases h
      · rename_i g; cases h; exact ⟨rfl, by simpa using g⟩
theorem bor_of {i : Nat} {d : D} (h : (lockG lk 0 ρ)[i]? = some (.bor d)) : False := by
  rw [lockG_get] at h
  cases e : ρ[i]? with
  | none => rw [e] at h; cases h
  | some x =>
    rw [e] at h
    cases x with
    | no => cases h
    | bor d' => cases h
    | lok d' => cases h
    | own d' =>
      simp only [Option.map_some, lockX] at h
      split at h <;> cases h
open Classical in
/-- the loop's own frame -/
noncomputable def loopB (lk : List Nat) (H1 : Hp) (σ : L2.St) (ρ : Se) (F : Nat → List Addr) : Bs where
  B := fun a => H1 a ≠ none ∧ ∀ i d, (lockG lk 0 ρ)[i]? = some (.own d) → a ∉ F i
  Hb := H1
  Lk := fun i => if ∃ d, (lockG lk 0 ρ)[i]? = some (.lok d) then (σ[i]?).join else none
theorem loopB_some {H1 : Hp} {i : Nat} {d : D} {v : V} (h : (lockG lk 0 ρ)[i]? = some (.lok d)) (ev : σ[i]? = some (some v)) : (loopB lk H1 σ ρ F).Lk i = some v := by
  unfold loopB
  simp only
  rw [if_pos ⟨d, h⟩, ev]; rfl
theorem loopB_ex {H1 : Hp} {i : Nat} {v : V} (h : (loopB lk H1 σ ρ F).Lk i = some v) : ∃ d, (lockG lk 0 ρ)[i]? = some (.lok d) := by
  unfold loopB at h
  simp only at h
  split at h
  · assumption
  · cases h
theorem EF.lock (e : EF w K z b H σ ρ F) (lk : List Nat) : EF w K z (loopB lk H σ ρ F) H σ (lockG lk 0 ρ) F where
  len := by rw [lockG_length]; exact e.len
  base := fun a x h _ _ => h
  bex := fun a h => h.1
  own := fun i d h => by
    obtain ⟨h1, _⟩ := own_of h
    obtain ⟨v, e1, r, n, _⟩ := e.own i d h1
    exact ⟨v, e1, r, n, fun a m q => q.2 i d h m⟩
  bor := fun i d h => (bor_of h).elim
  lok := fun i d h => by
    have lkv : ∀ v, σ[i]? = some (some v) → (loopB lk H σ ρ F).Lk i = some v := fun v ev => loopB_some h ev
    have inB : ∀ a, b.B a → (loopB lk H σ ρ F).B a := fun a hb => ⟨e.bex a hb, fun j d' hj m => by
      obtain ⟨_, _, _, _, nb⟩ := e.own j d' (own_of hj).1
      exact nb a m hb⟩
    rcases lok_of h with h1 | h1 | ⟨h1, hl⟩
    · obtain ⟨v, fp, e1, r, m⟩ := e.bor i d h1
      exact ⟨v, fp, lkv v e1, e1, r, fun a q => inB a (m a q)⟩
    · obtain ⟨v, fp, _, e1, r, m⟩ := e.lok i d h1
      exact ⟨v, fp, lkv v e1, e1, r, fun a q => inB a (m a q)⟩
    · obtain ⟨v, e1, r, n, nb⟩ := e.own i d h1
      refine ⟨v, F i, lkv v e1, e1, r, fun a q => ⟨(Rp.there _ r a q).1, fun j d' hj m => ?_⟩⟩
      obtain ⟨hj1, hj2⟩ := own_of hj
      have ne : i ≠ j := fun q' => by subst q'; rw [hl] at hj2; cases hj2
      exact e.sep i j d d' ne h1 hj1 a q m
  lk := fun i v h => loopB_ex h
  sep := fun i j d d' n h1 h2 => e.sep i j d d' n (own_of h1).1 (own_of h2).1
/-- behind the loop -/
theorem EF.unlock (e : EF w K z b H σ ρ F) (e' : EF w K z (loopB lk H σ ρ F) H' σ' ρ' F') : ∃ F2, EF w K z b H' σ' (unl ρ ρ') F2 := by
  have inB : ∀ a, b.B a → (loopB lk H σ ρ F).B a := fun a hb => ⟨e.bex a hb, fun j d' hj m => by
    obtain ⟨_, _, _, _, nb⟩ := e.own j d' (own_of hj).1
    exact nb a m hb⟩
  have st : ∀ {v d fp}, Rp w K z H v d fp → (∀ a ∈ fp, (loopB lk H σ ρ F).B a) → Rp w K z H' v d fp := fun {v d fp} r m => Rp.keep _ r fun a x ea na ha => by
    refine e'.base a x ea ?_ na
    rcases ha with ha | ha
    · exact m a ha
    · refine ⟨by rw [ea]; simp, fun j d' hj q => ?_⟩
      obtain ⟨_, _, r', _, _⟩ := e.own j d' (own_of hj).1
      exact (Rp.there _ r' a q).2.2 x ea ha
  -- a locked slot still holds its value
  have held : ∀ {i : Nat} {d : D} {v : V}, (lockG lk 0 ρ)[i]? = some (Sl.lok d) → σ[i]? = some (some v) → σ'[i]? = some (some v) ∧ ∃ d', ρ'[i]? = some (Sl.lok d') := fun {i d v} h ev => by
    have lkv : (loopB lk H σ ρ F).Lk i = some v := loopB_some h ev
    obtain ⟨d', hd'⟩ := e'.lk i v lkv
    obtain ⟨v', fp, q1, q2, _, _⟩ := e'.lok i d' hd'
    rw [lkv] at q1
    cases q1
    exact ⟨q2, d', hd'⟩
  have lb : ∀ {i : Nat} {d : D}, ρ[i]? = some (.bor d) → (lockG lk 0 ρ)[i]? = some (.lok d) := fun {i d} h => by rw [lockG_get, h]; rfl
  have ll : ∀ {i : Nat} {d : D}, ρ[i]? = some (.lok d) → (lockG lk 0 ρ)[i]? = some (.lok d) := fun {i d} h => by rw [lockG_get, h]; rfl
  have lo : ∀ {i : Nat} {d : D}, ρ[i]? = some (.own d) → lk.contains i = true → (lockG lk 0 ρ)[i]? = some (.lok d) := fun {i d} h hl => by rw [lockG_get, h, Nat.zero_add, hl]; rfl
  have loF : ∀ {i : Nat} {d : D}, ρ[i]? = some (.own d) → lk.contains i = true → ∀ a ∈ F i, (loopB lk H σ ρ F).B a := fun {i d} h hl a q => by
    obtain ⟨v, e1, r, n, nb⟩ := e.own i d h
    refine ⟨(Rp.there _ r a q).1, fun j d' hj m => ?_⟩
    obtain ⟨hj1, hj2⟩ := own_of hj
    have ne : i ≠ j := fun q' => by subst q'; rw [hl] at hj2; cases hj2
    exact e.sep i j d d' ne h hj1 a q m
  -- what an owned slot behind the loop is
  have owns : ∀ {i : Nat} {d : D}, (unl ρ ρ')[i]? = some (.own d) → (ρ[i]? = some (.own d) ∧ ∃ d', ρ'[i]? = some (.lok d')) ∨ ρ'[i]? = some (.own d) := fun {i d} h => by
    rw [unl_get] at h
    cases e2 : ρ'[i]? with
    | none => rw [e2] at h; cases h
    | some y =>
      rw [e2] at h
      cases e1 : ρ[i]? with
      | none =>
        rw [e1] at h
        cases y <;> simp only [Option.map_some, Option.getD_none, unlX] at h <;> first | (cases h; done) | (cases h; exact .inr rfl)
      | some x =>
        rw [e1] at h
        cases x <;> cases y <;> simp only [Option.map_some, Option.getD_some, unlX] at h <;> first | (cases h; done) | (cases h; exact .inr rfl) | (cases h; exact .inl ⟨rfl, _, rfl⟩)
  have lkd : ∀ {i : Nat} {d d' : D}, ρ[i]? = some (.own d) → ρ'[i]? = some (.lok d') → lk.contains i = true := fun {i d d'} h h' => by
    obtain ⟨v, fp, q1, _, _, _⟩ := e'.lok i d' h'
    obtain ⟨d2, h2⟩ := loopB_ex q1
    rcases lok_of h2 with z | z | ⟨_, z⟩
    · rw [h] at z; cases z
    · rw [h] at z; cases z
    · exact z
  refine ⟨fun i => match ρ'[i]? with | some (.lok _) => F i | _ => F' i, ?_⟩
  have Fl : ∀ {i : Nat} {d : D}, ρ'[i]? = some (Sl.lok d) → (match ρ'[i]? with | some (.lok _) => F i | _ => F' i) = F i := fun {i d} h => by simp only [h]
  have Fo : ∀ {i : Nat} {d : D}, ρ'[i]? = some (Sl.own d) → (match ρ'[i]? with | some (.lok _) => F i | _ => F' i) = F' i := fun {i d} h => by simp only [h]
  refine ⟨by rw [unl_length]; exact e'.len, fun a x h hb n => e'.base a x (e.base a x h hb n) (inB a hb) n, fun a hb => e'.bex a (inB a hb), fun i d h => ?_, fun i d h => ?_, fun i d h => ?_, fun i v h => ?_, fun i j d d' n h1 h2 => ?_⟩
  · rcases owns h with ⟨h1, d', h2⟩ | h1
    · have hl := lkd h1 h2
      obtain ⟨v, e1, r, nd, nb⟩ := e.own i d h1
      obtain ⟨q1, _⟩ := held (lo h1 hl) e1
      rw [Fl h2]
      exact ⟨v, q1, st r (loF h1 hl), nd, nb⟩
    · obtain ⟨v, e1, r, nd, nb⟩ := e'.own i d h1
      rw [Fo h1]
      exact ⟨v, e1, r, nd, fun a m hb => nb a m (inB a hb)⟩
  · rw [unl_get] at h
    cases e2 : ρ'[i]? with
    | none => rw [e2] at h; cases h
    | some y =>
      rw [e2] at h
      cases e1 : ρ[i]? with
      | none => rw [e1] at h; cases y <;> simp only [Option.map_some, Option.getD_none, unlX] at h <;> cases h
      | some x =>
        rw [e1] at h
        cases x <;> cases y <;> simp only [Option.map_some, Option.getD_some, unlX] at h <;> first | (cases h; done) | skip
        all_goals
          cases h
          obtain ⟨v, fp, q1, r, m⟩ := e.bor i _ e1
          obtain ⟨q2, _⟩ := held (lb e1) q1
          exact ⟨v, fp, q2, st r fun a q => inB a (m a q), m⟩
  · rw [unl_get] at h
    cases e2 : ρ'[i]? with
    | none => rw [e2] at h; cases h
    | some y =>
      rw [e2] at h
      cases e1 : ρ[i]? with
      | none => rw [e1] at h; cases y <;> simp only [Option.map_some, Option.getD_none, unlX] at h <;> cases h
      | some x =>
        rw [e1] at h
        cases x <;> cases y <;> simp only [Option.map_some, Option.getD_some, unlX] at h <;> first | (cases h; done) | skip
        all_goals
          cases h
          obtain ⟨v, fp, q0, q1, r, m⟩ := e.lok i _ e1
          obtain ⟨q2, _⟩ := held (ll e1) q1
          exact ⟨v, fp, q0, q2, st r fun a q => inB a (m a q), m⟩
  · obtain ⟨d, hd⟩ := e.lk i v h
    obtain ⟨v', fp, q0, q1, r, m⟩ := e.lok i d hd
    obtain ⟨q2, d', hd'⟩ := held (ll hd) q1
    refine ⟨d, ?_⟩
    rw [unl_get, hd', hd]; rfl
  · rcases owns h1 with ⟨a1, d1, a2⟩ | a1
    · rw [Fl a2]
      rcases owns h2 with ⟨b1, d2, b2⟩ | b1
      · rw [Fl b2]
        exact e.sep i j d d' n a1 b1
      · rw [Fo b1]
        intro a m q
        obtain ⟨_, _, _, _, nb⟩ := e'.own j d' b1
        exact nb a q (loF a1 (lkd a1 a2) a m)
    · rw [Fo a1]
      rcases owns h2 with ⟨b1, d2, b2⟩ | b1
      · rw [Fl b2]
        intro a m q
        obtain ⟨_, _, _, _, nb⟩ := e'.own i d a1
        exact nb a m (loF b1 (lkd b1 b2) a q)
      · rw [Fo b1]
        exact e'.sep i j d d' n a1 b1
/-- a borrowed value -/
theorem EF.setB (e : EF w K z b H σ ρ F) {i : Nat} {v : V} {d : D} {fp : List Addr} (nl : ∀ d', ρ[i]? ≠ some (.lok d')) (r : Rp w K z H v d fp) (m : ∀ a ∈ fp, b.B a) : EF w K z b H (σ.set i (some v)) (ρ.set i (.bor d)) F := by
  have other : ∀ {j x}, j ≠ i → (ρ.set i (Sl.bor d))[j]? = some x → ρ[j]? = some x := fun {j x} hj h => by rwa [List.getElem?_set_ne (Ne.symm hj)] at h
  have self : ∀ {x}, (ρ.set i (Sl.bor d))[i]? = some x → x = .bor d ∧ i < ρ.length := fun {x} h => by
    have hi : i < ρ.length := by
      have := (List.getElem?_eq_some_iff.mp h).1
      rwa [List.length_set] at this
    rw [List.getElem?_set_self hi] at h
    cases h
    exact ⟨rfl, hi⟩
  refine ⟨by rw [List.length_set, List.length_set, e.len], e.base, e.bex, fun j d' h => ?_, fun j d' h => ?_, fun j d' h => ?_, fun j v' h => ?_, fun j k d1 d2 n h1 h2 => ?_⟩
  · by_cases hj : j = i
    · subst hj; obtain ⟨q, _⟩ := self h; cases q
    · obtain ⟨v', e1, r'⟩ := e.own j d' (other hj h)
      exact ⟨v', by rw [List.getElem?_set_ne (Ne.symm hj)]; exact e1, r'⟩
  · by_cases hj : j = i
    · subst hj
      obtain ⟨q, hi⟩ := self h
      cases q
      exact ⟨v, fp, List.getElem?_set_self (by rw [e.len]; exact hi), r, m⟩
    · obtain ⟨v', f', e1, r'⟩ := e.bor j d' (other hj h)
      exact ⟨v', f', by rw [List.getElem?_set_ne (Ne.symm hj)]; exact e1, r'⟩
  · by_cases hj : j = i
    · subst hj; obtain ⟨q, _⟩ := self h; cases q
    · obtain ⟨v', f', e0, e1, r'⟩ := e.lok j d' (other hj h)
      exact ⟨v', f', e0, by rw [List.getElem?_set_ne (Ne.symm hj)]; exact e1, r'⟩
  · obtain ⟨d', e1⟩ := e.lk j v' h
    have hne : i ≠ j := fun q => nl d' (by rw [q]; exact e1)
    exact ⟨d', by rw [List.getElem?_set_ne hne]; exact e1⟩
  · have hj : j ≠ i := fun q => by subst q; obtain ⟨q, _⟩ := self h1; cases q
    have hk : k ≠ i := fun q => by subst q; obtain ⟨q, _⟩ := self h2; cases q
    exact e.sep j k d1 d2 n (other hj h1) (other hk h2)
end
def setBs (ρ : Se) : List Nat → List D → Option Se
  | i :: is, d :: ds => if notLok ρ i then setBs (ρ.set i (.bor d)) is ds else none
  | [], [] => some ρ
  | _, _ => none
def bindS : Tg → D → Se → Option Se
  | .n i, d, ρ => if notLok ρ i then some (ρ.set i (.bor d)) else none
  | .t is, .tup ds, ρ => setBs ρ is ds
  | _, _, _ => none
section
variable {w : World} {K : PySem.W.Frag} {z : Zn} {b : Bs} {H : Hp}
theorem EF.setBs {F : Nat → List Addr} : ∀ {is : List Nat} {ds : List D} {vs : List V} {fp : List Addr} {σ : L2.St} {ρ ρ' : Se}, EF w K z b H σ ρ F → RpA w K z H vs ds fp → (∀ a ∈ fp, b.B a) → FL.setBs ρ is ds = some ρ' → EF w K z b H (setV σ is vs) ρ' F ∧ vs.length = is.length
  | [], [], _, _, _, _, _, e, .nil, _, h => by cases h; exact ⟨by unfold setV; exact e, rfl⟩
  | [], _ :: _, _, _, _, _, _, _, _, _, h => by cases h
  | _ :: _, [], _, _, _, _, _, _, _, _, h => by cases h
  | i :: is, d :: ds, _, _, σ, ρ, ρ', e, .cons (v := v) r rs, m, h => by
    unfold FL.setBs at h
    split at h
    · rename_i g
      obtain ⟨q1, q2⟩ := EF.setBs (e.setB (notLok_iff g) r fun a q => m a (List.mem_append_left _ q)) rs (fun a q => m a (List.mem_append_right _ q)) h
      unfold setV
      exact ⟨q1, congrArg Nat.succ q2⟩
    · cases h
theorem bindS_go {F : Nat → List Addr} {tg : Tg} {σ : L2.St} {ρ ρ' : Se} {v : V} {d : D} {fp : List Addr} {Q : L2.St → Hp → Prop} (e : EF w K z b H σ ρ F) (r : Rp w K z H v d fp) (m : ∀ a ∈ fp, b.B a) (h : bindS tg d ρ = some ρ')
    (k : ∀ σ', EF w K z b H σ' ρ' F → Q σ' H) : gTg K tg v σ H Q := by
  unfold bindS at h
  split at h
  · split at h
    · rename_i g
      cases h
      exact k _ (e.setB (notLok_iff g) r m)
    · cases h
  · cases r with
    | tup hq n l rs =>
      obtain ⟨q1, q2⟩ := e.setBs rs m h
      exact ⟨_, _, rfl, hq, q2, k _ q1⟩
  · cases h
end
def foGo (tg : Tg) (body : Sv) : List D → Sv
  | [], ρ => Mo.pure (.nx, ρ)
  | d :: ds, ρ => (Mo.ofO (bindS tg d ρ)).bind fun ρ1 => (body ρ1).bind fun r => match r.1 with
    | .nx => foGo tg body ds r.2
    | .ct => foGo tg body ds r.2
    | .bk => Mo.pure (.nx, r.2)
    | .rt d => Mo.pure (.rt d, r.2)
/-- for over what is new -/
def sForN (lk : List Nat) (fi : Ev → Mo (List D)) (tg : Tg) (body : Sv) : Sv := fun ρ => (fi (vw ρ)).bind fun ds => (foGo tg body ds (lockG lk 0 ρ)).bind fun r => Mo.pure (r.1, unl ρ r.2)
/-- for over what may be a name's; the names of lk are locked in it -/
def sFor (lk : List Nat) (fi : Ev → Mo (List D)) (tg : Tg) (body : Sv) : Sv := fun ρ => (fi (vwG lk 0 ρ)).bind fun ds => (foGo tg body ds (lockG lk 0 ρ)).bind fun r => Mo.pure (r.1, unl ρ r.2)
section
variable {X : Cx} {tgE iter : Expr} {body : List Stmt} {pos : Pos}
theorem for_go {lk : List Nat} {tg : Tg} {g : Sv} {z : Zn} {b : Bs} {H1 : Hp} {σ : L2.St} {ρ : Se} {F : Nat → List Addr} {E : Ends} {J : It} {L : Addr → Prop} {ds : List D} {s1 s' : Ds} {o : Out} {ρ' : Se}
    (e : EF X.w X.K z b H1 σ ρ F) (z1 : ZRep z H1 s1) (lb : ∀ a, L a → (loopB lk H1 σ ρ F).B a) (Wk : WalkD X.w X.K z H1 J L ds) (run : foGo tg g ds (lockG lk 0 ρ) s1 = some ((o, ρ'), s')) (k : after X.w X.K z b E s' (unl ρ ρ') o) :
    ∃ W : Nat → Nat → L2.St → Hp → Prop, (∃ m, W 0 m σ H1) ∧ ∀ i m σ H, W i m σ H → (J.stop i H ∧ E.nx σ H) ∨ (J.go i H ∧ ∃ N : L2.St → Hp → Prop, (∀ σ' H', N σ' H' → ∃ m', m' < m ∧ W (i + 1) m' σ' H') ∧ ∀ x H', J.yld i H x H' → gTg X.K tg x σ H' fun σ2 H2 => tS X.w X.K g { E with nx := N, ct := N, bk := E.nx } σ2 H2) := by
  have fin : ∀ {H' : Hp} {σ' : L2.St}, ERep X.w X.K z (loopB lk H1 σ ρ F) H' σ' ρ' → ZRep z H' s' → ERep X.w X.K z b H' σ' (unl ρ ρ') := fun {H' σ'} ⟨F', e'⟩ _ => e.unlock e'
  refine ⟨fun i m σi H => m = ds.length - i ∧ i ≤ ds.length ∧ ∃ ρi si, ERep X.w X.K z (loopB lk H1 σ ρ F) H σi ρi ∧ ZRep z H si ∧ foGo tg g (ds.drop i) ρi si = some ((o, ρ'), s'), ⟨ds.length, by simp, Nat.zero_le _, lockG lk 0 ρ, s1, ⟨F, e.lock lk⟩, z1, by simpa using run⟩, ?_⟩
  rintro i m σi H ⟨rfl, hi, ρi, si, ⟨Fi, ei⟩, zi, ri⟩
  have kl : KeepL z L H1 H := fun a x ea na ha => ei.base a x ea (by
    rcases ha with ha | ha
    · exact lb a ha
    · refine ⟨by rw [ea]; simp, fun j d' hj q => ?_⟩
      obtain ⟨_, _, r', _, _⟩ := e.own j d' (own_of hj).1
      exact (Rp.there _ r' a q).2.2 x ea ha) na
  by_cases hlt : i < ds.length
  · have ed : ds[i]? = some ds[i] := List.getElem?_eq_getElem hlt
    rw [List.drop_eq_getElem_cons hlt] at ri
    unfold foGo at ri
    obtain ⟨ρ1, s2, h1, h2⟩ := Mo.bind_some ri
    obtain ⟨⟨o1, ρ2⟩, s3, h3, h4⟩ := Mo.bind_some h2
    obtain ⟨eb, rfl⟩ := Mo.ofO_some' h1
    refine .inr ⟨Wk.go i H hlt kl, fun σ' H' => ERep X.w X.K z (loopB lk H1 σ ρ F) H' σ' ρ2 ∧ ZRep z H' s3 ∧ foGo tg g (ds.drop (i + 1)) ρ2 s3 = some ((o, ρ'), s'), fun σ' H' ⟨q1, q2, q3⟩ => ⟨ds.length - (i + 1), by omega, rfl, hlt, ρ2, s3, q1, q2, q3⟩, fun x H' hy => ?_⟩
    obtain ⟨k1, z2, fp, rx, mx⟩ := Wk.yld i H x H' ds[i] s2 ed kl zi hy
    refine bindS_go (ei.keep k1 z2) rx (fun a m => lb a (mx a m)) eb fun σ2 e2 => ⟨z, _, ρ1, s2, o1, ρ2, s3, ⟨_, e2⟩, z2, h3, ?_⟩
    cases o1 with
    | nx => exact fun σ' H' q1 q2 => ⟨q1, q2, h4⟩
    | ct => exact fun σ' H' q1 q2 => ⟨q1, q2, h4⟩
    | bk => cases h4; exact fun σ' H' q1 q2 => k σ' H' (fin q1 q2) q2
    | rt d =>
      cases h4
      intro v H' fp kb r nb nd zr
      refine k v H' fp (fun a x ea ha na => kb a x (e.base a x ea ha na) ?_ na) r (fun a m hb => nb a m ?_) nd zr
      · exact ⟨e.bex a ha, fun j d' hj m => by
          obtain ⟨_, _, _, _, nb'⟩ := e.own j d' (own_of hj).1
          exact nb' a m ha⟩
      · exact ⟨e.bex a hb, fun j d' hj m' => by
          obtain ⟨_, _, _, _, nb'⟩ := e.own j d' (own_of hj).1
          exact nb' a m' hb⟩
  · have ei' : i = ds.length := by omega
    subst ei'
    rw [List.drop_length] at ri
    unfold foGo at ri
    cases ri
    exact .inl ⟨Wk.stop H kl, k _ H (fin ⟨Fi, ei⟩ zi) zi⟩
theorem s_forN {lk : List Nat} {tg : Tg} {fi : Ev → Mo (List D)} {g : Sv} (hc : X.calm = true) (hi : FL.I pNew X tgE iter fi) (hg : G X tgE tg) (hb : Ss X body g) (hp : PassesOwn (model X.prog X.w) X.A X.env X.xe := by exact PassesOwn.never)
    (hs : ∀ x, foldedSetIterable iter X.env x = pure x := by intro _; rfl) : S X (.For tgE iter body [] pos) (sForN lk fi tg g) := PS.weak (ps_for hp hc hi hg hb hs) fun E σ H ⟨z, b, ρ, s, o, ρ', s', ⟨F, e⟩, zr, hf, k⟩ => by
  obtain ⟨ds, s1, h1, h2⟩ := Mo.bind_some hf
  obtain ⟨⟨o1, ρ1⟩, s2, h3, h4⟩ := Mo.bind_some h2
  cases h4
  refine ⟨z, _, vw ρ, s, ds, s1, e.ein zr, h1, fun J H1 L k1 z1 l1 l2 Wk => ?_⟩
  refine for_go (e.keep k1 z1) z1 (fun a ha => ⟨l1 a ha, fun i d hi m => ?_⟩) Wk h3 k
  obtain ⟨_, _, r, _, _⟩ := e.own i d (own_of hi).1
  exact (Rp.there _ r a m).1 (l2 a ha)
theorem EF.einL {w : World} {K : PySem.W.Frag} {z : Zn} {b : Bs} {H : Hp} {σ : L2.St} {ρ : Se} {F : Nat → List Addr} {s : Ds} (e : EF w K z b H σ ρ F) (zr : ZRep z H s) (lk : List Nat) : EIn w K z (fun a => b.B a ∨ ∃ i d, ρ[i]? = some (.own d) ∧ lk.contains i = true ∧ a ∈ F i) H σ (vwG lk 0 ρ) s where
  v := fun i d h => by
    rw [vwG_get, Nat.zero_add] at h
    cases ex : ρ[i]? with
    | none => rw [ex] at h; cases h
    | some x =>
      rw [ex] at h
      cases x with
      | no => cases h
      | bor d' =>
        cases h
        obtain ⟨v, fp, e1, r, m⟩ := e.bor i d ex
        exact ⟨v, fp, e1, r, fun a q => .inl (m a q)⟩
      | lok d' =>
        cases h
        obtain ⟨v, fp, _, e1, r, m⟩ := e.lok i d ex
        exact ⟨v, fp, e1, r, fun a q => .inl (m a q)⟩
      | own d' =>
        simp only [Option.map_some, vwX] at h
        split at h
        · rename_i g
          cases h
          obtain ⟨v, e1, r, n, nb⟩ := e.own i d ex
          rcases Bool.or_eq_true_iff.mp g with g | g
          · exact ⟨v, _, e1, r, fun a q => .inr ⟨i, d, ex, g, q⟩⟩
          · have ef := Rp.imm _ r g
            rw [ef] at r
            exact ⟨v, [], e1, r, fun a q => by cases q⟩
        · cases h
  z := zr
  b := fun a h => by
    rcases h with h | ⟨i, d, ex, _, q⟩
    · exact e.bex a h
    · obtain ⟨v, e1, r, n, nb⟩ := e.own i d ex
      exact (Rp.there _ r a q).1
  len := by rw [vwG_length]; exact e.len
theorem s_for {lk : List Nat} {tg : Tg} {fi : Ev → Mo (List D)} {g : Sv} (hc : X.calm = true) (hi : FL.I pAny X tgE iter fi) (hg : G X tgE tg) (hb : Ss X body g) (hp : PassesOwn (model X.prog X.w) X.A X.env X.xe := by exact PassesOwn.never)
    (hs : ∀ x, foldedSetIterable iter X.env x = pure x := by intro _; rfl) : S X (.For tgE iter body [] pos) (sFor lk fi tg g) := PS.weak (ps_for hp hc hi hg hb hs) fun E σ H ⟨z, b, ρ, s, o, ρ', s', ⟨F, e⟩, zr, hf, k⟩ => by
  obtain ⟨ds, s1, h1, h2⟩ := Mo.bind_some hf
  obtain ⟨⟨o1, ρ1⟩, s2, h3, h4⟩ := Mo.bind_some h2
  cases h4
  refine ⟨z, _, vwG lk 0 ρ, s, ds, s1, e.einL zr lk, h1, fun J H1 L k1 z1 l1 l2 Wk => ?_⟩
  refine for_go (e.keep k1 z1) z1 (fun a ha => ⟨l1 a ha, fun i d hi m => ?_⟩) Wk h3 k
  obtain ⟨hi1, hi2⟩ := own_of hi
  obtain ⟨_, _, r, _, nb⟩ := e.own i d hi1
  rcases l2 a ha with q | q | ⟨j, d', ex, hj, q⟩
  · exact (Rp.there _ r a m).1 q
  · exact nb a m q
  · have ne : i ≠ j := fun z => by subst z; rw [hj] at hi2; cases hi2
    exact e.sep i j d d' ne hi1 ex a m q
end
end FL

set_option Elab.async false
set_option linter.all false
set_option maxRecDepth 100000
set_option maxHeartbeats 4000000
/-! FL12: unpacking, stores in place, operators with =, a def's body. -/
namespace FL
open PySem PySem.Spec L2

/-! ### a, b = .. -/
def setOs (ρ : Se) : List Nat → List D → Option Se
  | i :: is, d :: ds => if notLok ρ i then setOs (ρ.set i (.own d)) is ds else none
  | [], [] => some ρ
  | _, _ => none
section
variable {w : World} {K : PySem.W.Frag} {z : Zn} {b : Bs} {H : Hp}
theorem EF.setOs : ∀ {is : List Nat} {ds : List D} {vs : List V} {fp : List Addr} {σ : L2.St} {ρ ρ' : Se} {F : Nat → List Addr}, EF w K z b H σ ρ F → RpA w K z H vs ds fp → fp.Nodup → (∀ a ∈ fp, ¬ b.B a) → (∀ a ∈ fp, ∀ (j : Nat) (d : D), ρ[j]? = some (.own d) → a ∉ F j) → FL.setOs ρ is ds = some ρ' → (∃ F', EF w K z b H (setV σ is vs) ρ' F') ∧ vs.length = is.length
  | [], [], _, _, _, _, _, F, e, .nil, _, _, _, h => by cases h; exact ⟨⟨F, by unfold setV; exact e⟩, rfl⟩
  | [], _ :: _, _, _, _, _, _, _, _, _, _, _, _, h => by cases h
  | _ :: _, [], _, _, _, _, _, _, _, _, _, _, _, h => by cases h
  | i :: is, d :: ds, _, _, σ, ρ, ρ', F, e, .cons (v := v) (f := f) (g := g) r rs, nd, nb, nf, h => by
    unfold FL.setOs at h
    split at h
    · rename_i gl
      obtain ⟨n1, n2, n3⟩ := List.nodup_append.mp nd
      have e1 := e.set (notLok_iff gl) r n1 (fun a m => nb a (List.mem_append_left _ m)) fun a m j d' _ hj => nf a (List.mem_append_left _ m) j d' hj
      obtain ⟨q1, q2⟩ := EF.setOs e1 rs n2 (fun a m => nb a (List.mem_append_right _ m)) (fun a m j d' hj => by
        by_cases hji : j = i
        · simp only [hji, if_true]
          exact fun q => n3 a q a m rfl
        · simp only [hji, if_false]
          rw [List.getElem?_set_ne (Ne.symm hji)] at hj
          exact nf a (List.mem_append_right _ m) j d' hj) h
      unfold setV
      exact ⟨q1, congrArg Nat.succ q2⟩
    · cases h
end
def sUnp (is : List Nat) (f : Ev → Mo D) : Sv := fun ρ => (f (vw ρ)).bind fun d => match d with
  | .tup ds => (Mo.ofO (setOs ρ is ds)).bind fun ρ' => Mo.pure (.nx, ρ')
  | _ => Mo.fail
def sPar (is : List Nat) (g : Ev → Mo (List D)) : Sv := fun ρ => (g (vw ρ)).bind fun ds => (Mo.ofO (setOs ρ is ds)).bind fun ρ' => Mo.pure (.nx, ρ')
section
variable {X : Cx} {st : Stmt}
theorem s_unp {is : List Nat} {tgE e : Expr} {pos : Pos} {f : Ev → Mo D} (he : E X e f) (hg : G X tgE (.t is)) (hs : swapsWithSole [tgE] e pos.line X.env = pure false := by rfl) (hw : swappedStores [tgE] e X.env = pure none := by rfl)
    (h1 : (assignEach [tgE] X.env).map (·.2) = [assign tgE X.env] := by rfl) : S X (.Assign [tgE] e pos) (sUnp is f) := PS.weak (ps_asg he hg hs hw h1) fun E σ H ⟨z, b, ρ, s, o, ρ', s', ⟨F, er⟩, zr, hf, k⟩ => by
  obtain ⟨d, s1, e1, e2⟩ := Mo.bind_some hf
  split at e2
  · obtain ⟨ρ2, s2, e3, e4⟩ := Mo.bind_some e2
    obtain ⟨e5, rfl⟩ := Mo.ofO_some' e3
    cases e4
    refine ⟨z, _, vw ρ, s, _, _, er.ein zr, e1, fun v H' fp kk r fr n zr' => ?_⟩
    cases r with
    | tup hq nz l rs =>
      obtain ⟨q1, q2⟩ := EF.setOs (er.keep kk zr') rs n (fun a m hb => er.bex a hb (fr a m)) (fun a m j d' hj q => by
        obtain ⟨_, _, r', _, _⟩ := er.own j d' hj
        exact (Rp.there _ r' a q).1 (fr a m)) e5
      exact ⟨_, _, rfl, hq, q2, k _ H' q1 zr'⟩
  · cases e2
theorem par_go {is : List Nat} {g : Ev → Mo (List D)} {t : (List V → Hp → Prop) → L2.St → Hp → Prop} (h : ∀ E : Ends, PS X st (fun E σ H => tEA X.w X.K g σ H fun vs H1 => vs.length = is.length ∧ E.nx (setV σ is vs) H1)) : S X st (sPar is g) := PS.weak (h ⟨fun _ _ => True, fun _ _ => True, fun _ _ => True, fun _ _ => True⟩) fun E σ H ⟨z, b, ρ, s, o, ρ', s', ⟨F, er⟩, zr, hf, k⟩ => by
  obtain ⟨ds, s1, e1, e2⟩ := Mo.bind_some hf
  obtain ⟨ρ2, s2, e3, e4⟩ := Mo.bind_some e2
  obtain ⟨e5, rfl⟩ := Mo.ofO_some' e3
  cases e4
  refine ⟨z, _, vw ρ, s, ds, _, er.ein zr, e1, fun vs H' fp kk r fr n zr' => ?_⟩
  obtain ⟨q1, q2⟩ := EF.setOs (er.keep kk zr') r n (fun a m hb => er.bex a hb (fr a m)) (fun a m j d' hj q => by
    obtain ⟨_, _, r', _, _⟩ := er.own j d' hj
    exact (Rp.there _ r' a q).1 (fr a m)) e5
  exact ⟨q2, k _ H' q1 zr'⟩
theorem s_par2 {i j : Nat} {x y : Str} {a b : Expr} {px py pt pos : Pos} {kt k2 pt2} {g : Ev → Mo (List D)} (hc : X.calm = true) (hN : X.N.Nodup) (ha : AE X [a, b] g) (hij : i ≠ j := by decide) (hi : X.N[i]? = some x := by rfl) (hj : X.N[j]? = some y := by rfl)
    (hx : X.env.scope.names.lookup x = some .local := by rfl) (hy : X.env.scope.names.lookup y = some .local := by rfl) (hw : swappedStores [.Tuple [.Name x px, .Name y py] kt pt] (.Tuple [a, b] k2 pt2) X.env = pure (some [x, y]) := by rfl)
    (hs : swapsWithSole [.Tuple [.Name x px, .Name y py] kt pt] (.Tuple [a, b] k2 pt2) pos.line X.env = pure false := by rfl) : S X (.Assign [.Tuple [.Name x px, .Name y py] kt pt] (.Tuple [a, b] k2 pt2) pos) (sPar [i, j] g) :=
  par_go (t := fun _ _ _ => True) fun _ => PS.weak (ps_par hc hN hi hj hij hx hy ha hw hs) fun E σ H ⟨z, B, ρ, s, ds, s', I, hf, k⟩ => ⟨z, B, ρ, s, ds, s', I, hf, fun vs H' fp k1 r f n zr => by
    obtain ⟨q1, q2⟩ := k vs H' fp k1 r f n zr
    match vs, q1 with
    | [v, u], _ => exact ⟨v, u, rfl, q2⟩⟩
theorem s_par3 {i j l : Nat} {x y u : Str} {a b c : Expr} {px py pz pt pos : Pos} {kt k2 pt2} {g : Ev → Mo (List D)} (hc : X.calm = true) (hN : X.N.Nodup) (ha : AE X [a, b, c] g) (hij : i ≠ j := by decide) (hil : i ≠ l := by decide) (hjl : j ≠ l := by decide) (hi : X.N[i]? = some x := by rfl) (hj : X.N[j]? = some y := by rfl) (hl : X.N[l]? = some u := by rfl)
    (hx : X.env.scope.names.lookup x = some .local := by rfl) (hy : X.env.scope.names.lookup y = some .local := by rfl) (hz : X.env.scope.names.lookup u = some .local := by rfl) (hw : swappedStores [.Tuple [.Name x px, .Name y py, .Name u pz] kt pt] (.Tuple [a, b, c] k2 pt2) X.env = pure (some [x, y, u]) := by rfl)
    (hs : swapsWithSole [.Tuple [.Name x px, .Name y py, .Name u pz] kt pt] (.Tuple [a, b, c] k2 pt2) pos.line X.env = pure false := by rfl) : S X (.Assign [.Tuple [.Name x px, .Name y py, .Name u pz] kt pt] (.Tuple [a, b, c] k2 pt2) pos) (sPar [i, j, l] g) :=
  par_go (t := fun _ _ _ => True) fun _ => PS.weak (ps_par3 hc hN hi hj hl hij hil hjl hx hy hz ha hw hs) fun E σ H ⟨z, B, ρ, s, ds, s', I, hf, k⟩ => ⟨z, B, ρ, s, ds, s', I, hf, fun vs H' fp k1 r f n zr => by
    obtain ⟨q1, q2⟩ := k vs H' fp k1 r f n zr
    match vs, q1 with
    | [v, u, t], _ => exact ⟨v, u, t, rfl, q2⟩⟩
end

/-! ### stores in place -/
section
variable {X : Cx} {st : Stmt}
/-- an owned list is at hand -/
theorem EF.list {w : World} {K : PySem.W.Frag} {z : Zn} {b : Bs} {H : Hp} {σ : L2.St} {ρ : Se} {F : Nat → List Addr} {i : Nat} {xs : List D} (e : EF w K z b H σ ρ F) (h : ρ[i]? = some (.own (.lst xs))) :
    ∃ a vs fp, σ[i]? = some (some (.ref a)) ∧ H a = some (.lst vs) ∧ ¬ Zm z a ∧ vs.length ≤ sizeLine ∧ RpA w K z H vs xs fp ∧ F i = a :: fp ∧ (a :: fp).Nodup ∧ (∀ c ∈ a :: fp, ¬ b.B c) := by
  obtain ⟨v, ev, r, n, nb⟩ := e.own i _ h
  generalize hF : F i = Fi at r n nb
  cases r with
  | lst ha nz l q => exact ⟨_, _, _, ev, ha, nz, l, q, rfl, n, nb⟩
/-- x.append(e) -/
def sApp (i : Nat) (f : Ev → Mo D) : Sv := fun ρ => match ρ[i]? with
  | some (.own (.lst xs)) => (f (vw ρ)).bind fun d => (gd (decide (xs.length < sizeLine))).bind fun _ => Mo.pure (.nx, ρ.set i (.own (.lst (xs ++ [d]))))
  | _ => Mo.fail
theorem ownL_of {ρ : Se} {i : Nat} {f : List D → Mo (Out × Se)} {s : Ds} {r} (h : (match ρ[i]? with | some (.own (.lst xs)) => f xs | _ => Mo.fail) s = some r) : ∃ xs, ρ[i]? = some (.own (.lst xs)) ∧ f xs s = some r := by
  cases e : ρ[i]? with
  | none => rw [e] at h; cases h
  | some x =>
    rw [e] at h
    cases x with
    | own d => cases d <;> first | (cases h; done) | exact ⟨_, rfl, h⟩
    | no => cases h
    | bor d => cases h
    | lok d => cases h
theorem s_app {i : Nat} {x : Str} {e : Expr} {p apos cpos pos : Pos} {f : Ev → Mo D} (he : E X e f) (hN : X.N[i]? = some x := by rfl) (hv : Vis X.env.scope x := by first | exact Or.inl rfl | exact Or.inr (Or.inl rfl) | exact Or.inr (Or.inr rfl)) (hd : (x == ("__debug__" : Str)) = false := by decide) (hcd : (x == ("__classdict__" : Str)) = false := by decide)
    (hs1 : starEach [e] X.env = (false, eval e X.env) :: starEach [] X.env := by rfl)
    (hbase : attributeBase (.Name x p) "append" X.env (eval (.Name x p) X.env) = eval (.Name x p) X.env := by rfl)
    (hfew : ((backTo cpos (starEach [e] X.env)).all (fun x => !x.1) && (backToKw cpos (keywordEach [] X.env)).all (fun x => x.1.isSome) && decide ([e].length + ([] : List Keyword).length + (if ([] : List Keyword).isEmpty then 0 else 1) < 30)) = true := by rfl)
    (hline : (apos.endLine == cpos.line) = true := by rfl) (hplain : (backTo cpos (starEach [] X.env)).any (·.1) = false := by rfl) (hsw : swapsWith (.Call (.Attribute (.Name x p) "append" apos) [e] [] cpos) none pos.line X.env = pure false := by rfl) : S X (.Expr (.Call (.Attribute (.Name x p) "append" apos) [e] [] cpos) pos) (sApp i f) :=
  PS.weak (ps_expr (pe_bm PySem.F.plainAttrs_list PySem.F.slot_list_append PySem.F.type_list_append mt_append (pe_var hN hv hd hcd) (pa_cons he pa_nil hs1) hbase hfew hline hs1 hplain) hsw) fun E σ H ⟨z, b, ρ, s, o, ρ', s', ⟨F, er⟩, zr, hf, k⟩ => by
    obtain ⟨xs, hx, hf⟩ := ownL_of hf
    obtain ⟨d, s1, e1, e2⟩ := Mo.bind_some hf
    obtain ⟨_, s2, e3, e4⟩ := Mo.bind_some e2
    obtain ⟨g, rfl⟩ := gd_some e3
    cases e4
    obtain ⟨a, vs, fp, ev, ha, nz, l, q, hF, n, nb⟩ := er.list hx
    refine ⟨.ref a, ev, .inl ⟨rfl, _, .inl (.inl ha)⟩, z, _, vw ρ, s, d, _, er.ein zr, e1, fun v H' fq kk r fr n2 zr' => ?_⟩
    have ha' := kk _ _ ha nz
    have er' := er.keep kk zr'
    have lv : vs.length = xs.length := q.length
    refine ⟨a, vs, v, rfl, rfl, ha', by rw [lv]; exact of_decide_eq_true g, ?_⟩
    have na : a ∉ fp := (List.nodup_cons.mp n).1
    have naq : a ∉ fq := fun m => by have := fr a m; rw [ha] at this; cases this
    have ks : ∀ b' x', H' b' = some x' → b' ≠ a → upd H' a (.lst (vs ++ [v])) b' = some x' := fun b' x' eb hb => by rw [upd_ne hb]; exact eb
    have nS : ∀ b' x', H' b' = some x' → stays x' → b' ≠ a := fun b' x' eb sx q => by rw [q, ha'] at eb; cases eb; exact sx
    have ra : RpA X.w X.K z (upd H' a (.lst (vs ++ [v]))) (vs ++ [v]) (xs ++ [d]) (fp ++ fq) := by
      have r2 := RpA.cons (Rp.keep _ r (H' := upd H' a (.lst (vs ++ [v]))) fun b' x' eb _ hb => ks b' x' eb (hb.elim (fun m q => naq (q ▸ m)) (nS b' x' eb))) RpA.nil
      rw [List.append_nil] at r2
      exact RpA.append (RpA.keep _ (q.of_keep kk) fun b' x' eb _ hb => ks b' x' eb (hb.elim (fun m q => na (q ▸ m)) (nS b' x' eb))) r2
    have dj : ∀ c ∈ fq, ∀ (j : Nat) (d' : D), ρ[j]? = some (.own d') → c ∉ F j := fun c m j d' hj q' => by
      obtain ⟨_, _, r', _, _⟩ := er.own j d' hj
      exact (Rp.there _ r' c q').1 (fr c m)
    refine k σ _ ⟨_, er'.mut hx (by rw [hF]; exact List.mem_cons_self) (fp := a :: (fp ++ fq)) ?_ ?_ ?_ ?_⟩ ?_
    · rw [ev]
      exact .lst upd_same nz (by rw [List.length_append, lv]; exact of_decide_eq_true g) ra
    · obtain ⟨n3, n4⟩ := List.nodup_cons.mp n
      refine List.nodup_cons.mpr ⟨fun m => (List.mem_append.mp m).elim na naq, List.nodup_append.mpr ⟨n4, n2, fun c m c' m' ec => ?_⟩⟩
      subst ec
      exact dj c m' i _ hx (by rw [hF]; exact List.mem_cons_of_mem _ m)
    · intro c m
      rcases List.mem_cons.mp m with m | m
      · rw [m]; exact nb a List.mem_cons_self
      · rcases List.mem_append.mp m with m | m
        · exact nb c (List.mem_cons_of_mem _ m)
        · exact fun hb => er.bex c hb (fr c m)
    · intro c m j d' hj hd'
      have old : c ∈ F i → c ∉ F j := fun h => er.sep i j _ d' (Ne.symm hj) hx hd' c h
      rcases List.mem_cons.mp m with m | m
      · exact old (by rw [hF, m]; exact List.mem_cons_self)
      · rcases List.mem_append.mp m with m | m
        · exact old (by rw [hF]; exact List.mem_cons_of_mem _ m)
        · exact dj c m j d' hd'
    · intro a1 b1 e1
      obtain ⟨n5, p1, p2⟩ := zr' a1 b1 e1
      refine ⟨n5, ?_, ?_⟩
      · rw [upd_ne fun q => nz ⟨(a1, b1), e1, .inl q.symm⟩]; exact p1
      · rw [upd_ne fun q => nz ⟨(a1, b1), e1, .inr q.symm⟩]; exact p2
end
end FL

set_option Elab.async false
set_option linter.all false
set_option maxRecDepth 100000
set_option maxHeartbeats 4000000
/-! FL13: expressions that change what a name owns; stores; a def's body. -/
namespace FL
open PySem PySem.Spec L2

theorem ZRep.mut {z : Zn} {H : Hp} {s : Ds} {a : Addr} {o : HO} (zr : ZRep z H s) (nz : ¬ Zm z a) : ZRep z (L2.upd H a o) s := fun a1 b1 e1 => by
  obtain ⟨n5, p1, p2⟩ := zr a1 b1 e1
  refine ⟨n5, ?_, ?_⟩
  · rw [upd_ne fun q => nz ⟨(a1, b1), e1, .inl q.symm⟩]; exact p1
  · rw [upd_ne fun q => nz ⟨(a1, b1), e1, .inr q.symm⟩]; exact p2
section
variable {w : World} {K : PySem.W.Frag} {z : Zn} {b : Bs} {H : Hp} {σ : L2.St} {ρ : Se} {F : Nat → List Addr} {s : Ds}
/-- a slot that owns one cell: its content changed -/
theorem EF.flat (e : EF w K z b H σ ρ F) {i : Nat} {a : Addr} {o : HO} {d d' : D} (h : ρ[i]? = some (.own d)) (ev : σ[i]? = some (some (.ref a))) (hF : F i = [a]) (r : Rp w K z (upd H a o) (.ref a) d' [a]) : ERep w K z b (upd H a o) σ (ρ.set i (.own d')) := by
  obtain ⟨v, ev', rv, n, nb⟩ := e.own i d h
  rw [hF] at n nb
  refine ⟨_, e.mut h (by rw [hF]; exact List.mem_cons_self) (fp := [a]) (by rw [ev]; exact r) n nb fun c m j dj hj hd => ?_⟩
  exact e.sep i j d dj (Ne.symm hj) h hd c (by rw [hF]; exact m)
theorem EF.flatL (e : EF w K z b H σ ρ F) {i : Nat} {xs : List D} (h : ρ[i]? = some (.own (.lst xs))) (im : immL xs = true) :
    ∃ a vs, σ[i]? = some (some (.ref a)) ∧ H a = some (.lst vs) ∧ ¬ Zm z a ∧ vs.length ≤ sizeLine ∧ RpA w K z H vs xs [] ∧ F i = [a] := by
  obtain ⟨a, vs, fp, ev, ha, nz, l, q, hF, n, nb⟩ := e.list h
  have e1 := RpA.imm _ q im
  subst e1
  exact ⟨a, vs, ev, ha, nz, l, q, hF⟩
theorem RpA.upd_imm {vs : List V} {xs : List D} {a : Addr} {o : HO} {l : List V} (q : RpA w K z H vs xs []) (ha : H a = some (.lst l)) : RpA w K z (upd H a o) vs xs [] := RpA.keep _ q fun b' x' eb _ hb => by
  rw [upd_ne]
  · exact eb
  · rcases hb with hb | hb
    · cases hb
    · exact fun q => by rw [q, ha] at eb; cases eb; exact hb
theorem Rp.upd_imm {v : V} {d : D} {a : Addr} {o o' : HO} (q : Rp w K z H v d []) (ha : H a = some o') (ns : ¬ stays o') : Rp w K z (upd H a o) v d [] := Rp.keep _ q fun b' x' eb _ hb => by
  rw [upd_ne]
  · exact eb
  · rcases hb with hb | hb
    · cases hb
    · exact fun q => by rw [q, ha] at eb; cases eb; exact ns hb
end
/-! ### expressions that change the names' own things; their value is immutable -/
abbrev Me := Se → Mo (D × Se)
def tM (w : World) (K : PySem.W.Frag) (f : Me) : TE := fun σ H Q => ∃ z b ρ s d ρ' s', ERep w K z b H σ ρ ∧ ZRep z H s ∧ f ρ s = some ((d, ρ'), s') ∧ ∀ v H', ERep w K z b H' σ ρ' → Rp w K z H' v d [] → ZRep z H' s' → Q v H'
def EM (X : Cx) (e : Expr) (f : Me) : Prop := PE X e (tM X.w X.K f)
def mE (f : Ev → Mo D) : Me := fun ρ => (f (vw ρ)).bind fun d => (gd (imm d)).bind fun _ => Mo.pure (d, ρ)
section
variable {X : Cx} {st : Stmt}
theorem B.m {e : Expr} {f : Ev → Mo D} (h : B X e f) : EM X e (mE f) := PE.weak h fun σ H Q ⟨z, b, ρ, s, d, ρ', s', ⟨F, er⟩, zr, hf, k⟩ => by
  obtain ⟨d1, s1, e1, e2⟩ := Mo.bind_some hf
  obtain ⟨_, s2, e3, e4⟩ := Mo.bind_some e2
  obtain ⟨g, rfl⟩ := gd_some e3
  cases e4
  refine ⟨z, _, vw ρ, s, d, _, er.ein zr, e1, fun v H' fp kk r _ zr' => ?_⟩
  have e := Rp.imm _ r g
  subst e
  exact k v H' ⟨F, er.keep kk zr'⟩ r zr'
def asL : Option Sl → Option (List D)
  | some (.own (.lst xs)) => if immL xs then some xs else none
  | _ => none
theorem asL_some {o : Option Sl} {xs : List D} (h : asL o = some xs) : o = some (.own (.lst xs)) ∧ immL xs = true := by
  unfold asL at h
  split at h
  · split at h
    · rename_i g; cases h; exact ⟨rfl, g⟩
    · cases h
  · cases h
theorem getLast_rp {w : World} {K : PySem.W.Frag} {z : Zn} {H : Hp} {vs : List V} {xs : List D} {d : D} (q : RpA w K z H vs xs []) (h : xs[xs.length - 1]? = some d) : ∃ v, vs[vs.length - 1]? = some v ∧ Rp w K z H v d [] := by
  obtain ⟨v, f, e, r, m⟩ := q.get h
  have ef : f = [] := List.eq_nil_iff_forall_not_mem.mpr fun a ha => by have := m a ha; cases this
  subst ef
  exact ⟨v, by rw [q.length]; exact e, r⟩
theorem dropLast_rp {w : World} {K : PySem.W.Frag} {z : Zn} {H : Hp} {vs : List V} {xs : List D} (q : RpA w K z H vs xs []) (im : immL xs = true) : RpA w K z H vs.dropLast xs.dropLast [] := by
  rw [List.dropLast_eq_take, List.dropLast_eq_take, q.length]
  obtain ⟨f, r⟩ := q.take (xs.length - 1)
  have e := RpA.imm _ r (immL_sub im fun x m => List.mem_of_mem_take m)
  subst e
  exact r
/-- x.pop() -/
def mPop (i : Nat) : Me := fun ρ => (Mo.ofO (asL (ρ[i]?))).bind fun xs => (Mo.ofO (xs[xs.length - 1]?)).bind fun d => Mo.pure (d, ρ.set i (.own (.lst xs.dropLast)))
theorem em_pop {i : Nat} {x : Str} {p apos cpos : Pos} (hN : X.N[i]? = some x := by rfl) (hv : Vis X.env.scope x := by first | exact Or.inl rfl | exact Or.inr (Or.inl rfl) | exact Or.inr (Or.inr rfl)) (hd : (x == ("__debug__" : Str)) = false := by decide) (hcd : (x == ("__classdict__" : Str)) = false := by decide)
    (hbase : attributeBase (.Name x p) "pop" X.env (eval (.Name x p) X.env) = eval (.Name x p) X.env := by rfl) (hline : (apos.endLine == cpos.line) = true := by rfl) : EM X (.Call (.Attribute (.Name x p) "pop" apos) [] [] cpos) (mPop i) :=
  PE.weak (pe_bm0 PySem.F.plainAttrs_list PySem.F.slot_list_pop PySem.F.type_list_pop mt_pop (pe_var hN hv hd hcd) hbase hline) fun σ H Q ⟨z, b, ρ, s, d, ρ', s', ⟨F, er⟩, zr, hf, k⟩ => by
    obtain ⟨xs, s1, e1, e2⟩ := Mo.bind_some hf
    obtain ⟨d1, s2, e3, e4⟩ := Mo.bind_some e2
    obtain ⟨ea, rfl⟩ := Mo.ofO_some' e1
    obtain ⟨eb, rfl⟩ := Mo.ofO_some' e3
    cases e4
    obtain ⟨hx, im⟩ := asL_some ea
    obtain ⟨a, vs, ev, ha, nz, l, q, hF⟩ := er.flatL hx im
    obtain ⟨v, ev2, rv⟩ := getLast_rp q eb
    refine ⟨.ref a, ev, .inl ⟨rfl, _, .inl (.inl ha)⟩, a, vs, v, rfl, rfl, ha, ev2, ?_⟩
    exact k v _ (er.flat hx ev hF (.lst upd_same nz (by rw [List.length_dropLast]; omega) ((dropLast_rp q im).upd_imm ha))) (rv.upd_imm ha id) (zr.mut nz)
theorem eraseIdx_rp {w : World} {K : PySem.W.Frag} {z : Zn} {H : Hp} : ∀ {vs : List V} {xs : List D} {fp : List Addr} (j : Nat), RpA w K z H vs xs fp → ∃ f, RpA w K z H (vs.eraseIdx j) (xs.eraseIdx j) f
  | _, _, _, _, .nil => ⟨_, .nil⟩
  | _, _, _, 0, .cons _ r => ⟨_, r⟩
  | _, _, _, j + 1, .cons h r => let ⟨_, q⟩ := eraseIdx_rp j r; ⟨_, .cons h q⟩
/-- x.pop(e) -/
def mPopAt (i : Nat) (f : Ev → Mo D) : Me := fun ρ => (Mo.ofO (asL (ρ[i]?))).bind fun xs => (f (vw ρ)).bind fun k => match k with
  | .int k => (gd (decide (xs.length ≤ sizeLine))).bind fun _ => (Mo.ofO (ixN xs.length k)).bind fun j => (Mo.ofO (xs[j]?)).bind fun d => Mo.pure (d, ρ.set i (.own (.lst (xs.eraseIdx j))))
  | _ => Mo.fail
theorem em_popAt {i : Nat} {x : Str} {e : Expr} {p apos cpos : Pos} {f : Ev → Mo D} (he : B X e f) (hN : X.N[i]? = some x := by rfl) (hv : Vis X.env.scope x := by first | exact Or.inl rfl | exact Or.inr (Or.inl rfl) | exact Or.inr (Or.inr rfl)) (hd : (x == ("__debug__" : Str)) = false := by decide) (hcd : (x == ("__classdict__" : Str)) = false := by decide)
    (hs1 : starEach [e] X.env = (false, eval e X.env) :: starEach [] X.env := by rfl)
    (hbase : attributeBase (.Name x p) "pop" X.env (eval (.Name x p) X.env) = eval (.Name x p) X.env := by rfl)
    (hfew : ((backTo cpos (starEach [e] X.env)).all (fun x => !x.1) && (backToKw cpos (keywordEach [] X.env)).all (fun x => x.1.isSome) && decide ([e].length + ([] : List Keyword).length + (if ([] : List Keyword).isEmpty then 0 else 1) < 30)) = true := by rfl)
    (hline : (apos.endLine == cpos.line) = true := by rfl) (hplain : (backTo cpos (starEach [] X.env)).any (·.1) = false := by rfl) : EM X (.Call (.Attribute (.Name x p) "pop" apos) [e] [] cpos) (mPopAt i f) :=
  PE.weak (pe_bm PySem.F.plainAttrs_list PySem.F.slot_list_pop PySem.F.type_list_pop mt_popAt (pe_var hN hv hd hcd) (pa_cons he pa_nil hs1) hbase hfew hline hs1 hplain) fun σ H Q ⟨z, b, ρ, s, d, ρ', s', ⟨F, er⟩, zr, hf, k⟩ => by
    obtain ⟨xs, s1, e1, e2⟩ := Mo.bind_some hf
    obtain ⟨dk, s2, e3, e4⟩ := Mo.bind_some e2
    obtain ⟨ea, rfl⟩ := Mo.ofO_some' e1
    split at e4
    · rename_i n
      obtain ⟨_, s4, e5, e6⟩ := Mo.bind_some e4
      obtain ⟨j, s5, e7, e8⟩ := Mo.bind_some e6
      obtain ⟨d1, s6, e9, e10⟩ := Mo.bind_some e8
      obtain ⟨g, rfl⟩ := gd_some e5
      obtain ⟨ej, rfl⟩ := Mo.ofO_some' e7
      obtain ⟨ed, rfl⟩ := Mo.ofO_some' e9
      cases e10
      obtain ⟨hx, im⟩ := asL_some ea
      obtain ⟨a, vs, ev, ha, nz, l, q, hF⟩ := er.flatL hx im
      refine ⟨.ref a, ev, .inl ⟨rfl, _, .inl (.inl ha)⟩, z, _, vw ρ, _, _, _, er.ein zr, e3, fun v H' fq kk r _ zr' => ?_⟩
      cases r
      have ha' := kk _ _ ha nz
      have er' := er.keep kk zr'
      have q' := q.of_keep kk
      obtain ⟨v, f2, ev2, rv, mf⟩ := q'.get ed
      have ef : f2 = [] := List.eq_nil_iff_forall_not_mem.mpr fun c hc => by have := mf c hc; cases this
      subst ef
      obtain ⟨g1, g2, g3, g4⟩ := ixN_seq ej
      have gs := of_decide_eq_true g
      have big : (sizeLine : Int) < 2 ^ 63 := by rw [sizeLine_eq]; decide
      obtain ⟨f3, r3⟩ := eraseIdx_rp j q'
      have e3' := RpA.imm _ r3 (immL_sub im fun y m => List.mem_of_mem_eraseIdx m)
      subst e3'
      refine ⟨a, vs, n, j, v, rfl, rfl, ha', by omega, by omega, by rw [q'.length]; exact g1, ev2, ?_⟩
      exact k v _ (er'.flat hx ev hF (.lst upd_same nz (Nat.le_trans (List.length_eraseIdx_le _ _) l) (r3.upd_imm ha'))) (rv.upd_imm ha' id) (zr'.mut nz)
    · cases e4
theorem idxOf_le_of {n : Int} : ∀ {ns : List Int} {m : Nat}, ns[m]? = some n → ns.idxOf n ≤ m
  | [], _, h => by cases h
  | a :: l, 0, h => by cases h; simp
  | a :: l, m + 1, h => by
    rw [List.idxOf_cons]
    have := idxOf_le_of (ns := l) (m := m) h
    cases a == n <;> simp; omega
/-- x.remove(e), ints -/
def mRem (i : Nat) (f : Ev → Mo D) : Me := fun ρ => (Mo.ofO (asL (ρ[i]?))).bind fun xs => (f (vw ρ)).bind fun k => match k with
  | .int k => (Mo.ofO (intsOf xs)).bind fun ns => (gd (decide (k ∈ ns))).bind fun _ => Mo.pure (.non, ρ.set i (.own (.lst ((ns.erase k).map D.int))))
  | _ => Mo.fail
theorem em_rem {i : Nat} {x : Str} {e : Expr} {p apos cpos : Pos} {f : Ev → Mo D} (he : B X e f) (hN : X.N[i]? = some x := by rfl) (hv : Vis X.env.scope x := by first | exact Or.inl rfl | exact Or.inr (Or.inl rfl) | exact Or.inr (Or.inr rfl)) (hd : (x == ("__debug__" : Str)) = false := by decide) (hcd : (x == ("__classdict__" : Str)) = false := by decide)
    (hs1 : starEach [e] X.env = (false, eval e X.env) :: starEach [] X.env := by rfl)
    (hbase : attributeBase (.Name x p) "remove" X.env (eval (.Name x p) X.env) = eval (.Name x p) X.env := by rfl)
    (hfew : ((backTo cpos (starEach [e] X.env)).all (fun x => !x.1) && (backToKw cpos (keywordEach [] X.env)).all (fun x => x.1.isSome) && decide ([e].length + ([] : List Keyword).length + (if ([] : List Keyword).isEmpty then 0 else 1) < 30)) = true := by rfl)
    (hline : (apos.endLine == cpos.line) = true := by rfl) (hplain : (backTo cpos (starEach [] X.env)).any (·.1) = false := by rfl) : EM X (.Call (.Attribute (.Name x p) "remove" apos) [e] [] cpos) (mRem i f) :=
  PE.weak (pe_bm PySem.F.plainAttrs_list PySem.F.slot_list_remove PySem.F.type_list_remove mt_remove (pe_var hN hv hd hcd) (pa_cons he pa_nil hs1) hbase hfew hline hs1 hplain) fun σ H Q ⟨z, b, ρ, s, d, ρ', s', ⟨F, er⟩, zr, hf, k⟩ => by
    obtain ⟨xs, s1, e1, e2⟩ := Mo.bind_some hf
    obtain ⟨dk, s2, e3, e4⟩ := Mo.bind_some e2
    obtain ⟨ea, rfl⟩ := Mo.ofO_some' e1
    split at e4
    · rename_i n
      obtain ⟨ns, s4, e5, e6⟩ := Mo.bind_some e4
      obtain ⟨_, s5, e7, e8⟩ := Mo.bind_some e6
      obtain ⟨en, rfl⟩ := Mo.ofO_some' e5
      obtain ⟨g, rfl⟩ := gd_some e7
      cases e8
      have hk : n ∈ ns := of_decide_eq_true g
      have exs := intsOf_eq en
      subst exs
      obtain ⟨hx, im⟩ := asL_some ea
      obtain ⟨a, vs, ev, ha, nz, l, q, hF⟩ := er.flatL hx im
      refine ⟨.ref a, ev, .inl ⟨rfl, _, .inl (.inl ha)⟩, z, _, vw ρ, _, _, _, er.ein zr, e3, fun v H' fq kk r _ zr' => ?_⟩
      cases r
      have evs := q.ints
      subst evs
      have ha' := kk _ _ ha nz
      have er' := er.keep kk zr'
      have hlt : ns.idxOf n < ns.length := List.idxOf_lt_length_of_mem hk
      refine ⟨a, ns, n, ns.idxOf n, rfl, rfl, ha', ?_, fun m hm hc => ?_, ?_⟩
      · rw [List.getElem?_eq_getElem hlt, List.getElem_idxOf hlt]
      · have := idxOf_le_of hc
        omega
      · rw [← List.erase_eq_eraseIdx_of_idxOf rfl]
        refine k _ _ (er'.flat hx ev hF (.lst upd_same nz ?_ (RpA.of_ints _))) .non (zr'.mut nz)
        rw [List.length_map]
        rw [List.length_map] at l
        exact Nat.le_trans (List.length_erase_le ..) l
    · cases e4
/-- an expression as a statement -/
def sM (m : Me) : Sv := fun ρ => (m ρ).bind fun r => Mo.pure (.nx, r.2)
theorem s_m {e : Expr} {pos : Pos} {m : Me} (h : EM X e m) (hs : swapsWith e none pos.line X.env = pure false := by rfl) : S X (.Expr e pos) (sM m) := PS.weak (ps_expr h hs) fun E σ H ⟨z, b, ρ, s, o, ρ', s', er, zr, hf, k⟩ => by
  obtain ⟨⟨d, ρ1⟩, s1, e1, e2⟩ := Mo.bind_some hf
  cases e2
  exact ⟨z, b, ρ, s, d, _, _, er, zr, e1, fun v H' er' _ zr' => k σ H' er' zr'⟩
/-- y = such an expression -/
def sSetM (i : Nat) (m : Me) : Sv := fun ρ => (m ρ).bind fun r => (gd (notLok r.2 i)).bind fun _ => Mo.pure (.nx, r.2.set i (.own r.1))
theorem s_setM {i : Nat} {x : Str} {e : Expr} {pos pos' : Pos} {m : Me} (h : EM X e m) (hN : X.N.Nodup) (hi : X.N[i]? = some x := by rfl) (hx : Loc X.env.scope x := by first | exact Or.inl rfl | exact Or.inr rfl) (hs : swapsWith e (some (.Name x pos')) pos.line X.env = pure false := by rfl)
    (hf : X.fn x = true ∨ X.env.scope.names.lookup x = some .local := by first | exact .inl rfl | exact .inr rfl) : S X (.Assign [.Name x pos'] e pos) (sSetM i m) := PS.weak (ps_set hN hi hx h hs hf) fun E σ H ⟨z, b, ρ, s, o, ρ', s', er, zr, hf, k⟩ => by
  obtain ⟨⟨d, ρ1⟩, s1, e1, e2⟩ := Mo.bind_some hf
  obtain ⟨_, s2, e3, e4⟩ := Mo.bind_some e2
  obtain ⟨gl, rfl⟩ := gd_some e3
  cases e4
  refine ⟨z, b, ρ, s, d, ρ1, _, er, zr, e1, fun v H' ⟨F', er'⟩ r zr' => ?_⟩
  exact k _ H' ⟨_, er'.set (notLok_iff gl) r List.nodup_nil (fun a m => by cases m) fun a m => by cases m⟩ zr'
/-- found.append(such an expression), found a list of immutables -/
def sAppM (i : Nat) (m : Me) : Sv := fun ρ => (Mo.ofO (asL (ρ[i]?))).bind fun xs => (m ρ).bind fun r => (gd (decide (xs.length < sizeLine))).bind fun _ => (Mo.ofO (asL (r.2[i]?))).bind fun ys => (gd (decide (ys.length = xs.length))).bind fun _ => Mo.pure (.nx, r.2.set i (.own (.lst (ys ++ [r.1]))))
theorem s_appM {i : Nat} {x : Str} {e : Expr} {p apos cpos pos : Pos} {m : Me} (he : EM X e m) (hN : X.N[i]? = some x := by rfl) (hv : Vis X.env.scope x := by first | exact Or.inl rfl | exact Or.inr (Or.inl rfl) | exact Or.inr (Or.inr rfl)) (hd : (x == ("__debug__" : Str)) = false := by decide) (hcd : (x == ("__classdict__" : Str)) = false := by decide)
    (hs1 : starEach [e] X.env = (false, eval e X.env) :: starEach [] X.env := by rfl)
    (hbase : attributeBase (.Name x p) "append" X.env (eval (.Name x p) X.env) = eval (.Name x p) X.env := by rfl)
    (hfew : ((backTo cpos (starEach [e] X.env)).all (fun x => !x.1) && (backToKw cpos (keywordEach [] X.env)).all (fun x => x.1.isSome) && decide ([e].length + ([] : List Keyword).length + (if ([] : List Keyword).isEmpty then 0 else 1) < 30)) = true := by rfl)
    (hline : (apos.endLine == cpos.line) = true := by rfl) (hplain : (backTo cpos (starEach [] X.env)).any (·.1) = false := by rfl) (hsw : swapsWith (.Call (.Attribute (.Name x p) "append" apos) [e] [] cpos) none pos.line X.env = pure false := by rfl) : S X (.Expr (.Call (.Attribute (.Name x p) "append" apos) [e] [] cpos) pos) (sAppM i m) :=
  PS.weak (ps_expr (pe_bm PySem.F.plainAttrs_list PySem.F.slot_list_append PySem.F.type_list_append mt_append (pe_var hN hv hd hcd) (pa_cons he pa_nil hs1) hbase hfew hline hs1 hplain) hsw) fun E σ H ⟨z, b, ρ, s, o, ρ', s', ⟨F, er⟩, zr, hf, k⟩ => by
    obtain ⟨xs, s1, e1, e2⟩ := Mo.bind_some hf
    obtain ⟨⟨d, ρ1⟩, s2, e3, e4⟩ := Mo.bind_some e2
    obtain ⟨_, s3, e5, e6⟩ := Mo.bind_some e4
    obtain ⟨ys, s4, e7, e8⟩ := Mo.bind_some e6
    obtain ⟨_, s5, e9, e10⟩ := Mo.bind_some e8
    obtain ⟨ea, rfl⟩ := Mo.ofO_some' e1
    obtain ⟨g, rfl⟩ := gd_some e5
    obtain ⟨eb, rfl⟩ := Mo.ofO_some' e7
    obtain ⟨g2, rfl⟩ := gd_some e9
    cases e10
    obtain ⟨hx, im⟩ := asL_some ea
    obtain ⟨hy, im2⟩ := asL_some eb
    obtain ⟨a, vs, ev, ha, nz, l, q, hF⟩ := er.flatL hx im
    refine ⟨.ref a, ev, .inl ⟨rfl, _, .inl (.inl ha)⟩, z, b, ρ, _, d, ρ1, _, ⟨F, er⟩, zr, e3, fun v H' ⟨F', er'⟩ r zr' => ?_⟩
    obtain ⟨a', vs', ev', ha', nz', l', q', hF'⟩ := er'.flatL hy im2
    rw [ev] at ev'
    cases ev'
    have g := of_decide_eq_true g
    have g2 := of_decide_eq_true g2
    have lv := q'.length
    refine ⟨a, vs', v, rfl, rfl, ha', by omega, k σ _ (er'.flat hy ev hF' (.lst upd_same nz (by rw [List.length_append]; show vs'.length + 1 ≤ _; omega) ?_)) (zr'.mut nz)⟩
    have r2 := RpA.append (q'.upd_imm (o := .lst (vs' ++ [v])) ha') (RpA.cons (r.upd_imm (o := .lst (vs' ++ [v])) ha' id) RpA.nil)
    simpa using r2
end
end FL

set_option Elab.async false
set_option linter.all false
set_option maxRecDepth 100000
set_option maxHeartbeats 4000000
/-! FL14: sets of ints: {x}, comprehensions, add. -/
namespace FL
open PySem PySem.Spec L2

section
variable {X : Cx}
/-- set.add behind its hash -/
theorem setI_add {pins : List (Addr × Obj)} {σ : L2.St} {H : Hp} {s : Shared} {E : Value → Shared → Prop} {D : Addr} {S : Int → Bool} {n : Nat} {k : Int} {t : Tok} {Q : Bool → Shared → Prop} (I : L2.Inv X pins σ H s) (hD : H D = some (SetO X.w D S n)) (room : n + 1 < scanBound)
    (h : ∀ b s', L2.Inv X pins σ (L2.upd H D (SetO X.w D (fun j => S j || decide (j = k)) (if S k = true then n else n + 1))) s' → Q b s') : wpAny (model X.prog X.w) X.A (setAdd D (.int k t)) Q E s := by
  have R := setO_get I hD
  unfold setAdd
  refine wpAny_holding (wpAny_bind ((intKind X.prog X.w).pyHash (intKind_is X.prog X.w k t) ?_))
  refine setR_add_hashed (s := { s with toks := s.toks + 1 }) R room fun h' sb r => ?_
  have he : ∃ u, h'.get? D = some u := by
    have ⟨o, _, _, _, ho, _⟩ := r
    exact ⟨o, ho⟩
  exact h _ _ (I.write (e := D) (t' := s.toks + 1) (by rw [hD]; trivial) (.inl rfl) (fun b u hb hu => (sb.2 b hb).trans hu) he (setO_new r))
/-- {e} of an int -/
def tSet1 (w : World) (te : TE) : TE := fun σ H Q => ∀ D, H D = none → te σ (L2.upd H D (SetO w D (fun _ => false) 0)) fun y H2 => ∃ k, y = .int k ∧ H2 D = some (SetO w D (fun _ => false) 0) ∧ Q (.ref D) (L2.upd H2 D (SetO w D (fun j => decide (j = k)) 1))
theorem pe_set1 {e : Expr} {te : TE} {pos : Pos} (he : PE X e te) (hcd : PySem.W.kdsCode X.K X.env.code = true) (hs : starEach [e] X.env = [(false, eval e X.env)] := by rfl) : PE X (.Set [e] 0 pos) (tSet1 X.w te) := by
  refine ⟨fun pins s σ H Q I h => ?_⟩
  rw [arm_eval_Set]
  refine wpAny_bind (wpAny_standAt ?_)
  refine wpAny_bind (PySem.W.kds_main I.kIn hcd fun b => ?_)
  rw [hs]
  show wpAny _ _ (setDisplay .oneByOne b [(false, do let v ← eval e X.env; standAt pos; pure v)]) _ _ _
  unfold setDisplay
  try dsimp only
  rw [if_neg (by decide)]
  refine wpAny_bind (PpSet.newSet_ok ?_)
  generalize hD : s.heap.objs.size = D
  have hDn : H D = none := I.hok.fresh (Nat.le_of_eq hD)
  have I1 : L2.Inv X pins σ (L2.upd H D (SetO X.w D (fun _ => false) 0)) { s with heap := s.heap.push { cls := .type "set", dict := none, data := .set #[] 0 (.fresh 0 0 (!X.w.params.followText "set-order")) } } := by
    refine I.laid (t' := s.toks) (fun b o e => Heap.get?_push_of_some _ e) (Nat.le_of_eq hD) ?_
    rw [← hD]
    exact setO_new (setR_fresh X.w)
  refine wpAny_bind (wpAny_holding ?_)
  show wpAny _ _ ((evalAll [do let v ← eval e X.env; standAt pos; pure v]) >>= _) _ _ _
  refine wpAny_bind ?_
  unfold evalAll
  refine wpAny_bind (wpAny_bind (thn (he.run pins _ σ _ _ I1 (h D hDn)) fun v s2 ⟨y, H2, I2, r2, k, ey, hD2, q⟩ => ?_))
  subst ey
  obtain ⟨t, rfl⟩ := r2
  refine wpAny_bind (wpAny_standAt (wpAny_pure ?_))
  unfold evalAll
  refine wpAny_bind (wpAny_holding (wpAny_pure (wpAny_pure ?_)))
  refine wpAny_bind (wpAny_holding ?_)
  rw [List.forIn_cons]
  refine wpAny_bind (wpAny_bind (wpAny_bind (setI_add I2 hD2 (by decide) fun b2 s3 I3 => wpAny_pure ?_)))
  show wpAny _ _ (forIn [] _ _) _ _ _
  rw [List.forIn_nil]
  refine wpAny_pure ?_
  show wpAny _ _ (pure ()) _ _ _
  refine wpAny_pure ?_
  show wpAny _ _ (forIn [] _ _ >>= _) _ _ _
  rw [List.forIn_nil]
  refine wpAny_bind (wpAny_pure (wpAny_pure (wpAny_pure ?_)))
  refine ⟨.ref D, _, I3, rfl, ?_⟩
  simpa using q

/-! ### {elt for target in iter if ..}, ints -/
def tSci (w : World) (wi : TI) (g : TG) (tt : TT) (te : TE) (vs : List Nat) : TE := fun σ H Q => wi σ H fun J H1 => ∀ D, H1 D = none → ∃ W : Nat → Nat → Hp → Prop, (∃ m, W 0 m (L2.upd H1 D (SetO w D (fun _ => false) 0))) ∧ ∀ i m H, W i m H →
  (J.stop i H ∧ Q (.ref D) H) ∨ (J.go i H ∧ ∃ Nx : Hp → Prop, (∀ H', Nx H' → ∃ m', m' < m ∧ W (i + 1) m' H') ∧ ∀ x H', J.yld i H x H' → g x (L2.wipe σ vs) H' fun σ2 H2 => L2.wipe σ2 vs = L2.wipe σ vs ∧ tt σ2 H2 fun b H3 =>
    if b = true then te σ2 H3 fun y H4 => ∃ (c : Int) (S : Int → Bool) (n : Nat), y = .int c ∧ H4 D = some (SetO w D S n) ∧ n + 1 < scanBound ∧ Nx (L2.upd H4 D (SetO w D (fun j => S j || decide (j = c)) (if S c = true then n else n + 1))) else Nx H3)
theorem setI_call {pins : List (Addr × Obj)} {σ : L2.St} {H : Hp} {s : Shared} {E : Value → Shared → Prop} {D : Addr} {S : Int → Bool} {n : Nat} {k : Int} {t : Tok} {Q : Value → Shared → Prop} (I : L2.Inv X pins σ H s) (hD : H D = some (SetO X.w D S n)) (room : n + 1 < scanBound)
    (h : ∀ s', L2.Inv X pins σ (L2.upd H D (SetO X.w D (fun j => S j || decide (j = k)) (if S k = true then n else n + 1))) s' → Q .none s') : wpAny (model X.prog X.w) X.A (call (.builtin "set.add") [.ref D, .int k t]) Q E s := by
  refine setR_add (setO_get I hD) room fun h' sb r => ?_
  have he : ∃ u, h'.get? D = some u := by
    have ⟨o, _, _, _, ho, _⟩ := r
    exact ⟨o, ho⟩
  exact h _ (I.write (e := D) (t' := s.toks + 1) (by rw [hD]; trivial) (.inl rfl) (fun b u hb hu => (sb.2 b hb).trans hu) he (setO_new r))
theorem sci_core {pins : List (Addr × Obj)} {s : Shared} {σ : L2.St} {H : Hp} {Q : VK} {elt tg iter : Expr} {ifs : List Expr} {scope : Scope} {own : List (Str × Nat)} {pos pos' : Pos} {wi : TI} {g : TG} {tt : TT} {te : TE} {use : Option (Value → Sem Unit)} {Qf : Value → Shared → Prop}
    (hc : X.calm = true) (hN : X.N.Nodup) (I : L2.Inv X pins σ H s) (hi : PI X tg iter wi) (ok : BlkOk X.N X.env.scope scope own)
    (hg : ∀ (s : Shared) (H : Hp) (C : Addr) (cl : List (Str × Addr)) (fp : List Addr), PG (X.blk s H scope (compEnvC scope cl C X.env) fp) tg g) (ht : ∀ (s : Shared) (H : Hp) (C : Addr) (cl : List (Str × Addr)) (fp : List Addr), PTs (X.blk s H scope (compEnvC scope cl C X.env) fp) ifs tt)
    (he : ∀ (s : Shared) (H : Hp) (C : Addr) (cl : List (Str × Addr)) (fp : List Addr), PE (X.blk s H scope (compEnvC scope cl C X.env) fp) elt te) (hs : ∀ x, foldedSetIterable iter X.env x = pure x)
    (h : tSci X.w wi g tt te (own.map (·.2)) σ H Q)
    (hRR : ∀ D C s' m H', L2.Inv X pins σ H' s' → Q (.ref D) H' → s'.heap.Ns C m → FpOk X pins H' C → compPost (model X.prog X.w) X.A X.xe use Qf (.ref D) C (.ok .next) s') :
    wpAny (model X.prog X.w) X.A (comprehension (.SetComp elt [⟨tg, iter, ifs, 0⟩] scope pos) scope X.env pos' (newSet (.type "set")) false (eval iter X.env) use) Qf X.xe s := by
  have hfree : ∀ y ∈ scope.names, y.2 = .free → ∃ c, X.env.cells.lookup y.1 = some c := fun y hy e => (ok.free y hy e).elim (fun k => I.ok.has _ (.inl k)) fun k => I.ok.has _ (.inr k)
  refine wpAny_comprehension_free (use := use) rfl hs (closure_ok hfree) ok.kind (fun y hy e => by rw [ok.uniq y hy, e]) (thn (hi.run pins s σ H _ I h) fun xv s1 hx => thn hx fun itv s2 h2 => ?_)
  obtain ⟨it, fp, tn, J, H2, e, I2, T, st2, f2, q⟩ := h2
  subst e
  refine PpSet.newSet_ok (newEnv_comp ?_)
  generalize hD : s2.heap.objs.size = D
  have hDn : H2 D = none := I2.hok.fresh (Nat.le_of_eq hD)
  obtain ⟨W, ⟨m0, w0⟩, turn⟩ := q D hDn
  generalize hs3 : ({ s2 with heap := s2.heap.push { cls := .type "set", dict := none, data := .set #[] 0 (.fresh 0 0 (!X.w.params.followText "set-order")) } } : Shared) = s3
  have h3 : s3.heap = s2.heap.push { cls := .type "set", dict := none, data := .set #[] 0 (.fresh 0 0 (!X.w.params.followText "set-order")) } := by rw [← hs3]
  have I3 : L2.Inv X pins σ (L2.upd H2 D (SetO X.w D (fun _ => false) 0)) s3 := by
    rw [← hs3]
    refine I2.laid (t' := s2.toks) (fun b o e => Heap.get?_push_of_some _ e) (Nat.le_of_eq hD) ?_
    rw [← hD]
    exact setO_new (setR_fresh X.w)
  generalize hH3 : L2.upd H2 D (SetO X.w D (fun _ => false) 0) = H3 at I3 w0
  have f3 : ∀ b ∈ fp, FpOk X pins H3 b ∧ b < s3.heap.objs.size := fun b hb => by
    obtain ⟨o, e, _⟩ := T.obj _ _ st2 b hb
    have hlt := Heap.lt_size e
    refine ⟨⟨?_, (f2 b hb).2⟩, by rw [h3, Heap.size_push]; exact Nat.lt_succ_of_lt hlt⟩
    rw [← hH3, upd_ne (by rw [← hD]; exact Nat.ne_of_lt hlt)]
    exact (f2 b hb).1
  have nfp : ∀ b ∈ fp, H3 b = none := fun b hb => (f3 b hb).1.1
  have I4 := block_start I3 ok hN f3
  generalize hcl : cellsFrom (s3.heap.objs.size + 1) scope.names (cloFrom X.env.cells scope.names []) = cl at I4
  have pg := hg s3 H3 s3.heap.objs.size cl fp
  have pt := ht s3 H3 s3.heap.objs.size cl fp
  have pe := he s3 H3 s3.heap.objs.size cl fp
  show codeAny _ _ (.compStart (.SetComp elt [⟨tg, iter, ifs, 0⟩] scope pos) 0 (.ref it) (.ref D) (compEnvC scope cl s3.heap.objs.size X.env)) (compPost (model X.prog X.w) X.A X.xe use Qf (.ref D) s3.heap.objs.size) { s3 with heap := pushCells (s3.heap.push { cls := .type "dict", data := .dict #[] }) scope.names }
  generalize hce : compEnvC scope cl s3.heap.objs.size X.env = ce at I4 pg pt pe ⊢
  have cL : ce.locals = s3.heap.objs.size := by subst hce; rfl
  generalize hs4 : ({ s3 with heap := pushCells (s3.heap.push { cls := .type "dict", data := .dict #[] }) scope.names } : Shared) = s4 at I4 ⊢
  have st4 : tn 0 s4.heap := T.keep _ _ _ st2 fun b _ o e => by
    rw [← hs4]
    refine pushCells_keeps _ _ _ _ (Heap.get?_push_of_some _ ?_)
    rw [h3]
    exact Heap.get?_push_of_some _ e
  have stat : ∀ {σ' : L2.St} {H' : Hp} {s' : Shared}, L2.Inv (X.blk s3 H3 scope ce fp) [] σ' H' s' → (∀ b ∈ fp, H' b = none) → ∀ b ∈ fp, FpOk (X.blk s3 H3 scope ce fp) [] H' b := fun {σ' H' s'} I' hn b hb =>
    ⟨hn b hb, (I'.ok.exf b hb).1, I'.ok.exfs b hb, .inl hb, fun x c e => (I'.ok.exf b hb).2 x c e, fun p hp => absurd (show p ∈ ([] : List (Addr × Obj)) ++ [] from hp) (by simp)⟩
  have loop : codeAny (model X.prog X.w) X.A (.compLoop (.SetComp elt [⟨tg, iter, ifs, 0⟩] scope pos) 0 (.ref it) (.ref D) ce) (compPost (model X.prog X.w) X.A X.xe use Qf (.ref D) s3.heap.objs.size) s4 := by
    refine PpSet.compLoopS_any (fun n s' => ∃ i H', L2.Inv (X.blk s3 H3 scope ce fp) [] (L2.wipe σ (own.map (·.2))) H' s' ∧ tn i s'.heap ∧ (∀ b ∈ fp, H' b = none) ∧ W i n H') ?_ m0 ⟨0, H3, I4, st4, nfp, w0⟩
    rintro n s5 ⟨i, H5, I5, st5, n5, w5⟩
    rcases turn i n H5 w5 with ⟨stop, qq⟩ | ⟨go, Nx, hNx, step⟩
    · refine thnF (T.done (X.blk s3 H3 scope ce fp) rfl rfl rfl hc i [] s5 _ H5 (fun _ _ => False) I5 (stat I5 n5) st5 stop) fun r s6 ⟨hr, I6⟩ => ?_
      subst hr
      have I7 : L2.Inv X pins σ H5 s6 := I3.call' (ch := fp) I6.os I6.base I6.hok I6.bare fun b hb => ⟨(f3 b hb).1.2.2.2.1, (f3 b hb).1.2.1, (f3 b hb).1.2.2.2.2.1, (f3 b hb).1.2.2.2.2.2⟩
      have nC : H5 s3.heap.objs.size = none := by
        have z : H5 ce.locals = none := I6.free
        rwa [cL] at z
      obtain ⟨m, hn, _⟩ := I6.loc
      have hn : s6.heap.Ns ce.locals m := hn
      rw [cL] at hn
      exact hRR D s3.heap.objs.size s6 m H5 I7 qq hn (I3.fpOk (Nat.le_refl _) nC)
    · refine thnF (T.item (X.blk s3 H3 scope ce fp) rfl rfl rfl hc i [] s5 _ H5 (fun _ _ => False) I5 (stat I5 n5) st5 go) fun r s6 ⟨u, hr, h6⟩ => ?_
      subst hr
      refine thnF h6 fun _ s7 ⟨x, H7, I7, r7, y7, st7, n7⟩ => ?_
      have I7' := I7.pinned (stat I7 n7) (T.obj _ _ st7)
      refine thnF (pg.run _ s7 _ H7 x u _ I7' r7 (step x H7 y7)) fun _ s8 ⟨σ8, H8, I8, hw8, q8⟩ => ?_
      refine thnF (pt.run _ s8 σ8 H8 _ I8 q8) fun b s9 ⟨H9, I9, q9⟩ => ?_
      have fin : ∀ {s' : Shared} {H' : Hp}, L2.Inv (X.blk s3 H3 scope ce fp) ([] ++ pinsAt fp s7.heap) σ8 H' s' → Nx H' → ∃ m, m < n ∧ ∃ i H', L2.Inv (X.blk s3 H3 scope ce fp) [] (L2.wipe σ (own.map (·.2))) H' s' ∧ tn i s'.heap ∧ (∀ b ∈ fp, H' b = none) ∧ W i m H' := fun {s' H'} I' nx => by
        obtain ⟨m', hm, w'⟩ := hNx H' nx
        have pin' : ∀ b ∈ fp, ∀ o, s7.heap.get? b = some o → s'.heap.get? b = some o ∧ H' b = none := fun b hb o e =>
          let z := I'.pin (b, o) (List.mem_append_right _ (List.mem_append_right _ (mem_pinsAt hb e)))
          ⟨z.1, z.2.1⟩
        refine ⟨m', hm, i + 1, H', (I'.unpinned (pins := [])).weak (by rw [← hw8, L2.wipe_length]) (fun j v e => ?_), T.keep _ _ _ st7 fun b hb o e => (pin' b hb o e).1, fun b hb => ?_, w'⟩
        · rw [← hw8] at e
          exact (wipe_some e).1
        · obtain ⟨o, e, _⟩ := T.obj _ _ st7 b hb
          exact (pin' b hb o e).2
      cases b with
      | false =>
        simp only [Bool.false_eq_true, if_false] at q9 ⊢
        exact fin I9 q9
      | true =>
        simp only [if_true] at q9 ⊢
        refine thnF (pe.run _ s9 σ8 H9 _ I9 q9) fun z s10 ⟨yv, H10, I10, r10, cb, S0, n0, ey, hD10, hz10, nx⟩ => ?_
        subst ey
        obtain ⟨t, rfl⟩ := r10
        exact setI_call (X := X.blk s3 H3 scope ce fp) I10 hD10 hz10 fun s11 I11 => fin I11 nx
  exact PpSet.codeAny_compStart_set loop (T.self X.A 0 _ _ _ st4 loop)
/-- as a value -/
theorem pe_sci {elt tg iter : Expr} {ifs : List Expr} {scope : Scope} {own : List (Str × Nat)} {pos : Pos} {wi : TI} {g : TG} {tt : TT} {te : TE} (hc : X.calm = true) (hN : X.N.Nodup) (hi : PI X tg iter wi) (ok : BlkOk X.N X.env.scope scope own)
    (hg : ∀ (s : Shared) (H : Hp) (C : Addr) (cl : List (Str × Addr)) (fp : List Addr), PG (X.blk s H scope (compEnvC scope cl C X.env) fp) tg g) (ht : ∀ (s : Shared) (H : Hp) (C : Addr) (cl : List (Str × Addr)) (fp : List Addr), PTs (X.blk s H scope (compEnvC scope cl C X.env) fp) ifs tt)
    (he : ∀ (s : Shared) (H : Hp) (C : Addr) (cl : List (Str × Addr)) (fp : List Addr), PE (X.blk s H scope (compEnvC scope cl C X.env) fp) elt te) (hs : ∀ x, foldedSetIterable iter X.env x = pure x := by intro _; rfl) :
    PE X (.SetComp elt [⟨tg, iter, ifs, 0⟩] scope pos) (tSci X.w wi g tt te (own.map (·.2))) := by
  refine ⟨fun pins s σ H Q I h => ?_⟩
  rw [PpSet.eval_SetComp]
  refine sci_core hc hN I hi ok hg ht he hs h fun D C s' m H' I' q hn f => ⟨m, hn, fun h'' sb => ?_⟩
  obtain ⟨f0, f1, f2, f3, f4, f5⟩ := f
  exact ⟨.ref D, H', I'.turned (t' := s'.toks) (fun b o hb e => (sb.2 b hb).trans e) f0 f1 f3 f4 f5, rfl, q⟩
/-- name = such a comprehension on one line, the name a local -/
theorem ps_setSci {i : Nat} {y : Str} {py : Pos} {elt tg iter : Expr} {ifs : List Expr} {te : TE} {scope : Scope} {own : List (Str × Nat)} {pos spos : Pos} {wi : TI} {g : TG} {tt : TT} (hc : X.calm = true) (hN : X.N.Nodup) (hy : X.N[i]? = some y) (hyl : X.env.scope.names.lookup y = some .local) (hsw : swapsWith (.SetComp elt [⟨tg, iter, ifs, 0⟩] scope pos) (some (.Name y py)) spos.line X.env = pure true) (hi : PI X tg iter wi) (ok : BlkOk X.N X.env.scope scope own)
    (hg : ∀ (s : Shared) (H : Hp) (C : Addr) (cl : List (Str × Addr)) (fp : List Addr), PG (X.blk s H scope (compEnvC scope cl C X.env) fp) tg g) (ht : ∀ (s : Shared) (H : Hp) (C : Addr) (cl : List (Str × Addr)) (fp : List Addr), PTs (X.blk s H scope (compEnvC scope cl C X.env) fp) ifs tt)
    (he : ∀ (s : Shared) (H : Hp) (C : Addr) (cl : List (Str × Addr)) (fp : List Addr), PE (X.blk s H scope (compEnvC scope cl C X.env) fp) elt te) (hs : ∀ x, foldedSetIterable iter X.env x = pure x := by intro _; rfl) :
    PS X (.Assign [.Name y py] (.SetComp elt [⟨tg, iter, ifs, 0⟩] scope pos) spos) (tAsg (tSci X.w wi g tt te (own.map (·.2))) (gName i)) := by
  refine ⟨fun pins s σ H D I h => ?_⟩
  rw [exec_Assign_Name_used _ _ _ _ hsw]
  refine wpAny_bind (wpAny_standAt (wpAny_bind ?_))
  show wpAny _ X.A (do let _ ← comprehension (.SetComp elt [⟨tg, iter, ifs, 0⟩] scope pos) scope X.env (firstIterPos [⟨tg, iter, ifs, 0⟩] pos) (newSet (.type "set")) false (eval iter X.env) (some (assign (.Name y py) X.env))) _ _ s
  have h : tSci X.w wi g tt te (own.map (·.2)) σ H (fun x H1 => gName i x σ H1 D.nx) := h
  refine wpAny_bind (thn (sci_core (Qf := fun _ s' => SP X pins D .next s') hc hN I hi ok hg ht he hs h fun L C s' m H' I' q hn f => ?_) fun _ s' hq => wpAny_pure (wpAny_pure hq))
  show wpAny _ _ (assign (.Name y py) X.env (.ref L)) _ _ _
  refine wpAny_assign_Name (store_ok2 (v := V.ref L) I' hN hy (.inl hyl) rfl (fun s2 I2 ⟨a, sb, ha⟩ => ?_) (.inr hyl))
  obtain ⟨f0, f1, f2, f3, f4, f5⟩ := f
  have haC : C ≠ a := by
    rcases ha with z | z
    · rw [z]; exact f1
    · exact fun e => f4 y a z e.symm
  exact ⟨m, hn.sameBut sb haC, fun h3 sb3 => ⟨_, H', I2.turned (t' := s2.toks) (fun b o hb e => (sb3.2 b hb).trans e) f0 f1 f3 f4 f5, q⟩⟩
/-- name = such a comprehension on one line, the name a local -/
theorem ps_setDc {i : Nat} {y : Str} {py : Pos} {kx vx tg iter : Expr} {ifs : List Expr} {tk tv : TE} {scope : Scope} {own : List (Str × Nat)} {pos spos : Pos} {wi : TI} {g : TG} {tt : TT} (hc : X.calm = true) (hN : X.N.Nodup) (hy : X.N[i]? = some y) (hyl : X.env.scope.names.lookup y = some .local) (hsw : swapsWith (.DictComp kx vx [⟨tg, iter, ifs, 0⟩] scope pos) (some (.Name y py)) spos.line X.env = pure true) (hi : PI X tg iter wi) (ok : BlkOk X.N X.env.scope scope own)
    (hg : ∀ (s : Shared) (H : Hp) (C : Addr) (cl : List (Str × Addr)) (fp : List Addr), PG (X.blk s H scope (compEnvC scope cl C X.env) fp) tg g) (ht : ∀ (s : Shared) (H : Hp) (C : Addr) (cl : List (Str × Addr)) (fp : List Addr), PTs (X.blk s H scope (compEnvC scope cl C X.env) fp) ifs tt)
    (hk : ∀ (s : Shared) (H : Hp) (C : Addr) (cl : List (Str × Addr)) (fp : List Addr), PE (X.blk s H scope (compEnvC scope cl C X.env) fp) kx tk)
    (he : ∀ (s : Shared) (H : Hp) (C : Addr) (cl : List (Str × Addr)) (fp : List Addr), PE (X.blk s H scope (compEnvC scope cl C X.env) fp) vx tv) (hs : ∀ x, foldedSetIterable iter X.env x = pure x := by intro _; rfl) :
    PS X (.Assign [.Name y py] (.DictComp kx vx [⟨tg, iter, ifs, 0⟩] scope pos) spos) (tAsg (tDc wi g tt tk tv (own.map (·.2))) (gName i)) := by
  refine ⟨fun pins s σ H D I h => ?_⟩
  rw [exec_Assign_Name_used _ _ _ _ hsw]
  refine wpAny_bind (wpAny_standAt (wpAny_bind ?_))
  show wpAny _ X.A (do let _ ← comprehension (.DictComp kx vx [⟨tg, iter, ifs, 0⟩] scope pos) scope X.env (firstIterPos [⟨tg, iter, ifs, 0⟩] pos) (newDict) false (eval iter X.env) (some (assign (.Name y py) X.env))) _ _ s
  have h : tDc wi g tt tk tv (own.map (·.2)) σ H (fun x H1 => gName i x σ H1 D.nx) := h
  refine wpAny_bind (thn (dc_core (Qf := fun _ s' => SP X pins D .next s') hc hN I hi ok hg ht hk he hs h fun L C s' m H' I' q hn f => ?_) fun _ s' hq => wpAny_pure (wpAny_pure hq))
  show wpAny _ _ (assign (.Name y py) X.env (.ref L)) _ _ _
  refine wpAny_assign_Name (store_ok2 (v := V.ref L) I' hN hy (.inl hyl) rfl (fun s2 I2 ⟨a, sb, ha⟩ => ?_) (.inr hyl))
  obtain ⟨f0, f1, f2, f3, f4, f5⟩ := f
  have haC : C ≠ a := by
    rcases ha with z | z
    · rw [z]; exact f1
    · exact fun e => f4 y a z e.symm
  exact ⟨m, hn.sameBut sb haC, fun h3 sb3 => ⟨_, H', I2.turned (t' := s2.toks) (fun b o hb e => (sb3.2 b hb).trans e) f0 f1 f3 f4 f5, q⟩⟩
end
end FL

set_option Elab.async false
set_option linter.all false
set_option maxRecDepth 100000
set_option maxHeartbeats 4000000
/-! FL15: sets as data; += . -/
namespace FL
open PySem PySem.Spec L2

def insI (xs : List Int) (k : Int) : List Int := if k ∈ xs then xs else xs ++ [k]
theorem insI_len (xs : List Int) (k : Int) : (insI xs k).length = if xs.contains k = true then xs.length else xs.length + 1 := by
  unfold insI
  by_cases h : k ∈ xs
  · rw [if_pos h, if_pos (by simpa using h)]
  · rw [if_neg h, if_neg (by simpa using h), List.length_append]; rfl
theorem insI_mem (xs : List Int) (k j : Int) : (insI xs k).contains j = (xs.contains j || decide (j = k)) := by
  unfold insI
  by_cases h : k ∈ xs
  · rw [if_pos h]
    by_cases e : j = k
    · subst e; simp [h]
    · simp [e]
  · rw [if_neg h]
    rw [Bool.eq_iff_iff]
    simp
theorem insI_nodup {xs : List Int} {k : Int} (h : xs.Nodup) : (insI xs k).Nodup := by
  unfold insI
  by_cases e : k ∈ xs
  · rw [if_pos e]; exact h
  · rw [if_neg e]
    exact List.nodup_append.mpr ⟨h, by simp, fun a ha b hb => by rw [List.mem_singleton.mp hb]; exact fun q => e (q ▸ ha)⟩
theorem setO_ins (w : World) (a : Addr) (xs : List Int) (k : Int) : SetO w a (fun j => xs.contains j || decide (j = k)) (if xs.contains k = true then xs.length else xs.length + 1) = SetO w a (fun j => (insI xs k).contains j) (insI xs k).length := by
  rw [insI_len]
  congr 1
  funext j
  exact (insI_mem xs k j).symm
theorem setO_stays {w : World} {a : Addr} {S : Int → Bool} {n : Nat} : ¬ stays (SetO w a S n) := id
def setI (xs : List Int) : List Int := xs.foldl insI []
theorem insI_le (xs : List Int) (k : Int) : (insI xs k).length ≤ xs.length + 1 := by
  rw [insI_len]; split <;> omega

/-- {e} -/
def fSet1 (f : Ev → Mo D) : Ev → Mo D := fun ρ => (f ρ).bind fun d => match d with
  | .int k => Mo.pure (.seti [k])
  | _ => Mo.fail
section
variable {X : Cx} {st : Stmt}
theorem e_set1 {e : Expr} {pos : Pos} {f : Ev → Mo D} (he : B X e f) (hcd : PySem.W.kdsCode X.K X.env.code = true) (hs : starEach [e] X.env = [(false, eval e X.env)] := by rfl) : E X (.Set [e] 0 pos) (fSet1 f) := PE.weak (pe_set1 he hcd hs) fun σ H Q ⟨z, Bs, ρ, s, d, s', I, hf, k⟩ D hD => by
  obtain ⟨d1, s1, e1, e2⟩ := Mo.bind_some hf
  split at e2
  · cases e2
    rename_i n
    have kk : Keep z H (L2.upd H D (SetO X.w D (fun _ => false) 0)) := Keep.upd hD
    have zr1 := I.z.upd (o := SetO X.w D (fun _ => false) 0) hD
    have nz := I.z.zm hD
    refine ⟨z, Bs, ρ, s, _, _, I.next kk zr1, e1, fun v H2 fp k2 r _ zr2 => ?_⟩
    cases r
    have h2 := k2 _ _ upd_same nz
    refine ⟨n, rfl, h2, k (.ref D) _ [D] (fun a x e m => ?_) ?_ (fun a m => by rw [List.mem_singleton.mp m]; exact hD) (by simp) (ZRep.mut zr2 nz)⟩
    · have : a ≠ D := fun q => by rw [q, hD] at e; cases e
      rw [upd_ne this]
      exact k2 _ _ (kk a x e m) m
    · have hh : (L2.upd H2 D (SetO X.w D (fun j => decide (j = n)) 1)) D = some (SetO X.w D (fun j => [n].contains j) [n].length) := by
        rw [upd_same]
        congr 2
        funext j
        simp [List.contains_cons]
      exact .seti hh nz (by simp)
  · cases e2
/-- x.add(e) -/
def sAdd (i : Nat) (f : Ev → Mo D) : Sv := fun ρ => match ρ[i]? with
  | some (.own (.seti xs)) => (f (vw ρ)).bind fun d => match d with
    | .int k => (gd (decide (xs.length + 1 < scanBound))).bind fun _ => Mo.pure (.nx, ρ.set i (.own (.seti (insI xs k))))
    | _ => Mo.fail
  | _ => Mo.fail
theorem ownS_of {ρ : Se} {i : Nat} {f : List Int → Mo (Out × Se)} {s : Ds} {r} (h : (match ρ[i]? with | some (.own (.seti xs)) => f xs | _ => Mo.fail) s = some r) : ∃ xs, ρ[i]? = some (.own (.seti xs)) ∧ f xs s = some r := by
  cases e : ρ[i]? with
  | none => rw [e] at h; cases h
  | some x =>
    rw [e] at h
    cases x with
    | own d => cases d <;> first | (cases h; done) | exact ⟨_, rfl, h⟩
    | no => cases h
    | bor d => cases h
    | lok d => cases h
theorem EF.seti {w : World} {K : PySem.W.Frag} {z : Zn} {b : Bs} {H : Hp} {σ : L2.St} {ρ : Se} {F : Nat → List Addr} {i : Nat} {xs : List Int} (e : EF w K z b H σ ρ F) (h : ρ[i]? = some (.own (.seti xs))) :
    ∃ a, σ[i]? = some (some (.ref a)) ∧ H a = some (SetO w a (fun k => xs.contains k) xs.length) ∧ ¬ Zm z a ∧ xs.Nodup ∧ F i = [a] := by
  obtain ⟨v, ev, r, n, nb⟩ := e.own i _ h
  generalize hF : F i = Fi at r n nb
  cases r with
  | seti ha nz nd => exact ⟨_, ev, ha, nz, nd, rfl⟩
theorem s_add {i : Nat} {x : Str} {e : Expr} {p apos cpos pos : Pos} {f : Ev → Mo D} (he : B X e f) (hN : X.N[i]? = some x := by rfl) (hv : Vis X.env.scope x := by first | exact Or.inl rfl | exact Or.inr (Or.inl rfl) | exact Or.inr (Or.inr rfl)) (hd : (x == ("__debug__" : Str)) = false := by decide) (hcd : (x == ("__classdict__" : Str)) = false := by decide)
    (hs1 : starEach [e] X.env = (false, eval e X.env) :: starEach [] X.env := by rfl)
    (hbase : attributeBase (.Name x p) "add" X.env (eval (.Name x p) X.env) = eval (.Name x p) X.env := by rfl)
    (hfew : ((backTo cpos (starEach [e] X.env)).all (fun x => !x.1) && (backToKw cpos (keywordEach [] X.env)).all (fun x => x.1.isSome) && decide ([e].length + ([] : List Keyword).length + (if ([] : List Keyword).isEmpty then 0 else 1) < 30)) = true := by rfl)
    (hline : (apos.endLine == cpos.line) = true := by rfl) (hplain : (backTo cpos (starEach [] X.env)).any (·.1) = false := by rfl) (hsw : swapsWith (.Call (.Attribute (.Name x p) "add" apos) [e] [] cpos) none pos.line X.env = pure false := by rfl) : S X (.Expr (.Call (.Attribute (.Name x p) "add" apos) [e] [] cpos) pos) (sAdd i f) :=
  PS.weak (ps_expr (pe_sadd (pe_var hN hv hd hcd) (pa_cons he pa_nil hs1) hbase hfew hline hs1 hplain) hsw) fun E σ H ⟨z, b, ρ, s, o, ρ', s', ⟨F, er⟩, zr, hf, k⟩ => by
    obtain ⟨xs, hx, hf⟩ := ownS_of hf
    obtain ⟨d, s1, e1, e2⟩ := Mo.bind_some hf
    split at e2
    · rename_i n
      obtain ⟨_, s2, e3, e4⟩ := Mo.bind_some e2
      obtain ⟨g, rfl⟩ := gd_some e3
      cases e4
      obtain ⟨a, ev, ha, nz, nd, hF⟩ := er.seti hx
      refine ⟨.ref a, ev, ⟨a, _, _, rfl, ha⟩, z, _, vw ρ, s, _, _, er.ein zr, e1, fun v H' fq kk r _ zr' => ?_⟩
      cases r
      have ha' := kk _ _ ha nz
      have er' := er.keep kk zr'
      refine ⟨a, n, _, _, rfl, rfl, ha', of_decide_eq_true g, ?_⟩
      rw [setO_ins]
      exact k σ _ (er'.flat hx ev hF (.seti upd_same nz (insI_nodup nd))) (ZRep.mut zr' nz)
    · cases e2

/-! ### name op= e -/
def rIp (w : World) (K : PySem.W.Frag) (g : D → D → Option D) : TIp := rD w K g
/-- x op= e -/
def sAug (i : Nat) (g : D → D → Option D) (f : Ev → Mo D) : Sv := fun ρ => (Mo.ofO ((vw ρ)[i]?.join)).bind fun a => (f (vw ρ)).bind fun b => (Mo.ofO (g a b)).bind fun d => (gd (notLok ρ i)).bind fun _ => Mo.pure (.nx, ρ.set i (.own d))
theorem s_aug {i : Nat} {x : Str} {e : Expr} {op : Operator} {g : D → D → Option D} {pos pos' : Pos} {f : Ev → Mo D} (hN : X.N.Nodup) (he : B X e f) (ho : PIp X op (rD X.w X.K g)) (hi : X.N[i]? = some x := by rfl) (hx : Loc X.env.scope x := by first | exact Or.inl rfl | exact Or.inr rfl)
    (hf : X.fn x = true ∨ X.env.scope.names.lookup x = some .local := by first | exact .inl rfl | exact .inr rfl) : S X (.AugAssign (.Name x pos') op e pos) (sAug i g f) :=
  PS.weak (ps_aug hN hi hx he ho hf) fun E σ H ⟨z, b, ρ, s, o, ρ', s', ⟨F, er⟩, zr, hf, k⟩ => by
    obtain ⟨da, s1, e1, e2⟩ := Mo.bind_some hf
    obtain ⟨db, s2, e3, e4⟩ := Mo.bind_some e2
    obtain ⟨dc, s3, e5, e6⟩ := Mo.bind_some e4
    obtain ⟨_, s4, e7, e8⟩ := Mo.bind_some e6
    obtain ⟨ea, rfl⟩ := Mo.ofO_some' e1
    obtain ⟨ec, rfl⟩ := Mo.ofO_some' e5
    obtain ⟨gl, rfl⟩ := gd_some e7
    cases e8
    have I := er.ein zr
    have ea' : (vw ρ)[i]? = some (some da) := by
      cases q : (vw ρ)[i]? with
      | none => rw [q] at ea; cases ea
      | some o => rw [q] at ea; exact congrArg some ea
    obtain ⟨va, fa, ev, ra, ma⟩ := I.v i da ea'
    refine ⟨va, ev, z, _, vw ρ, _, db, _, I, e3, fun vb H1 fb k1 rb _ z1 => ?_⟩
    refine ⟨z, _, da, db, fa, fb, dc, z1, ra.of_keep k1, rb, ec, fun v H2 fp k2 r fr n z2 => ?_⟩
    have e3 := (er.keep k1 z1).keep k2 z2
    refine k _ H2 ⟨_, e3.set (notLok_iff gl) r n (fun a m b => ?_) fun a m j d' hj hd q => ?_⟩ z2
    · exact (er.keep k1 z1).bex a b (fr a m)
    · obtain ⟨v', _, r', _, _⟩ := (er.keep k1 z1).own j d' hd
      exact (Rp.there _ r' a q).1 (fr a m)
theorem noI_tuple_add : typeLookup (.type "tuple") (dunderI "add") = pure none := by
  rw [typeLookup_type, builtinLookup_eq_fast]
  kernel_rfl
theorem tuple_plus {s : Shared} {E : Value → Shared → Prop} {t b : Addr} {vs us : List Value} {Q : Value → Shared → Prop} (ht : PyProof.Rows.IsTup s.heap t vs.toArray) (hb : PyProof.Rows.IsTup s.heap b us.toArray)
    (h0 : vs = [] → Q (.ref b) s) (h1 : vs ≠ [] → us = [] → Q (.ref t) s) (h2 : vs ≠ [] → us ≠ [] → Q (.ref s.heap.objs.size) { s with heap := s.heap.push { cls := Value.type "tuple", data := Data.seq (vs ++ us).toArray } }) (hsz : vs.length + us.length ≤ sizeLine) :
    wpAny (model X.prog X.w) X.A (inplaceOp .Add (.ref t) (.ref b)) Q E s := by
  have Tt := ht.typeIs
  have Tb := hb.typeIs
  obtain ⟨⟨cls, dd, data, sl⟩, ho, hc, n, hd⟩ := ht
  obtain ⟨⟨cls2, dd2, data2, sl2⟩, ho2, hc2, n2, hd2⟩ := hb
  simp only at hc hd hc2 hd2
  subst hc hd hc2 hd2
  refine wpAny_inplaceOp_concat Tt Tb noI_tuple_add noFill_tuple_add seq_tuple_add ?_
  by_cases hv : vs = []
  · exact call_meets PySem.F.slot_tuple_add Tt PySem.F.entry_tuple_add (PySem.F.args_tuple_add_2 _ _) (PyProof.Rows.tuple_addW0 t b vs.toArray us.toArray n n2 dd dd2 sl sl2 (by simp [hv])) ⟨ho, ho2, h0 hv⟩
  · by_cases hu : us = []
    · exact call_meets PySem.F.slot_tuple_add Tt PySem.F.entry_tuple_add (PySem.F.args_tuple_add_2 _ _) (PyProof.Rows.tuple_addW1 t b vs.toArray us.toArray n n2 dd dd2 sl sl2 (by simpa using hv) (by simp [hu])) ⟨ho, ho2, h1 hv hu⟩
    · refine call_meets PySem.F.slot_tuple_add Tt PySem.F.entry_tuple_add (PySem.F.args_tuple_add_2 _ _) (PyProof.Rows.tuple_addW2 t b vs.toArray us.toArray n n2 dd dd2 sl sl2 (by simpa using hv) (by simpa using hu) (by simpa using hsz)) ⟨ho, ho2, ?_⟩
      have := h2 hv hu
      simpa using this
/-- x += y of immutables -/
def dIAdd : D → D → Option D
  | .lst _, _ => none
  | a, b => dAdd a b
theorem ip_dAdd : PIp X .Add (rD X.w X.K dIAdd) := fun pins st σ H x y v u Q I rx ry ⟨z, s, da, db, fa, fb, d, zr, ra, rb, e, k⟩ => by
  unfold dIAdd at e
  split at e
  · cases e
  · unfold dAdd at e
    split at e
    · cases e; cases ra; cases rb
      exact iop_add pins st σ H _ _ v u Q I rx ry ⟨_, _, rfl, rfl, fin_int zr k⟩
    · split at e
      · rename_i xs ys _ g
        obtain ⟨g1, g2, g3⟩ := and3 g
        have g3 := of_decide_eq_true g3
        cases e
        cases ra with
        | tup ha na la qa =>
          cases rb with
          | tup hb nb lb qb =>
            have e1 := RpA.imm _ qa g1
            have e2 := RpA.imm _ qb g2
            subst e1 e2
            have qq := RpA.append qa qb
            cases rx
            cases ry
            obtain ⟨its, r1, p1, _⟩ := I.tuple ha
            obtain ⟨its2, r2, p2, _⟩ := I.tuple hb
            have l1 := r1.length
            have l2 := r2.length
            have l3 := qa.length
            have l4 := qb.length
            refine tuple_plus p1 p2 (fun e0 => ?_) (fun e0 e1 => ?_) (fun e0 e1 => ?_) (by omega)
            · subst e0
              cases r1
              cases qa
              exact ⟨.ref _, H, I, rfl, k _ H [] (Keep.refl H) (.tup hb nb lb qb) (fun a m => by cases m) List.nodup_nil zr⟩
            · subst e1
              cases r2
              cases qb
              rw [List.append_nil] at k
              exact ⟨.ref _, H, I, rfl, k _ H [] (Keep.refl H) (.tup ha na la qa) (fun a m => by cases m) List.nodup_nil zr⟩
            · have np := I.hok.fresh (Nat.le_refl st.heap.objs.size)
              refine ⟨.ref st.heap.objs.size, _, I.laid (t' := st.toks) (o := .tup _) (fun b ob q => Heap.get?_push_of_some _ q) (Nat.le_refl _) ⟨?_, _, r1.append r2, PyProof.Rows.IsTup.new _ _⟩, rfl, k _ _ [] (Keep.upd np) (Rp.newT zr np ?_ qq) (fun a m => by cases m) List.nodup_nil (zr.upd np)⟩
              · rw [qq.length, List.length_append]; omega
              · rw [qq.length, List.length_append]; omega
      · cases e
    · rename_i hne
      exact (hne _ rfl).elim
    · split at e
      · rename_i g
        have g := of_decide_eq_true g
        cases e; cases ra; cases rb
        exact iop_add_str pins st σ H _ _ v u Q I rx ry ⟨_, _, rfl, rfl, g, k _ H [] (Keep.refl H) (.str _) (fun a m => by cases m) List.nodup_nil zr⟩
      · cases e
    · cases e
theorem ip_dSub : PIp X .Sub (rD X.w X.K dSub) := fun pins st σ H x y v u Q I rx ry ⟨z, s, da, db, fa, fb, d, zr, ra, rb, e, k⟩ => by
  unfold dSub at e
  split at e
  · cases e; cases ra; cases rb
    exact iop_sub pins st σ H _ _ v u Q I rx ry ⟨_, _, rfl, rfl, fin_int zr k⟩
  · cases e
theorem ip_dMul : PIp X .Mult (rD X.w X.K dMul) := fun pins st σ H x y v u Q I rx ry ⟨z, s, da, db, fa, fb, d, zr, ra, rb, e, k⟩ => by
  unfold dMul at e
  split at e
  · split at e
    · rename_i g
      cases e; cases ra; cases rb
      refine iop_mul pins st σ H _ _ v u Q I rx ry ⟨_, _, rfl, rfl, ?_, fin_int zr k⟩
      unfold small64 at g
      simp only [Bool.or_eq_true, Bool.and_eq_true, decide_eq_true_eq] at g
      exact g
    · cases e
  · cases e
end
end FL

set_option Elab.async false
set_option linter.all false
set_option maxRecDepth 100000
set_option maxHeartbeats 4000000
/-! FL16: comprehensions: lists into names, sets. -/
namespace FL
open PySem PySem.Spec L2

section
variable {X : Cx}
theorem s_setLc {i : Nat} {y : Str} {py : Pos} {elt tgE iter : Expr} {ifs : List Expr} {scope : Scope} {own : List (Str × Nat)} {pos spos : Pos} {fi : Ev → Mo (List D)} {tg : Tg} {ft : Ev → Mo Bool} {fe : Ev → Mo D} (hc : X.calm = true) (hN : X.N.Nodup)
    (hi : FL.I pAny X tgE iter fi) (ok : BlkOk X.N X.env.scope scope own) (hs : ∀ i ∈ tg.slots, i ∈ own.map (·.2))
    (hg : ∀ (s : Shared) (H : Hp) (C : Addr) (cl : List (Str × Addr)) (fp : List Addr), G (X.blk s H scope (compEnvC scope cl C X.env) fp) tgE tg) (ht : ∀ (s : Shared) (H : Hp) (C : Addr) (cl : List (Str × Addr)) (fp : List Addr), Ts (X.blk s H scope (compEnvC scope cl C X.env) fp) ifs ft)
    (he : ∀ (s : Shared) (H : Hp) (C : Addr) (cl : List (Str × Addr)) (fp : List Addr), E (X.blk s H scope (compEnvC scope cl C X.env) fp) elt fe)
    (hy : X.N[i]? = some y := by rfl) (hyl : X.env.scope.names.lookup y = some .local := by rfl) (hsw : swapsWith (.ListComp elt [⟨tgE, iter, ifs, 0⟩] scope pos) (some (.Name y py)) spos.line X.env = pure true := by rfl) (hf : ∀ x, foldedSetIterable iter X.env x = pure x := by intro _; rfl) :
    S X (.Assign [.Name y py] (.ListComp elt [⟨tgE, iter, ifs, 0⟩] scope pos) spos) (sSet i (fLc (own.map (·.2)) fi tg ft fe)) :=
  s_set_of (PS.weak (ps_setLc (g := gTg X.K tg) (tt := tT X.w X.K ft) (te := tE X.w X.K fe) hc hN hy hyl hsw hi ok hg ht he hf) fun Dn σ H q => lc_read hs q)
end

/-! ### sets -/
section
variable {w : World} {K : PySem.W.Frag} {z : Zn}
theorem sc_loop {H1 Hs : Hp} {J : It} {L : Addr → Prop} {ds : List D} {ns : List Int} {tg : Tg} {ft : Ev → Mo Bool} {fe : Ev → Mo D} {vs : List Nat} {σ : L2.St} {ρ : Ev} {A : Addr} {s0 s' : Ds} {Qd : Hp → Prop}
    (Wk : WalkD w K z H1 J L ds) (hs : ∀ i ∈ tg.slots, i ∈ vs) (nA : ¬ Zm z A) (nLA : ¬ L A) (hA : ∀ x, H1 A = some x → ¬ stays x)
    (env : VIn w K z (fun a => a ≠ A) H1 σ ρ) (k0 : KeepD z A H1 Hs) (a0 : Hs A = some (SetO w A (fun k => ([] : List Int).contains k) 0)) (z0 : ZRep z Hs s0)
    (run : lcGo tg ft fe (wipeE ρ vs) ds s0 = some (ns.map D.int, s')) (sz : ns.length + 1 < scanBound) (fin : ∀ H (xs : List Int), KeepD z A H1 H → xs = setI ns → xs.Nodup → H A = some (SetO w A (fun k => xs.contains k) xs.length) → ZRep z H s' → Qd H) :
    ∃ W : Nat → Nat → Hp → Prop, (∃ m, W 0 m Hs) ∧ ∀ i m H, W i m H → (J.stop i H ∧ Qd H) ∨ (J.go i H ∧ ∃ Nx : Hp → Prop, (∀ H', Nx H' → ∃ m', m' < m ∧ W (i + 1) m' H') ∧
      ∀ x H', J.yld i H x H' → gTg K tg x (L2.wipe σ vs) H' fun σ2 H2 => L2.wipe σ2 vs = L2.wipe σ vs ∧ tT w K ft σ2 H2 fun b H3 =>
        if b = true then tE w K fe σ2 H3 fun y H4 => ∃ (c : Int) (S : Int → Bool) (n : Nat), y = .int c ∧ H4 A = some (SetO w A S n) ∧ n + 1 < scanBound ∧ Nx (L2.upd H4 A (SetO w A (fun j => S j || decide (j = c)) (if S c = true then n else n + 1))) else Nx H3) := by
  let Ac (done : List Int) (H : Hp) : Prop := H A = some (SetO w A (fun k => (setI done).contains k) (setI done).length) ∧ (setI done).Nodup ∧ (setI done).length ≤ done.length
  refine ⟨fun i m H => m = ds.length - i ∧ i ≤ ds.length ∧ ∃ (done : List Int) (sA : Ds) (rest : List Int), KeepD z A H1 H ∧ Ac done H ∧ ZRep z H sA ∧ lcGo tg ft fe (wipeE ρ vs) (ds.drop i) sA = some (rest.map D.int, s') ∧ done ++ rest = ns,
    ⟨ds.length, by simp, Nat.zero_le _, [], s0, ns, k0, ⟨a0, List.nodup_nil, Nat.le_refl _⟩, z0, by simpa using run, rfl⟩, ?_⟩
  rintro i m H ⟨rfl, hi, done, sA, rest, kd, ac, zr, run', eys⟩
  have kl : KeepL z L H1 H := fun a x e n h => kd a x e n fun q => by
    subst q
    rcases h with h | h
    · exact nLA h
    · exact hA x e h
  by_cases hlt : i < ds.length
  · have ed : ds[i]? = some ds[i] := List.getElem?_eq_getElem hlt
    rw [List.drop_eq_getElem_cons hlt] at run'
    unfold lcGo at run'
    obtain ⟨ρ', s1, h1, h2⟩ := Mo.bind_some run'
    obtain ⟨b, s2, h3, h4⟩ := Mo.bind_some h2
    obtain ⟨eb, rfl⟩ := Mo.ofO_some' h1
    refine .inr ⟨Wk.go i H hlt kl, fun H' => ∃ m', m' < ds.length - i ∧ (m' = ds.length - (i + 1) ∧ i + 1 ≤ ds.length ∧ ∃ (done : List Int) (sA : Ds) (rest : List Int), KeepD z A H1 H' ∧ Ac done H' ∧ ZRep z H' sA ∧ lcGo tg ft fe (wipeE ρ vs) (ds.drop (i + 1)) sA = some (rest.map D.int, s') ∧ done ++ rest = ns), fun H' h => h, fun x H' hy => ?_⟩
    obtain ⟨k1, z1, fp, rx, mx⟩ := Wk.yld i H x H' ds[i] s1 ed kl zr hy
    have kd1 : KeepD z A H1 H' := kd.keep k1
    have ack : ∀ {Ha Hb : Hp}, Ac done Ha → Keep z Ha Hb → Ac done Hb := fun {Ha Hb} a k => ⟨k _ _ a.1 nA, a.2⟩
    have ac1 := ack ac k1
    have env1 : VIn w K z (fun a => a ≠ A) H' σ ρ := ⟨fun j d e => by
      obtain ⟨v, f, e1, r, m⟩ := env.v j d e
      refine ⟨v, f, e1, Rp.keep _ r fun b x eb n hb => kd1 b x eb n fun q => ?_, m⟩
      rcases hb with hb | hb
      · exact m b hb q
      · subst q; exact hA x eb hb, env.len⟩
    refine bind_go (env1.wipe vs) rx (fun a m q => nLA (q ▸ mx a m)) eb fun σ2 v2 w2 => ⟨by rw [w2 vs hs, wipe_wipe σ vs vs fun _ h => h], ?_⟩
    have ein : EIn w K z (fun a => a ≠ A ∧ H' a ≠ none) H' σ2 ρ' s1 := ⟨fun j d e => by
      obtain ⟨v, f, e1, r, m⟩ := v2.v j d e
      exact ⟨v, f, e1, r, fun a q => ⟨m a q, (Rp.there _ r a q).1⟩⟩, z1, fun a h => h.2, v2.len⟩
    refine ⟨z, _, ρ', s1, b, s2, ein, h3, fun H3 k3 z3 => ?_⟩
    cases b with
    | false =>
      simp only [Bool.false_eq_true, if_false] at h4 ⊢
      exact ⟨ds.length - (i + 1), by omega, rfl, hlt, done, s2, rest, kd1.keep k3, ack ac1 k3, z3, h4, eys⟩
    | true =>
      simp only [if_true] at h4 ⊢
      obtain ⟨y, s3, h5, h6⟩ := Mo.bind_some h4
      obtain ⟨rest', s4, h7, h8⟩ := Mo.bind_some h6
      obtain ⟨e8, rfl⟩ := Mo.pure_some h8
      cases rest with
      | nil => cases e8
      | cons c rest =>
        rw [List.map_cons] at e8
        injection e8 with e9 e10
        subst e9 e10
        refine ⟨z, _, ρ', s2, _, s3, ein.next k3 z3, h5, fun v H4 fq k4 r4 f4 n4 z4 => ?_⟩
        cases r4
        obtain ⟨q1, q2, q3⟩ := ack (ack ac1 k3) k4
        have lns : ns.length = done.length + (rest.length + 1) := by rw [← eys, List.length_append, List.length_cons]
        have es : setI (done ++ [c]) = insI (setI done) c := by unfold setI; rw [List.foldl_append]; rfl
        refine ⟨c, _, _, rfl, q1, by omega, ds.length - (i + 1), by omega, rfl, hlt, done ++ [c], s3, rest, (kd1.keep (k3.trans k4)).upd, ⟨?_, ?_, ?_⟩, ZRep.mut z4 nA, h7, by rw [← eys]; simp⟩
        · rw [setO_ins, es]; exact upd_same
        · rw [es]; exact insI_nodup q2
        · rw [es, List.length_append]
          have := insI_le (setI done) c
          simp; omega
  · have e : i = ds.length := by omega
    subst e
    rw [List.drop_length] at run'
    unfold lcGo at run'
    obtain ⟨e1, rfl⟩ := Mo.pure_some run'
    have e2 : rest = [] := by
      cases rest with
      | nil => rfl
      | cons _ _ => cases e1
    subst e2
    rw [List.append_nil] at eys
    subst eys
    exact .inl ⟨Wk.stop H kl, fin H _ kd rfl ac.2.1 ac.1 zr⟩
end
def fSc (own : List Nat) (fi : Ev → Mo (List D)) (tg : Tg) (ft : Ev → Mo Bool) (fe : Ev → Mo D) : Ev → Mo D := fun ρ => (fi ρ).bind fun ds => (lcGo tg ft fe (wipeE ρ own) ds).bind fun ys => (Mo.ofO (intsOf ys)).bind fun ns => (gd (decide (ns.length + 1 < scanBound))).bind fun _ => Mo.pure (.seti (setI ns))
section
variable {w : World} {K : PySem.W.Frag}
theorem sc_read {own : List Nat} {fi : Ev → Mo (List D)} {tg : Tg} {ft : Ev → Mo Bool} {fe : Ev → Mo D} {σ : L2.St} {H : Hp} {Q : VK} (hs : ∀ i ∈ tg.slots, i ∈ own) (h : tE w K (fSc own fi tg ft fe) σ H Q) : tSci w (tI pAny w K fi) (gTg K tg) (tT w K ft) (tE w K fe) own σ H Q := by
  obtain ⟨z, Bs, ρ, s, d, s', I, hf, k⟩ := h
  obtain ⟨ds, s1, h1, h2⟩ := Mo.bind_some hf
  obtain ⟨ys, s2, h3, h4⟩ := Mo.bind_some h2
  obtain ⟨ns, s3, h5, h6⟩ := Mo.bind_some h4
  obtain ⟨_, s4, h7, h8⟩ := Mo.bind_some h6
  obtain ⟨en, rfl⟩ := Mo.ofO_some' h5
  obtain ⟨g, rfl⟩ := gd_some h7
  obtain ⟨rfl, rfl⟩ := Mo.pure_some h8
  have ey := intsOf_eq en
  subst ey
  refine ⟨z, Bs, ρ, s, ds, s1, I, h1, fun J H1 L k1 z1 lt lf Wk A nA1 => ?_⟩
  have nzA : ¬ Zm z A := z1.zm nA1
  have I1 := I.next k1 z1
  refine sc_loop (H1 := H1) Wk hs nzA (fun q => lt A q nA1) (fun x e => by rw [nA1] at e; cases e)
    ⟨fun j d e => ?_, I1.len⟩ (fun a x e n m => by rw [upd_ne m]; exact e) upd_same (z1.upd nA1) h3 (of_decide_eq_true g) fun H2 xs kd ex nd ha zr => ?_
  · obtain ⟨v, f, e1, r, m⟩ := I1.v j d e
    exact ⟨v, f, e1, r, fun a q z => (Rp.there _ r a q).1 (z ▸ nA1)⟩
  · subst ex
    exact k (.ref A) H2 [A] (fun a x e n => kd a x (k1 a x e n) n fun q => by subst q; rw [k1.free z1 nA1] at e; cases e) (.seti ha nzA nd) (fun a m => by rw [List.mem_singleton.mp m]; exact k1.free z1 nA1) (by simp) zr
variable {X : Cx}
theorem e_sc {elt tgE iter : Expr} {ifs : List Expr} {scope : Scope} {own : List (Str × Nat)} {pos : Pos} {fi : Ev → Mo (List D)} {tg : Tg} {ft : Ev → Mo Bool} {fe : Ev → Mo D} (hc : X.calm = true) (hN : X.N.Nodup) (hi : FL.I pAny X tgE iter fi) (ok : BlkOk X.N X.env.scope scope own) (hs : ∀ i ∈ tg.slots, i ∈ own.map (·.2))
    (hg : ∀ (s : Shared) (H : Hp) (C : Addr) (cl : List (Str × Addr)) (fp : List Addr), G (X.blk s H scope (compEnvC scope cl C X.env) fp) tgE tg) (ht : ∀ (s : Shared) (H : Hp) (C : Addr) (cl : List (Str × Addr)) (fp : List Addr), Ts (X.blk s H scope (compEnvC scope cl C X.env) fp) ifs ft)
    (he : ∀ (s : Shared) (H : Hp) (C : Addr) (cl : List (Str × Addr)) (fp : List Addr), E (X.blk s H scope (compEnvC scope cl C X.env) fp) elt fe) (hf : ∀ x, foldedSetIterable iter X.env x = pure x := by intro _; rfl) :
    E X (.SetComp elt [⟨tgE, iter, ifs, 0⟩] scope pos) (fSc (own.map (·.2)) fi tg ft fe) := PE.weak (pe_sci (g := gTg X.K tg) (tt := tT X.w X.K ft) (te := tE X.w X.K fe) hc hN hi ok hg ht he hf) fun σ H Q h => sc_read hs h
theorem s_setSc {i : Nat} {y : Str} {py : Pos} {elt tgE iter : Expr} {ifs : List Expr} {scope : Scope} {own : List (Str × Nat)} {pos spos : Pos} {fi : Ev → Mo (List D)} {tg : Tg} {ft : Ev → Mo Bool} {fe : Ev → Mo D} (hc : X.calm = true) (hN : X.N.Nodup)
    (hi : FL.I pAny X tgE iter fi) (ok : BlkOk X.N X.env.scope scope own) (hs : ∀ i ∈ tg.slots, i ∈ own.map (·.2))
    (hg : ∀ (s : Shared) (H : Hp) (C : Addr) (cl : List (Str × Addr)) (fp : List Addr), G (X.blk s H scope (compEnvC scope cl C X.env) fp) tgE tg) (ht : ∀ (s : Shared) (H : Hp) (C : Addr) (cl : List (Str × Addr)) (fp : List Addr), Ts (X.blk s H scope (compEnvC scope cl C X.env) fp) ifs ft)
    (he : ∀ (s : Shared) (H : Hp) (C : Addr) (cl : List (Str × Addr)) (fp : List Addr), E (X.blk s H scope (compEnvC scope cl C X.env) fp) elt fe)
    (hy : X.N[i]? = some y := by rfl) (hyl : X.env.scope.names.lookup y = some .local := by rfl) (hsw : swapsWith (.SetComp elt [⟨tgE, iter, ifs, 0⟩] scope pos) (some (.Name y py)) spos.line X.env = pure true := by rfl) (hf : ∀ x, foldedSetIterable iter X.env x = pure x := by intro _; rfl) :
    S X (.Assign [.Name y py] (.SetComp elt [⟨tgE, iter, ifs, 0⟩] scope pos) spos) (sSet i (fSc (own.map (·.2)) fi tg ft fe)) :=
  s_set_of (PS.weak (ps_setSci (g := gTg X.K tg) (tt := tT X.w X.K ft) (te := tE X.w X.K fe) hc hN hy hyl hsw hi ok hg ht he hf) fun Dn σ H q => sc_read hs q)
end
end FL

set_option Elab.async false
set_option linter.all false
set_option maxRecDepth 100000
set_option maxHeartbeats 4000000
/-! FL17: stores into lists and dicts. -/
namespace FL
open PySem PySem.Spec L2

section
variable {κ : Type} [DecidableEq κ] {α β : Type}
def putKs : List κ → κ → List κ
  | [], k => [k]
  | k' :: ks, k => if k' = k then k' :: ks else k' :: putKs ks k
def putVs : List κ → List α → κ → α → List α
  | k' :: ks, v :: vs, k, x => if k' = k then x :: vs else v :: putVs ks vs k x
  | _, _, k, x => [x]
theorem putKs_mem {k : κ} : ∀ {ks : List κ} {j : κ}, j ∈ putKs ks k ↔ j ∈ ks ∨ j = k
  | [], j => by simp [putKs]
  | k' :: ks, j => by
    unfold putKs
    by_cases h : k' = k
    · rw [if_pos h]
      constructor
      · exact fun h => .inl h
      · rintro (h' | h')
        · exact h'
        · rw [h', ← h]; exact List.mem_cons_self
    · rw [if_neg h, List.mem_cons, List.mem_cons, putKs_mem]
      constructor
      · rintro (a | a | a) <;> simp [a]
      · rintro ((a | a) | a) <;> simp [a]
theorem putKs_nodup {k : κ} : ∀ {ks : List κ}, ks.Nodup → (putKs ks k).Nodup
  | [], _ => by simp [putKs]
  | k' :: ks, n => by
    unfold putKs
    by_cases h : k' = k
    · rw [if_pos h]; exact n
    · rw [if_neg h]
      obtain ⟨n1, n2⟩ := List.nodup_cons.mp n
      refine List.nodup_cons.mpr ⟨fun m => ?_, putKs_nodup n2⟩
      rcases putKs_mem.mp m with m | m
      · exact n1 m
      · exact h m
theorem put_len {k : κ} {x : α} : ∀ {ks : List κ} {vs : List α}, ks.length = vs.length → (putKs ks k).length = (putVs ks vs k x).length
  | [], [], _ => rfl
  | k' :: ks, v :: vs, l => by
    unfold putKs putVs
    by_cases h : k' = k
    · rw [if_pos h, if_pos h]; simpa using l
    · rw [if_neg h, if_neg h, List.length_cons, List.length_cons, put_len (ks := ks) (vs := vs) (by simpa using l)]
theorem putKs_len {k : κ} : ∀ {ks : List κ}, (putKs ks k).length ≤ ks.length + 1
  | [] => by simp [putKs]
  | k' :: ks => by
    unfold putKs
    by_cases h : k' = k
    · rw [if_pos h]; simp
    · rw [if_neg h]
      have := putKs_len (k := k) (ks := ks)
      simp only [List.length_cons]; omega
theorem putK_cons_ne {k k' : κ} {v v' : V} {kvs : List (κ × V)} (h : ¬ k' = k) : putK ((k', v') :: kvs) k v = (k', v') :: putK kvs k v := by
  unfold putK
  rw [List.any_cons, show decide ((k', v').1 = k) = false from decide_eq_false h, Bool.false_or]
  split
  · rw [List.map_cons, if_neg h]
  · rfl
theorem putK_none {k : κ} {v : V} : ∀ {kvs : List (κ × V)}, (∀ p ∈ kvs, ¬ p.1 = k) → kvs.map (fun kv => if kv.1 = k then (kv.1, v) else kv) = kvs
  | [], _ => rfl
  | p :: kvs, h => by
    rw [List.map_cons, if_neg (h p List.mem_cons_self), putK_none fun q m => h q (List.mem_cons_of_mem _ m)]
theorem putK_zip {k : κ} {v : V} : ∀ {ks : List κ} {vs : List V}, ks.length = vs.length → ks.Nodup → putK (ks.zip vs) k v = (putKs ks k).zip (putVs ks vs k v)
  | [], [], _, _ => rfl
  | k' :: ks, u :: vs, l, n => by
    obtain ⟨n1, n2⟩ := List.nodup_cons.mp n
    rw [List.zip_cons_cons]
    unfold putKs putVs
    by_cases h : k' = k
    · rw [if_pos h, if_pos h, List.zip_cons_cons]
      unfold putK
      rw [List.any_cons, show decide ((k', u).1 = k) = true from decide_eq_true h, Bool.true_or, if_pos rfl, List.map_cons, if_pos h, putK_none]
      intro p m e
      have := (List.of_mem_zip m).1
      rw [e, ← h] at this
      exact n1 this
    · rw [if_neg h, if_neg h, List.zip_cons_cons, putK_cons_ne h, putK_zip (by simpa using l) n2]
end
section
variable {w : World} {K : PySem.W.Frag} {z : Zn} {H : Hp}
theorem nodup3 {a b : List Addr} (h : a.Nodup) (h' : b.Nodup) (d : ∀ x ∈ a, x ∉ b) : (a ++ b).Nodup := List.nodup_append.mpr ⟨h, h', fun x m y m' e => d x m (e ▸ m')⟩
theorem RpA.put {κ : Type} [DecidableEq κ] {k : κ} {v : V} {d : D} {fq : List Addr} : ∀ {ks : List κ} {vs : List V} {ds : List D} {fp : List Addr}, ks.length = vs.length → RpA w K z H vs ds fp → Rp w K z H v d fq → fp.Nodup → fq.Nodup → (∀ a ∈ fp, a ∉ fq) →
    ∃ f', RpA w K z H (putVs ks vs k v) (putVs ks ds k d) f' ∧ f'.Nodup ∧ ∀ a ∈ f', a ∈ fp ∨ a ∈ fq
  | [], [], _, _, _, .nil, rv, n, nq, dj => ⟨fq ++ [], .cons rv .nil, by simpa using nq, fun a m => .inr (by simpa using m)⟩
  | k' :: ks, u :: vs, e :: ds, _, l, .cons (f := f) (g := g) r rs, rv, n, nq, dj => by
    obtain ⟨n1, n2, n3⟩ := List.nodup_append.mp n
    unfold putVs
    by_cases h : k' = k
    · rw [if_pos h, if_pos h]
      exact ⟨fq ++ g, .cons rv rs, nodup3 nq n2 fun a m m' => dj a (List.mem_append_right _ m') m, fun a m => (List.mem_append.mp m).elim .inr fun m => .inl (List.mem_append_right _ m)⟩
    · rw [if_neg h, if_neg h]
      obtain ⟨f', r', n', m'⟩ := RpA.put (k := k) (ks := ks) (by simpa using l) rs rv n2 nq fun a m => dj a (List.mem_append_right _ m)
      refine ⟨f ++ f', .cons r r', nodup3 n1 n' fun a m q => ?_, fun a m => ?_⟩
      · rcases m' a q with q | q
        · exact n3 a m a q rfl
        · exact dj a (List.mem_append_left _ m) q
      · rcases List.mem_append.mp m with m | m
        · exact .inl (List.mem_append_left _ m)
        · exact (m' a m).imp (List.mem_append_right _) id
theorem RpA.setAt {v : V} {d : D} {fq : List Addr} : ∀ {j : Nat} {vs : List V} {ds : List D} {fp : List Addr}, RpA w K z H vs ds fp → Rp w K z H v d fq → fp.Nodup → fq.Nodup → (∀ a ∈ fp, a ∉ fq) →
    ∃ f', RpA w K z H (vs.set j v) (ds.set j d) f' ∧ f'.Nodup ∧ ∀ a ∈ f', a ∈ fp ∨ a ∈ fq
  | _, [], _, _, .nil, rv, n, nq, dj => ⟨[], .nil, List.nodup_nil, fun a m => by cases m⟩
  | 0, _ :: _, _, _, .cons (f := f) (g := g) r rs, rv, n, nq, dj => by
    obtain ⟨n1, n2, n3⟩ := List.nodup_append.mp n
    exact ⟨fq ++ g, .cons rv rs, nodup3 nq n2 fun a m m' => dj a (List.mem_append_right _ m') m, fun a m => (List.mem_append.mp m).elim .inr fun m => .inl (List.mem_append_right _ m)⟩
  | j + 1, _ :: _, _, _, .cons (f := f) (g := g) r rs, rv, n, nq, dj => by
    obtain ⟨n1, n2, n3⟩ := List.nodup_append.mp n
    obtain ⟨f', r', n', m'⟩ := RpA.setAt (j := j) rs rv n2 nq fun a m => dj a (List.mem_append_right _ m)
    refine ⟨f ++ f', .cons r r', nodup3 n1 n' fun a m q => ?_, fun a m => ?_⟩
    · rcases m' a q with q | q
      · exact n3 a m a q rfl
      · exact dj a (List.mem_append_left _ m) q
    · rcases List.mem_append.mp m with m | m
      · exact .inl (List.mem_append_left _ m)
      · exact (m' a m).imp (List.mem_append_right _) id
end
/-- what a store makes of the thing -/
def putD (c k d : D) : Option D := match c with
  | .dct ks vs => match keyOf k with
    | some k => if decide (ks.length < sizeLine) then some (.dct (putKs ks k) (putVs ks vs k d)) else none
    | none => none
  | .lst xs => match k with
    | .int i => (ixN xs.length i).map fun j => .lst (xs.set j d)
    | _ => none
  | _ => none
/-- o[i] = v by values: lists and dicts -/
def rSetLD : TSet := fun o i v H Q => rSetL o i v H Q ∨ rSetD o i v H Q
theorem set_ld {X : Cx} (hu : X.A.units + 1 < cLine) : PSet X rSetLD := fun pins s σ H o i v ov iv u Q I ro ri rv h => h.elim (set_list pins s σ H o i v ov iv u Q I ro ri rv) (set_dict hu pins s σ H o i v ov iv u Q I ro ri rv)
section
variable {w : World} {K : PySem.W.Frag} {z : Zn}
/-- a store into a thing whose cells are fc -/
theorem put_go {H : Hp} {c k d c' : D} {cv kv v : V} {fc fk fd : List Addr} {Q : Hp → Prop} (e : putD c k d = some c') (rc : Rp w K z H cv c fc) (rk : Rp w K z H kv k fk) (rd : Rp w K z H v d fd) (nc : fc.Nodup) (nd : fd.Nodup) (dj : ∀ a ∈ fc, a ∉ fd)
    (q : ∀ a o fp, a ∈ fc → cv = .ref a → Rp w K z (L2.upd H a o) cv c' fp → fp.Nodup → (∀ b ∈ fp, b ∈ fc ∨ b ∈ fd) → ¬ Zm z a → Q (L2.upd H a o)) : rSetLD cv kv v H Q := by
  unfold putD at e
  cases c with
  | dct ks ds =>
    simp only at e
    split at e
    · rename_i k1 ek
      split at e
      · rename_i g
        have g := of_decide_eq_true g
        cases e
        have ekv := keyOf_v rk ek
        subst ekv
        cases rc with
        | dct ha nz l1 l2 nk rs =>
          rename_i a vs fp
          obtain ⟨n1, n2⟩ := List.nodup_cons.mp nc
          obtain ⟨f', r', n', m'⟩ := RpA.put (k := k1) l1 rs rd n2 nd fun b m => dj b (List.mem_cons_of_mem _ m)
          refine .inr ⟨a, _, rfl, .inl ⟨_, k1, ha, rfl, by rw [List.length_zip, ← l1, Nat.min_self]; exact g, rfl⟩, ?_⟩
          have naf : a ∉ f' := fun m => by
            rcases m' a m with m | m
            · exact n1 m
            · exact dj a List.mem_cons_self m
          refine q a _ (a :: f') List.mem_cons_self rfl ?_ (List.nodup_cons.mpr ⟨naf, n'⟩) (fun b m => ?_) nz
          · rw [putK_zip l1 nk]
            refine .dct upd_same nz (put_len l1) (Nat.le_trans putKs_len g) (putKs_nodup nk) (RpA.keep _ r' fun b x eb _ hb => ?_)
            rw [upd_ne]
            · exact eb
            · rcases hb with hb | hb
              · exact fun q => naf (q ▸ hb)
              · exact fun q => by rw [q, ha] at eb; cases eb; exact hb
          · rcases List.mem_cons.mp m with m | m
            · exact .inl (by rw [m]; exact List.mem_cons_self)
            · exact (m' b m).imp (List.mem_cons_of_mem _) id
      · cases e
    · cases e
  | lst xs =>
    simp only at e
    split at e
    · rename_i i
      obtain ⟨j, ej, e2⟩ := Option.map_eq_some_iff.mp e
      subst e2
      cases rk
      cases rc with
      | lst ha nz l rs =>
        rename_i a vs fp
        obtain ⟨n1, n2⟩ := List.nodup_cons.mp nc
        obtain ⟨f', r', n', m'⟩ := RpA.setAt (j := j) rs rd n2 nd fun b m => dj b (List.mem_cons_of_mem _ m)
        refine .inl ⟨a, _, i, j, rfl, rfl, ha, by rw [rs.length]; exact ej, ?_⟩
        have naf : a ∉ f' := fun m => by
          rcases m' a m with m | m
          · exact n1 m
          · exact dj a List.mem_cons_self m
        refine q a _ (a :: f') List.mem_cons_self rfl ?_ (List.nodup_cons.mpr ⟨naf, n'⟩) (fun b m => ?_) nz
        · refine .lst upd_same nz (by rw [List.length_set]; exact l) (RpA.keep _ r' fun b x eb _ hb => ?_)
          rw [upd_ne]
          · exact eb
          · rcases hb with hb | hb
            · exact fun q => naf (q ▸ hb)
            · exact fun q => by rw [q, ha] at eb; cases eb; exact hb
        · rcases List.mem_cons.mp m with m | m
          · exact .inl (by rw [m]; exact List.mem_cons_self)
          · exact (m' b m).imp (List.mem_cons_of_mem _) id
    · cases e
  | _ => cases e
end
/-- x[e1] = e2 -/
def sPut (i : Nat) (fk fv : Ev → Mo D) : Sv := fun ρ => (fv (vw ρ)).bind fun d => (fk (vw ρ)).bind fun k => match ρ[i]? with
  | some (.own c) => (Mo.ofO (putD c k d)).bind fun c' => Mo.pure (.nx, ρ.set i (.own c'))
  | _ => Mo.fail
theorem own_of' {ρ : Se} {i : Nat} {f : D → Mo (Out × Se)} {s : Ds} {r} (h : (match ρ[i]? with | some (.own c) => f c | _ => Mo.fail) s = some r) : ∃ c, ρ[i]? = some (.own c) ∧ f c s = some r := by
  cases e : ρ[i]? with
  | none => rw [e] at h; cases h
  | some x =>
    rw [e] at h
    cases x with
    | own d => exact ⟨_, rfl, h⟩
    | no => cases h
    | bor d => cases h
    | lok d => cases h
section
variable {X : Cx}
theorem s_put {i : Nat} {x : Str} {e1 e2 : Expr} {p p2 pos : Pos} {fk fv : Ev → Mo D} (hu : X.A.units + 1 < cLine) (hk : B X e1 fk) (hv2 : E X e2 fv) (hN : X.N[i]? = some x := by rfl) (hv : Vis X.env.scope x := by first | exact Or.inl rfl | exact Or.inr (Or.inl rfl) | exact Or.inr (Or.inr rfl)) (hd : (x == ("__debug__" : Str)) = false := by decide) (hcd : (x == ("__classdict__" : Str)) = false := by decide)
    (ha : ∀ v, assign (.Subscript (.Name x p) e1 p2) X.env v = (do
      let ov ← holding [v] (eval (.Name x p) X.env)
      let iv ← holding [v, ov] (eval e1 X.env)
      standAt p2
      holding [v, ov, iv] (setItem ov iv v)
      release [v, ov, iv] []) := by intro _; rfl) (hs : swapsWithSole [.Subscript (.Name x p) e1 p2] e2 pos.line X.env = pure false := by rfl) (hw : swappedStores [.Subscript (.Name x p) e1 p2] e2 X.env = pure none := by rfl)
    (h1 : (assignEach [.Subscript (.Name x p) e1 p2] X.env).map (·.2) = [assign (.Subscript (.Name x p) e1 p2) X.env] := by rfl) : S X (.Assign [.Subscript (.Name x p) e1 p2] e2 pos) (sPut i fk fv) :=
  PS.weak (ps_asg hv2 (pg_sub (pe_var hN hv hd hcd) hk (set_ld hu) ha) hs hw h1) fun E σ H ⟨z, b, ρ, s, o, ρ', s', ⟨F, er⟩, zr, hf, k⟩ => by
    obtain ⟨d, s1, g1, g2⟩ := Mo.bind_some hf
    obtain ⟨kd, s2, g3, g4⟩ := Mo.bind_some g2
    obtain ⟨c, hx, g5⟩ := own_of' g4
    obtain ⟨c', s3, g6, g7⟩ := Mo.bind_some g5
    obtain ⟨ec, rfl⟩ := Mo.ofO_some' g6
    cases g7
    refine ⟨z, _, vw ρ, s, d, s1, er.ein zr, g1, fun v H1 fd k1 rd fr nd z1 => ?_⟩
    have er1 := er.keep k1 z1
    obtain ⟨cv, ev, rc, nc, nb⟩ := er1.own i c hx
    refine ⟨cv, ev, z, _, vw ρ, s1, kd, _, er1.ein z1, g3, fun kv H2 fk' k2 rk _ z2 => ?_⟩
    have er2 := er1.keep k2 z2
    have dj : ∀ j (d' : D), ρ[j]? = some (.own d') → ∀ a ∈ F j, a ∉ fd := fun j d' hj a m m' => by
      obtain ⟨_, _, r', _, _⟩ := er.own j d' hj
      exact (Rp.there _ r' a m).1 (fr a m')
    refine put_go ec (rc.of_keep k2) rk (rd.of_keep k2) nc nd (dj i c hx) fun a o fp ma _ r n m nz => ?_
    refine k σ _ ⟨_, er2.mut hx ma (fp := fp) (by rw [ev]; exact r) n (fun b' m' => ?_) fun b' m' j d' hj hd' => ?_⟩ (ZRep.mut z2 nz)
    · rcases m b' m' with q | q
      · exact nb b' q
      · exact fun hb => er.bex b' hb (fr b' q)
    · rcases m b' m' with q | q
      · exact er.sep i j c d' (Ne.symm hj) hx hd' b' q
      · exact fun h => dj j d' hd' b' h q
end
end FL

set_option Elab.async false
set_option linter.all false
set_option maxRecDepth 100000
set_option maxHeartbeats 4000000
/-! FL18: changes one level down: x[e1][e2] = e3, x[e1].append(e2). -/
namespace FL
open PySem PySem.Spec L2

/-- what stands at a key -/
def sub1 : D → D → Option D
  | .lst xs, .int i => atI xs i
  | .dct ks vs, k => (keyOf k).bind fun k => lookD ks vs k
  | _, _ => none
def isL : D → Bool
  | .lst _ => true
  | _ => false
/-- the thing with another at that key -/
def setSub : D → D → D → D
  | .lst xs, .int i, d => match ixN xs.length i with
    | some j => .lst (xs.set j d)
    | none => .lst xs
  | .dct ks vs, k, d => match keyOf k with
    | some k => .dct ks (putVs ks vs k d)
    | none => .dct ks vs
  | c, _, _ => c
section
variable {w : World} {K : PySem.W.Frag} {z : Zn} {H : Hp}
/-- the rest stands -/
def Rest (z : Zn) (H H' : Hp) (fc f : List Addr) : Prop := ∀ b x, H b = some x → ¬ Zm z b → ((b ∈ fc ∧ b ∉ f) ∨ stays x) → H' b = some x
theorem RpA.mutAt : ∀ {j : Nat} {vs : List V} {ds : List D} {fp : List Addr} {d : D}, RpA w K z H vs ds fp → fp.Nodup → ds[j]? = some d → ∃ v f, vs[j]? = some v ∧ Rp w K z H v d f ∧ f.Nodup ∧ (∀ a ∈ f, a ∈ fp) ∧
    ∀ H' d' f', Rest z H H' fp f → Rp w K z H' v d' f' → f'.Nodup → (∀ a ∈ f', a ∈ f ∨ a ∉ fp) → ∃ fp', RpA w K z H' vs (ds.set j d') fp' ∧ fp'.Nodup ∧ ∀ a ∈ fp', a ∈ fp ∨ a ∈ f'
  | _, [], _, _, _, .nil, n, e => by simp at e
  | 0, u :: vs, e :: ds, _, d, .cons (f := f) (g := g) r rs, n, h => by
    cases h
    obtain ⟨n1, n2, n3⟩ := List.nodup_append.mp n
    refine ⟨u, f, rfl, r, n1, fun a m => List.mem_append_left _ m, fun H' d' f' k r' n' m' => ⟨f' ++ g, .cons r' (RpA.keep _ rs fun b x eb nz hb => k b x eb nz (hb.imp (fun m => ⟨List.mem_append_right _ m, fun q => n3 b q b m rfl⟩) id)), nodup3 n' n2 fun a q m => ?_, fun a m => ?_⟩⟩
    · rcases m' a q with q | q
      · exact n3 a q a m rfl
      · exact q (List.mem_append_right _ m)
    · exact (List.mem_append.mp m).elim .inr fun m => .inl (List.mem_append_right _ m)
  | j + 1, u :: vs, e :: ds, _, d, .cons (f := f) (g := g) r rs, n, h => by
    obtain ⟨n1, n2, n3⟩ := List.nodup_append.mp n
    obtain ⟨v, f1, e1, r1, nf, mf, cl⟩ := RpA.mutAt (j := j) (d := d) rs n2 (by simpa using h)
    refine ⟨v, f1, by simpa using e1, r1, nf, fun a m => List.mem_append_right _ (mf a m), fun H' d' f' k r' n' m' => ?_⟩
    obtain ⟨fp', r2, n4, m4⟩ := cl H' d' f' (fun b x eb nz hb => k b x eb nz (hb.imp (fun m => ⟨List.mem_append_right _ m.1, m.2⟩) id)) r' n' fun a m => (m' a m).imp id fun q m => q (List.mem_append_right _ m)
    refine ⟨f ++ fp', .cons (Rp.keep _ r fun b x eb nz hb => k b x eb nz (hb.imp (fun m => ⟨List.mem_append_left _ m, fun q => n3 b m b (mf b q) rfl⟩) id)) r2, nodup3 n1 n4 fun a m q => ?_, fun a m => ?_⟩
    · rcases m4 a q with q | q
      · exact n3 a m a q rfl
      · rcases m' a q with q | q
        · exact n3 a m a (mf a q) rfl
        · exact q (List.mem_append_left _ m)
    · rcases List.mem_append.mp m with m | m
      · exact .inl (List.mem_append_left _ m)
      · exact (m4 a m).imp (List.mem_append_right _) id
theorem look_at {k : Key} : ∀ {ks : List Key} {ds : List D} {d : D}, ks.length = ds.length → lookD ks ds k = some d → ∃ j, ds[j]? = some d ∧ (∀ vs : List V, ks.length = vs.length → valV (ks.zip vs) k = vs[j]?) ∧ ∀ d', putVs ks ds k d' = ds.set j d'
  | [], _, _, _, h => by cases h
  | a :: ks, [], _, l, h => by cases l
  | a :: ks, d' :: ds, d, l, h => by
    unfold lookD at h
    rw [List.zip_cons_cons, List.find?_cons] at h
    by_cases e : a = k
    · simp only [e, decide_true] at h
      cases h
      refine ⟨0, rfl, fun vs l' => ?_, fun d' => by unfold putVs; rw [if_pos e]; rfl⟩
      cases vs with
      | nil => cases l'
      | cons v vs => rw [List.zip_cons_cons, valV_pos e]; rfl
    · simp only [e, decide_false] at h
      obtain ⟨j, e1, e2, e3⟩ := look_at (ks := ks) (ds := ds) (d := d) (by simpa using l) h
      refine ⟨j + 1, by simpa using e1, fun vs l' => ?_, fun d' => by unfold putVs; rw [if_neg e, e3]; rfl⟩
      cases vs with
      | nil => cases l'
      | cons v vs => rw [List.zip_cons_cons, valV_neg e, e2 vs (by simpa using l')]; simp
theorem upd_rest {a : Addr} {o : HO} {fc f : List Addr} {d : D} {v : V} (r : Rp w K z H v d f) (ma : a ∈ f) : Rest z H (L2.upd H a o) fc f := fun b x eb _ hb => by
  rw [upd_ne]
  · exact eb
  · rcases hb with hb | hb
    · exact fun q => hb.2 (q ▸ ma)
    · exact fun q => (Rp.there _ r a ma).2.2 x (q ▸ eb) hb
/-- one level down -/
theorem sub_go {c k d : D} {cv kv : V} {fc fk : List Addr} (e : sub1 c k = some d) (rc : Rp w K z H cv c fc) (rk : Rp w K z H kv k fk) (nc : fc.Nodup) :
    ∃ v f, ((isL c = true ∧ ∀ Q : VK, Q v H → rIx K cv kv H Q) ∨ (isL c = false ∧ ∀ Q : VK, Q v H → ∃ a v', cv = .ref a ∧ DGet H a kv (some v') ∧ Q v' H)) ∧ Rp w K z H v d f ∧ f.Nodup ∧ (∀ a ∈ f, a ∈ fc) ∧
      ∀ H' d' f', Rest z H H' fc f → Rp w K z H' v d' f' → f'.Nodup → (∀ a ∈ f', a ∈ f ∨ a ∉ fc) → ∃ fc', Rp w K z H' cv (setSub c k d') fc' ∧ fc'.Nodup ∧ ∀ a ∈ fc', a ∈ fc ∨ a ∈ f' := by
  unfold sub1 at e
  split at e
  · rename_i xs i
    cases rk
    cases rc with
    | lst ha nz l rs =>
      rename_i a vs fp
      obtain ⟨n1, n2⟩ := List.nodup_cons.mp nc
      have e0 := e
      unfold L2.atI at e
      cases ej : ixN xs.length i with
      | none => rw [ej] at e; cases e
      | some j =>
        rw [ej] at e
        obtain ⟨v, f, e1, r1, nf, mf, cl⟩ := rs.mutAt n2 e
        refine ⟨v, f, .inl ⟨rfl, fun Q q => .inl ⟨a, vs, i, v, rfl, rfl, .inl (.inl ha), by unfold L2.atI; rw [rs.length, ej]; exact e1, q⟩⟩, r1, nf, fun a m => List.mem_cons_of_mem _ (mf a m), fun H' d' f' k r' n' m' => ?_⟩
        obtain ⟨fp', r2, n4, m4⟩ := cl H' d' f' (fun b x eb nz hb => k b x eb nz (hb.imp (fun m => ⟨List.mem_cons_of_mem _ m.1, m.2⟩) id)) r' n' fun a m => (m' a m).imp id fun q m => q (List.mem_cons_of_mem _ m)
        have es : setSub (.lst xs) (.int i) d' = .lst (xs.set j d') := by unfold setSub; simp only [ej]
        rw [es]
        refine ⟨a :: fp', .lst (k _ _ ha nz (.inl ⟨List.mem_cons_self, fun q => n1 (mf a q)⟩)) nz l r2, List.nodup_cons.mpr ⟨fun m => ?_, n4⟩, fun b m => ?_⟩
        · rcases m4 a m with q | q
          · exact n1 q
          · rcases m' a q with q | q
            · exact n1 (mf a q)
            · exact q List.mem_cons_self
        · rcases List.mem_cons.mp m with m | m
          · exact .inl (by rw [m]; exact List.mem_cons_self)
          · exact (m4 b m).imp (List.mem_cons_of_mem _) id
  · rename_i ks ds
    cases ek : keyOf k with
    | none => rw [ek] at e; cases e
    | some kk =>
      rw [ek] at e
      have eu := keyOf_v rk ek
      subst eu
      cases rc with
      | dct ha nz l1 l2 nd rs =>
        rename_i a vs fp
        obtain ⟨n1, n2⟩ := List.nodup_cons.mp nc
        obtain ⟨j, e1, e2, e3⟩ := look_at (by rw [l1, rs.length]) e
        obtain ⟨v, f, e4, r1, nf, mf, cl⟩ := rs.mutAt n2 e1
        refine ⟨v, f, .inr ⟨rfl, fun Q q => ⟨a, v, rfl, by rw [← e4, ← e2 vs l1]; exact DGet.k ha, q⟩⟩, r1, nf, fun a m => List.mem_cons_of_mem _ (mf a m), fun H' d' f' k' r' n' m' => ?_⟩
        obtain ⟨fp', r2, n4, m4⟩ := cl H' d' f' (fun b x eb nz hb => k' b x eb nz (hb.imp (fun m => ⟨List.mem_cons_of_mem _ m.1, m.2⟩) id)) r' n' fun a m => (m' a m).imp id fun q m => q (List.mem_cons_of_mem _ m)
        have es : setSub (.dct ks ds) k d' = .dct ks (ds.set j d') := by unfold setSub; simp only [ek, e3]
        rw [es]
        refine ⟨a :: fp', .dct (k' _ _ ha nz (.inl ⟨List.mem_cons_self, fun q => n1 (mf a q)⟩)) nz l1 l2 nd r2, List.nodup_cons.mpr ⟨fun m => ?_, n4⟩, fun b m => ?_⟩
        · rcases m4 a m with q | q
          · exact n1 q
          · rcases m' a q with q | q
            · exact n1 (mf a q)
            · exact q List.mem_cons_self
        · rcases List.mem_cons.mp m with m | m
          · exact .inl (by rw [m]; exact List.mem_cons_self)
          · exact (m4 b m).imp (List.mem_cons_of_mem _) id
  · cases e
end
/-- x[e1][e2] = e3 -/
def sPut2 (i : Nat) (f1 f2 fv : Ev → Mo D) : Sv := fun ρ => (fv (vw ρ)).bind fun d => (f1 (vw ρ)).bind fun k1 => match ρ[i]? with
  | some (.own c) => (Mo.ofO (sub1 c k1)).bind fun c1 => (f2 (vw ρ)).bind fun k2 => (Mo.ofO (putD c1 k2 d)).bind fun c2 => Mo.pure (.nx, ρ.set i (.own (setSub c k1 c2)))
  | _ => Mo.fail
section
variable {X : Cx}
theorem s_put2 {i : Nat} {x : Str} {e1 e2 e3 : Expr} {p p2 p3 pos : Pos} {f1 f2 fv : Ev → Mo D} (hu : X.A.units + 1 < cLine) (hk : B X e1 f1) (hk2 : B X e2 f2) (hv2 : E X e3 fv) (hN : X.N[i]? = some x := by rfl) (hv : Vis X.env.scope x := by first | exact Or.inl rfl | exact Or.inr (Or.inl rfl) | exact Or.inr (Or.inr rfl)) (hd : (x == ("__debug__" : Str)) = false := by decide) (hcd : (x == ("__classdict__" : Str)) = false := by decide)
    (hpl : PlainIx e1 := by exact fun _ _ => rfl)
    (ha : ∀ v, assign (.Subscript (.Subscript (.Name x p) e1 p2) e2 p3) X.env v = (do
      let ov ← holding [v] (eval (.Subscript (.Name x p) e1 p2) X.env)
      let iv ← holding [v, ov] (eval e2 X.env)
      standAt p3
      holding [v, ov, iv] (setItem ov iv v)
      release [v, ov, iv] []) := by intro _; rfl) (hs : swapsWithSole [.Subscript (.Subscript (.Name x p) e1 p2) e2 p3] e3 pos.line X.env = pure false := by rfl) (hw : swappedStores [.Subscript (.Subscript (.Name x p) e1 p2) e2 p3] e3 X.env = pure none := by rfl)
    (h1 : (assignEach [.Subscript (.Subscript (.Name x p) e1 p2) e2 p3] X.env).map (·.2) = [assign (.Subscript (.Subscript (.Name x p) e1 p2) e2 p3) X.env] := by rfl) : S X (.Assign [.Subscript (.Subscript (.Name x p) e1 p2) e2 p3] e3 pos) (sPut2 i f1 f2 fv) :=
  PS.weak (ps_asg hv2 (pg_sub (PE.or (pe_ix ix_seq (pe_var hN hv hd hcd) hk hpl) (pe_dget hu (pe_var hN hv hd hcd) hk hpl)) hk2 (set_ld hu) ha) hs hw h1) fun E σ H ⟨z, b, ρ, s, o, ρ', s', ⟨F, er⟩, zr, hf, k⟩ => by
    obtain ⟨d, s1, g1, g2⟩ := Mo.bind_some hf
    obtain ⟨kd, s2, g3, g4⟩ := Mo.bind_some g2
    obtain ⟨c, hx, g5⟩ := own_of' g4
    obtain ⟨c1, s3, g6, g7⟩ := Mo.bind_some g5
    obtain ⟨k2d, s4, g8, g9⟩ := Mo.bind_some g7
    obtain ⟨c2, s5, g10, g11⟩ := Mo.bind_some g9
    obtain ⟨ec, rfl⟩ := Mo.ofO_some' g6
    obtain ⟨ec2, rfl⟩ := Mo.ofO_some' g10
    cases g11
    refine ⟨z, _, vw ρ, s, d, s1, er.ein zr, g1, fun v H1 fd k1 rd fr nd z1 => ?_⟩
    have er1 := er.keep k1 z1
    obtain ⟨cv, ev, rc, nc, nb⟩ := er1.own i c hx
    have dj : ∀ j (d' : D), ρ[j]? = some (.own d') → ∀ a ∈ F j, a ∉ fd := fun j d' hj a m m' => by
      obtain ⟨_, _, r', _, _⟩ := er.own j d' hj
      exact (Rp.there _ r' a m).1 (fr a m')
    -- behind the index
    have fin : ∀ (kv : V) (H2 : Hp) (fk' : List Addr), Keep z H1 H2 → Rp X.w X.K z H2 kv kd fk' → ZRep z H2 s3 → (isL c = true ∧ rIx X.K cv kv H2 (fun o H2 => tB X.w X.K f2 σ H2 fun i H3 => rSetLD o i v H3 fun H4 => E.nx σ H4)) ∨ (isL c = false ∧ ∃ a v', cv = .ref a ∧ DGet H2 a kv (some v') ∧ tB X.w X.K f2 σ H2 fun i H3 => rSetLD v' i v H3 fun H4 => E.nx σ H4) := fun kv H2 fk' k2 rk z2 => by
      have er2 := er1.keep k2 z2
      obtain ⟨v1, f, go, r1, nf, mf, cl⟩ := sub_go ec (rc.of_keep k2) rk nc
      have q : tB X.w X.K f2 σ H2 fun i H3 => rSetLD v1 i v H3 fun H4 => E.nx σ H4 := by
        refine ⟨z, _, vw ρ, _, k2d, _, er2.ein z2, g8, fun kv2 H3 fk2 k3 rk2 _ z3 => ?_⟩
        have er3 := er2.keep k3 z3
        refine put_go ec2 (r1.of_keep k3) rk2 ((rd.of_keep k2).of_keep k3) nf nd (fun a m => dj i c hx a (mf a m)) fun a o fp ma _ r n m nz => ?_
        obtain ⟨fc', rw', nw, mw⟩ := cl (L2.upd H3 a o) c2 fp (fun b x eb nz hb => upd_rest (r1.of_keep k3) ma b x (k3 _ _ eb nz) nz hb) r n fun b mb => (m b mb).imp id fun q h => dj i c hx b h q
        refine k σ _ ⟨_, er3.mut hx (mf a ma) (fp := fc') (by rw [ev]; exact rw') nw (fun b' m' => ?_) fun b' m' j d' hj hd' => ?_⟩ (ZRep.mut z3 nz)
        · rcases mw b' m' with q | q
          · exact nb b' q
          · rcases m b' q with q | q
            · exact nb b' (mf b' q)
            · exact fun hb => er.bex b' hb (fr b' q)
        · rcases mw b' m' with q | q
          · exact er.sep i j c d' (Ne.symm hj) hx hd' b' q
          · rcases m b' q with q | q
            · exact er.sep i j c d' (Ne.symm hj) hx hd' b' (mf b' q)
            · exact fun h => dj j d' hd' b' h q
      exact go.imp (fun g => ⟨g.1, g.2 _ q⟩) fun g => ⟨g.1, g.2 (fun o H2 => tB X.w X.K f2 σ H2 fun i H3 => rSetLD o i v H3 fun H4 => E.nx σ H4) q⟩
    cases hL : isL c with
    | true =>
      refine .inl ⟨cv, ev, z, _, vw ρ, s1, kd, _, er1.ein z1, g3, fun kv H2 fk' k2 rk _ z2 => ?_⟩
      rcases fin kv H2 fk' k2 rk z2 with q | q
      · exact q.2
      · rw [hL] at q; cases q.1
    | false =>
      refine .inr ⟨cv, ev, z, _, vw ρ, s1, kd, _, er1.ein z1, g3, fun kv H2 fk' k2 rk _ z2 => ?_⟩
      rcases fin kv H2 fk' k2 rk z2 with q | q
      · rw [hL] at q; cases q.1
      · exact q.2
end
end FL

set_option Elab.async false
set_option linter.all false
set_option maxRecDepth 100000
set_option maxHeartbeats 4000000
/-! FL19: comprehensions of two clauses; dicts. -/
namespace FL
open PySem PySem.Spec L2

def lc2Go (tg : Tg) (ft : Ev → Mo Bool) (fi1 : Ev → Mo (List D)) (tg1 : Tg) (ft1 : Ev → Mo Bool) (fe : Ev → Mo D) (vs1 : List Nat) (ρ : Ev) : List D → Mo (List D)
  | [] => Mo.pure []
  | d :: ds => (Mo.ofO (bindE tg d ρ)).bind fun ρ' => (ft ρ').bind fun b => if b then (fi1 ρ').bind fun es => (lcGo tg1 ft1 fe (wipeE ρ' vs1) es).bind fun ys => (lc2Go tg ft fi1 tg1 ft1 fe vs1 ρ ds).bind fun zs => Mo.pure (ys ++ zs)
    else lc2Go tg ft fi1 tg1 ft1 fe vs1 ρ ds
section
variable {w : World} {K : PySem.W.Frag} {z : Zn}
theorem lc2_loop {Ho H1 Hs : Hp} {J : It} {L : Addr → Prop} {ds ys : List D} {tg tg1 : Tg} {ft ft1 : Ev → Mo Bool} {fi1 : Ev → Mo (List D)} {fe : Ev → Mo D} {vs vs1 : List Nat} {σ : L2.St} {ρ : Ev} {A : Addr} {s0 s' : Ds} {Qd : Hp → Prop}
    (Wk : WalkD w K z H1 J L ds) (hs : ∀ i ∈ tg.slots, i ∈ vs) (hs1 : ∀ i ∈ tg1.slots, i ∈ vs1) (nA : ¬ Zm z A) (nLA : ¬ L A) (hA : ∀ x, H1 A = some x → ¬ stays x) (oA : Ho A = none) (lt : ∀ a, L a → H1 a ≠ none)
    (env : VIn w K z (fun a => a ≠ A) H1 σ ρ) (kho : ∀ a x, Ho a = some x → ¬ Zm z a → H1 a = some x) (k0 : KeepD z A H1 Hs) (a0 : AccAt w K z Ho Hs A []) (z0 : ZRep z Hs s0)
    (run : lc2Go tg ft fi1 tg1 ft1 fe vs1 (wipeE ρ vs) ds s0 = some (ys, s')) (sz : ys.length ≤ sizeLine) (fin : ∀ H, KeepD z A H1 H → AccAt w K z Ho H A ys → ZRep z H s' → Qd H) :
    ∃ W : Nat → Nat → Hp → Prop, (∃ m, W 0 m Hs) ∧ ∀ i m H, W i m H → (J.stop i H ∧ Qd H) ∨ (J.go i H ∧ ∃ Nx : Hp → Prop, (∀ H', Nx H' → ∃ m', m' < m ∧ W (i + 1) m' H') ∧
      ∀ x H', J.yld i H x H' → gTg K tg x (L2.wipe σ vs) H' fun σ2 H2 => L2.wipe σ2 vs = L2.wipe σ vs ∧ tT w K ft σ2 H2 fun b H3 =>
        if b = true then tI pAny w K fi1 σ2 H3 fun J1 H4 => ∃ W1 : Nat → Nat → Hp → Prop, (∃ m, W1 0 m H4) ∧ ∀ j k H, W1 j k H →
          (J1.stop j H ∧ Nx H) ∨ (J1.go j H ∧ ∃ Nx1 : Hp → Prop, (∀ H', Nx1 H' → ∃ k', k' < k ∧ W1 (j + 1) k' H') ∧ ∀ x H', J1.yld j H x H' → gTg K tg1 x (L2.wipe σ2 vs1) H' fun σ3 H5 => L2.wipe σ3 vs1 = L2.wipe σ2 vs1 ∧ tT w K ft1 σ3 H5 fun b H6 =>
            if b = true then tE w K fe σ3 H6 fun y H7 => ∃ acc, H7 A = some (.lst acc) ∧ acc.length < sizeLine ∧ Nx1 (L2.upd H7 A (.lst (acc ++ [y]))) else Nx1 H6)
        else Nx H3) := by
  refine ⟨fun i m H => m = ds.length - i ∧ i ≤ ds.length ∧ ∃ done sA rest, KeepD z A H1 H ∧ AccAt w K z Ho H A done ∧ ZRep z H sA ∧ lc2Go tg ft fi1 tg1 ft1 fe vs1 (wipeE ρ vs) (ds.drop i) sA = some (rest, s') ∧ done ++ rest = ys,
    ⟨ds.length, by simp, Nat.zero_le _, [], s0, ys, k0, a0, z0, by simpa using run, rfl⟩, ?_⟩
  rintro i m H ⟨rfl, hi, done, sA, rest, kd, ac, zr, run', eys⟩
  have kl : KeepL z L H1 H := fun a x e n h => kd a x e n fun q => by
    subst q
    rcases h with h | h
    · exact nLA h
    · exact hA x e h
  by_cases hlt : i < ds.length
  · have ed : ds[i]? = some ds[i] := List.getElem?_eq_getElem hlt
    rw [List.drop_eq_getElem_cons hlt] at run'
    unfold lc2Go at run'
    obtain ⟨ρ', s1, h1, h2⟩ := Mo.bind_some run'
    obtain ⟨b, s2, h3, h4⟩ := Mo.bind_some h2
    obtain ⟨eb, rfl⟩ := Mo.ofO_some' h1
    refine .inr ⟨Wk.go i H hlt kl, fun H' => ∃ m', m' < ds.length - i ∧ (m' = ds.length - (i + 1) ∧ i + 1 ≤ ds.length ∧ ∃ done sA rest, KeepD z A H1 H' ∧ AccAt w K z Ho H' A done ∧ ZRep z H' sA ∧ lc2Go tg ft fi1 tg1 ft1 fe vs1 (wipeE ρ vs) (ds.drop (i + 1)) sA = some (rest, s') ∧ done ++ rest = ys), fun H' h => h, fun x H' hy => ?_⟩
    obtain ⟨k1, z1, fp, rx, mx⟩ := Wk.yld i H x H' ds[i] s1 ed kl zr hy
    have kd1 : KeepD z A H1 H' := kd.keep k1
    have ac1 := ac.keep k1 nA
    have env1 : VIn w K z (fun a => a ≠ A) H' σ ρ := ⟨fun j d e => by
      obtain ⟨v, f, e1, r, m⟩ := env.v j d e
      refine ⟨v, f, e1, Rp.keep _ r fun b x eb n hb => kd1 b x eb n fun q => ?_, m⟩
      rcases hb with hb | hb
      · exact m b hb q
      · subst q; exact hA x eb hb, env.len⟩
    refine bind_go (env1.wipe vs) rx (fun a m q => nLA (q ▸ mx a m)) eb fun σ2 v2 w2 => ⟨by rw [w2 vs hs, wipe_wipe σ vs vs fun _ h => h], ?_⟩
    have ein : EIn w K z (fun a => a ≠ A ∧ H' a ≠ none) H' σ2 ρ' s1 := ⟨fun j d e => by
      obtain ⟨v, f, e1, r, m⟩ := v2.v j d e
      exact ⟨v, f, e1, r, fun a q => ⟨m a q, (Rp.there _ r a q).1⟩⟩, z1, fun a h => h.2, v2.len⟩
    refine ⟨z, _, ρ', s1, b, s2, ein, h3, fun H3 k3 z3 => ?_⟩
    cases b with
    | false =>
      simp only [Bool.false_eq_true, if_false] at h4 ⊢
      exact ⟨ds.length - (i + 1), by omega, rfl, hlt, done, s2, rest, kd1.keep k3, ac1.keep k3 nA, z3, h4, eys⟩
    | true =>
      simp only [if_true] at h4 ⊢
      obtain ⟨es, s3, h5, h6⟩ := Mo.bind_some h4
      obtain ⟨ys1, s4, h7, h8⟩ := Mo.bind_some h6
      obtain ⟨zs, s5, h9, h10⟩ := Mo.bind_some h8
      obtain ⟨rfl, rfl⟩ := Mo.pure_some h10
      refine ⟨z, _, ρ', s2, es, s3, ein.next k3 z3, h5, fun J1 H4 L1 k4 z4 lt1 lf1 Wk1 => ?_⟩
      have ac3 := ac1.keep k3 nA
      have ac4 := ac3.keep k4 nA
      obtain ⟨acc3, _, hA3, _⟩ := ac3.ex
      obtain ⟨acc4, _, hA4, _⟩ := ac4.ex
      have kd4 : KeepD z A H1 H4 := (kd1.keep k3).keep k4
      have lys : ys.length = done.length + (ys1.length + zs.length) := by rw [← eys, List.length_append, List.length_append]
      refine lc_loop (Ho := Ho) (H1 := H4) (Hs := H4) (acc0 := done) (ys := ys1) Wk1 hs1 nA (fun q => ?_) (fun x e => ?_) oA lt1 ⟨fun j d e => ?_, v2.len⟩ (fun a x e n => kd4 a x (kho a x e n) n fun q => by subst q; rw [oA] at e; cases e) KeepD.refl ac4 z4 h7 (by omega) fun H5 kd5 ac5 z5 => ?_
      · rcases lf1 A q with q | q
        · rw [q] at hA3; cases hA3
        · exact q.1 rfl
      · rw [hA4] at e; cases e; exact id
      · obtain ⟨v, f, e1, r, m⟩ := v2.v j d e
        exact ⟨v, f, e1, (r.of_keep k3).of_keep k4, m⟩
      · refine ⟨ds.length - (i + 1), by omega, rfl, hlt, done ++ ys1, s4, zs, fun a x e n m => kd5 a x (kd4 a x e n m) n m, ac5, z5, h9, by rw [List.append_assoc]; exact eys⟩
  · have e : i = ds.length := by omega
    subst e
    rw [List.drop_length] at run'
    unfold lc2Go at run'
    obtain ⟨rfl, rfl⟩ := Mo.pure_some run'
    rw [List.append_nil] at eys
    subst eys
    exact .inl ⟨Wk.stop H kl, fin H kd ac zr⟩
end
def fLc2 (own : List Nat) (fi : Ev → Mo (List D)) (tg : Tg) (ft : Ev → Mo Bool) (fi1 : Ev → Mo (List D)) (tg1 : Tg) (ft1 : Ev → Mo Bool) (fe : Ev → Mo D) (vs1 : List Nat) : Ev → Mo D := fun ρ => (fi ρ).bind fun ds => (lc2Go tg ft fi1 tg1 ft1 fe vs1 (wipeE ρ own) ds).bind fun ys => (gd (decide (ys.length ≤ sizeLine))).bind fun _ => Mo.pure (.lst ys)
section
variable {w : World} {K : PySem.W.Frag}
theorem lc2_read {own vs1 : List Nat} {fi fi1 : Ev → Mo (List D)} {tg tg1 : Tg} {ft ft1 : Ev → Mo Bool} {fe : Ev → Mo D} {σ : L2.St} {H : Hp} {Q : VK} (hs : ∀ i ∈ tg.slots, i ∈ own) (hs1 : ∀ i ∈ tg1.slots, i ∈ vs1) (h : tE w K (fLc2 own fi tg ft fi1 tg1 ft1 fe vs1) σ H Q) : tLc2 (tI pAny w K fi) (gTg K tg) (tT w K ft) (tI pAny w K fi1) (gTg K tg1) (tT w K ft1) (tE w K fe) own vs1 σ H Q := by
  obtain ⟨z, Bs, ρ, s, d, s', I, hf, k⟩ := h
  obtain ⟨ds, s1, h1, h2⟩ := Mo.bind_some hf
  obtain ⟨ys, s2, h3, h4⟩ := Mo.bind_some h2
  obtain ⟨_, s3, h5, h6⟩ := Mo.bind_some h4
  obtain ⟨g, rfl⟩ := gd_some h5
  obtain ⟨rfl, rfl⟩ := Mo.pure_some h6
  have g := of_decide_eq_true g
  refine ⟨z, Bs, ρ, s, ds, s1, I, h1, fun J H1 L k1 z1 lt lf Wk A nA1 => ?_⟩
  have nzA : ¬ Zm z A := z1.zm nA1
  have I1 := I.next k1 z1
  refine lc2_loop (Ho := H) (H1 := H1) Wk hs hs1 nzA (fun q => lt A q nA1) (fun x e => by rw [nA1] at e; cases e) (k1.free z1 nA1) lt
    ⟨fun j d e => ?_, I1.len⟩ k1 (fun a x e n m => by rw [upd_ne m]; exact e) ⟨[], [], upd_same, .nil, (fun a m => by cases m), List.nodup_nil, (by simp)⟩ (z1.upd nA1) h3 g fun H2 kd ac zr => ?_
  · obtain ⟨v, f, e1, r, m⟩ := I1.v j d e
    exact ⟨v, f, e1, r, fun a q z => (Rp.there _ r a q).1 (z ▸ nA1)⟩
  · obtain ⟨acc, fp, q1, q2, q3, q4, q5⟩ := ac.ex
    refine k (.ref A) H2 (A :: fp) (fun a x e n => kd a x (k1 a x e n) n fun q => by subst q; rw [k1.free z1 nA1] at e; cases e) (.lst q1 nzA (by rw [q2.length]; exact g) q2) (fun a m => ?_) (List.nodup_cons.mpr ⟨q5, q4⟩) zr
    rcases List.mem_cons.mp m with e | m
    · rw [e]; exact k1.free z1 nA1
    · exact q3 a m
variable {X : Cx}
theorem e_lc2 {elt tgE iter tgE1 iter1 : Expr} {ifs ifs1 : List Expr} {scope : Scope} {own : List (Str × Nat)} {vs1 : List Nat} {pos : Pos} {fi fi1 : Ev → Mo (List D)} {tg tg1 : Tg} {ft ft1 : Ev → Mo Bool} {fe : Ev → Mo D} (hc : X.calm = true) (hN : X.N.Nodup) (hi : FL.I pAny X tgE iter fi) (ok : BlkOk X.N X.env.scope scope own) (hv : ∀ i ∈ vs1, i ∈ own.map (·.2)) (hs : ∀ i ∈ tg.slots, i ∈ own.map (·.2)) (hs1 : ∀ i ∈ tg1.slots, i ∈ vs1)
    (hg : ∀ (s : Shared) (H : Hp) (C : Addr) (cl : List (Str × Addr)) (fp : List Addr), G (X.blk s H scope (compEnvC scope cl C X.env) fp) tgE tg) (ht : ∀ (s : Shared) (H : Hp) (C : Addr) (cl : List (Str × Addr)) (fp : List Addr), Ts (X.blk s H scope (compEnvC scope cl C X.env) fp) ifs ft)
    (hi1 : ∀ (s : Shared) (H : Hp) (C : Addr) (cl : List (Str × Addr)) (fp : List Addr), FL.I pAny (X.blk s H scope (compEnvC scope cl C X.env) fp) tgE1 iter1 fi1)
    (hg1 : ∀ (s : Shared) (H : Hp) (C : Addr) (cl : List (Str × Addr)) (fp : List Addr), G (X.blk s H scope (compEnvC scope cl C X.env) fp) tgE1 tg1) (ht1 : ∀ (s : Shared) (H : Hp) (C : Addr) (cl : List (Str × Addr)) (fp : List Addr), Ts (X.blk s H scope (compEnvC scope cl C X.env) fp) ifs1 ft1)
    (he : ∀ (s : Shared) (H : Hp) (C : Addr) (cl : List (Str × Addr)) (fp : List Addr), E (X.blk s H scope (compEnvC scope cl C X.env) fp) elt fe) (hf : ∀ x, foldedSetIterable iter X.env x = pure x := by intro _; rfl) (hf1 : ∀ env x, foldedSetIterable iter1 env x = pure x := by intro _ _; rfl) :
    E X (.ListComp elt [⟨tgE, iter, ifs, 0⟩, ⟨tgE1, iter1, ifs1, 0⟩] scope pos) (fLc2 (own.map (·.2)) fi tg ft fi1 tg1 ft1 fe vs1) :=
  PE.weak (pe_lc2 (wi1 := tI pAny X.w X.K fi1) (g := gTg X.K tg) (tt := tT X.w X.K ft) (g1 := gTg X.K tg1) (tt1 := tT X.w X.K ft1) (te := tE X.w X.K fe) hc hN hi ok hv hg ht hi1 hg1 ht1 he hf hf1) fun σ H Q h => lc2_read hs hs1 h
theorem s_setLc2 {i : Nat} {y : Str} {py : Pos} {elt tgE iter tgE1 iter1 : Expr} {ifs ifs1 : List Expr} {scope : Scope} {own : List (Str × Nat)} {vs1 : List Nat} {pos spos : Pos} {fi fi1 : Ev → Mo (List D)} {tg tg1 : Tg} {ft ft1 : Ev → Mo Bool} {fe : Ev → Mo D} (hc : X.calm = true) (hN : X.N.Nodup) (hi : FL.I pAny X tgE iter fi) (ok : BlkOk X.N X.env.scope scope own) (hv : ∀ i ∈ vs1, i ∈ own.map (·.2)) (hs : ∀ i ∈ tg.slots, i ∈ own.map (·.2)) (hs1 : ∀ i ∈ tg1.slots, i ∈ vs1)
    (hg : ∀ (s : Shared) (H : Hp) (C : Addr) (cl : List (Str × Addr)) (fp : List Addr), G (X.blk s H scope (compEnvC scope cl C X.env) fp) tgE tg) (ht : ∀ (s : Shared) (H : Hp) (C : Addr) (cl : List (Str × Addr)) (fp : List Addr), Ts (X.blk s H scope (compEnvC scope cl C X.env) fp) ifs ft)
    (hi1 : ∀ (s : Shared) (H : Hp) (C : Addr) (cl : List (Str × Addr)) (fp : List Addr), FL.I pAny (X.blk s H scope (compEnvC scope cl C X.env) fp) tgE1 iter1 fi1)
    (hg1 : ∀ (s : Shared) (H : Hp) (C : Addr) (cl : List (Str × Addr)) (fp : List Addr), G (X.blk s H scope (compEnvC scope cl C X.env) fp) tgE1 tg1) (ht1 : ∀ (s : Shared) (H : Hp) (C : Addr) (cl : List (Str × Addr)) (fp : List Addr), Ts (X.blk s H scope (compEnvC scope cl C X.env) fp) ifs1 ft1)
    (he : ∀ (s : Shared) (H : Hp) (C : Addr) (cl : List (Str × Addr)) (fp : List Addr), E (X.blk s H scope (compEnvC scope cl C X.env) fp) elt fe)
    (hy : X.N[i]? = some y := by rfl) (hyl : X.env.scope.names.lookup y = some .local := by rfl) (hsw : swapsWith (.ListComp elt [⟨tgE, iter, ifs, 0⟩, ⟨tgE1, iter1, ifs1, 0⟩] scope pos) (some (.Name y py)) spos.line X.env = pure true := by rfl) (hf : ∀ x, foldedSetIterable iter X.env x = pure x := by intro _; rfl) (hf1 : ∀ env x, foldedSetIterable iter1 env x = pure x := by intro _ _; rfl) :
    S X (.Assign [.Name y py] (.ListComp elt [⟨tgE, iter, ifs, 0⟩, ⟨tgE1, iter1, ifs1, 0⟩] scope pos) spos) (sSet i (fLc2 (own.map (·.2)) fi tg ft fi1 tg1 ft1 fe vs1)) :=
  s_set_of (PS.weak (ps_setLc2 (wi1 := tI pAny X.w X.K fi1) (g := gTg X.K tg) (tt := tT X.w X.K ft) (g1 := gTg X.K tg1) (tt1 := tT X.w X.K ft1) (te := tE X.w X.K fe) hc hN hy hyl hsw hi ok hv hg ht hi1 hg1 ht1 he hf hf1) fun Dn σ H q => lc2_read hs hs1 q)
end
end FL

set_option Elab.async false
set_option linter.all false
set_option maxRecDepth 100000
set_option maxHeartbeats 4000000
/-! FL20: dict comprehensions, d.get(k, x). -/
namespace FL
open PySem PySem.Spec L2

def dcGo (tg : Tg) (ft : Ev → Mo Bool) (fk fv : Ev → Mo D) (ρ : Ev) : List D → List Key → List D → Mo (List Key × List D)
  | [], ks, vs => Mo.pure (ks, vs)
  | d :: ds, ks, vs => (Mo.ofO (bindE tg d ρ)).bind fun ρ' => (ft ρ').bind fun b => if b then (fk ρ').bind fun k => (fv ρ').bind fun v => (Mo.ofO (keyOf k)).bind fun k => (gd (decide (ks.length < sizeLine))).bind fun _ => dcGo tg ft fk fv ρ ds (putKs ks k) (putVs ks vs k v)
    else dcGo tg ft fk fv ρ ds ks vs
structure AccDk (w : World) (K : PySem.W.Frag) (z : Zn) (Ho H : Hp) (A : Addr) (ks : List Key) (ds : List D) : Prop where
  ex : ∃ vs fp, H A = some (.dK (ks.zip vs)) ∧ ks.length = vs.length ∧ ks.length ≤ sizeLine ∧ ks.Nodup ∧ RpA w K z H vs ds fp ∧ (∀ a ∈ fp, Ho a = none) ∧ fp.Nodup ∧ A ∉ fp
section
variable {w : World} {K : PySem.W.Frag} {z : Zn}
theorem AccDk.keep {Ho H H' : Hp} {A : Addr} {ks : List Key} {ds : List D} (a : AccDk w K z Ho H A ks ds) (k : Keep z H H') (n : ¬ Zm z A) : AccDk w K z Ho H' A ks ds := by
  obtain ⟨acc, fp, h1, h2, h3, h4, h5, h6⟩ := a.ex
  exact ⟨acc, fp, k _ _ h1 n, h2, h3, h4, h5.of_keep k, h6⟩
theorem dc_loop {Ho H1 Hs : Hp} {J : It} {L : Addr → Prop} {ds ys : List D} {ks : List Key} {tg : Tg} {ft : Ev → Mo Bool} {fk fv : Ev → Mo D} {vs : List Nat} {σ : L2.St} {ρ : Ev} {A : Addr} {s0 s' : Ds} {Qd : Hp → Prop}
    (Wk : WalkD w K z H1 J L ds) (hs : ∀ i ∈ tg.slots, i ∈ vs) (nA : ¬ Zm z A) (nLA : ¬ L A) (hA : ∀ x, H1 A = some x → ¬ stays x) (oA : Ho A = none)
    (env : VIn w K z (fun a => a ≠ A) H1 σ ρ) (kho : ∀ a x, Ho a = some x → ¬ Zm z a → H1 a = some x) (k0 : KeepD z A H1 Hs) (a0 : AccDk w K z Ho Hs A [] []) (z0 : ZRep z Hs s0)
    (run : dcGo tg ft fk fv (wipeE ρ vs) ds [] [] s0 = some ((ks, ys), s')) (fin : ∀ H, KeepD z A H1 H → AccDk w K z Ho H A ks ys → ZRep z H s' → Qd H) :
    ∃ W : Nat → Nat → Hp → Prop, (∃ m, W 0 m Hs) ∧ ∀ i m H, W i m H → (J.stop i H ∧ Qd H) ∨ (J.go i H ∧ ∃ Nx : Hp → Prop, (∀ H', Nx H' → ∃ m', m' < m ∧ W (i + 1) m' H') ∧
      ∀ x H', J.yld i H x H' → gTg K tg x (L2.wipe σ vs) H' fun σ2 H2 => L2.wipe σ2 vs = L2.wipe σ vs ∧ tT w K ft σ2 H2 fun b H3 =>
        if b = true then tB w K fk σ2 H3 fun y H4 => tE w K fv σ2 H4 fun v H5 => ∃ kvs k, y = kV k ∧ H5 A = some (.dK kvs) ∧ kvs.length < sizeLine ∧ Nx (L2.upd H5 A (.dK (putK kvs k v))) else Nx H3) := by
  refine ⟨fun i m H => m = ds.length - i ∧ i ≤ ds.length ∧ ∃ k1 d1 sA, KeepD z A H1 H ∧ AccDk w K z Ho H A k1 d1 ∧ ZRep z H sA ∧ dcGo tg ft fk fv (wipeE ρ vs) (ds.drop i) k1 d1 sA = some ((ks, ys), s'),
    ⟨ds.length, by simp, Nat.zero_le _, [], [], s0, k0, a0, z0, by simpa using run⟩, ?_⟩
  rintro i m H ⟨rfl, hi, ka, da, sA, kd, ac, zr, run'⟩
  have kl : KeepL z L H1 H := fun a x e n h => kd a x e n fun q => by
    subst q
    rcases h with h | h
    · exact nLA h
    · exact hA x e h
  by_cases hlt : i < ds.length
  · have ed : ds[i]? = some ds[i] := List.getElem?_eq_getElem hlt
    rw [List.drop_eq_getElem_cons hlt] at run'
    unfold dcGo at run'
    obtain ⟨ρ', s1, h1, h2⟩ := Mo.bind_some run'
    obtain ⟨b, s2, h3, h4⟩ := Mo.bind_some h2
    obtain ⟨eb, rfl⟩ := Mo.ofO_some' h1
    refine .inr ⟨Wk.go i H hlt kl, fun H' => ∃ m', m' < ds.length - i ∧ (m' = ds.length - (i + 1) ∧ i + 1 ≤ ds.length ∧ ∃ k1 d1 sA, KeepD z A H1 H' ∧ AccDk w K z Ho H' A k1 d1 ∧ ZRep z H' sA ∧ dcGo tg ft fk fv (wipeE ρ vs) (ds.drop (i + 1)) k1 d1 sA = some ((ks, ys), s')), fun H' h => h, fun x H' hy => ?_⟩
    obtain ⟨k1, z1, fp, rx, mx⟩ := Wk.yld i H x H' ds[i] s1 ed kl zr hy
    have kd1 : KeepD z A H1 H' := kd.keep k1
    have ac1 := ac.keep k1 nA
    have env1 : VIn w K z (fun a => a ≠ A) H' σ ρ := ⟨fun j d e => by
      obtain ⟨v, f, e1, r, m⟩ := env.v j d e
      refine ⟨v, f, e1, Rp.keep _ r fun b x eb n hb => kd1 b x eb n fun q => ?_, m⟩
      rcases hb with hb | hb
      · exact m b hb q
      · subst q; exact hA x eb hb, env.len⟩
    refine bind_go (env1.wipe vs) rx (fun a m q => nLA (q ▸ mx a m)) eb fun σ2 v2 w2 => ⟨by rw [w2 vs hs, wipe_wipe σ vs vs fun _ h => h], ?_⟩
    have ein : EIn w K z (fun a => a ≠ A ∧ H' a ≠ none) H' σ2 ρ' s1 := ⟨fun j d e => by
      obtain ⟨v, f, e1, r, m⟩ := v2.v j d e
      exact ⟨v, f, e1, r, fun a q => ⟨m a q, (Rp.there _ r a q).1⟩⟩, z1, fun a h => h.2, v2.len⟩
    refine ⟨z, _, ρ', s1, b, s2, ein, h3, fun H3 k3 z3 => ?_⟩
    cases b with
    | false =>
      simp only [Bool.false_eq_true, if_false] at h4 ⊢
      exact ⟨ds.length - (i + 1), by omega, rfl, hlt, ka, da, s2, kd1.keep k3, ac1.keep k3 nA, z3, h4⟩
    | true =>
      simp only [if_true] at h4 ⊢
      obtain ⟨kd', s3, h5, h6⟩ := Mo.bind_some h4
      obtain ⟨vd, s4, h7, h8⟩ := Mo.bind_some h6
      obtain ⟨kk, s5, h9, h10⟩ := Mo.bind_some h8
      obtain ⟨_, s6, h11, h12⟩ := Mo.bind_some h10
      obtain ⟨ek, rfl⟩ := Mo.ofO_some' h9
      obtain ⟨g, rfl⟩ := gd_some h11
      have g := of_decide_eq_true g
      refine ⟨z, _, ρ', s2, kd', s3, ein.next k3 z3, h5, fun kv H4 fq k4 r4 _ z4 => ?_⟩
      refine ⟨z, _, ρ', s3, vd, _, (ein.next k3 z3).next k4 z4, h7, fun v H5 fv' k5 r5 f5 n5 z5 => ?_⟩
      have eu := keyOf_v r4 ek
      subst eu
      have ac3 := (ac1.keep k3 nA).keep k4 nA
      obtain ⟨vsA, fpA, q1, q2, q3, q4, q5, q6, q7, q8⟩ := ac3.ex
      have e5 : H5 A = some (.dK (ka.zip vsA)) := k5 _ _ q1 nA
      have kO : Keep z Ho H4 := fun a x e n => k4 _ _ (k3 _ _ (kd1 a x (kho a x e n) n fun q => by subst q; rw [oA] at e; cases e) n) n
      have nAf : A ∉ fv' := fun m => by rw [f5 A m] at q1; cases q1
      obtain ⟨f', r', n', m'⟩ := RpA.put (k := kk) q2 (q5.of_keep k5) r5 q7 n5 fun a m m2 => (RpA.there _ q5 a m).1 (f5 a m2)
      have nAf' : A ∉ f' := fun m => (m' A m).elim q8 nAf
      refine ⟨_, kk, rfl, e5, by rw [List.length_zip, ← q2, Nat.min_self]; exact g, ds.length - (i + 1), by omega, rfl, hlt, _, _, _, (kd1.keep ((k3.trans k4).trans k5)).upd, ⟨_, f', ?_, put_len q2, Nat.le_trans putKs_len g, putKs_nodup q4, RpA.keep _ r' fun b x eb _ hb => ?_, fun a m => ?_, n', nAf'⟩, ZRep.mut z5 nA, h12⟩
      · rw [putK_zip q2 q4]; exact upd_same
      · rw [upd_ne]
        · exact eb
        · rcases hb with hb | hb
          · exact fun q => nAf' (q ▸ hb)
          · exact fun q => by rw [q, e5] at eb; cases eb; exact hb
      · rcases m' a m with m | m
        · exact q6 a m
        · exact kO.free z4 (f5 a m)
  · have e : i = ds.length := by omega
    subst e
    rw [List.drop_length] at run'
    unfold dcGo at run'
    obtain ⟨e1, rfl⟩ := Mo.pure_some run'
    cases e1
    exact .inl ⟨Wk.stop H kl, fin H kd ac zr⟩
end
def fDc (own : List Nat) (fi : Ev → Mo (List D)) (tg : Tg) (ft : Ev → Mo Bool) (fk fv : Ev → Mo D) : Ev → Mo D := fun ρ => (fi ρ).bind fun ds => (dcGo tg ft fk fv (wipeE ρ own) ds [] []).bind fun r => Mo.pure (.dct r.1 r.2)
section
variable {w : World} {K : PySem.W.Frag}
theorem dc_read {own : List Nat} {fi : Ev → Mo (List D)} {tg : Tg} {ft : Ev → Mo Bool} {fk fv : Ev → Mo D} {σ : L2.St} {H : Hp} {Q : VK} (hs : ∀ i ∈ tg.slots, i ∈ own) (h : tE w K (fDc own fi tg ft fk fv) σ H Q) : tDc (tI pAny w K fi) (gTg K tg) (tT w K ft) (tB w K fk) (tE w K fv) own σ H Q := by
  obtain ⟨z, Bs, ρ, s, d, s', I, hf, k⟩ := h
  obtain ⟨ds, s1, h1, h2⟩ := Mo.bind_some hf
  obtain ⟨⟨ks, ys⟩, s2, h3, h4⟩ := Mo.bind_some h2
  obtain ⟨rfl, rfl⟩ := Mo.pure_some h4
  refine ⟨z, Bs, ρ, s, ds, s1, I, h1, fun J H1 L k1 z1 lt lf Wk A nA1 => ?_⟩
  have nzA : ¬ Zm z A := z1.zm nA1
  have I1 := I.next k1 z1
  refine dc_loop (Ho := H) (H1 := H1) Wk hs nzA (fun q => lt A q nA1) (fun x e => by rw [nA1] at e; cases e) (k1.free z1 nA1)
    ⟨fun j d e => ?_, I1.len⟩ k1 (fun a x e n m => by rw [upd_ne m]; exact e) ⟨[], [], upd_same, rfl, Nat.zero_le _, List.nodup_nil, .nil, (fun a m => by cases m), List.nodup_nil, (by simp)⟩ (z1.upd nA1) h3 fun H2 kd ac zr => ?_
  · obtain ⟨v, f, e1, r, m⟩ := I1.v j d e
    exact ⟨v, f, e1, r, fun a q z => (Rp.there _ r a q).1 (z ▸ nA1)⟩
  · obtain ⟨acc, fp, q1, q2, q3, q4, q5, q6, q7, q8⟩ := ac.ex
    refine k (.ref A) H2 (A :: fp) (fun a x e n => kd a x (k1 a x e n) n fun q => by subst q; rw [k1.free z1 nA1] at e; cases e) (.dct q1 nzA q2 q3 q4 q5) (fun a m => ?_) (List.nodup_cons.mpr ⟨q8, q7⟩) zr
    rcases List.mem_cons.mp m with e | m
    · rw [e]; exact k1.free z1 nA1
    · exact q6 a m
variable {X : Cx}
theorem e_dc {kx vx tgE iter : Expr} {ifs : List Expr} {scope : Scope} {own : List (Str × Nat)} {pos : Pos} {fi : Ev → Mo (List D)} {tg : Tg} {ft : Ev → Mo Bool} {fk fv : Ev → Mo D} (hc : X.calm = true) (hN : X.N.Nodup) (hi : FL.I pAny X tgE iter fi) (ok : BlkOk X.N X.env.scope scope own) (hs : ∀ i ∈ tg.slots, i ∈ own.map (·.2))
    (hg : ∀ (s : Shared) (H : Hp) (C : Addr) (cl : List (Str × Addr)) (fp : List Addr), G (X.blk s H scope (compEnvC scope cl C X.env) fp) tgE tg) (ht : ∀ (s : Shared) (H : Hp) (C : Addr) (cl : List (Str × Addr)) (fp : List Addr), Ts (X.blk s H scope (compEnvC scope cl C X.env) fp) ifs ft)
    (hk : ∀ (s : Shared) (H : Hp) (C : Addr) (cl : List (Str × Addr)) (fp : List Addr), B (X.blk s H scope (compEnvC scope cl C X.env) fp) kx fk)
    (he : ∀ (s : Shared) (H : Hp) (C : Addr) (cl : List (Str × Addr)) (fp : List Addr), E (X.blk s H scope (compEnvC scope cl C X.env) fp) vx fv) (hf : ∀ x, foldedSetIterable iter X.env x = pure x := by intro _; rfl) :
    E X (.DictComp kx vx [⟨tgE, iter, ifs, 0⟩] scope pos) (fDc (own.map (·.2)) fi tg ft fk fv) := PE.weak (pe_dc (g := gTg X.K tg) (tt := tT X.w X.K ft) (tk := tB X.w X.K fk) (tv := tE X.w X.K fv) hc hN hi ok hg ht hk he hf) fun σ H Q h => dc_read hs h
theorem s_setDc {i : Nat} {y : Str} {py : Pos} {kx vx tgE iter : Expr} {ifs : List Expr} {scope : Scope} {own : List (Str × Nat)} {pos spos : Pos} {fi : Ev → Mo (List D)} {tg : Tg} {ft : Ev → Mo Bool} {fk fv : Ev → Mo D} (hc : X.calm = true) (hN : X.N.Nodup)
    (hi : FL.I pAny X tgE iter fi) (ok : BlkOk X.N X.env.scope scope own) (hs : ∀ i ∈ tg.slots, i ∈ own.map (·.2))
    (hg : ∀ (s : Shared) (H : Hp) (C : Addr) (cl : List (Str × Addr)) (fp : List Addr), G (X.blk s H scope (compEnvC scope cl C X.env) fp) tgE tg) (ht : ∀ (s : Shared) (H : Hp) (C : Addr) (cl : List (Str × Addr)) (fp : List Addr), Ts (X.blk s H scope (compEnvC scope cl C X.env) fp) ifs ft)
    (hk : ∀ (s : Shared) (H : Hp) (C : Addr) (cl : List (Str × Addr)) (fp : List Addr), B (X.blk s H scope (compEnvC scope cl C X.env) fp) kx fk)
    (he : ∀ (s : Shared) (H : Hp) (C : Addr) (cl : List (Str × Addr)) (fp : List Addr), E (X.blk s H scope (compEnvC scope cl C X.env) fp) vx fv)
    (hy : X.N[i]? = some y := by rfl) (hyl : X.env.scope.names.lookup y = some .local := by rfl) (hsw : swapsWith (.DictComp kx vx [⟨tgE, iter, ifs, 0⟩] scope pos) (some (.Name y py)) spos.line X.env = pure true := by rfl) (hf : ∀ x, foldedSetIterable iter X.env x = pure x := by intro _; rfl) :
    S X (.Assign [.Name y py] (.DictComp kx vx [⟨tgE, iter, ifs, 0⟩] scope pos) spos) (sSet i (fDc (own.map (·.2)) fi tg ft fk fv)) :=
  s_set_of (PS.weak (ps_setDc (g := gTg X.K tg) (tt := tT X.w X.K ft) (tk := tB X.w X.K fk) (tv := tE X.w X.K fv) hc hN hy hyl hsw hi ok hg ht hk he hf) fun Dn σ H q => dc_read hs q)
end
end FL

set_option Elab.async false
set_option linter.all false
set_option maxRecDepth 100000
set_option maxHeartbeats 4000000
/-! FL21: isinstance, d.get, a def. -/
namespace FL
open PySem PySem.Spec L2

/-! ### isinstance(x, T) -/
inductive Ty where
  | tuple | str | bool | int | list | dict
def Ty.nm : Ty → String
  | .tuple => "tuple" | .str => "str" | .bool => "bool" | .int => "int" | .list => "list" | .dict => "dict"
def isiD : Ty → D → Option Bool
  | t, .non => some false
  | t, .bl _ => some (match t with | .bool => true | .int => true | _ => false)
  | t, .int _ => some (match t with | .int => true | _ => false)
  | t, .str _ => some (match t with | .str => true | _ => false)
  | t, .tup _ => some (match t with | .tuple => true | _ => false)
  | t, .lst _ => some (match t with | .list => true | _ => false)
  | t, .dct _ _ => some (match t with | .dict => true | _ => false)
  | _, _ => none
def fIsi (t : Ty) (f : Ev → Mo D) : Ev → Mo D := fun ρ => (f ρ).bind fun d => Mo.ofO ((isiD t d).map D.bl)
theorem isi_ty {w : World} {K : PySem.W.Frag} {z : Zn} {H : Hp} {t : Ty} {d : D} {b : Bool} {v : V} {fp : List Addr} (r : Rp w K z H v d fp) (e : isiD t d = some b) : ∃ T, TyX K H v T ∧ PySem.W.kitOne K T (.type t.nm) = some b := by
  cases r with
  | non => cases e; exact ⟨_, .base .non, by cases t <;> kernel_rfl⟩
  | bl x => cases e; exact ⟨_, .base (.bl _), by cases t <;> kernel_rfl⟩
  | int x => cases e; exact ⟨_, .base (.int _), by cases t <;> kernel_rfl⟩
  | str x => cases e; exact ⟨_, .base (.str _), by cases t <;> kernel_rfl⟩
  | hp _ => cases e
  | tup h _ _ _ =>
    cases e
    rcases h with (h | ⟨o, h⟩) | ⟨o, its, n, hk, hc, _⟩
    · exact ⟨_, .base (.tup h), by cases t <;> kernel_rfl⟩
    · exact ⟨_, .fTuple h, by cases t <;> kernel_rfl⟩
    · exact ⟨_, .kTuple hk hc, by cases t <;> kernel_rfl⟩
  | lst h _ _ _ => cases e; exact ⟨_, .base (.lst h), by cases t <;> kernel_rfl⟩
  | dct h _ _ _ _ _ => cases e; exact ⟨_, .base (.dK h), by cases t <;> kernel_rfl⟩
  | dcT h _ _ _ _ _ => cases e
  | seti h _ _ => cases e
  | scr h _ _ => cases e
  | dctN h _ _ _ _ => cases e
section
variable {X : Cx}
theorem e_isi (t : Ty) {e : Expr} {x : Str} {p p2 pos : Pos} {f : Ev → Mo D} (he : B X e f) (hg : Gl X "isinstance") (hm : X.mg "isinstance" = none) (hgt : Gl X x) (hmt : X.mg x = none) (hvt : bootBuiltins x = some (.type t.nm)) (hnt : x ≠ "__name__" := by decide) (hdt : (x == ("__debug__" : Str)) = false := by decide)
    (hs : starEach [e, .Name x p2] X.env = (false, eval e X.env) :: starEach [.Name x p2] X.env := by rfl) (hs2 : starEach [.Name x p2] X.env = (false, eval (.Name x p2) X.env) :: starEach [] X.env := by rfl) (hpl : (backTo pos (starEach [.Name x p2] X.env)).any (·.1) = false := by rfl) : E X (.Call (.Name "isinstance" p) [e, .Name x p2] [] pos) (fIsi t f) :=
  PE.weak (pe_callB call_isi hg hm PyProof.Rows.boot_isinstance (pa_cons he (pa_cons (pe_bltn (v := .ty t.nm) hgt hmt hvt rfl hnt hdt) pa_nil hs2) hs) (by decide) (by decide) hs hpl) fun σ H Q ⟨z, Bs, ρ, s, d, s', I, hf, k⟩ => by
    obtain ⟨x1, s1, h1, h2⟩ := Mo.bind_some hf
    obtain ⟨e1, rfl⟩ := Mo.ofO_some' h2
    obtain ⟨b, eb, rfl⟩ := Option.map_eq_some_iff.mp e1
    refine ⟨z, Bs, ρ, s, x1, _, I, h1, fun v H1 fp k1 r1 _ z1 => ?_⟩
    obtain ⟨T, ty, kt⟩ := isi_ty r1 eb
    exact ⟨v, .ty t.nm, T, .type t.nm, b, rfl, .ty _, ty, kt, k (.bl b) H1 [] k1 (.bl b) (fun a m => by cases m) List.nodup_nil z1⟩

/-! ### d.get(k, x) -/
def dGet2 (c k x : D) : Option D := match c with
  | .dct ks vs => (keyOf k).map fun k => (lookD ks vs k).getD x
  | _ => none
def fGet2 (fd fk fx : Ev → Mo D) : Ev → Mo D := fun ρ => (fd ρ).bind fun c => (fk ρ).bind fun k => (fx ρ).bind fun x => (gd (match c with | .dct _ _ => true | _ => false)).bind fun _ => Mo.ofO (dGet2 c k x)
theorem look_none {k : Key} : ∀ {ks : List Key} {ds : List D} {vs : List V}, ks.length = ds.length → ks.length = vs.length → lookD ks ds k = none → valV (ks.zip vs) k = none
  | [], [], [], _, _, _ => rfl
  | a :: ks, d :: ds, v :: vs, l1, l2, h => by
    unfold lookD at h
    rw [List.zip_cons_cons, List.find?_cons] at h
    by_cases e : a = k
    · simp only [e, decide_true] at h; cases h
    · simp only [e, decide_false] at h
      rw [List.zip_cons_cons, valV_neg e]
      exact look_none (by simpa using l1) (by simpa using l2) h
theorem b_get2 {o e f : Expr} {apos cpos : Pos} {fd fk fx : Ev → Mo D} (hu : X.A.units + 1 < cLine) (ho : B X o fd) (he : B X e fk) (hf : B X f fx) (m : M2 X o "get" apos e f cpos := by exact ⟨rfl, rfl, rfl, rfl⟩) : B X (.Call (.Attribute o "get" apos) [e, f] [] cpos) (fGet2 fd fk fx) :=
  PE.weak (pe_dget2 hu ho he hf m) fun σ H Q ⟨z, Bs, ρ, s, d, s', I, hf, k⟩ => by
    obtain ⟨c, s1, h1, h2⟩ := Mo.bind_some hf
    obtain ⟨kd, s2, h3, h4⟩ := Mo.bind_some h2
    obtain ⟨xd, s3, h5, h6⟩ := Mo.bind_some h4
    obtain ⟨_, s4, h7, h8⟩ := Mo.bind_some h6
    obtain ⟨g, rfl⟩ := gd_some h7
    obtain ⟨e8, rfl⟩ := Mo.ofO_some' h8
    refine ⟨z, Bs, ρ, s, c, s1, I, h1, fun v H1 fp k1 r1 m1 z1 => ?_⟩
    cases c with
    | dct ks ds =>
      have r0 := r1
      cases r1 with
      | dct ha nz l1 l2 nd rs =>
        rename_i a vs fp
        refine ⟨a, rfl, .inl ⟨_, .inl ha⟩, z, Bs, ρ, s1, kd, s2, I.next k1 z1, h3, fun kv H2 fq k2 r2 _ z2 => ?_⟩
        refine ⟨z, Bs, ρ, s2, xd, _, (I.next k1 z1).next k2 z2, h5, fun xv H3 fx' k3 r3 m3 z3 => ?_⟩
        have ha3 := k3 _ _ (k2 _ _ ha nz) nz
        obtain ⟨kk, ek, ed⟩ := Option.map_eq_some_iff.mp e8
        have eu := keyOf_v r2 ek
        subst eu
        refine ⟨_, DGet.k ha3, ?_⟩
        cases el : lookD ks ds kk with
        | none =>
          rw [look_none (by rw [l1, rs.length]) l1 el]
          rw [el] at ed
          cases ed
          exact k xv H3 fx' (k1.trans (k2.trans k3)) r3 (fun b mb => (m3 b mb).imp (fun q => k1.free z1 (k2.free z2 q)) id) z3
        | some dv =>
          rw [el] at ed
          cases ed
          obtain ⟨v', f', e1, r4, mf⟩ := rs.look l1 el
          rw [e1]
          exact k v' H3 f' (k1.trans (k2.trans k3)) ((r4.of_keep k2).of_keep k3) (fun b mb => m1 b (List.mem_cons_of_mem _ (mf b mb))) z3
    | _ => cases g

/-! ### a def -/
def mirF (N n : Nat) (g : Sv) : List D → Mo D := fun ds => (g (ds.map Sl.bor ++ List.replicate (N - n) Sl.no)).bind fun r => match r.1 with
  | .rt d => Mo.pure d
  | .nx => Mo.pure .non
  | _ => Mo.fail
theorem fl_ok {P : Program} {w : World} {K : PySem.W.Frag} {mg : Str → Option Value} {base : Heap} {x qual : Str} {st : Stmt} {f : Addr} {fd : FuncData} {N ps : List Str} {k : Nat} {g : Sv} (F : Fun K x qual st f fd) (Sc : FnScope N ps (defScope st))
    (hbody : ∀ (cdv : Value) (A : Around) (outer : List Env) (s : Shared) (H : Hp) (E : XK), PySem.W.kdsCode K cdv = true → Room k (A.deeper (PyProof.Rows.envOfC qual (defScope st) s.heap.objs.size f cdv)) →
      Ss (cxOf CX0 P w K mg base N qual (defScope st) f cdv A outer s H E).nox (defBody st) g) : FnOk P w K mg base CX0 (k + 1) f fd ps (spF w K ps.length (mirF N.length ps.length g)) := by
  obtain ⟨oc, od, kV, doc, pm, an, cdv, ct, osl, rfl, lk, hcd⟩ := F.ex
  refine fn_of lk hcd Sc (fun vs H Q E h => ?_) fun A outer s H vs Q E hr h => ?_
  · obtain ⟨z, s, ds, fp, d, s', zr, r, l, _⟩ := h
    rw [r.length, l]
  · obtain ⟨z, s0, ds, fp, d, s', zr, r, l, hm, q⟩ := h
    suffices hx : ∃ t, PSs (cxOf CX0 P w K mg base N qual (defScope st) f cdv A outer s H E).nox (defBody st) t ∧ t { nx := fun _ H' => Q .non H', rt := Q } (L2.start N vs) H by
      obtain ⟨t, h, q⟩ := hx
      exact ⟨t, h.nox, q⟩
    refine ⟨_, hbody cdv A outer s H E (kdsCode_of hcd) hr, ?_⟩
    obtain ⟨⟨o, ρ'⟩, s1, h1, h2⟩ := Mo.bind_some hm
    have lv := r.length
    refine ⟨z, ⟨fun a => H a ≠ none, H, fun _ => none⟩, _, s0, o, ρ', s1, ⟨fun _ => [], ?_⟩, zr, h1, ?_⟩
    · have get : ∀ (i : Nat) (x : Sl), (ds.map Sl.bor ++ List.replicate (N.length - ps.length) Sl.no)[i]? = some x → x ≠ Sl.no → ∃ d, ds[i]? = some d ∧ x = Sl.bor d := fun i x h hn => by
        by_cases hi : i < ds.length
        · rw [List.getElem?_append_left (by simpa using hi), List.getElem?_map] at h
          cases e : ds[i]? with
          | none => rw [e] at h; cases h
          | some d => rw [e] at h; cases h; exact ⟨d, rfl, rfl⟩
        · rw [List.getElem?_append_right (by simpa using hi), List.getElem?_replicate] at h
          split at h
          · cases h; exact absurd rfl hn
          · cases h
      refine ⟨?_, fun a x h _ _ => h, fun a h => h, fun i d h => ?_, fun i d h => ?_, fun i d h => ?_, fun i v h => (by cases h), fun i j d d' _ h => ?_⟩
      · unfold L2.start
        rw [List.length_append, List.length_append, List.length_map, List.length_map, List.length_replicate, List.length_replicate, lv, l]
      · obtain ⟨d', _, e⟩ := get i _ h (by simp)
        cases e
      · obtain ⟨d', e1, e⟩ := get i _ h (by simp)
        cases e
        obtain ⟨v, f1, e2, r1, m⟩ := r.get e1
        refine ⟨v, f1, ?_, r1, fun a ha => (Rp.there _ r1 a ha).1⟩
        unfold L2.start
        have hi : i < vs.length := (List.getElem?_eq_some_iff.mp e2).1
        rw [List.getElem?_append_left (by simpa using hi), List.getElem?_map, e2]
        rfl
      · obtain ⟨d', _, e⟩ := get i _ h (by simp)
        cases e
      · obtain ⟨d', _, e⟩ := get i _ h (by simp)
        cases e
    · cases o with
      | nx =>
        cases h2
        exact fun σ' H' ⟨F', er⟩ zr' => q .non H' [] (fun a x e n => er.base a x e (by show H a ≠ none; rw [e]; simp) n) .non (fun a m => by cases m) List.nodup_nil zr'
      | rt d' =>
        cases h2
        exact fun v H' fp' hk rv hb nd zr' => q v H' fp' (fun a x e n => hk a x e (by show H a ≠ none; rw [e]; simp) n) rv (fun a m => by
          cases e : H a with
          | none => rfl
          | some x => exact absurd (show H a ≠ none by rw [e]; simp) (hb a m)) nd zr'
      | bk => cases h2
      | ct => cases h2
theorem fl_okN {P : Program} {w : World} {K : PySem.W.Frag} {mg : Str → Option Value} {base : Heap} {x qual : Str} {st : Stmt} {f : Addr} {fd : FuncData} {N ps : List Str} {k : Nat} {g : Sv} (NN n : Nat) (F : Fun K x qual st f fd) (Sc : FnScope N ps (defScope st)) (hN : N.length = NN) (hn : ps.length = n)
    (hbody : ∀ (cdv : Value) (A : Around) (outer : List Env) (s : Shared) (H : Hp) (E : XK), PySem.W.kdsCode K cdv = true → Room k (A.deeper (PyProof.Rows.envOfC qual (defScope st) s.heap.objs.size f cdv)) →
      Ss (cxOf CX0 P w K mg base N qual (defScope st) f cdv A outer s H E).nox (defBody st) g) : FnOk P w K mg base CX0 (k + 1) f fd ps (spF w K n (mirF NN n g)) := by
  subst hN hn
  exact fl_ok F Sc hbody
theorem Ss.of {st : List Stmt} {g g' : Sv} (h : Ss X st g) (e : g = g') : Ss X st g' := e ▸ h
end
/-! what a frame's room gives -/
section
variable {k : Nat} {A : Around}
theorem hu1 (h : Room k A) : A.units + 1 < cLine := by have := h.un; omega
theorem hu64 (h : Room k A) : A.units + 64 < cLine := by have := h.un; omega
theorem hu65 (h : Room k A) : A.units + 65 < cLine := by have := h.un; omega
theorem hu100 (h : Room k A) : A.units + 100 < cLine := by have := h.un; omega
end
end FL

set_option Elab.async false
set_option linter.all false
set_option maxRecDepth 100000
set_option maxHeartbeats 4000000
/-! FL22: displays of one pair; the built-ins' names. -/
namespace FL
open PySem PySem.Spec L2
/-- {k: v} -/
def fDict1 (fk fv : Ev → Mo D) : Ev → Mo D := fun ρ => (fk ρ).bind fun k => (fv ρ).bind fun v => (Mo.ofO (keyOf k)).bind fun k => Mo.pure (.dct [k] [v])
section
variable {X : Cx}
theorem e_dict1 {k v : Expr} {pos : Pos} {fk fv : Ev → Mo D} (hk : B X k fk) (hv : E X v fv) : E X (.Dict [some k] [v] pos) (fDict1 fk fv) := PE.weak (pe_disp (pps_cons hk hv pps_nil) rfl rfl (by simp) (Nat.le_of_ble_eq_true rfl)) fun σ H Q ⟨z, Bs, ρ, s, d, s', I, hf, kk⟩ p np => by
  obtain ⟨kd, s1, h1, h2⟩ := Mo.bind_some hf
  obtain ⟨vd, s2, h3, h4⟩ := Mo.bind_some h2
  obtain ⟨key, s3, h5, h6⟩ := Mo.bind_some h4
  obtain ⟨ek, rfl⟩ := Mo.ofO_some' h5
  obtain ⟨rfl, rfl⟩ := Mo.pure_some h6
  have k0 : Keep z H (L2.upd H p (.dK [])) := Keep.upd np
  have z0 := I.z.upd (o := .dK []) np
  have nz := I.z.zm np
  refine ⟨z, Bs, ρ, s, kd, s1, I.next k0 z0, h1, fun kv H1 fq k1 r1 _ z1 => ?_⟩
  refine ⟨z, Bs, ρ, s1, vd, _, (I.next k0 z0).next k1 z1, h3, fun v H2 fp k2 r2 f2 n2 z2 => ?_⟩
  have eu := keyOf_v r1 ek
  subst eu
  have hp := k2 _ _ (k1 _ _ upd_same nz) nz
  refine ⟨hp, [(key, v)], rfl, Nat.le_of_ble_eq_true rfl, ?_⟩
  have npf : p ∉ fp := fun m => by
    have := f2 p m
    rw [k1 _ _ upd_same nz] at this
    cases this
  have free : ∀ a ∈ fp, H a = none := fun a m => k0.free z0 (k1.free z1 (f2 a m))
  refine kk (.ref p) _ (p :: fp) (fun a x e n => ?_) ?_ (fun a m => ?_) (List.nodup_cons.mpr ⟨npf, n2⟩) (ZRep.mut z2 nz)
  · have : a ≠ p := fun q => by rw [q, np] at e; cases e
    rw [upd_ne this]
    exact k2 _ _ (k1 _ _ (k0 _ _ e n) n) n
  · have rv : RpA X.w X.K z (L2.upd H2 p (.dK [(key, v)])) [v] [vd] fp := by
      have := RpA.cons (Rp.keep _ r2 (H' := L2.upd H2 p (.dK [(key, v)])) fun b x eb _ hb => by
        rw [upd_ne]
        · exact eb
        · rcases hb with hb | hb
          · exact fun q => npf (q ▸ hb)
          · exact fun q => by rw [q, hp] at eb; cases eb; exact hb) RpA.nil
      rwa [List.append_nil] at this
    exact .dct (ks := [key]) (vs := [v]) upd_same nz rfl (by show 1 ≤ _; decide) (by simp) rv
  · rcases List.mem_cons.mp m with m | m
    · rw [m]; exact np
    · exact free a m
end
theorem bt_len : bootBuiltins "len" = some (.builtin "len") := by decide +kernel
theorem bt_list : bootBuiltins "list" = some (.type "list") := by decide +kernel
theorem bt_tuple : bootBuiltins "tuple" = some (.type "tuple") := by decide +kernel
theorem bt_str : bootBuiltins "str" = some (.type "str") := by decide +kernel
theorem bt_bool : bootBuiltins "bool" = some (.type "bool") := by decide +kernel
theorem bt_dict : bootBuiltins "dict" = some (.type "dict") := by decide +kernel
theorem bt_int : bootBuiltins "int" = some (.type "int") := by decide +kernel
theorem bt_abs : bootBuiltins "abs" = some (.builtin "abs") := by decide +kernel
theorem bt_sum : bootBuiltins "sum" = some (.builtin "sum") := by decide +kernel
theorem bt_any : bootBuiltins "any" = some (.builtin "any") := by decide +kernel
theorem bt_all : bootBuiltins "all" = some (.builtin "all") := by decide +kernel
theorem bt_min : bootBuiltins "min" = some (.builtin "min") := by decide +kernel
theorem bt_max : bootBuiltins "max" = some (.builtin "max") := by decide +kernel
theorem bt_sorted : bootBuiltins "sorted" = some (.builtin "sorted") := by decide +kernel
end FL

set_option Elab.async false
set_option linter.all false
set_option maxRecDepth 100000
set_option maxHeartbeats 4000000
/-! FL23: list(range(..)). -/
namespace FL
open PySem PySem.Spec L2
def rg24 (a b : Int) : Bool := rgOk a b && decide ((b - a).toNat ≤ 2 ^ 24)
def fLRg1 (f : Ev → Mo D) : Ev → Mo D := fun ρ => (f ρ).bind fun d => match d with
  | .int n => (gd (rg24 0 n)).bind fun _ => Mo.pure (.lst (rangeD 0 n))
  | _ => Mo.fail
def fLRg2 (f g : Ev → Mo D) : Ev → Mo D := fun ρ => (f ρ).bind fun d => (g ρ).bind fun e => match d, e with
  | .int m, .int n => (gd (rg24 m n)).bind fun _ => Mo.pure (.lst (rangeD m n))
  | _, _ => Mo.fail
theorem rgV_ints (a b : Int) : rgV a b = ((List.range (b - a).toNat).map fun (k : Nat) => a + (k : Int)).map V.int := by
  unfold rgV
  rw [List.map_map]
  rfl
theorem rangeD_ints (a b : Int) : rangeD a b = ((List.range (b - a).toNat).map fun (k : Nat) => a + (k : Int)).map D.int := by
  unfold rangeD
  rw [List.map_map]
  rfl
section
variable {X : Cx}
theorem rg24_iff {a b : Int} (h : rg24 a b = true) : RgOk a b := by
  unfold rg24 at h
  simp only [Bool.and_eq_true, decide_eq_true_eq] at h
  obtain ⟨g1, g2, g3, g4, g5⟩ := rgOk_iff h.1
  exact ⟨g1, g2, g3, g4, h.2⟩
theorem e_listRg1 {a : Expr} {p p2 pos pos2 : Pos} {f : Ev → Mo D} (hl : Gl X "list") (hml : X.mg "list" = none) (hg : Gl X "range") (hm : X.mg "range" = none) (ha : B X a f) (na : starEach [a] X.env = (false, eval a X.env) :: starEach [] X.env := by rfl)
    (nl : starEach [.Call (.Name "range" p) [a] [] pos] X.env = (false, eval (.Call (.Name "range" p) [a] [] pos) X.env) :: starEach [] X.env := by rfl) (hc : X.calm = true := by rfl) : E X (.Call (.Name "list" p2) [.Call (.Name "range" p) [a] [] pos] [] pos2) (fLRg1 f) :=
  PE.weak (pe_listRg hc hl hml (prg_1 hg hm ha na) nl) fun σ H Q ⟨z, Bs, ρ, s, d, s', I, hf, k⟩ => by
    obtain ⟨x, s1, h1, h2⟩ := Mo.bind_some hf
    split at h2
    · rename_i n
      obtain ⟨_, s2, h3, h4⟩ := Mo.bind_some h2
      obtain ⟨g, rfl⟩ := gd_some h3
      cases h4
      refine ⟨z, Bs, ρ, s, _, _, I, h1, fun v H1 fp k1 r1 _ z1 => ?_⟩
      cases r1
      have g2 := rg24_iff g
      refine ⟨n, rfl, g2, fun q nq => ?_⟩
      have hlen : ((List.range (n - 0).toNat).map fun (k : Nat) => (0 : Int) + (k : Int)).length ≤ sizeLine := by
        rw [List.length_map, List.length_range, sizeLine_eq]
        obtain ⟨_, _, _, _, g5⟩ := g2
        omega
      rw [rgV_ints]
      refine k _ _ [q] (k1.trans (Keep.upd nq)) ?_ (fun a m => by rw [List.mem_singleton.mp m]; exact k1.free z1 nq) (by simp) (z1.upd nq)
      rw [rangeD_ints]
      exact Rp.newL z1 nq (by rw [List.length_map]; exact hlen) (RpA.of_ints _)
    · cases h2
theorem e_listRg2 {a b : Expr} {p p2 pos pos2 : Pos} {f g : Ev → Mo D} (hl : Gl X "list") (hml : X.mg "list" = none) (hg : Gl X "range") (hm : X.mg "range" = none) (ha : B X a f) (hb : B X b g) (na : starEach [a, b] X.env = (false, eval a X.env) :: starEach [b] X.env := by rfl)
    (nb : starEach [b] X.env = (false, eval b X.env) :: starEach [] X.env := by rfl) (hp : (backTo pos (starEach [b] X.env)).any (·.1) = false := by rfl)
    (nl : starEach [.Call (.Name "range" p) [a, b] [] pos] X.env = (false, eval (.Call (.Name "range" p) [a, b] [] pos) X.env) :: starEach [] X.env := by rfl) (hc : X.calm = true := by rfl) : E X (.Call (.Name "list" p2) [.Call (.Name "range" p) [a, b] [] pos] [] pos2) (fLRg2 f g) :=
  PE.weak (pe_listRg hc hl hml (prg_2 hg hm ha hb na nb hp) nl) fun σ H Q ⟨z, Bs, ρ, s, d, s', I, hf, k⟩ => by
    obtain ⟨x, s1, h1, h2⟩ := Mo.bind_some hf
    obtain ⟨y, s2, h5, h6⟩ := Mo.bind_some h2
    split at h6
    · rename_i m n
      obtain ⟨_, s2, h3, h4⟩ := Mo.bind_some h6
      obtain ⟨gg, rfl⟩ := gd_some h3
      cases h4
      refine ⟨z, Bs, ρ, s, _, _, I, h1, fun v H1 fp k1 r1 _ z1 => ?_⟩
      cases r1
      refine ⟨z, Bs, ρ, s1, _, _, I.next k1 z1, h5, fun v H2 fp k2 r2 _ z2 => ?_⟩
      cases r2
      have g2 := rg24_iff gg
      refine ⟨m, n, rfl, rfl, g2, fun q nq => ?_⟩
      have hlen : ((List.range (n - m).toNat).map fun (k : Nat) => m + (k : Int)).length ≤ sizeLine := by
        rw [List.length_map, List.length_range, sizeLine_eq]
        obtain ⟨_, _, _, _, g5⟩ := g2
        omega
      rw [rgV_ints]
      refine k _ _ [q] ((k1.trans k2).trans (Keep.upd nq)) ?_ (fun a m => by rw [List.mem_singleton.mp m]; exact k1.free z1 (k2.free z2 nq)) (by simp) (z2.upd nq)
      rw [rangeD_ints]
      exact Rp.newL z2 nq (by rw [List.length_map]; exact hlen) (RpA.of_ints _)
    · cases h6
end
end FL

set_option Elab.async false
set_option linter.all false
set_option maxRecDepth 100000
set_option maxHeartbeats 4000000
/-! FL24: x[e1].pop(), x[e1].append(e2), powers, the law's list, returns that tell the names. -/
namespace FL
open PySem PySem.Spec L2

def tPath (w : World) (K : PySem.W.Frag) (i : Nat) (fk : Ev → Mo D) : TE := fun σ H Q => tOp (rIx K) (tVar i) (tB w K fk) σ H Q ∨ tDGet (tVar i) (tB w K fk) σ H Q
section
variable {X : Cx}
theorem pe_path {i : Nat} {x : Str} {e1 : Expr} {p p2 : Pos} {fk : Ev → Mo D} (hu : X.A.units + 1 < cLine) (hk : B X e1 fk) (hN : X.N[i]? = some x) (hv : Vis X.env.scope x) (hd : (x == ("__debug__" : Str)) = false) (hcd : (x == ("__classdict__" : Str)) = false) (hpl : PlainIx e1) : PE X (.Subscript (.Name x p) e1 p2) (tPath X.w X.K i fk) :=
  PE.or (pe_ix ix_seq (pe_var hN hv hd hcd) hk hpl) (pe_dget hu (pe_var hN hv hd hcd) hk hpl)
end
section
variable {w : World} {K : PySem.W.Frag} {z : Zn} {b : Bs} {H : Hp} {σ : L2.St} {ρ : Se} {F : Nat → List Addr} {s s' : Ds}
theorem path_go {i : Nat} {fk : Ev → Mo D} {c kd d : D} {Q : VK} (er : EF w K z b H σ ρ F) (zr : ZRep z H s) (hx : ρ[i]? = some (.own c)) (g : fk (vw ρ) s = some (kd, s')) (ec : sub1 c kd = some d)
    (k : ∀ v H1 f, Keep z H H1 → EF w K z b H1 σ ρ F → ZRep z H1 s' → Rp w K z H1 v d f → f.Nodup → (∀ a ∈ f, a ∈ F i) →
      (∀ H2 s2 a o d' f', Keep z H1 H2 → ZRep z H2 s2 → a ∈ f → Rp w K z (L2.upd H2 a o) v d' f' → f'.Nodup → (∀ x ∈ f', x ∈ f ∨ H1 x = none) → ERep w K z b (L2.upd H2 a o) σ (ρ.set i (.own (setSub c kd d')))) → Q v H1) : tPath w K i fk σ H Q := by
  obtain ⟨cv, ev, rc, nc, nb⟩ := er.own i c hx
  have fin : ∀ (kv : V) (H2 : Hp) (fk' : List Addr), Keep z H H2 → Rp w K z H2 kv kd fk' → ZRep z H2 s' → (isL c = true ∧ rIx K cv kv H2 Q) ∨ (isL c = false ∧ ∃ a v', cv = .ref a ∧ DGet H2 a kv (some v') ∧ Q v' H2) := fun kv H2 fk' k2 rk z2 => by
    have er2 := er.keep k2 z2
    obtain ⟨v1, f, go, r1, nf, mf, cl⟩ := sub_go ec (rc.of_keep k2) rk nc
    have q : Q v1 H2 := by
      refine k v1 H2 f k2 er2 z2 r1 nf mf fun H3 s3 a o d' f' k3 z3 ma r n m => ?_
      have er3 := er2.keep k3 z3
      have m2 : ∀ x ∈ f', x ∈ f ∨ x ∉ F i := fun x mx => (m x mx).imp id fun q h => (Rp.there _ (rc.of_keep k2) x h).1 q
      obtain ⟨fc', rw', nw, mw⟩ := cl (L2.upd H3 a o) d' f' (fun b x eb nz hb => upd_rest (r1.of_keep k3) ma b x (k3 _ _ eb nz) nz hb) r n m2
      refine ⟨_, er3.mut hx (mf a ma) (fp := fc') (by rw [ev]; exact rw') nw (fun b' m' => ?_) fun b' m' j d'' hj hd' => ?_⟩
      · rcases mw b' m' with q | q
        · exact nb b' q
        · rcases m b' q with q | q
          · exact nb b' (mf b' q)
          · exact fun hb => er2.bex b' hb q
      · rcases mw b' m' with q | q
        · exact er.sep i j c d'' (Ne.symm hj) hx hd' b' q
        · rcases m b' q with q | q
          · exact er.sep i j c d'' (Ne.symm hj) hx hd' b' (mf b' q)
          · exact fun h => by
              obtain ⟨_, _, r', _, _⟩ := er2.own j d'' hd'
              exact (Rp.there _ r' b' h).1 q
    exact go.imp (fun g => ⟨g.1, g.2 _ q⟩) fun g => ⟨g.1, g.2 Q q⟩
  cases hL : isL c with
  | true =>
    refine .inl ⟨cv, ev, z, _, vw ρ, s, kd, _, er.ein zr, g, fun kv H2 fk' k2 rk _ z2 => ?_⟩
    rcases fin kv H2 fk' k2 rk z2 with q | q
    · exact q.2
    · rw [hL] at q; cases q.1
  | false =>
    refine .inr ⟨cv, ev, z, _, vw ρ, s, kd, _, er.ein zr, g, fun kv H2 fk' k2 rk _ z2 => ?_⟩
    rcases fin kv H2 fk' k2 rk z2 with q | q
    · rw [hL] at q; cases q.1
    · exact q.2
end
def asLD : Option D → Option (List D)
  | some (.lst xs) => if immL xs then some xs else none
  | _ => none
theorem asLD_some {o : Option D} {xs : List D} (h : asLD o = some xs) : o = some (.lst xs) ∧ immL xs = true := by
  unfold asLD at h
  split at h
  · split at h
    · rename_i g; cases h; exact ⟨rfl, g⟩
    · cases h
  · cases h
/-- x[e1].pop() -/
def mPop2 (i : Nat) (f1 : Ev → Mo D) : Me := fun ρ => (f1 (vw ρ)).bind fun k => match ρ[i]? with
  | some (.own c) => (Mo.ofO (asLD (sub1 c k))).bind fun xs => (Mo.ofO (xs[xs.length - 1]?)).bind fun d => Mo.pure (d, ρ.set i (.own (setSub c k (.lst xs.dropLast))))
  | _ => Mo.fail
theorem own_m {α : Type} {ρ : Se} {i : Nat} {f : D → Mo α} {s : Ds} {r} (h : (match ρ[i]? with | some (.own c) => f c | _ => Mo.fail) s = some r) : ∃ c, ρ[i]? = some (.own c) ∧ f c s = some r := by
  cases e : ρ[i]? with
  | none => rw [e] at h; cases h
  | some x =>
    rw [e] at h
    cases x with
    | own d => exact ⟨_, rfl, h⟩
    | no => cases h
    | bor d => cases h
    | lok d => cases h
/-- x[e1].append(e2), of immutables -/
def sApp2 (i : Nat) (f1 f2 : Ev → Mo D) : Sv := fun ρ => (f1 (vw ρ)).bind fun k => match ρ[i]? with
  | some (.own c) => (Mo.ofO (asLD (sub1 c k))).bind fun xs => (f2 (vw ρ)).bind fun d => (gd (decide (xs.length < sizeLine) && imm d)).bind fun _ => Mo.pure (.nx, ρ.set i (.own (setSub c k (.lst (xs ++ [d])))))
  | _ => Mo.fail
section
variable {X : Cx}
theorem em_pop2 {i : Nat} {x : Str} {e1 : Expr} {p p2 apos cpos : Pos} {f1 : Ev → Mo D} (hu : X.A.units + 1 < cLine) (hk : B X e1 f1) (hN : X.N[i]? = some x := by rfl) (hv : Vis X.env.scope x := by first | exact Or.inl rfl | exact Or.inr (Or.inl rfl) | exact Or.inr (Or.inr rfl)) (hd : (x == ("__debug__" : Str)) = false := by decide) (hcd : (x == ("__classdict__" : Str)) = false := by decide)
    (hpl : PlainIx e1 := by exact fun _ _ => rfl) (hbase : attributeBase (.Subscript (.Name x p) e1 p2) "pop" X.env (eval (.Subscript (.Name x p) e1 p2) X.env) = eval (.Subscript (.Name x p) e1 p2) X.env := by rfl) (hline : (apos.endLine == cpos.line) = true := by rfl) :
    EM X (.Call (.Attribute (.Subscript (.Name x p) e1 p2) "pop" apos) [] [] cpos) (mPop2 i f1) :=
  PE.weak (pe_bm0 PySem.F.plainAttrs_list PySem.F.slot_list_pop PySem.F.type_list_pop mt_pop (pe_path hu hk hN hv hd hcd hpl) hbase hline) fun σ H Q ⟨z, b, ρ, s, d, ρ', s', ⟨F, er⟩, zr, hf, k⟩ => by
    obtain ⟨kd, s1, g1, g2⟩ := Mo.bind_some hf
    obtain ⟨c, hx, g3⟩ := own_m g2
    obtain ⟨xs, s2, g4, g5⟩ := Mo.bind_some g3
    obtain ⟨d1, s3, g6, g7⟩ := Mo.bind_some g5
    obtain ⟨ea, rfl⟩ := Mo.ofO_some' g4
    obtain ⟨eb, rfl⟩ := Mo.ofO_some' g6
    cases g7
    obtain ⟨ec, im⟩ := asLD_some ea
    refine path_go er zr hx g1 ec fun v H1 f k1 er1 z1 r nf mf cm => ?_
    cases r with
    | lst ha nz l q =>
      rename_i a vs fp
      have e1 := RpA.imm _ q im
      subst e1
      obtain ⟨v, ev2, rv⟩ := getLast_rp q eb
      refine ⟨.inl ⟨rfl, _, .inl (.inl ha)⟩, a, vs, v, rfl, rfl, ha, ev2, ?_⟩
      exact k v _ (cm H1 _ a _ (.lst xs.dropLast) [a] (Keep.refl H1) z1 List.mem_cons_self (.lst upd_same nz (by rw [List.length_dropLast]; omega) ((dropLast_rp q im).upd_imm ha)) (by simp) fun x m => .inl m) (rv.upd_imm ha id) (ZRep.mut z1 nz)
theorem s_app2 {i : Nat} {x : Str} {e1 e : Expr} {p p2 apos cpos pos : Pos} {f1 f2 : Ev → Mo D} (hu : X.A.units + 1 < cLine) (hk : B X e1 f1) (he : B X e f2) (hN : X.N[i]? = some x := by rfl) (hv : Vis X.env.scope x := by first | exact Or.inl rfl | exact Or.inr (Or.inl rfl) | exact Or.inr (Or.inr rfl)) (hd : (x == ("__debug__" : Str)) = false := by decide) (hcd : (x == ("__classdict__" : Str)) = false := by decide)
    (hpl : PlainIx e1 := by exact fun _ _ => rfl)
    (hs1 : starEach [e] X.env = (false, eval e X.env) :: starEach [] X.env := by rfl)
    (hbase : attributeBase (.Subscript (.Name x p) e1 p2) "append" X.env (eval (.Subscript (.Name x p) e1 p2) X.env) = eval (.Subscript (.Name x p) e1 p2) X.env := by rfl)
    (hfew : ((backTo cpos (starEach [e] X.env)).all (fun x => !x.1) && (backToKw cpos (keywordEach [] X.env)).all (fun x => x.1.isSome) && decide ([e].length + ([] : List Keyword).length + (if ([] : List Keyword).isEmpty then 0 else 1) < 30)) = true := by rfl)
    (hline : (apos.endLine == cpos.line) = true := by rfl) (hplain : (backTo cpos (starEach [] X.env)).any (·.1) = false := by rfl) (hsw : swapsWith (.Call (.Attribute (.Subscript (.Name x p) e1 p2) "append" apos) [e] [] cpos) none pos.line X.env = pure false := by rfl) : S X (.Expr (.Call (.Attribute (.Subscript (.Name x p) e1 p2) "append" apos) [e] [] cpos) pos) (sApp2 i f1 f2) :=
  PS.weak (ps_expr (pe_bm PySem.F.plainAttrs_list PySem.F.slot_list_append PySem.F.type_list_append mt_append (pe_path hu hk hN hv hd hcd hpl) (pa_cons he pa_nil hs1) hbase hfew hline hs1 hplain) hsw) fun E σ H ⟨z, b, ρ, s, o, ρ', s', ⟨F, er⟩, zr, hf, k⟩ => by
    obtain ⟨kd, s1, g1, g2⟩ := Mo.bind_some hf
    obtain ⟨c, hx, g3⟩ := own_m g2
    obtain ⟨xs, s2, g4, g5⟩ := Mo.bind_some g3
    obtain ⟨d1, s3, g6, g7⟩ := Mo.bind_some g5
    obtain ⟨_, s4, g8, g9⟩ := Mo.bind_some g7
    obtain ⟨ea, rfl⟩ := Mo.ofO_some' g4
    obtain ⟨gg, rfl⟩ := gd_some g8
    cases g9
    simp only [Bool.and_eq_true, decide_eq_true_eq] at gg
    obtain ⟨ec, im⟩ := asLD_some ea
    refine path_go er zr hx g1 ec fun v H1 f k1 er1 z1 r nf mf cm => ?_
    cases r with
    | lst ha nz l q =>
      rename_i a vs fp
      have e1 := RpA.imm _ q im
      subst e1
      refine ⟨.inl ⟨rfl, _, .inl (.inl ha)⟩, z, _, vw ρ, _, d1, _, er1.ein z1, g6, fun v2 H2 fq k2 r2 _ z2 => ?_⟩
      have e2 := Rp.imm _ r2 gg.2
      subst e2
      have ha2 := k2 _ _ ha nz
      refine ⟨a, vs, v2, rfl, rfl, ha2, by rw [q.length]; exact gg.1, ?_⟩
      refine k σ _ (cm H2 _ a _ (.lst (xs ++ [d1])) [a] k2 z2 List.mem_cons_self (.lst upd_same nz (by rw [List.length_append, q.length]; exact gg.1) ?_) (by simp) fun x m => .inl m) (ZRep.mut z2 nz)
      have r3 := RpA.append ((q.of_keep k2).upd_imm (o := .lst (vs ++ [v2])) ha2) (RpA.cons (r2.upd_imm (o := .lst (vs ++ [v2])) ha2 id) RpA.nil)
      simpa using r3

/-! ### powers -/
def dPow : D → D → Option D
  | .int a, .int b => if decide (0 ≤ b) && decide (b ≤ 1000000) && decide (a.natAbs < 2 ^ 64) then some (.int (a ^ b.toNat)) else none
  | _, _ => none
theorem op_dPow : OpR X (binaryOp .Pow) (rD X.w X.K dPow) := fun pins st σ H x y v u Q I rx ry ⟨z, s, da, db, fa, fb, d, zr, ra, rb, e, k⟩ => by
  unfold dPow at e
  split at e
  · split at e
    · rename_i g
      cases e; cases ra; cases rb
      simp only [Bool.and_eq_true, decide_eq_true_eq] at g
      exact op_pow pins st σ H _ _ v u Q I rx ry ⟨_, _, rfl, rfl, ⟨g.1.1, g.1.2, g.2⟩, fin_int zr k⟩
    · cases e
  · cases e

/-! ### script[a:b] -/
def dSlS (lo hi : Option Int) : D → Option D
  | .scr xs => some (.lst (((xs.drop (HT.sIx xs.length 0 lo)).take (HT.sIx xs.length xs.length hi - HT.sIx xs.length 0 lo)).map D.int))
  | _ => none
def fSlS (f : Ev → Mo D) (lo hi : Ev → Mo (Option Int)) : Ev → Mo D := fun ρ => (f ρ).bind fun x => (lo ρ).bind fun a => (hi ρ).bind fun b => Mo.ofO (dSlS a b x)
theorem e_sliceS {e : Expr} {lo hi : Option Expr} {p2 pos : Pos} {f : Ev → Mo D} {fl fh : Ev → Mo (Option Int)} (he : B X e f) (hl : O X lo fl) (hh : O X hi fh) : E X (.Subscript e (.Slice lo hi none p2) pos) (fSlS f fl fh) :=
  PE.weak (pe_slice sl_list he hl hh) fun σ H Q ⟨z, Bs, ρ, s, d, s', I, hf, k⟩ => by
    obtain ⟨x, s1, h1, h2⟩ := Mo.bind_some hf
    obtain ⟨a, s2, h3, h4⟩ := Mo.bind_some h2
    obtain ⟨b, s3, h5, h6⟩ := Mo.bind_some h4
    obtain ⟨e, rfl⟩ := Mo.ofO_some' h6
    refine ⟨z, Bs, ρ, s, x, s1, I, h1, fun v H1 fp k1 r1 f1 z1 => ?_⟩
    refine ⟨z, Bs, ρ, s1, a, s2, I.next k1 z1, h3, fun H2 k2 z2 => ?_⟩
    refine ⟨z, Bs, ρ, s2, b, _, (I.next k1 z1).next k2 z2, h5, fun H3 k3 z3 => ?_⟩
    unfold dSlS at e
    split at e
    · rename_i xs
      cases e
      have r3 := (r1.of_keep k2).of_keep k3
      cases r3 with
      | scr h nz l =>
        refine ⟨_, _, rfl, h.sq, fun p np => ?_⟩
        have ee : cutV (xs.map V.int) a b = (((xs.drop (HT.sIx xs.length 0 a)).take (HT.sIx xs.length xs.length b - HT.sIx xs.length 0 a))).map V.int := by
          unfold cutV
          rw [List.length_map, List.map_take, List.map_drop]
        rw [ee]
        have hl : (((xs.drop (HT.sIx xs.length 0 a)).take (HT.sIx xs.length xs.length b - HT.sIx xs.length 0 a))).length ≤ sizeLine := by
          rw [List.length_take, List.length_drop]; omega
        refine k _ _ [p] ((k1.trans k2).trans (k3.trans (Keep.upd np))) (Rp.newL z3 np (by rw [List.length_map]; exact hl) (RpA.of_ints _)) (fun c m => ?_) (by simp) (z3.upd np)
        rw [List.mem_singleton.mp m]
        exact k1.free z1 (k2.free z2 (k3.free z3 np))
    · cases e
end
end FL

set_option Elab.async false
set_option linter.all false
set_option maxRecDepth 100000
set_option maxHeartbeats 4000000
/-! FL25: dicts of ints with None among their keys. -/
namespace FL
open PySem PySem.Spec L2

def nV : Option Key → V
  | none => .non
  | some k => kV k
def keyN : D → Option (Option Key)
  | .non => some none
  | .int i => some (some (.inl i))
  | .str x => some (some (.inr x))
  | _ => none
theorem keyN_v {w : World} {K : PySem.W.Frag} {z : Zn} {H : Hp} {d : D} {v : V} {fp : List Addr} {k : Option Key} (r : Rp w K z H v d fp) (h : keyN d = some k) : v = nV k := by
  cases r <;> first | (cases h; rfl) | cases h
theorem nV_is {P : Program} {w : World} {k : Option Key} {u : Value} (r : RelV (nV k) u) : (noneKind P w).is k u = true := by
  cases k with
  | none => cases (show u = Value.none from r); rfl
  | some k => exact kV_is (P := P) (w := w) r
def lookN (ks : List (Option Key)) (vs : List Int) (k : Option Key) : Option Int := ((ks.zip vs).find? fun p => decide (p.1 = k)).map (·.2)
theorem value_look {k : Option Key} : ∀ {ks : List (Option Key)} {vs : List Int} {us : List Value}, Vals (vs.map V.int) us → ks.length = vs.length → (lookN ks vs k = none → valueAt (ks.zip us) k = none) ∧ ∀ i, lookN ks vs k = some i → ∃ t, valueAt (ks.zip us) k = some (.int i t)
  | [], [], _, .nil, _ => ⟨fun _ => rfl, fun i h => by cases h⟩
  | a :: ks, v :: vs, u :: us, .cons r rs, l => by
    obtain ⟨h1, h2⟩ := value_look (k := k) rs (ks := ks) (by simpa using l)
    obtain ⟨t, rfl⟩ := r
    unfold lookN valueAt at *
    rw [List.zip_cons_cons, List.zip_cons_cons, List.find?_cons, List.find?_cons]
    by_cases e : a = k
    · simp only [e, decide_true]
      exact ⟨fun h => by simp at h, fun i h => ⟨t, by simp at h; subst h; rfl⟩⟩
    · simp only [e, decide_false]
      exact ⟨h1, h2⟩
theorem stored_cons_ne {κ : Type} [DecidableEq κ] {k k' : κ} {v v' : Value} {kvs : List (κ × Value)} (h : ¬ k' = k) : stored ((k', v') :: kvs) k v = (k', v') :: stored kvs k v := by
  unfold stored
  rw [List.any_cons, show decide ((k', v').1 = k) = false from decide_eq_false h, Bool.false_or]
  split
  · rw [List.map_cons, if_neg h]
  · rfl
theorem stored_none {κ : Type} [DecidableEq κ] {k : κ} {v : Value} : ∀ {kvs : List (κ × Value)}, (∀ p ∈ kvs, ¬ p.1 = k) → kvs.map (fun kv => if kv.1 = k then (kv.1, v) else kv) = kvs
  | [], _ => rfl
  | p :: kvs, h => by
    rw [List.map_cons, if_neg (h p List.mem_cons_self), stored_none fun q m => h q (List.mem_cons_of_mem _ m)]
theorem stored_zip {κ : Type} [DecidableEq κ] {k : κ} {v : Value} : ∀ {ks : List κ} {vs : List Value}, ks.length = vs.length → ks.Nodup → stored (ks.zip vs) k v = (putKs ks k).zip (putVs ks vs k v)
  | [], [], _, _ => rfl
  | k' :: ks, u :: vs, l, n => by
    obtain ⟨n1, n2⟩ := List.nodup_cons.mp n
    rw [List.zip_cons_cons]
    unfold putKs putVs
    by_cases h : k' = k
    · rw [if_pos h, if_pos h, List.zip_cons_cons]
      unfold stored
      rw [List.any_cons, show decide ((k', u).1 = k) = true from decide_eq_true h, Bool.true_or, if_pos rfl, List.map_cons, if_pos h, stored_none]
      intro p m e
      have := (List.of_mem_zip m).1
      rw [e, ← h] at this
      exact n1 this
    · rw [if_neg h, if_neg h, List.zip_cons_cons, stored_cons_ne h, stored_zip (by simpa using l) n2]
theorem vals_put {k : Option Key} {i : Int} {t : Tok} : ∀ {ks : List (Option Key)} {vs : List Int} {us : List Value}, Vals (vs.map V.int) us → ks.length = vs.length → Vals ((putVs ks vs k i).map V.int) (putVs ks us k (.int i t))
  | [], [], _, .nil, _ => .cons ⟨t, rfl⟩ .nil
  | a :: ks, v :: vs, u :: us, .cons r rs, l => by
    unfold putVs
    by_cases e : a = k
    · rw [if_pos e, if_pos e]
      exact .cons ⟨t, rfl⟩ rs
    · rw [if_neg e, if_neg e]
      exact .cons r (vals_put rs (by simpa using l))
section
variable {X : Cx} {pins : List (Addr × Obj)} {σ : L2.St} {H : Hp} {s : Shared} {a : Addr} {ks : List (Option Key)} {vs : List Int}
theorem non_at (I : L2.Inv X pins σ H s) (ha : H a = some (NonO X.w a ks vs)) : (a == sysModules) = false ∧ ∃ us : List Value, Vals (vs.map V.int) us ∧ ∀ P : Program, s.heap.DictOf (noneKind P X.w) a (ks.zip us) := (I.hok a _ ha).1
theorem dictOf_at {κ : Type} [DecidableEq κ] {P : Program} {w : World} {knd : KeyKind P w κ} {h h' : Heap} {kvs : List (κ × Value)} (d : h.DictOf knd a kvs) (k : ∀ o, h.get? a = some o → h'.get? a = some o) : h'.DictOf knd a kvs := by
  obtain ⟨o, es, ep, ho, r⟩ := d
  exact ⟨o, es, ep, k o ho, r⟩
theorem pairs_prog {P P' : Program} {w : World} {es : List DictEntry} {kvs : List (Option Key × Value)} (h : Pairs (noneKind P w) es kvs) : Pairs (noneKind P' w) es kvs := by
  induction h with
  | nil => exact .nil
  | cons h1 h2 _ ih => exact .cons h1 h2 ih
theorem dict_prog {P P' : Program} {w : World} {h : Heap} {kvs : List (Option Key × Value)} (d : h.DictOf (noneKind P w) a kvs) : h.DictOf (noneKind P' w) a kvs := by
  obtain ⟨o, es, ep, h1, h2, h3, h4, h5, h6⟩ := d
  exact ⟨o, es, ep, h1, h2, h3, h4, pairs_prog h5, h6⟩
theorem non_new {P : Program} {w : World} {H : Hp} {h : Heap} {us : List Value} (hd : (a == sysModules) = false) (r : Vals (vs.map V.int) us) (d : ∀ P : Program, h.DictOf (noneKind P w) a (ks.zip us)) : ObjOk P w H h a (NonO w a ks vs) := by
  have ⟨o, _, _, ho, _⟩ := d P
  exact ⟨⟨hd, us, r, d⟩, ⟨o, ho⟩, fun h1 h2 p k => by
    obtain ⟨q1, us', q2, q3⟩ := p
    exact ⟨q1, us', q2, fun P' => dictOf_at (q3 P') k⟩⟩
def tNNew (w : World) : TE := fun _ H Q => ∀ p, H p = none → Q (.ref p) (L2.upd H p (NonO w p [] []))
theorem pe_nnew {pos : Pos} : PE X (.Dict [] [] pos) (tNNew X.w) := ⟨fun pins s σ H Q I h =>
  wpAny_Dict_empty ⟨.ref s.heap.objs.size, _, I.laid (a := s.heap.objs.size) (o := NonO X.w s.heap.objs.size [] []) (t' := s.toks) (fun _ _ q => Heap.get?_push_of_some _ q) (Nat.le_refl _) (non_new (us := []) (beq_eq_false_iff_ne.mpr (Ne.symm (Nat.ne_of_lt I.big))) .nil fun P => Heap.DictOf.new s.heap), rfl, h _ (I.hok.fresh (Nat.le_refl _))⟩⟩
/-- d[k] -/
def tNIx (w : World) (td ty : TE) : TE := fun σ H Q => td σ H fun x H1 => ty σ H1 fun y H2 => ∃ a ks vs k i, x = .ref a ∧ H2 a = some (NonO w a ks vs) ∧ ks.length = vs.length ∧ y = nV k ∧ lookN ks vs k = some i ∧ Q (.int i) H2
theorem pe_nix {o i : Expr} {pos : Pos} {td ty : TE} (ho : PE X o td) (hi : PE X i ty) (hs : NoSl i) : PE X (.Subscript o i pos) (tNIx X.w td ty) := by
  refine ⟨fun pins s σ H Q I h => ?_⟩
  refine subD_of PySem.F.slot_dict_getitem.lookup hs (thn (ho.run pins s σ H _ I h) fun u s1 ⟨x, H1, I1, rx, q1⟩ => thn (hi.run pins s1 σ H1 _ I1 q1) fun iv s2 ⟨y, H2, I2, ry, a, ks, vs, k, n, ex, ha, l, ey, lk, q2⟩ => ?_)
  subst ex ey
  cases (show u = Value.ref a from rx)
  obtain ⟨hd, us, r, dd⟩ := non_at I2 ha
  obtain ⟨t, hw⟩ := (value_look r l).2 n lk
  refine ⟨(dd X.prog).typeIs, wpAny_getItem_of (nV_is ry) (dd X.prog).mapOf hw ⟨.int n, H2, I2.tok _, ⟨t, rfl⟩, q2⟩⟩
/-- d.get(k, x) -/
def tNGet (w : World) (td ty tx : TE) : TE := fun σ H Q => td σ H fun x H1 => ∃ a, x = .ref a ∧ (∃ ks vs, H1 a = some (NonO w a ks vs)) ∧ ty σ H1 fun y H2 => tx σ H2 fun zv H3 => ∃ ks vs k, H3 a = some (NonO w a ks vs) ∧ ks.length = vs.length ∧ y = nV k ∧ Q (match lookN ks vs k with | some i => .int i | none => zv) H3
theorem pe_nget {o e f : Expr} {apos cpos : Pos} {td ty tx : TE} (ho : PE X o td) (he : PE X e ty) (hf : PE X f tx) (m : M2 X o "get" apos e f cpos) : PE X (.Call (.Attribute o "get" apos) [e, f] [] cpos) (tNGet X.w td ty tx) := by
  refine ⟨fun pins s σ H Q I h => ?_⟩
  refine wpAny_Call_method m.base m.few m.line PySem.F.plainAttrs_dict PySem.F.slot_dict_get PySem.F.type_dict_get (thn (ho.run pins s σ H _ I h) fun u s1 ⟨x, H1, I1, rx, a, ex, ⟨ks, vs, ha⟩, q1⟩ => ?_)
  subst ex
  cases (show u = Value.ref a from rx)
  obtain ⟨hd, us, r, dd⟩ := non_at I1 ha
  refine ⟨(dd X.prog).typeIs, fun b q => ?_, ?_⟩
  · cases q
    obtain ⟨ob, _, _, h1, h2, _⟩ := dd X.prog
    exact ⟨ob, h1, h2.2.1⟩
  rw [m.trees]
  refine Calls.callWith_builtin rfl (Calls.evalArgs_plain (Calls.spliced_cons (thn (he.run pins s1 σ H1 _ I1 q1) fun iv s2 ⟨y, H2, I2, ry, q2⟩ =>
    Calls.spliced_cons (thn (hf.run pins s2 σ H2 _ I2 q2) fun fv s3 ⟨zv, H3, I3, rz, ks3, vs3, k, ha3, l3, ey, q3⟩ => Calls.spliced_nil ?_))))
  subst ey
  obtain ⟨hd3, us3, r3, dd3⟩ := non_at I3 ha3
  refine call_meetsIn PySem.F.slot_dict_get (dd3 X.prog).typeIs PySem.F.entry_dict_get (PySem.F.args_dict_get_3 _ _ _) (meets_dict_get_default (noneKind X.prog X.w) a (nV_is ry) hd3 fv) ⟨_, (dd3 X.prog).mapOf, _, H3, I3.tok _, ?_, q3⟩
  cases el : lookN ks3 vs3 k with
  | none =>
    rw [(value_look r3 l3).1 el]
    exact rz
  | some n =>
    obtain ⟨t, hw⟩ := (value_look r3 l3).2 n el
    rw [hw]
    exact ⟨t, rfl⟩
/-- d[k] = v -/
def rSetN (w : World) : TSet := fun o i v H Q => ∃ a ks vs k n, o = .ref a ∧ i = nV k ∧ v = .int n ∧ H a = some (NonO w a ks vs) ∧ ks.length = vs.length ∧ ks.Nodup ∧ ks.length ≤ sizeLine ∧ Q (L2.upd H a (NonO w a (putKs ks k) (putVs ks vs k n)))
theorem set_n : PSet X (rSetN X.w) := by
  intro pins s σ H o i v ov iv u Q I ro ri rv h
  obtain ⟨a, ks, vs, k, n, rfl, rfl, rfl, ha, l, nd, z, q⟩ := h
  cases ro
  obtain ⟨t, rfl⟩ := rv
  obtain ⟨hd, us, r, dd⟩ := non_at I ha
  have lu : ks.length = us.length := by rw [l, ← r.length, List.length_map]
  refine wpAny_setItem_pairs (knd := noneKind X.prog X.w) (hsz := by rw [List.length_zip, ← lu, Nat.min_self]; exact z) (nV_is ri) (dd X.prog) fun h' dd' hs => ?_
  have he : ∃ q, h'.get? a = some q := let ⟨q, _, _, hq, _⟩ := dd'; ⟨q, hq⟩
  have I' := I.write (e := a) (t' := s.toks + 1) (by rw [ha]; trivial) (.inl rfl) (fun b u hb hu => (hs.2 b hb).trans hu) he (non_new (ks := putKs ks k) (vs := putVs ks vs k n) hd (vals_put (t := t) r l) fun P => by
    rw [← stored_zip lu nd]
    exact dict_prog dd')
  exact ⟨_, I', q⟩
end
/-! ### as data -/
def fNIx (fa fb : Ev → Mo D) : Ev → Mo D := fun ρ => (fa ρ).bind fun x => (fb ρ).bind fun y => match x with
  | .dctN ks vs => (Mo.ofO ((keyN y).bind fun k => lookN ks vs k)).bind fun i => Mo.pure (.int i)
  | _ => Mo.fail
def fNGet (fd fk fx : Ev → Mo D) : Ev → Mo D := fun ρ => (fd ρ).bind fun c => (fk ρ).bind fun k => (fx ρ).bind fun x => match c, x with
  | .dctN ks vs, .int j => (Mo.ofO (keyN k)).bind fun k => Mo.pure (.int ((lookN ks vs k).getD j))
  | _, _ => Mo.fail
def sPutN (i : Nat) (fk fv : Ev → Mo D) : Sv := fun ρ => (fv (vw ρ)).bind fun d => (fk (vw ρ)).bind fun k => match ρ[i]? with
  | some (.own c) => match c, d with
    | .dctN ks vs, .int n => (Mo.ofO (keyN k)).bind fun k => (gd (decide (ks.length < sizeLine))).bind fun _ => Mo.pure (.nx, ρ.set i (.own (.dctN (putKs ks k) (putVs ks vs k n))))
    | _, _ => Mo.fail
  | _ => Mo.fail
section
variable {X : Cx}
theorem e_dictN0 {pos : Pos} : E X (.Dict [] [] pos) (fC (.dctN [] [])) := PE.weak pe_nnew fun σ H Q ⟨z, Bs, ρ, s, d, s', I, hf, k⟩ p np => by
  obtain ⟨rfl, rfl⟩ := Mo.pure_some hf
  exact k _ _ [p] (Keep.upd np) (.dctN upd_same (I.z.zm np) rfl (Nat.zero_le _) List.nodup_nil) (fun a m => by rw [List.mem_singleton.mp m]; exact np) (List.nodup_cons.mpr ⟨by simp, List.nodup_nil⟩) (I.z.upd np)
theorem e_nix {a b : Expr} {pos : Pos} {fa fb : Ev → Mo D} (ha : B X a fa) (hb : B X b fb) (hs : PlainIx b := by exact fun _ _ => rfl) : E X (.Subscript a b pos) (fNIx fa fb) :=
  PE.weak (pe_nix ha hb hs) fun σ H Q ⟨z, Bs, ρ, s, d, s', I, hf, k⟩ => by
    obtain ⟨x, s1, h1, h2⟩ := Mo.bind_some hf
    obtain ⟨y, s2, h3, h4⟩ := Mo.bind_some h2
    split at h4
    · rename_i ks vs
      obtain ⟨i, s3, h5, h6⟩ := Mo.bind_some h4
      obtain ⟨e, rfl⟩ := Mo.ofO_some' h5
      cases h6
      refine ⟨z, Bs, ρ, s, _, s1, I, h1, fun v H1 fp k1 r1 f1 z1 => ?_⟩
      refine ⟨z, Bs, ρ, s1, y, _, I.next k1 z1, h3, fun u H2 fq k2 r2 f2 z2 => ?_⟩
      cases ek : keyN y with
      | none => rw [ek] at e; cases e
      | some kk =>
        rw [ek] at e
        have eu := keyN_v r2 ek
        have r1' := r1.of_keep k2
        cases r1' with
        | dctN h n l1 l2 nd => exact ⟨_, ks, vs, kk, i, rfl, h, l1, eu, e, k _ H2 [] (k1.trans k2) (.int i) (fun a m => by cases m) List.nodup_nil z2⟩
    · cases h4
theorem e_nget {o e f : Expr} {apos cpos : Pos} {fd fk fx : Ev → Mo D} (ho : B X o fd) (he : B X e fk) (hf : B X f fx) (m : M2 X o "get" apos e f cpos := by exact ⟨rfl, rfl, rfl, rfl⟩) : E X (.Call (.Attribute o "get" apos) [e, f] [] cpos) (fNGet fd fk fx) :=
  PE.weak (pe_nget ho he hf m) fun σ H Q ⟨z, Bs, ρ, s, d, s', I, hf, k⟩ => by
    obtain ⟨c, s1, h1, h2⟩ := Mo.bind_some hf
    obtain ⟨kd, s2, h3, h4⟩ := Mo.bind_some h2
    obtain ⟨xd, s3, h5, h6⟩ := Mo.bind_some h4
    split at h6
    · rename_i ks vs j
      obtain ⟨kk, s4, h7, h8⟩ := Mo.bind_some h6
      obtain ⟨ek, rfl⟩ := Mo.ofO_some' h7
      cases h8
      refine ⟨z, Bs, ρ, s, _, s1, I, h1, fun v H1 fp k1 r1 m1 z1 => ?_⟩
      have r0 := r1
      cases r1 with
      | dctN ha nz l1 l2 nd =>
        rename_i a
        refine ⟨a, rfl, ⟨_, _, ha⟩, z, Bs, ρ, s1, kd, s2, I.next k1 z1, h3, fun kv H2 fq k2 r2 _ z2 => ?_⟩
        refine ⟨z, Bs, ρ, s2, _, _, (I.next k1 z1).next k2 z2, h5, fun xv H3 fx' k3 r3 m3 z3 => ?_⟩
        have ha3 := k3 _ _ (k2 _ _ ha nz) nz
        cases r3
        refine ⟨ks, vs, kk, ha3, l1, keyN_v r2 ek, ?_⟩
        have q := k (.int ((lookN ks vs kk).getD j)) H3 [] (k1.trans (k2.trans k3)) (.int _) (fun a m => by cases m) List.nodup_nil z3
        cases el : lookN ks vs kk with
        | none => rw [el] at q; exact q
        | some n => rw [el] at q; exact q
    · cases h6
theorem s_putN {i : Nat} {x : Str} {e1 e2 : Expr} {p p2 pos : Pos} {fk fv : Ev → Mo D} (hk : B X e1 fk) (hv2 : E X e2 fv) (hN : X.N[i]? = some x := by rfl) (hv : Vis X.env.scope x := by first | exact Or.inl rfl | exact Or.inr (Or.inl rfl) | exact Or.inr (Or.inr rfl)) (hd : (x == ("__debug__" : Str)) = false := by decide) (hcd : (x == ("__classdict__" : Str)) = false := by decide)
    (ha : ∀ v, assign (.Subscript (.Name x p) e1 p2) X.env v = (do
      let ov ← holding [v] (eval (.Name x p) X.env)
      let iv ← holding [v, ov] (eval e1 X.env)
      standAt p2
      holding [v, ov, iv] (setItem ov iv v)
      release [v, ov, iv] []) := by intro _; rfl) (hs : swapsWithSole [.Subscript (.Name x p) e1 p2] e2 pos.line X.env = pure false := by rfl) (hw : swappedStores [.Subscript (.Name x p) e1 p2] e2 X.env = pure none := by rfl)
    (h1 : (assignEach [.Subscript (.Name x p) e1 p2] X.env).map (·.2) = [assign (.Subscript (.Name x p) e1 p2) X.env] := by rfl) : S X (.Assign [.Subscript (.Name x p) e1 p2] e2 pos) (sPutN i fk fv) :=
  PS.weak (ps_asg hv2 (pg_sub (pe_var hN hv hd hcd) hk set_n ha) hs hw h1) fun E σ H ⟨z, b, ρ, s, o, ρ', s', ⟨F, er⟩, zr, hf, k⟩ => by
    obtain ⟨d, s1, g1, g2⟩ := Mo.bind_some hf
    obtain ⟨kd, s2, g3, g4⟩ := Mo.bind_some g2
    obtain ⟨c, hx, g4⟩ := own_m g4
    split at g4
    · rename_i ks vs n
      obtain ⟨kk, s3, g6, g7⟩ := Mo.bind_some g4
      obtain ⟨_, s4, g8, g9⟩ := Mo.bind_some g7
      obtain ⟨ek, rfl⟩ := Mo.ofO_some' g6
      obtain ⟨g, rfl⟩ := gd_some g8
      cases g9
      refine ⟨z, _, vw ρ, s, _, s1, er.ein zr, g1, fun v H1 fd k1 rd fr nd z1 => ?_⟩
      have er1 := er.keep k1 z1
      obtain ⟨cv, ev, rc, nc, nb⟩ := er1.own i _ hx
      generalize hF : F i = Fi at rc nc nb
      cases rd
      refine ⟨cv, ev, z, _, vw ρ, s1, kd, _, er1.ein z1, g3, fun kv H2 fk' k2 rk _ z2 => ?_⟩
      have er2 := er1.keep k2 z2
      have rc2 := rc.of_keep k2
      cases rc2 with
      | dctN ha nz l1 l2 nd2 =>
        rename_i a
        refine ⟨a, _, _, kk, _, rfl, keyN_v rk ek, rfl, ha, l1, nd2, l2, ?_⟩
        exact k σ _ (er2.flat hx ev hF (.dctN upd_same nz (put_len l1) (Nat.le_trans putKs_len (of_decide_eq_true g)) (putKs_nodup nd2))) (ZRep.mut z2 nz)
    · cases g4
end
end FL

set_option Elab.async false
set_option linter.all false
set_option maxRecDepth 100000
set_option maxHeartbeats 4000000
/-! FL26: the draws' own heap. -/
namespace FL
open PySem PySem.Spec L2

/-- the environment as one sees it where the draws' cells are plain lists -/
def seeHp (i : Nat) (ρ : Ev) (s : Ds) : Ev := (ρ.map fun o => match o with
  | some d => if flat d then some d else none
  | none => none).set i (some (.lst [.lst (s.1.map D.int), .int s.2]))
def isHp (o : Option (Option D)) : Bool := match o with
  | some (some .hp) => true
  | _ => false
theorem isHp_iff {o : Option (Option D)} (h : isHp o = true) : o = some (some .hp) := by
  unfold isHp at h
  split at h
  · rfl
  · cases h
def viaHp (i : Nat) (f : Ev → Mo D) : Ev → Mo D := fun ρ s => if isHp (ρ[i]?) && decide (s.1.length ≤ sizeLine) then match f (seeHp i ρ s) ([], 0) with
  | some (d, _) => if flat d then some (d, s) else none
  | none => none else none
def viaHpT (i : Nat) (f : Ev → Mo Bool) : Ev → Mo Bool := fun ρ s => if isHp (ρ[i]?) && decide (s.1.length ≤ sizeLine) then match f (seeHp i ρ s) ([], 0) with
  | some (b, _) => some (b, s)
  | none => none else none
section
variable {w : World} {K : PySem.W.Frag} {z : Zn} {H H' : Hp} {σ : L2.St} {ρ : Ev} {s : Ds}
theorem ZRep.non {s : Ds} : ZRep none H s := fun a b e => by cases e
theorem zm_none {a : Addr} : ¬ Zm none a := fun ⟨p, e, _⟩ => by cases e
theorem flat_rp {z z' : Zn} {v : V} {d : D} {fp : List Addr} (h : flat d = true) (r : Rp w K z H v d fp) : Rp w K z' H' v d [] ∧ fp = [] := by
  cases r <;> first | (cases h; done) | exact ⟨by constructor, rfl⟩
theorem Keep.of_none (k : Keep none H H') : Keep z H H' := fun a x e _ => k a x e zm_none
theorem ZRep.of_none (zr : ZRep z H s) (k : Keep none H H') : ZRep z H' s := fun a b e => by
  obtain ⟨n, h1, h2⟩ := zr a b e
  exact ⟨n, k _ _ h1 zm_none, k _ _ h2 zm_none⟩
theorem see_in {B : Addr → Prop} {i : Nat} (I : EIn w K z B H σ ρ s) (h : ρ[i]? = some (some .hp)) (l : s.1.length ≤ sizeLine) : EIn w K none (fun a => H a ≠ none) H σ (seeHp i ρ s) ([], 0) := by
  obtain ⟨v, fp, ev, r, mm⟩ := I.v i _ h
  cases r with
  | @hp a b ez =>
    obtain ⟨n, ha, hb⟩ := I.z a b ez
    have hi : i < ρ.length := (List.getElem?_eq_some_iff.mp h).1
    refine ⟨fun j d e => ?_, ZRep.non, fun a h => h, by unfold seeHp; rw [List.length_set, List.length_map]; exact I.len⟩
    unfold seeHp at e
    by_cases hj : i = j
    · subst hj
      rw [List.getElem?_set_self (by rw [List.length_map]; exact hi)] at e
      cases e
      refine ⟨.ref a, [a, b], ev, ?_, fun c m => ?_⟩
      · have r1 : Rp w K none H (.ref b) (.lst (s.1.map D.int)) [b] := .lst hb zm_none (by rw [List.length_map]; exact l) (RpA.of_ints _)
        have r2 := RpA.cons r1 (RpA.cons (Rp.int (w := w) (K := K) (z := none) (H := H) s.2) RpA.nil)
        exact .lst ha zm_none (Nat.le_trans (Nat.le_of_ble_eq_true rfl : 2 ≤ 64) (by decide)) r2
      · rcases List.mem_cons.mp m with e | m
        · rw [e, ha]; simp
        · rw [List.mem_singleton.mp m, hb]; simp
    · rw [List.getElem?_set_ne hj, List.getElem?_map] at e
      cases q : ρ[j]? with
      | none => rw [q] at e; cases e
      | some o =>
        rw [q] at e
        cases o with
        | none => simp at e
        | some d' =>
          by_cases g : flat d' = true
          · simp only [Option.map_some, g, if_true] at e
            cases e
            obtain ⟨v, fp, e1, r1, _⟩ := I.v j _ q
            exact ⟨v, [], e1, (flat_rp g r1).1, fun a m => by cases m⟩
          · simp only [Option.map_some, g] at e
            simp at e
end
section
variable {X : Cx}
theorem hp_e (i : Nat) {e : Expr} {f : Ev → Mo D} (h : B X e f) : E X e (viaHp i f) := PE.weak h fun σ H Q ⟨z, Bs, ρ, s, d, s', I, hf, k⟩ => by
  unfold viaHp at hf
  split at hf
  · rename_i g
    simp only [Bool.and_eq_true, decide_eq_true_eq] at g
    split at hf
    · rename_i d1 s1 hq
      split at hf
      · rename_i gf
        cases hf
        refine ⟨none, _, _, _, d, s1, see_in I (isHp_iff g.1) g.2, hq, fun v H' fp k1 r _ _ => ?_⟩
        exact k v H' [] k1.of_none (flat_rp gf r).1 (fun a m => by cases m) List.nodup_nil (I.z.of_none k1)
      · cases hf
    · cases hf
  · cases hf
theorem hp_t (i : Nat) {e : Expr} {f : Ev → Mo Bool} (h : T X e f) : T X e (viaHpT i f) := PT.weak h fun σ H Q ⟨z, Bs, ρ, s, d, s', I, hf, k⟩ => by
  unfold viaHpT at hf
  split at hf
  · rename_i g
    simp only [Bool.and_eq_true, decide_eq_true_eq] at g
    split at hf
    · rename_i d1 s1 hq
      cases hf
      exact ⟨none, _, _, _, d, s1, see_in I (isHp_iff g.1) g.2, hq, fun H' k1 _ => k H' k1.of_none (I.z.of_none k1)⟩
    · cases hf
  · cases hf
theorem hp_v {w : World} {K : PySem.W.Frag} {z : Zn} {B : Addr → Prop} {H : Hp} {σ : L2.St} {ρ : Ev} {s : Ds} {i : Nat} (I : EIn w K z B H σ ρ s) (h : isHp (ρ[i]?) = true) : ∃ a b, σ[i]? = some (some (.ref a)) ∧ z = some (a, b) := by
  obtain ⟨v, fp, ev, r, _⟩ := I.v i _ (isHp_iff h)
  cases r with
  | hp ez => exact ⟨_, _, ev, ez⟩
theorem keep_zm {z : Zn} {H : Hp} {a : Addr} {o : HO} (h : Zm z a) : Keep z H (L2.upd H a o) := fun c x e n => by
  rw [upd_ne fun q => n (by rw [q]; exact h)]; exact e
/-- heap[0].pop() -/
def fHpop (i : Nat) : Ev → Mo D := fun ρ s => if isHp (ρ[i]?) then (s.1[s.1.length - 1]?).map fun n => (.int n, (s.1.dropLast, s.2)) else none
theorem ix0 {K : PySem.W.Frag} {σ : L2.St} {H : Hp} {a b : Addr} {n : Int} {Q : VK} (ha : H a = some (.lst [.ref b, .int n])) (q : Q (.ref b) H) : (fun x H1 => tC (.int 0) σ H1 fun y H2 => rIxL K x y H2 Q) (.ref a) H := ⟨a, _, 0, .ref b, rfl, rfl, .inl (.inl ha), rfl, q⟩
theorem e_hpop (i : Nat) {x : Str} {p p1 p2 apos cpos : Pos} {j : Nat} (hN : X.N[i]? = some x := by rfl) (hv : Vis X.env.scope x := by first | exact Or.inl rfl | exact Or.inr (Or.inl rfl) | exact Or.inr (Or.inr rfl)) (hd : (x == ("__debug__" : Str)) = false := by decide) (hcd : (x == ("__classdict__" : Str)) = false := by decide)
    (hbase : attributeBase (.Subscript (.Name x p) (.Constant (.int 0) j p1) p2) "pop" X.env (eval (.Subscript (.Name x p) (.Constant (.int 0) j p1) p2) X.env) = eval (.Subscript (.Name x p) (.Constant (.int 0) j p1) p2) X.env := by rfl) (hline : (apos.endLine == cpos.line) = true := by rfl) :
    E X (.Call (.Attribute (.Subscript (.Name x p) (.Constant (.int 0) j p1) p2) "pop" apos) [] [] cpos) (fHpop i) :=
  PE.weak (pe_bm0 PySem.F.plainAttrs_list PySem.F.slot_list_pop PySem.F.type_list_pop mt_pop (pe_ix ix_list (pe_var hN hv hd hcd) pe_int fun _ _ => rfl) hbase hline) fun σ H Q ⟨z, Bs, ρ, s, d, s', I, hf, k⟩ => by
    unfold fHpop at hf
    split at hf
    · rename_i g
      obtain ⟨n, en, e1⟩ := Option.map_eq_some_iff.mp hf
      cases e1
      obtain ⟨a, b, ev, ez⟩ := hp_v I g
      obtain ⟨nab, ha, hb⟩ := I.z a b ez
      have zb : Zm z b := ⟨_, ez, .inr rfl⟩
      refine ⟨.ref a, ev, ?_⟩
      refine ix0 (K := X.K) (n := s.2) ha ⟨.inl ⟨rfl, _, .inl (.inl hb)⟩, b, s.1.map V.int, .int n, rfl, rfl, hb, ?_, ?_⟩
      · rw [List.length_map, List.getElem?_map, en]; rfl
      · refine k (.int n) _ [] (keep_zm zb) (.int n) (fun a m => by cases m) List.nodup_nil fun a' b' e' => ?_
        rw [ez] at e'
        cases e'
        refine ⟨nab, by rw [upd_ne nab]; exact ha, ?_⟩
        rw [upd_same, ← List.map_dropLast]
    · cases hf
/-- heap[0].append(e) -/
def fHapp (i : Nat) (f : Ev → Mo D) : Ev → Mo D := fun ρ => (f ρ).bind fun d => fun s => match d with
  | .int n => if isHp (ρ[i]?) && decide (s.1.length < sizeLine) then some (.non, (s.1 ++ [n], s.2)) else none
  | _ => none
theorem e_happ (i : Nat) {x : Str} {e : Expr} {p p1 p2 apos cpos : Pos} {j : Nat} {f : Ev → Mo D} (he : B X e f) (hN : X.N[i]? = some x := by rfl) (hv : Vis X.env.scope x := by first | exact Or.inl rfl | exact Or.inr (Or.inl rfl) | exact Or.inr (Or.inr rfl)) (hd : (x == ("__debug__" : Str)) = false := by decide) (hcd : (x == ("__classdict__" : Str)) = false := by decide)
    (hs1 : starEach [e] X.env = (false, eval e X.env) :: starEach [] X.env := by rfl)
    (hbase : attributeBase (.Subscript (.Name x p) (.Constant (.int 0) j p1) p2) "append" X.env (eval (.Subscript (.Name x p) (.Constant (.int 0) j p1) p2) X.env) = eval (.Subscript (.Name x p) (.Constant (.int 0) j p1) p2) X.env := by rfl)
    (hfew : ((backTo cpos (starEach [e] X.env)).all (fun x => !x.1) && (backToKw cpos (keywordEach [] X.env)).all (fun x => x.1.isSome) && decide ([e].length + ([] : List Keyword).length + (if ([] : List Keyword).isEmpty then 0 else 1) < 30)) = true := by rfl)
    (hline : (apos.endLine == cpos.line) = true := by rfl) (hplain : (backTo cpos (starEach [] X.env)).any (·.1) = false := by rfl) : E X (.Call (.Attribute (.Subscript (.Name x p) (.Constant (.int 0) j p1) p2) "append" apos) [e] [] cpos) (fHapp i f) :=
  PE.weak (pe_bm PySem.F.plainAttrs_list PySem.F.slot_list_append PySem.F.type_list_append mt_append (pe_ix ix_list (pe_var hN hv hd hcd) pe_int fun _ _ => rfl) (pa_cons he pa_nil hs1) hbase hfew hline hs1 hplain) fun σ H Q ⟨z, Bs, ρ, s, d, s', I, hf, k⟩ => by
    obtain ⟨d1, s1, h1, h2⟩ := Mo.bind_some hf
    cases d1 with
    | int n =>
      simp only at h2
      split at h2
      · rename_i g
        cases h2
        simp only [Bool.and_eq_true, decide_eq_true_eq] at g
        obtain ⟨a, b, ev, ez⟩ := hp_v I g.1
        obtain ⟨nab, ha, hb⟩ := I.z a b ez
        have zb : Zm z b := ⟨_, ez, .inr rfl⟩
        refine ⟨.ref a, ev, ?_⟩
        refine ix0 (K := X.K) (n := s.2) ha ⟨.inl ⟨rfl, _, .inl (.inl hb)⟩, z, Bs, ρ, s, _, s1, I, h1, fun v H1 fp k1 r _ z1 => ?_⟩
        cases r
        obtain ⟨_, ha1, hb1⟩ := z1 a b ez
        refine ⟨b, s1.1.map V.int, .int n, rfl, rfl, hb1, by rw [List.length_map]; exact g.2, ?_⟩
        refine k .non _ [] (k1.trans (keep_zm zb)) .non (fun a m => by cases m) List.nodup_nil fun a' b' e' => ?_
        rw [ez] at e'
        cases e'
        refine ⟨nab, by rw [upd_ne nab]; exact ha1, ?_⟩
        rw [upd_same, List.map_append]; rfl
      · cases h2
    | _ => cases h2
/-- an expression as a statement -/
def sE (f : Ev → Mo D) : Sv := fun ρ => (f (vw ρ)).bind fun _ => Mo.pure (.nx, ρ)
theorem s_e {e : Expr} {pos : Pos} {f : Ev → Mo D} (h : E X e f) (hs : swapsWith e none pos.line X.env = pure false := by rfl) : S X (.Expr e pos) (sE f) := PS.weak (ps_expr h hs) fun E σ H ⟨z, b, ρ, s, o, ρ', s', ⟨F, er⟩, zr, hf, k⟩ => by
  obtain ⟨d, s1, e1, e2⟩ := Mo.bind_some hf
  cases e2
  exact ⟨z, _, vw ρ, s, d, _, er.ein zr, e1, fun v H' fp kk r _ _ zr' => k σ H' ⟨F, er.keep kk zr'⟩ zr'⟩
/-- heap[1] = e -/
def sHput (i : Nat) (f : Ev → Mo D) : Sv := fun ρ => (f (vw ρ)).bind fun d => fun s => match d with
  | .int n => if isHp ((vw ρ)[i]?) then some ((.nx, ρ), (s.1, n)) else none
  | _ => none
theorem s_hput (i : Nat) {x : Str} {e : Expr} {p p1 p2 pos : Pos} {j : Nat} {f : Ev → Mo D} (he : E X e f) (hN : X.N[i]? = some x := by rfl) (hv : Vis X.env.scope x := by first | exact Or.inl rfl | exact Or.inr (Or.inl rfl) | exact Or.inr (Or.inr rfl)) (hd : (x == ("__debug__" : Str)) = false := by decide) (hcd : (x == ("__classdict__" : Str)) = false := by decide)
    (ha : ∀ v, assign (.Subscript (.Name x p) (.Constant (.int 1) j p1) p2) X.env v = (do
      let ov ← holding [v] (eval (.Name x p) X.env)
      let iv ← holding [v, ov] (eval (.Constant (.int 1) j p1) X.env)
      standAt p2
      holding [v, ov, iv] (setItem ov iv v)
      release [v, ov, iv] []) := by intro _; rfl) (hs : swapsWithSole [.Subscript (.Name x p) (.Constant (.int 1) j p1) p2] e pos.line X.env = pure false := by rfl) (hw : swappedStores [.Subscript (.Name x p) (.Constant (.int 1) j p1) p2] e X.env = pure none := by rfl)
    (h1 : (assignEach [.Subscript (.Name x p) (.Constant (.int 1) j p1) p2] X.env).map (·.2) = [assign (.Subscript (.Name x p) (.Constant (.int 1) j p1) p2) X.env] := by rfl) : S X (.Assign [.Subscript (.Name x p) (.Constant (.int 1) j p1) p2] e pos) (sHput i f) :=
  PS.weak (ps_asg he (pg_sub (pe_var hN hv hd hcd) pe_int set_list ha) hs hw h1) fun E σ H ⟨z, b, ρ, s, o, ρ', s', ⟨F, er⟩, zr, hf, k⟩ => by
    obtain ⟨d, s1, g1, g2⟩ := Mo.bind_some hf
    cases d with
    | int n =>
      simp only at g2
      split at g2
      · rename_i g
        cases g2
        have I := er.ein zr
        obtain ⟨a, b', ev, ez⟩ := hp_v I g
        refine ⟨z, _, vw ρ, s, _, s1, I, g1, fun v H1 fp k1 r _ _ z1 => ?_⟩
        cases r
        obtain ⟨nab, ha, hb⟩ := z1 a b' ez
        have za : Zm z a := ⟨_, ez, .inl rfl⟩
        refine ⟨.ref a, ev, a, _, 1, 1, rfl, rfl, ha, rfl, ?_⟩
        have zr2 : ZRep z (L2.upd H1 a (.lst ([.ref b', .int s1.2].set 1 (.int n)))) (s1.1, n) := fun a' c e' => by
          rw [ez] at e'
          cases e'
          exact ⟨nab, by rw [upd_same]; rfl, by rw [upd_ne (Ne.symm nab)]; exact hb⟩
        exact k σ _ ⟨F, (er.keep k1 z1).keep (keep_zm za) zr2⟩ zr2
      · cases g2
    | _ => cases g2
end
end FL

set_option Elab.async false
set_option linter.all false
set_option maxRecDepth 100000
set_option maxHeartbeats 4000000
/-! FL27: a def that calls itself, the law's own def. -/
namespace FL
open PySem PySem.Spec L2

def mFail : List D → Mo D := fun _ => Mo.fail
theorem fail_ok {P : Program} {w : World} {K : PySem.W.Frag} {mg : Str → Option Value} {base : Heap} {k n : Nat} {f : Addr} {fd : FuncData} {ps : List Str} : FnOk P w K mg base CX0 k f fd ps (spF w K n mFail) :=
  ⟨fun vs H Q E h => (by
    obtain ⟨z, s, ds, fp, d, s', _, _, _, hm, _⟩ := h
    cases hm), fun A outer s H args us vs Q E hr he hb hv h => by
    obtain ⟨z, s, ds, fp, d, s', _, _, _, hm, _⟩ := h
    cases hm⟩
/-- the promise of the law -/
def spLaw (K : PySem.W.Frag) : Sp := fun vs H Q _ => ∃ (a : Addr) (ns : List Int), vs = [.ref a] ∧ SqS K H a (ns.map V.int) ∧ ns.length ≤ 63 ∧ ∀ H', Q (.bl true) H'
theorem sqS_of {K : PySem.W.Frag} {H : Hp} {a : Addr} {vs : List V} (o : Only H) (h : SqL K H a vs) : SqS K H a vs := by
  rcases h with (h | ⟨o', h⟩) | h
  · rcases o a with e | ⟨o', xs, e⟩ <;> (rw [h] at e; cases e)
  · exact .inl ⟨o', h⟩
  · exact .inr (.inr h)
theorem law_ok {P : Program} {w : World} {K : PySem.W.Frag} {mg : Str → Option Value} {base : Heap} {qual : Str} {st st1 : Stmt} {rest : List Stmt} {f : Addr} {fd : FuncData} {x : Str} {N : List Str} {k : Nat} {fh : Ev → Mo D} {g : Sv} (M : Nat) (F : Fun K qual qual st f fd) (Sc : FnScope N [x] (defScope st)) (hN : N.length = M + 2) (hb : defBody st = st1 :: rest)
    (h1 : ∀ (cdv : Value) (A : Around) (outer : List Env) (s : Shared) (H : Hp) (E : XK), PySem.W.kdsCode K cdv = true → Room k (A.deeper (PyProof.Rows.envOfC qual (defScope st) s.heap.objs.size f cdv)) → S (cxOf CX0 P w K mg base N qual (defScope st) f cdv A outer s H E).nox st1 (sSet 1 fh))
    (h2 : ∀ (cdv : Value) (A : Around) (outer : List Env) (s : Shared) (H : Hp) (E : XK), PySem.W.kdsCode K cdv = true → Room k (A.deeper (PyProof.Rows.envOfC qual (defScope st) s.heap.objs.size f cdv)) → Ss (cxOf CX0 P w K mg base N qual (defScope st) f cdv A outer s H E).nox rest g)
    (good : ∀ ns : List Int, ns.length ≤ 63 → ∃ xs t u, fh (some (.scr ns) :: List.replicate (M + 1) none) ([], 0) = some (.lst [.lst (xs.map D.int), .int t], u) ∧ ∃ ρ' s', g (.no :: .bor .hp :: List.replicate M .no) (xs, t) = some ((.rt (.bl true), ρ'), s')) :
    FnOk P w K mg base CX0 (k + 1) f fd [x] (spLaw K) := by
  obtain ⟨oc, od, kV, doc, pm, an, cdv, ct, osl, rfl, lk, hcd⟩ := F.ex
  refine fn_of lk hcd Sc (fun vs H Q E h => ?_) fun A outer s H vs Q E hr h => ?_
  · obtain ⟨a, ns, rfl, _⟩ := h; rfl
  · obtain ⟨a, ns, rfl, hS, hl, q⟩ := h
    suffices hx : ∃ t, PSs (cxOf CX0 P w K mg base N qual (defScope st) f cdv A outer s H E).nox (defBody st) t ∧ t { nx := fun _ H' => Q .non H', rt := Q } (L2.start N [.ref a]) H by
      obtain ⟨t, h, q⟩ := hx
      exact ⟨t, h.nox, q⟩
    rw [hb]
    refine ⟨_, pss_cons (h1 cdv A outer s H E (kdsCode_of hcd) hr) (h2 cdv A outer s H E (kdsCode_of hcd) hr), ?_⟩
    obtain ⟨xs, t, u, e1, ρ', s', e2⟩ := good ns hl
    have lenS : (L2.start N [.ref a]).length = M + 2 := by
      unfold L2.start
      rw [List.length_append, List.length_map, List.length_replicate, hN]
      simp only [List.length_cons, List.length_nil]; omega
    refine ⟨none, ⟨fun a => H a ≠ none, H, fun _ => none⟩, .bor (.scr ns) :: List.replicate (M + 1) .no, ([], 0), .nx, (.bor (.scr ns) :: List.replicate (M + 1) Sl.no).set 1 (.own (.lst [.lst (xs.map D.int), .int t])), u, ⟨fun _ => [], ?_⟩, ZRep.non, ?_, ?_⟩
    · have get : ∀ (i : Nat) (x : Sl), (.bor (.scr ns) :: List.replicate (M + 1) Sl.no)[i]? = some x → x ≠ Sl.no → i = 0 ∧ x = .bor (.scr ns) := fun i x h hn => by
        cases i with
        | zero => cases h; exact ⟨rfl, rfl⟩
        | succ i =>
          rw [List.getElem?_cons_succ, List.getElem?_replicate] at h
          split at h
          · cases h; exact absurd rfl hn
          · cases h
      refine ⟨?_, fun a x h _ _ => h, fun a h => h, fun i d h => ?_, fun i d h => ?_, fun i d h => ?_, fun i v h => (by cases h), fun i j d d' _ h => ?_⟩
      · rw [lenS, List.length_cons, List.length_replicate]
      · obtain ⟨_, e⟩ := get i _ h (by simp); cases e
      · obtain ⟨e0, e⟩ := get i _ h (by simp)
        cases e
        subst e0
        exact ⟨.ref a, [], rfl, .scr hS zm_none (by rw [sizeLine_eq]; omega), fun a m => by cases m⟩
      · obtain ⟨_, e⟩ := get i _ h (by simp); cases e
      · obtain ⟨_, e⟩ := get i _ h (by simp); cases e
    · have ev : vw (.bor (.scr ns) :: List.replicate (M + 1) Sl.no) = some (.scr ns) :: List.replicate (M + 1) none := by
        unfold vw
        rw [List.map_cons, List.map_replicate]; rfl
      unfold sSet
      rw [ev, Mo.bind_of e1]
      have nl : notLok (.bor (.scr ns) :: List.replicate (M + 1) Sl.no) 1 = true := by
        unfold notLok
        rw [List.replicate_succ]; rfl
      rw [nl]
      rfl
    · intro σ1 H1 ⟨F1, er⟩ _
      have hx : ((.bor (.scr ns) :: List.replicate (M + 1) Sl.no).set 1 (.own (.lst [.lst (xs.map D.int), .int t])))[1]? = some (.own (.lst [.lst (xs.map D.int), .int t])) := by
        rw [List.replicate_succ]; rfl
      obtain ⟨v, ev, r, n, nb⟩ := er.own 1 _ hx
      generalize F1 1 = f1 at r n nb
      cases r with
      | @lst a' vs _ fp ha nz l rs =>
        cases rs with
        | cons r1 rs2 =>
          cases r1 with
          | @lst b' vs1 _ fp1 hb' nz1 l1 rsx =>
            cases rs2 with
            | cons r3 rs3 =>
              cases r3
              cases rs3
              have evs := rsx.ints
              subst evs
              have nab : a' ≠ b' := fun q => by
                have := (List.nodup_cons.mp n).1
                exact this (by rw [q]; simp)
              have len1 : σ1.length = M + 2 := by
                rw [er.len, List.length_set, List.length_cons, List.length_replicate]
              refine ⟨some (a', b'), ⟨fun a => H a ≠ none, H, fun _ => none⟩, .no :: .bor .hp :: List.replicate M .no, (xs, t), _, ρ', s', ⟨fun _ => [], ?_⟩, ?_, e2, ?_⟩
              · have get : ∀ (i : Nat) (x : Sl), (.no :: .bor .hp :: List.replicate M Sl.no)[i]? = some x → x ≠ Sl.no → i = 1 ∧ x = .bor .hp := fun i x h hn => by
                  cases i with
                  | zero => cases h; exact absurd rfl hn
                  | succ i =>
                    cases i with
                    | zero => cases h; exact ⟨rfl, rfl⟩
                    | succ i =>
                      rw [List.getElem?_cons_succ, List.getElem?_cons_succ, List.getElem?_replicate] at h
                      split at h
                      · cases h; exact absurd rfl hn
                      · cases h
                refine ⟨?_, fun a x h hb _ => er.base a x h hb zm_none, er.bex, fun i d h => ?_, fun i d h => ?_, fun i d h => ?_, fun i v h => (by cases h), fun i j d d' _ h => ?_⟩
                · rw [len1, List.length_cons, List.length_cons, List.length_replicate]
                · obtain ⟨_, e⟩ := get i _ h (by simp); cases e
                · obtain ⟨e0, e⟩ := get i _ h (by simp)
                  cases e
                  subst e0
                  exact ⟨.ref a', [], ev, .hp rfl, fun a m => by cases m⟩
                · obtain ⟨_, e⟩ := get i _ h (by simp); cases e
                · obtain ⟨_, e⟩ := get i _ h (by simp); cases e
              · intro a2 b2 e
                cases e
                exact ⟨nab, ha, hb'⟩
              · intro v H2 fp2 _ rv _ _ _
                cases rv
                exact q H2
end FL

set_option Elab.async false
set_option linter.all false
set_option maxRecDepth 100000
set_option maxHeartbeats 4000000
/-! M1: what mirrors do, by wishes: Tr m P: from any state of the draws m ends, in such a state, with a result of P. -/
namespace FL
open PySem PySem.Spec L2

/-- the draws' state -/
def OkS (s : Ds) : Prop := s.1.length ≤ 60 ∧ (∀ x ∈ s.1, 0 ≤ x) ∧ 0 ≤ s.2
def Tr {α : Type} (m : Mo α) (P : α → Prop) : Prop := ∀ s, OkS s → ∃ a s', m s = some (a, s') ∧ OkS s' ∧ P a
section
variable {α β : Type} {P Q : α → Prop}
theorem Tr.pure {a : α} (h : P a) : Tr (Mo.pure a) P := fun s o => ⟨a, s, rfl, o, h⟩
theorem Tr.bind {m : Mo α} {f : α → Mo β} {R : β → Prop} (h : Tr m fun a => Tr (f a) R) : Tr (Mo.bind m f) R := fun s o => by
  obtain ⟨a, s1, e1, o1, h1⟩ := h s o
  obtain ⟨b, s2, e2, o2, h2⟩ := h1 s1 o1
  exact ⟨b, s2, by unfold Mo.bind; rw [e1]; exact e2, o2, h2⟩
theorem Tr.imp {m : Mo α} (h : Tr m P) (i : ∀ a, P a → Q a) : Tr m Q := fun s o => by
  obtain ⟨a, s1, e1, o1, h1⟩ := h s o
  exact ⟨a, s1, e1, o1, i a h1⟩
theorem Tr.bnd {m : Mo α} {f : α → Mo β} {R : β → Prop} (h : Tr m P) (i : ∀ a, P a → Tr (f a) R) : Tr (Mo.bind m f) R := .bind (h.imp i)
theorem Tr.eq {m : Mo α} {a : α} {f : α → Mo β} {R : β → Prop} (h : Tr m (fun b => b = a)) (i : Tr (f a) R) : Tr (Mo.bind m f) R := h.bnd fun b e => e ▸ i
end
/-! the combinators' own rows -/
section
variable {ρ : Ev} {σ : Se}
@[simp] theorem fVar_ap (i : Nat) : fVar i ρ = Mo.ofO (ρ[i]?.join) := id rfl
@[simp] theorem fC_ap (d : D) : fC d ρ = Mo.pure d := id rfl
@[simp] theorem fImm_ap (f : Ev → Mo D) : fImm f ρ = (f ρ).bind fun d => (gd (imm d)).bind fun _ => Mo.pure d := id rfl
@[simp] theorem fBin_ap (g : D → D → Option D) (fa fb : Ev → Mo D) : fBin g fa fb ρ = (fa ρ).bind fun x => (fb ρ).bind fun y => Mo.ofO (g x y) := id rfl
@[simp] theorem fCmp_ap (g : D → D → Option Bool) (fa fb : Ev → Mo D) : fCmp g fa fb ρ = (fa ρ).bind fun x => (fb ρ).bind fun y => Mo.ofO (g x y) := id rfl
@[simp] theorem fB_ap (f : Ev → Mo Bool) : fB f ρ = (f ρ).bind fun b => Mo.pure (.bl b) := id rfl
@[simp] theorem fAnd_ap (f g : Ev → Mo Bool) : fAnd f g ρ = (f ρ).bind fun b => if b then g ρ else Mo.pure false := id rfl
@[simp] theorem fOr_ap (f g : Ev → Mo Bool) : fOr f g ρ = (f ρ).bind fun b => if b then Mo.pure true else g ρ := id rfl
@[simp] theorem fNot_ap (f : Ev → Mo Bool) : fNot f ρ = (f ρ).bind fun b => Mo.pure (!b) := id rfl
@[simp] theorem fIf_ap (c : Ev → Mo Bool) (f g : Ev → Mo D) : fIf c f g ρ = (c ρ).bind fun b => if b then f ρ else g ρ := id rfl
@[simp] theorem fTB_ap (f : Ev → Mo D) : fTB f ρ = (f ρ).bind fun d => match d with | .bl b => Mo.pure b | _ => Mo.fail := id rfl
@[simp] theorem fNil_ap : fNil ρ = Mo.pure [] := id rfl
@[simp] theorem fCons_ap (f : Ev → Mo D) (g : Ev → Mo (List D)) : fCons f g ρ = (f ρ).bind fun x => (g ρ).bind fun xs => Mo.pure (x :: xs) := id rfl
@[simp] theorem fTup_ap (g : Ev → Mo (List D)) : fTup g ρ = (g ρ).bind fun xs => (gd (decide (xs.length ≤ sizeLine))).bind fun _ => Mo.pure (.tup xs) := id rfl
@[simp] theorem fLst_ap (g : Ev → Mo (List D)) : fLst g ρ = (g ρ).bind fun xs => (gd (decide (xs.length ≤ sizeLine))).bind fun _ => Mo.pure (.lst xs) := id rfl
@[simp] theorem fIx_ap (fa fb : Ev → Mo D) : fIx fa fb ρ = (fa ρ).bind fun x => (fb ρ).bind fun y => Mo.ofO (dIx x y) := id rfl
@[simp] theorem fSl_ap (f : Ev → Mo D) (lo hi : Ev → Mo (Option Int)) : fSl f lo hi ρ = (f ρ).bind fun x => (lo ρ).bind fun a => (hi ρ).bind fun b => Mo.ofO (dSl a b x) := id rfl
@[simp] theorem fPart_ap (f : Ev → Mo D) : fPart f ρ = (f ρ).bind fun d => match d with | .int i => Mo.pure (some i) | _ => Mo.fail := id rfl
@[simp] theorem fNoPart_ap : fNoPart ρ = Mo.pure none := id rfl
@[simp] theorem fRev_ap (f : Ev → Mo D) : fRev f ρ = (f ρ).bind fun x => Mo.ofO (dRev x) := id rfl
@[simp] theorem fNeg_ap (f : Ev → Mo D) : fNeg f ρ = (f ρ).bind fun x => match x with | .int i => Mo.pure (.int (-i)) | _ => Mo.fail := id rfl
@[simp] theorem fCallB_ap (g : List D → Option D) (f : Ev → Mo (List D)) : fCallB g f ρ = (f ρ).bind fun xs => Mo.ofO (g xs) := id rfl
@[simp] theorem fCall_ap (n : Nat) (m : List D → Mo D) (f : Ev → Mo (List D)) : fCall n m f ρ = (f ρ).bind fun xs => (gd (decide (xs.length = n))).bind fun _ => m xs := id rfl
@[simp] theorem fItems_ap (f : Ev → Mo D) : fItems f ρ = (f ρ).bind fun d => Mo.ofO (items d) := id rfl
theorem fRange1_ap (g : Ev → Mo (List D)) : fRange1 g ρ = (g ρ).bind fun ds => Mo.ofO (dRange1 ds) := rfl
theorem fRange2_ap (g : Ev → Mo (List D)) : fRange2 g ρ = (g ρ).bind fun ds => Mo.ofO (dRange2 ds) := rfl
@[simp] theorem fEnum_ap (g : Ev → Mo (List D)) : fEnum g ρ = (g ρ).bind fun ds => Mo.ofO (dEnum ds) := id rfl
@[simp] theorem fZip_ap (g : Ev → Mo (List D)) : fZip g ρ = (g ρ).bind fun ds => Mo.ofO (dZip ds) := id rfl
@[simp] theorem fYes_ap : fYes ρ = Mo.pure true := id rfl
@[simp] theorem fLc_ap (own : List Nat) (fi : Ev → Mo (List D)) (tg : Tg) (ft : Ev → Mo Bool) (fe : Ev → Mo D) : fLc own fi tg ft fe ρ = (fi ρ).bind fun ds => (lcGo tg ft fe (wipeE ρ own) ds).bind fun ys => Mo.pure (.lst ys) := id rfl
@[simp] theorem fSc_ap (own : List Nat) (fi : Ev → Mo (List D)) (tg : Tg) (ft : Ev → Mo Bool) (fe : Ev → Mo D) : fSc own fi tg ft fe ρ = (fi ρ).bind fun ds => (lcGo tg ft fe (wipeE ρ own) ds).bind fun ys => (Mo.ofO (intsOf ys)).bind fun ns => (gd (decide (ns.length + 1 < scanBound))).bind fun _ => Mo.pure (.seti (setI ns)) := id rfl
@[simp] theorem fLc2_ap (own : List Nat) (fi : Ev → Mo (List D)) (tg : Tg) (ft : Ev → Mo Bool) (fi1 : Ev → Mo (List D)) (tg1 : Tg) (ft1 : Ev → Mo Bool) (fe : Ev → Mo D) (vs1 : List Nat) : fLc2 own fi tg ft fi1 tg1 ft1 fe vs1 ρ = (fi ρ).bind fun ds => (lc2Go tg ft fi1 tg1 ft1 fe vs1 (wipeE ρ own) ds).bind fun ys => (gd (decide (ys.length ≤ sizeLine))).bind fun _ => Mo.pure (.lst ys) := id rfl
@[simp] theorem fDc_ap (own : List Nat) (fi : Ev → Mo (List D)) (tg : Tg) (ft : Ev → Mo Bool) (fk fv : Ev → Mo D) : fDc own fi tg ft fk fv ρ = (fi ρ).bind fun ds => (dcGo tg ft fk fv (wipeE ρ own) ds [] []).bind fun r => Mo.pure (.dct r.1 r.2) := id rfl
@[simp] theorem fSet1_ap (f : Ev → Mo D) : fSet1 f ρ = (f ρ).bind fun d => match d with | .int k => Mo.pure (.seti [k]) | _ => Mo.fail := id rfl
@[simp] theorem fIsi_ap (t : Ty) (f : Ev → Mo D) : fIsi t f ρ = (f ρ).bind fun d => Mo.ofO ((isiD t d).map D.bl) := id rfl
@[simp] theorem fDict1_ap (fk fv : Ev → Mo D) : fDict1 fk fv ρ = (fk ρ).bind fun k => (fv ρ).bind fun v => (Mo.ofO (keyOf k)).bind fun k => Mo.pure (.dct [k] [v]) := id rfl
@[simp] theorem sPure_ap (o : Out) : sPure o σ = Mo.pure (o, σ) := id rfl
@[simp] theorem sSeq_ap (f g : Sv) : sSeq f g σ = (f σ).bind fun r => match r.1 with | .nx => g r.2 | o => Mo.pure (o, r.2) := id rfl
@[simp] theorem sRet_ap (f : Ev → Mo D) : sRet f σ = (f (vw σ)).bind fun d => Mo.pure (.rt d, σ) := id rfl
@[simp] theorem sSet_ap (i : Nat) (f : Ev → Mo D) : sSet i f σ = (f (vw σ)).bind fun d => (gd (notLok σ i)).bind fun _ => Mo.pure (.nx, σ.set i (.own d)) := id rfl
@[simp] theorem sIf_ap (c : Ev → Mo Bool) (f g : Sv) : sIf c f g σ = (c (vw σ)).bind fun b => if b then f σ else g σ := id rfl
@[simp] theorem sForN_ap (lk : List Nat) (fi : Ev → Mo (List D)) (tg : Tg) (body : Sv) : sForN lk fi tg body σ = (fi (vw σ)).bind fun ds => (foGo tg body ds (lockG lk 0 σ)).bind fun r => Mo.pure (r.1, unl σ r.2) := id rfl
@[simp] theorem sFor_ap (lk : List Nat) (fi : Ev → Mo (List D)) (tg : Tg) (body : Sv) : sFor lk fi tg body σ = (fi (vwG lk 0 σ)).bind fun ds => (foGo tg body ds (lockG lk 0 σ)).bind fun r => Mo.pure (r.1, unl σ r.2) := id rfl
@[simp] theorem sPar_ap (is : List Nat) (g : Ev → Mo (List D)) : sPar is g σ = (g (vw σ)).bind fun ds => (Mo.ofO (setOs σ is ds)).bind fun ρ' => Mo.pure (.nx, ρ') := id rfl
@[simp] theorem sUnp_ap (is : List Nat) (f : Ev → Mo D) : sUnp is f σ = (f (vw σ)).bind fun d => match d with | .tup ds => (Mo.ofO (setOs σ is ds)).bind fun ρ' => Mo.pure (.nx, ρ') | _ => Mo.fail := id rfl
@[simp] theorem sAug_ap (i : Nat) (g : D → D → Option D) (f : Ev → Mo D) : sAug i g f σ = (Mo.ofO ((vw σ)[i]?.join)).bind fun a => (f (vw σ)).bind fun b => (Mo.ofO (g a b)).bind fun d => (gd (notLok σ i)).bind fun _ => Mo.pure (.nx, σ.set i (.own d)) := id rfl
@[simp] theorem sRetN_ap (i : Nat) : sRetN i σ = match σ[i]? with | some (.own d) => Mo.pure (.rt d, σ) | _ => Mo.fail := id rfl
@[simp] theorem sApp_ap (i : Nat) (f : Ev → Mo D) : sApp i f σ = match σ[i]? with | some (.own (.lst xs)) => (f (vw σ)).bind fun d => (gd (decide (xs.length < sizeLine))).bind fun _ => Mo.pure (.nx, σ.set i (.own (.lst (xs ++ [d])))) | _ => Mo.fail := id rfl
@[simp] theorem sAdd_ap (i : Nat) (f : Ev → Mo D) : sAdd i f σ = match σ[i]? with | some (.own (.seti xs)) => (f (vw σ)).bind fun d => (match d with | .int k => (gd (decide (xs.length + 1 < scanBound))).bind fun _ => Mo.pure (.nx, σ.set i (.own (.seti (insI xs k)))) | _ => Mo.fail) | _ => Mo.fail := id rfl
@[simp] theorem sM_ap (m : Me) : sM m σ = (m σ).bind fun r => Mo.pure (.nx, r.2) := id rfl
@[simp] theorem sSetM_ap (i : Nat) (m : Me) : sSetM i m σ = (m σ).bind fun r => (gd (notLok r.2 i)).bind fun _ => Mo.pure (.nx, r.2.set i (.own r.1)) := id rfl
@[simp] theorem sPut_ap (i : Nat) (fk fv : Ev → Mo D) : sPut i fk fv σ = (fv (vw σ)).bind fun d => (fk (vw σ)).bind fun k => match σ[i]? with | some (.own c) => (Mo.ofO (putD c k d)).bind fun c' => Mo.pure (.nx, σ.set i (.own c')) | _ => Mo.fail := id rfl
@[simp] theorem mirF_ap (N n : Nat) (g : Sv) (ds : List D) : mirF N n g ds = (g (ds.map Sl.bor ++ List.replicate (N - n) Sl.no)).bind fun r => match r.1 with | .rt d => Mo.pure d | .nx => Mo.pure .non | _ => Mo.fail := id rfl
@[simp] theorem vw_nil : vw [] = [] := id rfl
@[simp] theorem vw_cons (x : Sl) : vw (x :: σ) = x.vw :: vw σ := id rfl
@[simp] theorem vw_no : Sl.vw .no = none := id rfl
@[simp] theorem vw_own (d : D) : Sl.vw (.own d) = some d := id rfl
@[simp] theorem vw_bor (d : D) : Sl.vw (.bor d) = some d := id rfl
@[simp] theorem vw_lok (d : D) : Sl.vw (.lok d) = some d := id rfl
end
/-! loops -/
theorem Tr.ofO {α : Type} {o : Option α} {a : α} {P : α → Prop} (h : o = some a) (p : P a) : Tr (Mo.ofO o) P := by subst h; exact .pure p
section
variable {α : Type} {tg : Tg} {f : α → D}
/-- for over a list of data: P by what is done -/
theorem foGo_tr {body : Sv} {P : List α → Se → Prop} {R : Out × Se → Prop} (xs : List α)
    (h : ∀ done a rest ρ, xs = done ++ a :: rest → P done ρ → ∃ ρ1, bindS tg (f a) ρ = some ρ1 ∧ Tr (body ρ1) fun r => match r.1 with
      | .nx => P (done ++ [a]) r.2
      | .ct => P (done ++ [a]) r.2
      | .bk => R (.nx, r.2)
      | .rt d => R (.rt d, r.2)) (hR : ∀ ρ, P xs ρ → R (.nx, ρ)) : ∀ {rest done : List α} {ρ : Se}, xs = done ++ rest → P done ρ → Tr (foGo tg body (rest.map f) ρ) R
  | [], done, ρ, e, hp => by
    rw [List.append_nil] at e
    subst e
    exact Tr.pure (hR ρ hp)
  | a :: rest, done, ρ, e, hp => by
    obtain ⟨ρ1, e1, t1⟩ := h done a rest ρ e hp
    rw [List.map_cons]
    unfold foGo
    rw [e1, Mo.ofO_some, Mo.pure_bind]
    refine t1.bnd fun r hr => ?_
    obtain ⟨o, ρ2⟩ := r
    cases o with
    | nx => exact foGo_tr xs h hR (by rw [e]; simp) hr
    | ct => exact foGo_tr xs h hR (by rw [e]; simp) hr
    | bk => exact Tr.pure hr
    | rt d => exact Tr.pure hr
theorem while_go {β : Type} {c : Ev → Mo Bool} {body : Sv} {P : β → Se → Prop} {R : Out × Se → Prop} (μ : β → Nat)
    (h : ∀ b ρ, P b ρ → Tr (c (vw ρ)) fun t => if t = true then Tr (body ρ) (fun r => match r.1 with
      | .nx => ∃ b', P b' r.2 ∧ μ b' < μ b
      | .ct => ∃ b', P b' r.2 ∧ μ b' < μ b
      | .bk => R (.nx, r.2)
      | .rt d => R (.rt d, r.2)) else R (.nx, ρ)) : ∀ (n : Nat) (b : β) (ρ : Se), μ b < n → P b ρ → Tr (whN c body n ρ) R
  | 0, _, _, l, _ => absurd l (by omega)
  | n + 1, b, ρ, l, hp => by
    unfold whN
    refine (h b ρ hp).bnd fun t ht => ?_
    cases t with
    | false => exact Tr.pure (by simpa using ht)
    | true =>
      simp only [if_true] at ht ⊢
      refine ht.bnd fun r hr => ?_
      obtain ⟨o, ρ2⟩ := r
      cases o with
      | nx => obtain ⟨b', p', m'⟩ := hr; exact while_go μ h n b' ρ2 (by omega) p'
      | ct => obtain ⟨b', p', m'⟩ := hr; exact while_go μ h n b' ρ2 (by omega) p'
      | bk => exact Tr.pure hr
      | rt d => exact Tr.pure hr
theorem sWhile_tr {β : Type} {c : Ev → Mo Bool} {body : Sv} {P : β → Se → Prop} {R : Out × Se → Prop} (μ : β → Nat) {b : β} {ρ : Se} (hp : P b ρ)
    (h : ∀ b ρ, P b ρ → Tr (c (vw ρ)) fun t => if t = true then Tr (body ρ) (fun r => match r.1 with
      | .nx => ∃ b', P b' r.2 ∧ μ b' < μ b
      | .ct => ∃ b', P b' r.2 ∧ μ b' < μ b
      | .bk => R (.nx, r.2)
      | .rt d => R (.rt d, r.2)) else R (.nx, ρ)) : Tr (sWhile c body ρ) R := fun s o => by
  obtain ⟨r, s', e, o', q⟩ := while_go μ h (μ b + 1) b ρ (by omega) hp s o
  exact ⟨r, s', sWhile_of e, o', q⟩
theorem lcGo_tr {ft : Ev → Mo Bool} {fe : Ev → Mo D} {ρ : Ev} (p : α → Bool) (g : α → D) : ∀ {xs : List α}, (∀ a ∈ xs, ∃ ρ1, bindE tg (f a) ρ = some ρ1 ∧ Tr (ft ρ1) (fun b => b = p a) ∧ (p a = true → Tr (fe ρ1) fun d => d = g a)) →
    Tr (lcGo tg ft fe ρ (xs.map f)) fun ys => ys = (xs.filter p).map g
  | [], _ => Tr.pure rfl
  | a :: xs, h => by
    obtain ⟨ρ1, e1, t1, t2⟩ := h a List.mem_cons_self
    have ih := lcGo_tr (ft := ft) (fe := fe) (ρ := ρ) p g (xs := xs) fun b m => h b (List.mem_cons_of_mem _ m)
    rw [List.map_cons]
    unfold lcGo
    rw [e1, Mo.ofO_some, Mo.pure_bind]
    refine t1.eq ?_
    cases hp : p a with
    | false =>
      simp only [Bool.false_eq_true, if_false]
      refine ih.imp fun ys e => ?_
      rw [e, List.filter_cons_of_neg (by rw [hp]; simp)]
    | true =>
      simp only [if_true]
      refine (t2 hp).eq (ih.eq (Tr.pure ?_))
      rw [List.filter_cons_of_pos hp, List.map_cons]
theorem lc2Go_tr {γ : Type} {tg1 : Tg} {ft ft1 : Ev → Mo Bool} {fi1 : Ev → Mo (List D)} {fe : Ev → Mo D} {vs1 : List Nat} {ρ : Ev} (p : α → Bool) (es : α → List γ) (f1 : γ → D) (p1 : α → γ → Bool) (g : α → γ → D) : ∀ {xs : List α},
    (∀ a ∈ xs, ∃ ρ1, bindE tg (f a) ρ = some ρ1 ∧ Tr (ft ρ1) (fun b => b = p a) ∧ (p a = true → Tr (fi1 ρ1) (fun ds => ds = (es a).map f1) ∧ ∀ c ∈ es a, ∃ ρ2, bindE tg1 (f1 c) (wipeE ρ1 vs1) = some ρ2 ∧ Tr (ft1 ρ2) (fun b => b = p1 a c) ∧ (p1 a c = true → Tr (fe ρ2) fun d => d = g a c))) →
    Tr (lc2Go tg ft fi1 tg1 ft1 fe vs1 ρ (xs.map f)) fun ys => ys = (xs.filter p).flatMap fun a => ((es a).filter (p1 a)).map (g a)
  | [], _ => Tr.pure rfl
  | a :: xs, h => by
    obtain ⟨ρ1, e1, t1, t2⟩ := h a List.mem_cons_self
    have ih := lc2Go_tr (ft := ft) (ft1 := ft1) (fi1 := fi1) (tg1 := tg1) (fe := fe) (vs1 := vs1) (ρ := ρ) p es f1 p1 g (xs := xs) fun b m => h b (List.mem_cons_of_mem _ m)
    rw [List.map_cons]
    unfold lc2Go
    rw [e1, Mo.ofO_some, Mo.pure_bind]
    refine t1.eq ?_
    cases hp : p a with
    | false =>
      simp only [Bool.false_eq_true, if_false]
      refine ih.imp fun ys e => ?_
      rw [e, List.filter_cons_of_neg (by rw [hp]; simp)]
    | true =>
      simp only [if_true]
      obtain ⟨t3, t4⟩ := t2 hp
      refine t3.eq ((lcGo_tr (p1 a) (g a) t4).eq (ih.eq (Tr.pure ?_)))
      rw [List.filter_cons_of_pos hp, List.flatMap_cons]
end
/-! data of ints -/
abbrev dI (l : List Int) : List D := l.map D.int
abbrev tI' (l : List Int) : D := .tup (dI l)
abbrev lI (l : List Int) : D := .lst (dI l)
@[simp] theorem imm_int (i : Int) : imm (.int i) = true := id rfl
@[simp] theorem imm_bl (i : Bool) : imm (.bl i) = true := id rfl
@[simp] theorem imm_non : imm .non = true := id rfl
@[simp] theorem imm_hp : imm .hp = true := id rfl
@[simp] theorem imm_tup (xs : List D) : imm (.tup xs) = immL xs := id rfl
@[simp] theorem immL_nil : immL [] = true := id rfl
@[simp] theorem immL_cons (x : D) (xs : List D) : immL (x :: xs) = (imm x && immL xs) := id rfl
@[simp] theorem immL_dI : ∀ l : List Int, immL (l.map D.int) = true
  | [] => rfl
  | x :: l => by rw [List.map_cons, immL_cons, immL_dI l]; rfl
theorem immL_map {α : Type} {f : α → D} : ∀ {l : List α}, (∀ a ∈ l, imm (f a) = true) → immL (l.map f) = true
  | [], _ => rfl
  | x :: l, h => by rw [List.map_cons, immL_cons, h x List.mem_cons_self, immL_map fun a m => h a (List.mem_cons_of_mem _ m)]; rfl
@[simp] theorem flat_int (i : Int) : flat (.int i) = true := id rfl
@[simp] theorem flat_dI (l : List Int) : (l.map D.int).all flat = true := by
  rw [List.all_map]; exact List.all_eq_true.mpr fun _ _ => rfl
@[simp] theorem eqF_int (a b : Int) : eqF (.int a) (.int b) = (a == b) := id rfl
theorem any_dI (l : List Int) (x : Int) : ((l.map D.int).any fun y => eqF y (.int x)) = l.contains x := by
  rw [List.any_map, List.contains_eq_any_beq]
  congr 1
  funext a
  show (a == x) = (x == a)
  exact Bool.beq_comm
@[simp] theorem dIn_tI (x : Int) (l : List Int) : dIn (.int x) (.tup (l.map D.int)) = some (l.contains x) := by
  unfold dIn
  simp only [flat_int, flat_dI, Bool.and_self, if_true]
  rw [any_dI]
@[simp] theorem dIn_lI (x : Int) (l : List Int) : dIn (.int x) (.lst (l.map D.int)) = some (l.contains x) := by
  unfold dIn
  simp only [flat_int, flat_dI, Bool.and_self, if_true]
  rw [any_dI]
@[simp] theorem dIn_set (x : Int) (l : List Int) : dIn (.int x) (.seti l) = some (l.contains x) := id rfl
@[simp] theorem dNotIn_of (x y : D) : dNotIn x y = (dIn x y).map (!·) := id rfl
@[simp] theorem okD_int (i : Int) : okD (.int i) = true := id rfl
@[simp] theorem dEq_int (a b : Int) : dEq (.int a) (.int b) = some (a == b) := id rfl
@[simp] theorem dNe_int (a b : Int) : dNe (.int a) (.int b) = some (a != b) := id rfl
@[simp] theorem dAdd_int (a b : Int) : dAdd (.int a) (.int b) = some (.int (a + b)) := id rfl
@[simp] theorem dSub_int (a b : Int) : dSub (.int a) (.int b) = some (.int (a - b)) := id rfl
@[simp] theorem dIAdd_int (a b : Int) : dIAdd (.int a) (.int b) = some (.int (a + b)) := id rfl
@[simp] theorem dLt_int (a b : Int) : dLt (.int a) (.int b) = some (decide (a < b)) := id rfl
@[simp] theorem dGt_int (a b : Int) : dGt (.int a) (.int b) = some (decide (b < a)) := id rfl
@[simp] theorem dGe_int (a b : Int) : dGe (.int a) (.int b) = some (decide (b ≤ a)) := id rfl
@[simp] theorem dLe_int (a b : Int) : dLe (.int a) (.int b) = some (decide (a ≤ b)) := id rfl
@[simp] theorem items_lst (xs : List D) : items (.lst xs) = some xs := id rfl
@[simp] theorem items_tup (xs : List D) : items (.tup xs) = some xs := id rfl
/-! locks -/
@[simp] theorem lockX_t_own (d : D) : lockX true (.own d) = .lok d := id rfl
@[simp] theorem lockX_f_own (d : D) : lockX false (.own d) = .own d := id rfl
@[simp] theorem lockX_bor (b : Bool) (d : D) : lockX b (.bor d) = .lok d := by cases b <;> rfl
@[simp] theorem lockX_lok (b : Bool) (d : D) : lockX b (.lok d) = .lok d := by cases b <;> rfl
@[simp] theorem lockX_no (b : Bool) : lockX b .no = .no := by cases b <;> rfl
@[simp] theorem vwX_t_own (d : D) : vwX true (.own d) = some d := id rfl
@[simp] theorem vwX_f_own (d : D) : vwX false (.own d) = if imm d then some d else none := id rfl
@[simp] theorem vwX_bor (b : Bool) (d : D) : vwX b (.bor d) = some d := by cases b <;> rfl
@[simp] theorem vwX_lok (b : Bool) (d : D) : vwX b (.lok d) = some d := by cases b <;> rfl
@[simp] theorem vwX_no (b : Bool) : vwX b .no = none := by cases b <;> rfl
@[simp] theorem lockG_nil (lk : List Nat) (n : Nat) : lockG lk n [] = [] := id rfl
@[simp] theorem lockG_cons (lk : List Nat) (n : Nat) (x : Sl) (ρ : Se) : lockG lk n (x :: ρ) = lockX (lk.contains n) x :: lockG lk (n + 1) ρ := id rfl
@[simp] theorem vwG_nil (lk : List Nat) (n : Nat) : vwG lk n [] = [] := id rfl
@[simp] theorem vwG_cons (lk : List Nat) (n : Nat) (x : Sl) (ρ : Se) : vwG lk n (x :: ρ) = vwX (lk.contains n) x :: vwG lk (n + 1) ρ := id rfl
def nlX : Option Sl → Bool
  | some (.lok _) => false
  | _ => true
@[simp] theorem nlX_own (d : D) : nlX (some (.own d)) = true := id rfl
@[simp] theorem nlX_bor (d : D) : nlX (some (.bor d)) = true := id rfl
@[simp] theorem nlX_no : nlX (some .no) = true := id rfl
@[simp] theorem nlX_lok (d : D) : nlX (some (.lok d)) = false := id rfl
@[simp] theorem notLok_ap (ρ : Se) (i : Nat) : notLok ρ i = nlX ρ[i]? := id rfl
@[simp] theorem setOs_nil (ρ : Se) : setOs ρ [] [] = some ρ := id rfl
@[simp] theorem setOs_cons (ρ : Se) (i : Nat) (is : List Nat) (d : D) (ds : List D) : setOs ρ (i :: is) (d :: ds) = if notLok ρ i then setOs (ρ.set i (.own d)) is ds else none := id rfl
@[simp] theorem setBs_nil (ρ : Se) : setBs ρ [] [] = some ρ := id rfl
@[simp] theorem setBs_cons (ρ : Se) (i : Nat) (is : List Nat) (d : D) (ds : List D) : setBs ρ (i :: is) (d :: ds) = if notLok ρ i then setBs (ρ.set i (.bor d)) is ds else none := id rfl
@[simp] theorem bindS_n (i : Nat) (d : D) (ρ : Se) : bindS (.n i) d ρ = if notLok ρ i then some (ρ.set i (.bor d)) else none := id rfl
@[simp] theorem bindS_t (is : List Nat) (ds : List D) (ρ : Se) : bindS (.t is) (.tup ds) ρ = setBs ρ is ds := id rfl
@[simp] theorem bindE_n (i : Nat) (d : D) (ρ : Ev) : bindE (.n i) d ρ = some (ρ.set i (some d)) := id rfl
@[simp] theorem bindE_t (is : List Nat) (ds : List D) (ρ : Ev) : bindE (.t is) (.tup ds) ρ = if decide (ds.length = is.length) then some (setE ρ is ds) else none := id rfl
@[simp] theorem setE_nil (ρ : Ev) : setE ρ [] [] = ρ := id rfl
@[simp] theorem setE_cons (ρ : Ev) (i : Nat) (is : List Nat) (d : D) (ds : List D) : setE ρ (i :: is) (d :: ds) = setE (ρ.set i (some d)) is ds := id rfl
@[simp] theorem wipeE_nil (ρ : Ev) : wipeE ρ [] = ρ := id rfl
@[simp] theorem wipeE_cons (ρ : Ev) (v : Nat) (vs : List Nat) : wipeE ρ (v :: vs) = (wipeE ρ vs).set v none := id rfl
@[simp] theorem unlX_bor (d : D) (x : Sl) : unlX (.bor d) x = .bor d := id rfl
@[simp] theorem unlX_lok (d : D) (x : Sl) : unlX (.lok d) x = .lok d := id rfl
@[simp] theorem unlX_own_lok (d e : D) : unlX (.own d) (.lok e) = .own d := id rfl
@[simp] theorem unlX_own_own (d e : D) : unlX (.own d) (.own e) = .own e := id rfl
@[simp] theorem unlX_own_no (d : D) : unlX (.own d) .no = .no := id rfl
@[simp] theorem unlX_own_bor (d e : D) : unlX (.own d) (.bor e) = .no := id rfl
@[simp] theorem unlX_no_own (d : D) : unlX .no (.own d) = .own d := id rfl
@[simp] theorem unlX_no_bor (d : D) : unlX .no (.bor d) = .no := id rfl
@[simp] theorem unlX_no_lok (d : D) : unlX .no (.lok d) = .no := id rfl
@[simp] theorem unlX_no_no : unlX .no .no = .no := id rfl
@[simp] theorem unl_nil (ρ : Se) : unl ρ [] = [] := by cases ρ <;> rfl
@[simp] theorem unl_cons (x y : Sl) (xs ys : Se) : unl (x :: xs) (y :: ys) = unlX x y :: unl xs ys := id rfl
@[simp] theorem Tr_pure {α : Type} {a : α} {P : α → Prop} : Tr (Mo.pure a) P ↔ P a := ⟨fun h => by
  obtain ⟨b, s', e, _, p⟩ := h ([], 0) ⟨by simp, (fun x m => by cases m), by decide⟩
  cases e
  exact p, Tr.pure⟩
/-- a slot that a loop's target may hold -/
def Fr (t : Sl) : Prop := t = .no ∨ ∃ d, t = .bor d
theorem Fr.no : Fr .no := .inl rfl
theorem Fr.bor {d : D} : Fr (.bor d) := .inr ⟨d, rfl⟩
theorem Fr.notLok {t : Sl} (h : Fr t) : ∀ d, t ≠ .lok d := by rcases h with rfl | ⟨e, rfl⟩ <;> (intro d h; cases h)
@[simp] theorem ite_pure {α : Type} {c : Prop} [Decidable c] (u v : α) : (if c then Mo.pure u else Mo.pure v) = Mo.pure (if c then u else v) := by split <;> rfl
end FL

set_option Elab.async false
set_option linter.all false
set_option maxRecDepth 100000
set_option maxHeartbeats 4000000
/-! M2: slots of targets, order of data, more rows. -/
namespace FL
open PySem PySem.Spec L2
/-- a fact that simp leaves alone -/
structure Hd (p : Prop) : Prop where
  out : p
def slB : Option D → Sl
  | none => .no
  | some d => .bor d
def slO : Option D → Sl
  | none => .no
  | some d => .own d
theorem slB_none : slB none = .no := id rfl
theorem slB_some (d : D) : slB (some d) = .bor d := id rfl
theorem slO_none : slO none = .no := id rfl
theorem slO_some (d : D) : slO (some d) = .own d := id rfl
@[simp] theorem nlX_slB (o : Option D) : nlX (some (slB o)) = true := by cases o <;> rfl
@[simp] theorem nlX_slO (o : Option D) : nlX (some (slO o)) = true := by cases o <;> rfl
@[simp] theorem unlX_no_slB (o : Option D) : unlX .no (slB o) = .no := by cases o <;> rfl
@[simp] theorem unlX_no_slO (o : Option D) : unlX .no (slO o) = slO o := by cases o <;> rfl
@[simp] theorem unlX_own_slO (d : D) (o : Option D) : unlX (.own d) (slO o) = slO o := by cases o <;> rfl
@[simp] theorem lockX_f_slO (o : Option D) : lockX false (slO o) = slO o := by cases o <;> rfl
@[simp] theorem unlX_oS_slO (o p : Option D) : unlX (slO o) (slO p) = slO p := by cases o <;> cases p <;> rfl
@[simp] theorem unlX_oS_own (o : Option D) (d : D) : unlX (slO o) (.own d) = .own d := by cases o <;> rfl
@[simp] theorem vw_slB (o : Option D) : Sl.vw (slB o) = o := by cases o <;> rfl
@[simp] theorem vw_slO (o : Option D) : Sl.vw (slO o) = o := by cases o <;> rfl
@[simp] theorem sl_0 : (0 : Nat) ≤ sizeLine := by rw [sizeLine_eq]; decide
@[simp] theorem slt_0 : (0 : Nat) < sizeLine := by rw [sizeLine_eq]; decide
@[simp] theorem sl_1 : (1 : Nat) ≤ sizeLine := by rw [sizeLine_eq]; decide
@[simp] theorem slt_1 : (1 : Nat) < sizeLine := by rw [sizeLine_eq]; decide
@[simp] theorem sl_2 : (2 : Nat) ≤ sizeLine := by rw [sizeLine_eq]; decide
@[simp] theorem slt_2 : (2 : Nat) < sizeLine := by rw [sizeLine_eq]; decide
@[simp] theorem sl_3 : (3 : Nat) ≤ sizeLine := by rw [sizeLine_eq]; decide
@[simp] theorem slt_3 : (3 : Nat) < sizeLine := by rw [sizeLine_eq]; decide
@[simp] theorem sl_4 : (4 : Nat) ≤ sizeLine := by rw [sizeLine_eq]; decide
@[simp] theorem slt_4 : (4 : Nat) < sizeLine := by rw [sizeLine_eq]; decide
@[simp] theorem sl_5 : (5 : Nat) ≤ sizeLine := by rw [sizeLine_eq]; decide
@[simp] theorem slt_5 : (5 : Nat) < sizeLine := by rw [sizeLine_eq]; decide
@[simp] theorem sl_6 : (6 : Nat) ≤ sizeLine := by rw [sizeLine_eq]; decide
@[simp] theorem slt_6 : (6 : Nat) < sizeLine := by rw [sizeLine_eq]; decide
@[simp] theorem sl_7 : (7 : Nat) ≤ sizeLine := by rw [sizeLine_eq]; decide
@[simp] theorem slt_7 : (7 : Nat) < sizeLine := by rw [sizeLine_eq]; decide
@[simp] theorem sl_8 : (8 : Nat) ≤ sizeLine := by rw [sizeLine_eq]; decide
@[simp] theorem slt_8 : (8 : Nat) < sizeLine := by rw [sizeLine_eq]; decide
@[simp] theorem sl_9 : (9 : Nat) ≤ sizeLine := by rw [sizeLine_eq]; decide
@[simp] theorem slt_9 : (9 : Nat) < sizeLine := by rw [sizeLine_eq]; decide
/-! order -/
theorem dLess_int (a b : Int) : dLess (.int a) (.int b) = decide (a < b) := by
  show PyProof.Rows.lexLt PyProof.Rows.itemOrd [.inl a] [.inl b] = _
  unfold PyProof.Rows.lexLt
  show (PyProof.Rows.itemLt (.inl a) (.inl b) || (!PyProof.Rows.itemLt (.inl b) (.inl a) && PyProof.Rows.lexLt PyProof.Rows.itemOrd [] [])) = _
  show (decide (a < b) || (!decide (b < a) && false)) = _
  simp
theorem dLeq_less (a b : D) : dLeq a b = !dLess b a := id rfl
abbrev pzD (p : Int × Int) : D := .tup [.int p.1, .int p.2]
def ltP (p q : Int × Int) : Prop := p.1 < q.1 ∨ (p.1 = q.1 ∧ p.2 < q.2)
instance : DecidableRel ltP := fun p q => inferInstanceAs (Decidable (p.1 < q.1 ∨ (p.1 = q.1 ∧ p.2 < q.2)))
theorem dLess_pr (p q : Int × Int) : dLess (pzD p) (pzD q) = decide (ltP p q) := by
  show PyProof.Rows.lexLt PyProof.Rows.itemOrd [.inl 1, .inl p.1, .inl 1, .inl p.2, .inl 0] [.inl 1, .inl q.1, .inl 1, .inl q.2, .inl 0] = _
  have h : ∀ (a b : Int) r t, PyProof.Rows.lexLt PyProof.Rows.itemOrd (.inl a :: r) (.inl b :: t) = (decide (a < b) || (!decide (b < a) && PyProof.Rows.lexLt PyProof.Rows.itemOrd r t)) := fun _ _ _ _ => rfl
  rw [h, h, h, h, h]
  rw [Bool.eq_iff_iff, decide_eq_true_iff]
  unfold ltP
  simp [PyProof.Rows.lexLt]
  omega
theorem ltP_irr (p : Int × Int) : ¬ ltP p p := fun h => by unfold ltP at h; omega
theorem ltP_trans {p q r : Int × Int} (h : ltP p q) (h' : ltP q r) : ltP p r := by unfold ltP at *; omega
theorem ltP_tot {p q : Int × Int} (h : ¬ ltP p q) (h' : ¬ ltP q p) : p = q := by
  unfold ltP at *
  exact Prod.ext (by omega) (by omega)
section
variable {α : Type} (f : α → D) (lt : α → α → Prop) [DecidableRel lt]
def minA (x : α) (xs : List α) : α := xs.foldl (fun a y => if lt y a then y else a) x
theorem minL_map (h : ∀ a b, dLess (f a) (f b) = decide (lt a b)) : ∀ (xs : List α) (x : α), minL (f x) (xs.map f) = f (minA lt x xs)
  | [], x => rfl
  | y :: xs, x => by
    unfold minL minA
    rw [List.map_cons, List.foldl_cons, List.foldl_cons, h]
    by_cases c : lt y x
    · rw [decide_eq_true c, if_pos rfl, if_pos c]; exact minL_map h xs y
    · rw [decide_eq_false c, if_neg c]; exact minL_map h xs x
theorem minA_mem : ∀ (xs : List α) (x : α), minA lt x xs ∈ x :: xs
  | [], x => by simp [minA]
  | y :: xs, x => by
    unfold minA
    rw [List.foldl_cons]
    by_cases c : lt y x
    · rw [if_pos c]
      exact List.mem_cons_of_mem _ (minA_mem xs y)
    · rw [if_neg c]
      rcases List.mem_cons.mp (minA_mem xs x) with e | m
      · unfold minA at e; rw [e]; exact List.mem_cons_self
      · exact List.mem_cons_of_mem _ (List.mem_cons_of_mem _ m)
variable (tr : ∀ {a b c}, ¬ lt b a → ¬ lt c b → ¬ lt c a) (irr : ∀ a, ¬ lt a a) (as : ∀ {a b}, lt a b → ¬ lt b a)
include tr irr as in
theorem minA_le : ∀ (xs : List α) (x : α), ∀ y ∈ x :: xs, ¬ lt y (minA lt x xs)
  | [], x, y, m => by
    simp at m; subst m; exact irr _
  | z :: xs, x, y, m => by
    unfold minA
    rw [List.foldl_cons]
    by_cases c : lt z x
    · rw [if_pos c]
      have ih := minA_le xs z
      rcases List.mem_cons.mp m with e | m
      · subst e
        exact tr (ih z List.mem_cons_self) (as c)
      · exact ih y m
    · rw [if_neg c]
      have ih := minA_le xs x
      rcases List.mem_cons.mp m with e | m
      · subst e; exact ih _ List.mem_cons_self
      · rcases List.mem_cons.mp m with e | m
        · subst e
          exact tr (ih x List.mem_cons_self) c
        · exact ih y (List.mem_cons_of_mem _ m)
/-- the least -/
structure IsMin (l : List α) (m : α) : Prop where
  mem : m ∈ l
  le : ∀ y ∈ l, ¬ lt y m
variable (un : ∀ {a b}, ¬ lt a b → ¬ lt b a → a = b)
include tr irr as un in
theorem minA_eq {x : α} {xs : List α} {m : α} (h : IsMin lt (x :: xs) m) : minA lt x xs = m :=
  un (h.le _ (minA_mem lt xs x)) (minA_le lt (fun {_ _ _} => tr) irr (fun {_ _} => as) xs x m h.mem)
include tr irr as in
theorem exMin {l : List α} (h : l ≠ []) : ∃ m, IsMin lt l m := by
  cases l with
  | nil => exact absurd rfl h
  | cons x xs => exact ⟨_, minA_mem lt xs x, minA_le lt (fun {_ _ _} => tr) irr (fun {_ _} => as) xs x⟩
include tr irr as un in
theorem sort_head (h : ∀ a b, dLess (f a) (f b) = decide (lt a b)) {l : List α} {m : α} (hm : IsMin lt l m) : ∃ r, (l.map f).mergeSort dLeq = f m :: r ∧ r.length + 1 = l.length := by
  have e : (l.map f).mergeSort dLeq = (l.mergeSort fun a b => decide (¬ lt b a)).map f := by
    refine (PySem.W.sort_maps f fun a _ b _ => ?_).symm
    show decide (¬ lt b a) = dLeq (f a) (f b)
    rw [dLeq_less, h]; simp
  have pw := List.pairwise_mergeSort (le := fun a b : α => decide (¬ lt b a)) (fun a b c h1 h2 => by
    simp only [decide_eq_true_eq] at *; exact tr h1 h2) (fun a b => by
    by_cases c : lt b a
    · simp [as c]
    · simp [c]) l
  have pm := List.mergeSort_perm l fun a b => decide (¬ lt b a)
  rw [e]
  cases hs : l.mergeSort fun a b => decide (¬ lt b a) with
  | nil =>
    rw [hs] at pm
    have := pm.mem_iff.mpr hm.mem
    cases this
  | cons a r =>
    rw [hs] at pm pw
    have ma : a ∈ l := pm.mem_iff.mp List.mem_cons_self
    have hma : m ∈ a :: r := pm.mem_iff.mpr hm.mem
    have : a = m := by
      rcases List.mem_cons.mp hma with e | q
      · exact e.symm
      · have := (List.pairwise_cons.mp pw).1 m q
        simp only [decide_eq_true_eq] at this
        exact un (hm.le a ma) this
    subst this
    exact ⟨r.map f, rfl, by have := pm.length_eq; simp at this; simpa using this⟩
end
theorem noNon_map {α : Type} {f : α → D} (h : ∀ a, isNon (f a) = false) (l : List α) : noNon (l.map f) = true := by
  unfold noNon; rw [List.all_map]; exact List.all_eq_true.mpr fun a _ => by show (!isNon (f a)) = true; rw [h]; rfl
theorem alikeL_map {α : Type} {f : α → D} (h1 : ∀ a, imm (f a) = true) (h2 : ∀ a, okD (f a) = true) (h3 : ∀ a b, PySem.W.alike (toPy (f a)) (toPy (f b)) = true) (l : List α) : alikeL (l.map f) = true := by
  unfold alikeL
  have e1 : immL (l.map f) = true := immL_map fun a _ => h1 a
  have e2 : (l.map f).all okD = true := by rw [List.all_map]; exact List.all_eq_true.mpr fun a _ => h2 a
  have e3 : ((l.map f).all fun a => (l.map f).all fun b => PySem.W.alike (toPy a) (toPy b)) = true := by
    rw [List.all_map]
    refine List.all_eq_true.mpr fun a _ => ?_
    show ((l.map f).all fun b => PySem.W.alike (toPy (f a)) (toPy b)) = true
    rw [List.all_map]; exact List.all_eq_true.mpr fun b _ => h3 a b
  rw [e1, e2, e3]; rfl
theorem alike_int (a b : Int) : PySem.W.alike (.int a) (.int b) = true := by rfl
theorem alike_pr (p q : Int × Int) : PySem.W.alike (toPy (pzD p)) (toPy (pzD q)) = true := by rfl
theorem okD_pr (p : Int × Int) : okD (pzD p) = true := by
  unfold okD SeqAt.shaped
  have h1 : (toPy (pzD p)).canLay0 = true := by rfl
  have h2 : (toPy (pzD p)).depth ≤ 64 := by
    show max 0 (max 0 0) + 1 ≤ 64
    decide
  rw [h1, decide_eq_true h2]; rfl
theorem alikeL_dI (l : List Int) : alikeL (dI l) = true := alikeL_map (f := D.int) (fun _ => rfl) (fun _ => rfl) (fun a b => alike_int a b) l
theorem alikeL_pr (l : List (Int × Int)) : alikeL (l.map pzD) = true := alikeL_map (fun _ => rfl) okD_pr alike_pr l
theorem sortable_dI (l : List Int) : sortable (dI l) = true := by
  unfold sortable
  have h4 : (dI l).all notTup = true := by rw [List.all_map]; exact List.all_eq_true.mpr fun _ _ => rfl
  rw [alikeL_dI, h4]
  simp
theorem sortable_pr (l : List (Int × Int)) : sortable (l.map pzD) = true := by
  unfold sortable
  have h4 : (l.map pzD).all tupled = true := by rw [List.all_map]; exact List.all_eq_true.mpr fun _ _ => rfl
  rw [alikeL_pr, h4]
  simp
theorem iTr {a b c : Int} (h : ¬ b < a) (h' : ¬ c < b) : ¬ c < a := by omega
theorem iAs {a b : Int} (h : a < b) : ¬ b < a := by omega
theorem iUn {a b : Int} (h : ¬ a < b) (h' : ¬ b < a) : a = b := by omega
theorem pTr {a b c : Int × Int} (h : ¬ ltP b a) (h' : ¬ ltP c b) : ¬ ltP c a := by unfold ltP at *; omega
theorem pAs {a b : Int × Int} (h : ltP a b) : ¬ ltP b a := by unfold ltP at *; omega
abbrev MinI (l : List Int) (m : Int) : Prop := IsMin (fun a b : Int => a < b) l m
abbrev MinP (l : List (Int × Int)) (m : Int × Int) : Prop := IsMin ltP l m
theorem bMin_lI {l : List Int} {m : Int} (h : MinI l m) : bMin [lI l] = some (.int m) := by
  cases l with
  | nil => cases h.mem
  | cons x xs =>
    show (if alikeL (dI (x :: xs)) && noNon (dI (x :: xs)) then some (minL (.int x) (dI xs)) else none) = _
    have h2 : noNon (dI (x :: xs)) = true := noNon_map (fun _ => rfl) _
    rw [alikeL_dI, h2]
    have := minL_map D.int (fun a b : Int => a < b) dLess_int xs x
    show some (minL (.int x) (xs.map D.int)) = _
    rw [this, minA_eq (fun a b : Int => a < b) iTr (fun a => Int.lt_irrefl a) iAs iUn h]
theorem bMin_pr {l : List (Int × Int)} {m : Int × Int} (h : MinP l m) : bMin [.lst (l.map pzD)] = some (pzD m) := by
  cases l with
  | nil => cases h.mem
  | cons x xs =>
    show (if alikeL ((x :: xs).map pzD) && noNon ((x :: xs).map pzD) then some (minL (pzD x) (xs.map pzD)) else none) = _
    have h2 : noNon ((x :: xs).map pzD) = true := noNon_map (fun _ => rfl) _
    rw [alikeL_pr, h2]
    have := minL_map pzD ltP dLess_pr xs x
    show some (minL (pzD x) (xs.map pzD)) = _
    rw [this, minA_eq ltP pTr ltP_irr pAs ltP_tot h]
theorem bSorted_pr {l : List (Int × Int)} {m : Int × Int} (h : MinP l m) : ∃ r, bSorted [.lst (l.map pzD)] = some (.lst (pzD m :: r)) := by
  obtain ⟨r, e, _⟩ := sort_head pzD ltP pTr ltP_irr pAs ltP_tot dLess_pr h
  refine ⟨r, ?_⟩
  show (if sortable (l.map pzD) then some (D.lst ((l.map pzD).mergeSort dLeq)) else none) = _
  rw [sortable_pr, if_pos rfl, e]
theorem exMinP {l : List (Int × Int)} (h : l ≠ []) : ∃ m, MinP l m := exMin ltP pTr ltP_irr pAs h
theorem exMinI {l : List Int} (h : l ≠ []) : ∃ m, MinI l m := exMin (fun a b : Int => a < b) iTr (fun a => Int.lt_irrefl a) iAs h
end FL

set_option Elab.async false
set_option linter.all false
set_option maxRecDepth 100000
set_option maxHeartbeats 4000000
/-! M3: statement by statement. -/
namespace FL
open PySem PySem.Spec L2
/-- what a def's end is -/
inductive Rt (P : D → Prop) : Out × Se → Prop
  | rt (d : D) (σ : Se) : P d → Rt P (.rt d, σ)
  | nx (σ : Se) : P .non → Rt P (.nx, σ)
section
variable {P : D → Prop} {R : Out × Se → Prop} {f g : Sv} {σ σ0 σ1 : Se}
theorem Tr.mir {N n : Nat} {ds : List D} (e : ds.map Sl.bor ++ List.replicate (N - n) Sl.no = σ0) (h : Tr (g σ0) (Rt P)) : Tr (mirF N n g ds) P := by
  rw [mirF_ap, e]
  refine h.bnd ?_
  rintro _ (⟨d, σ, p⟩ | ⟨σ, p⟩)
  · exact Tr.pure p
  · exact Tr.pure p
theorem Tr.seqQ {Q : Se → Prop} (h : Tr (f σ) fun r => r.1 = .nx ∧ Q r.2) (k : ∀ σ', Q σ' → Tr (g σ') R) : Tr (sSeq f g σ) R := by
  rw [sSeq_ap]
  refine h.bnd ?_
  rintro ⟨o, σ'⟩ ⟨e, q⟩
  simp only at e
  subst e
  exact k σ' q
theorem Tr.seqE (h : Tr (f σ) fun r => r = (.nx, σ1)) (k : Tr (g σ1) R) : Tr (sSeq f g σ) R :=
  Tr.seqQ (Q := fun s => s = σ1) (h.imp fun r e => by rw [e]; exact ⟨rfl, rfl⟩) fun σ' e => e ▸ k
/-- in general: the first may end the def -/
theorem Tr.seqG (h : Tr (f σ) fun r => match r.1 with
    | .nx => Tr (g r.2) R
    | o => R (o, r.2)) : Tr (sSeq f g σ) R := by
  rw [sSeq_ap]
  refine h.bnd ?_
  rintro ⟨o, σ'⟩ q
  cases o with
  | nx => exact q
  | rt d => exact Tr.pure q
  | bk => exact Tr.pure q
  | ct => exact Tr.pure q
theorem Tr.ret {e : Ev → Mo D} (h : Tr (e (vw σ)) P) : Tr (sRet e σ) (Rt P) := by
  rw [sRet_ap]
  exact h.bnd fun d p => Tr.pure (.rt d σ p)
theorem Tr.retN {i : Nat} {d : D} (h : σ[i]? = some (.own d)) (p : P d) : Tr (sRetN i σ) (Rt P) := by
  rw [sRetN_ap, h]
  exact Tr.pure (.rt d σ p)
theorem Tr.skip {c : Ev → Mo Bool} (h : Tr (c (vw σ)) fun b => b = false) : Tr (sIf c f (sPure .nx) σ) fun r => r = (.nx, σ) := by
  rw [sIf_ap]
  refine h.eq ?_
  simp
theorem Tr.if_ {c : Ev → Mo Bool} (h : Tr (c (vw σ)) fun b => if b = true then Tr (f σ) R else Tr (g σ) R) : Tr (sIf c f g σ) R := by
  rw [sIf_ap]
  refine h.bnd fun b q => ?_
  cases b with
  | true => simpa using q
  | false => simpa using q
theorem Tr.ifT {c : Ev → Mo Bool} (h : Tr (c (vw σ)) fun b => b = true) (k : Tr (f σ) R) : Tr (sIf c f g σ) R := Tr.if_ (h.imp fun b e => by subst e; simpa using k)
theorem Tr.ifF {c : Ev → Mo Bool} (h : Tr (c (vw σ)) fun b => b = false) (k : Tr (g σ) R) : Tr (sIf c f g σ) R := Tr.if_ (h.imp fun b e => by subst e; simpa using k)
/-- an expression's worth into a slot -/
theorem Tr.set {e : Ev → Mo D} {i : Nat} {d : D} (h : Tr (e (vw σ)) fun x => x = d) (n : nlX σ[i]? = true) : Tr (sSet i e σ) fun r => r = (.nx, σ.set i (.own d)) := by
  rw [sSet_ap]
  refine h.eq ?_
  rw [notLok_ap, n, gd_true, Mo.pure_bind]
  exact Tr.pure rfl
end
end FL

set_option Elab.async false
set_option linter.all false
set_option maxRecDepth 100000
set_option maxHeartbeats 4000000
namespace K87
open PySem PySem.Spec L2 FL
def topS (i : Nat) : Stmt := PySem.Challenge.pw_allworlds_k87_whole_clusters_of_all_thin.main.body.getD i (.Pass ⟨0, 0, 0, 0⟩)
abbrev s_fill_count : Stmt := topS 1
theorem sc_fill_count : FnScope ["counts", "many", "count"] ["counts"] (defScope s_fill_count) := ⟨rfl, rfl, rfl, by decide +kernel, rfl, by decide +kernel, by decide +kernel⟩
abbrev s_tied_things : Stmt := topS 3
theorem sc_tied_things : FnScope ["scopes", "thing", "scope", "other"] ["scopes", "thing"] (defScope s_tied_things) := ⟨rfl, rfl, rfl, by decide +kernel, rfl, by decide +kernel, by decide +kernel⟩
abbrev s_cluster_behind : Stmt := topS 4
theorem sc_cluster_behind : FnScope ["scopes", "before", "thing", "reached", "place", "seen", "at", "other"] ["scopes", "before", "thing"] (defScope s_cluster_behind) := ⟨rfl, rfl, rfl, by decide +kernel, rfl, by decide +kernel, by decide +kernel⟩
abbrev s_clusters_by : Stmt := topS 5
theorem sc_clusters_by : FnScope ["scopes", "sequence", "place", "thing"] ["scopes", "sequence"] (defScope s_clusters_by) := ⟨rfl, rfl, rfl, by decide +kernel, rfl, by decide +kernel, by decide +kernel⟩
abbrev s_scopes_left : Stmt := topS 6
theorem sc_scopes_left : FnScope ["scopes", "sequence", "left", "thing", "joined", "other", "scope"] ["scopes", "sequence"] (defScope s_scopes_left) := ⟨rfl, rfl, rfl, by decide +kernel, rfl, by decide +kernel, by decide +kernel⟩
abbrev s_flows_by : Stmt := topS 7
theorem sc_flows_by : FnScope ["scopes", "sequence", "found", "place", "cluster", "later", "other"] ["scopes", "sequence"] (defScope s_flows_by) := ⟨rfl, rfl, rfl, by decide +kernel, rfl, by decide +kernel, by decide +kernel⟩
abbrev s_settled_sequence : Stmt := topS 8
theorem sc_settled_sequence : FnScope ["scopes", "sequence", "flows", "left", "found", "goals", "awaited", "thing", "flow"] ["scopes", "sequence"] (defScope s_settled_sequence) := ⟨rfl, rfl, rfl, by decide +kernel, rfl, by decide +kernel, by decide +kernel⟩
abbrev s_lot_size : Stmt := topS 9
theorem sc_lot_size : FnScope ["counts", "lot", "thing"] ["counts", "lot"] (defScope s_lot_size) := ⟨rfl, rfl, rfl, by decide +kernel, rfl, by decide +kernel, by decide +kernel⟩
abbrev s_sizes_by : Stmt := topS 10
theorem sc_sizes_by : FnScope ["counts", "scopes", "sequence", "cluster"] ["counts", "scopes", "sequence"] (defScope s_sizes_by) := ⟨rfl, rfl, rfl, by decide +kernel, rfl, by decide +kernel, by decide +kernel⟩
abbrev s_joined_cost : Stmt := topS 11
theorem sc_joined_cost : FnScope ["kind", "one", "other"] ["kind", "one", "other"] (defScope s_joined_cost) := ⟨rfl, rfl, rfl, by decide +kernel, rfl, by decide +kernel, by decide +kernel⟩
abbrev s_cost_by : Stmt := topS 12
theorem sc_cost_by : FnScope ["counts", "scopes", "sequence", "kind", "found", "size"] ["counts", "scopes", "sequence", "kind"] (defScope s_cost_by) := ⟨rfl, rfl, rfl, by decide +kernel, rfl, by decide +kernel, by decide +kernel⟩
abbrev s_greedy_sequence : Stmt := topS 13
theorem sc_greedy_sequence : FnScope ["counts", "scopes", "lot", "found", "left", "sizes", "thing"] ["counts", "scopes", "lot"] (defScope s_greedy_sequence) := ⟨rfl, rfl, rfl, by decide +kernel, rfl, by decide +kernel, by decide +kernel⟩
abbrev s_is_free : Stmt := topS 15
theorem sc_is_free : FnScope ["scopes", "before", "thing", "cluster", "others", "other", "one"] ["scopes", "before", "thing"] (defScope s_is_free) := ⟨rfl, rfl, rfl, by decide +kernel, rfl, by decide +kernel, by decide +kernel⟩
abbrev s_free_first : Stmt := topS 16
theorem sc_free_first : FnScope ["scopes", "lot", "found", "left", "turn", "free", "thing"] ["scopes", "lot"] (defScope s_free_first) := ⟨rfl, rfl, rfl, by decide +kernel, rfl, by decide +kernel, by decide +kernel⟩
abbrev s_tied_size : Stmt := topS 17
theorem sc_tied_size : FnScope ["counts", "scopes", "away", "thing", "kept", "other"] ["counts", "scopes", "away", "thing"] (defScope s_tied_size) := ⟨rfl, rfl, rfl, by decide +kernel, rfl, by decide +kernel, by decide +kernel⟩
abbrev s_core_floor : Stmt := topS 18
theorem sc_core_floor : FnScope ["counts", "scopes", "lot", "best", "core", "left", "away", "size", "thing"] ["counts", "scopes", "lot"] (defScope s_core_floor) := ⟨rfl, rfl, rfl, by decide +kernel, rfl, by decide +kernel, by decide +kernel⟩
abbrev s__law_heap : Stmt := topS 20
theorem sc__law_heap : FnScope ["script", "cells", "stir", "cell"] ["script"] (defScope s__law_heap) := ⟨rfl, rfl, rfl, by decide +kernel, rfl, by decide +kernel, by decide +kernel⟩
abbrev s__law_draw : Stmt := topS 21
theorem sc__law_draw : FnScope ["heap", "many", "rest"] ["heap", "many"] (defScope s__law_draw) := ⟨rfl, rfl, rfl, by decide +kernel, rfl, by decide +kernel, by decide +kernel⟩
abbrev s__law_pick : Stmt := topS 22
theorem sc__law_pick : FnScope ["heap", "some"] ["heap", "some"] (defScope s__law_pick) := ⟨rfl, rfl, rfl, by decide +kernel, rfl, by decide +kernel, by decide +kernel⟩
abbrev s__law_shuffled : Stmt := topS 23
theorem sc__law_shuffled : FnScope ["heap", "some", "rest", "found", "turn"] ["heap", "some"] (defScope s__law_shuffled) := ⟨rfl, rfl, rfl, by decide +kernel, rfl, by decide +kernel, by decide +kernel⟩
abbrev s__law_scopes : Stmt := topS 24
theorem sc__law_scopes : FnScope ["heap", "many", "kind", "found", "names", "at", "some", "size", "lot", "turn", "other"] ["heap", "many"] (defScope s__law_scopes) := ⟨rfl, rfl, rfl, by decide +kernel, rfl, by decide +kernel, by decide +kernel⟩
abbrev s__law_near : Stmt := topS 25
theorem sc__law_near : FnScope ["scopes", "many", "found", "scope", "one", "other", "thing"] ["scopes", "many"] (defScope s__law_near) := ⟨rfl, rfl, rfl, by decide +kernel, rfl, by decide +kernel, by decide +kernel⟩
abbrev s__law_cluster : Stmt := topS 26
theorem sc__law_cluster : FnScope ["near", "before", "thing", "seen", "row", "found", "one", "other"] ["near", "before", "thing"] (defScope s__law_cluster) := ⟨rfl, rfl, rfl, by decide +kernel, rfl, by decide +kernel, by decide +kernel⟩
abbrev s__law_clusters : Stmt := topS 27
theorem sc__law_clusters : FnScope ["near", "sequence", "before", "found", "thing"] ["near", "sequence"] (defScope s__law_clusters) := ⟨rfl, rfl, rfl, by decide +kernel, rfl, by decide +kernel, by decide +kernel⟩
abbrev s__law_size : Stmt := topS 28
theorem sc__law_size : FnScope ["counts", "lot", "found", "thing"] ["counts", "lot"] (defScope s__law_size) := ⟨rfl, rfl, rfl, by decide +kernel, rfl, by decide +kernel, by decide +kernel⟩
abbrev s__law_flows : Stmt := topS 29
theorem sc__law_flows : FnScope ["sequence", "clusters", "found", "at", "later", "thing"] ["sequence", "clusters"] (defScope s__law_flows) := ⟨rfl, rfl, rfl, by decide +kernel, rfl, by decide +kernel, by decide +kernel⟩
abbrev s__law_settled : Stmt := topS 30
theorem sc__law_settled : FnScope ["sequence", "flows", "waits", "found", "left", "thing", "other", "flow", "one"] ["sequence", "flows"] (defScope s__law_settled) := ⟨rfl, rfl, rfl, by decide +kernel, rfl, by decide +kernel, by decide +kernel⟩
abbrev s__law_same : Stmt := topS 31
theorem sc__law_same : FnScope ["told", "due", "at"] ["told", "due"] (defScope s__law_same) := ⟨rfl, rfl, rfl, by decide +kernel, rfl, by decide +kernel, by decide +kernel⟩
abbrev s__law_sequences_right : Stmt := topS 32
theorem sc__law_sequences_right : FnScope ["heap", "counts", "scopes", "near", "sequence", "clusters", "sizes", "flows", "costs", "before", "others", "left", "thing", "union", "lot", "other", "scope"] ["heap", "counts", "scopes", "near", "sequence"] (defScope s__law_sequences_right) := ⟨rfl, rfl, rfl, by decide +kernel, rfl, by decide +kernel, by decide +kernel⟩
abbrev s__law_free : Stmt := topS 33
theorem sc__law_free : FnScope ["near", "before", "thing", "lot", "one", "other"] ["near", "before", "thing"] (defScope s__law_free) := ⟨rfl, rfl, rfl, by decide +kernel, rfl, by decide +kernel, by decide +kernel⟩
abbrev s__law_greedy : Stmt := topS 34
theorem sc__law_greedy : FnScope ["counts", "near", "lot", "left", "found", "some", "thing"] ["counts", "near", "lot"] (defScope s__law_greedy) := ⟨rfl, rfl, rfl, by decide +kernel, rfl, by decide +kernel, by decide +kernel⟩
abbrev s__law_free_first : Stmt := topS 35
theorem sc__law_free_first : FnScope ["near", "lot", "left", "found", "turn", "some", "thing"] ["near", "lot"] (defScope s__law_free_first) := ⟨rfl, rfl, rfl, by decide +kernel, rfl, by decide +kernel, by decide +kernel⟩
abbrev s__law_core : Stmt := topS 36
theorem sc__law_core : FnScope ["counts", "near", "lot", "left", "best", "sizes", "thing", "least", "other", "size"] ["counts", "near", "lot"] (defScope s__law_core) := ⟨rfl, rfl, rfl, by decide +kernel, rfl, by decide +kernel, by decide +kernel⟩
abbrev s_law : Stmt := topS 37
theorem sc_law : FnScope ["script", "heap", "many", "counts", "scopes", "near", "everything", "sequence", "lot", "thing", "before", "part", "some"] ["script"] (defScope s_law) := ⟨rfl, rfl, rfl, by decide +kernel, rfl, by decide +kernel, by decide +kernel⟩
/-- what the top has written -/
structure Top (K : PySem.W.Frag) (mg : Str → Option Value) where
  a_fill_count : Addr
  d_fill_count : FuncData
  F_fill_count : Fun K "fill_count" "fill_count" s_fill_count a_fill_count d_fill_count
  b_fill_count : Binds K d_fill_count ["counts"] []
  q_fill_count : mg "fill_count" = some (.ref a_fill_count)
  a_tied_things : Addr
  d_tied_things : FuncData
  F_tied_things : Fun K "tied_things" "tied_things" s_tied_things a_tied_things d_tied_things
  b_tied_things : Binds K d_tied_things ["scopes", "thing"] []
  q_tied_things : mg "tied_things" = some (.ref a_tied_things)
  a_cluster_behind : Addr
  d_cluster_behind : FuncData
  F_cluster_behind : Fun K "cluster_behind" "cluster_behind" s_cluster_behind a_cluster_behind d_cluster_behind
  b_cluster_behind : Binds K d_cluster_behind ["scopes", "before", "thing"] []
  q_cluster_behind : mg "cluster_behind" = some (.ref a_cluster_behind)
  a_clusters_by : Addr
  d_clusters_by : FuncData
  F_clusters_by : Fun K "clusters_by" "clusters_by" s_clusters_by a_clusters_by d_clusters_by
  b_clusters_by : Binds K d_clusters_by ["scopes", "sequence"] []
  q_clusters_by : mg "clusters_by" = some (.ref a_clusters_by)
  a_scopes_left : Addr
  d_scopes_left : FuncData
  F_scopes_left : Fun K "scopes_left" "scopes_left" s_scopes_left a_scopes_left d_scopes_left
  b_scopes_left : Binds K d_scopes_left ["scopes", "sequence"] []
  q_scopes_left : mg "scopes_left" = some (.ref a_scopes_left)
  a_flows_by : Addr
  d_flows_by : FuncData
  F_flows_by : Fun K "flows_by" "flows_by" s_flows_by a_flows_by d_flows_by
  b_flows_by : Binds K d_flows_by ["scopes", "sequence"] []
  q_flows_by : mg "flows_by" = some (.ref a_flows_by)
  a_settled_sequence : Addr
  d_settled_sequence : FuncData
  F_settled_sequence : Fun K "settled_sequence" "settled_sequence" s_settled_sequence a_settled_sequence d_settled_sequence
  b_settled_sequence : Binds K d_settled_sequence ["scopes", "sequence"] []
  q_settled_sequence : mg "settled_sequence" = some (.ref a_settled_sequence)
  a_lot_size : Addr
  d_lot_size : FuncData
  F_lot_size : Fun K "lot_size" "lot_size" s_lot_size a_lot_size d_lot_size
  b_lot_size : Binds K d_lot_size ["counts", "lot"] []
  q_lot_size : mg "lot_size" = some (.ref a_lot_size)
  a_sizes_by : Addr
  d_sizes_by : FuncData
  F_sizes_by : Fun K "sizes_by" "sizes_by" s_sizes_by a_sizes_by d_sizes_by
  b_sizes_by : Binds K d_sizes_by ["counts", "scopes", "sequence"] []
  q_sizes_by : mg "sizes_by" = some (.ref a_sizes_by)
  a_joined_cost : Addr
  d_joined_cost : FuncData
  F_joined_cost : Fun K "joined_cost" "joined_cost" s_joined_cost a_joined_cost d_joined_cost
  b_joined_cost : Binds K d_joined_cost ["kind", "one", "other"] []
  q_joined_cost : mg "joined_cost" = some (.ref a_joined_cost)
  a_cost_by : Addr
  d_cost_by : FuncData
  F_cost_by : Fun K "cost_by" "cost_by" s_cost_by a_cost_by d_cost_by
  b_cost_by : Binds K d_cost_by ["counts", "scopes", "sequence", "kind"] []
  q_cost_by : mg "cost_by" = some (.ref a_cost_by)
  a_greedy_sequence : Addr
  d_greedy_sequence : FuncData
  F_greedy_sequence : Fun K "greedy_sequence" "greedy_sequence" s_greedy_sequence a_greedy_sequence d_greedy_sequence
  b_greedy_sequence : Binds K d_greedy_sequence ["counts", "scopes", "lot"] []
  q_greedy_sequence : mg "greedy_sequence" = some (.ref a_greedy_sequence)
  a_is_free : Addr
  d_is_free : FuncData
  F_is_free : Fun K "is_free" "is_free" s_is_free a_is_free d_is_free
  b_is_free : Binds K d_is_free ["scopes", "before", "thing"] []
  q_is_free : mg "is_free" = some (.ref a_is_free)
  a_free_first : Addr
  d_free_first : FuncData
  F_free_first : Fun K "free_first" "free_first" s_free_first a_free_first d_free_first
  b_free_first : Binds K d_free_first ["scopes", "lot"] []
  q_free_first : mg "free_first" = some (.ref a_free_first)
  a_tied_size : Addr
  d_tied_size : FuncData
  F_tied_size : Fun K "tied_size" "tied_size" s_tied_size a_tied_size d_tied_size
  b_tied_size : Binds K d_tied_size ["counts", "scopes", "away", "thing"] []
  q_tied_size : mg "tied_size" = some (.ref a_tied_size)
  a_core_floor : Addr
  d_core_floor : FuncData
  F_core_floor : Fun K "core_floor" "core_floor" s_core_floor a_core_floor d_core_floor
  b_core_floor : Binds K d_core_floor ["counts", "scopes", "lot"] []
  q_core_floor : mg "core_floor" = some (.ref a_core_floor)
  a__law_heap : Addr
  d__law_heap : FuncData
  F__law_heap : Fun K "_law_heap" "_law_heap" s__law_heap a__law_heap d__law_heap
  b__law_heap : Binds K d__law_heap ["script"] []
  q__law_heap : mg "_law_heap" = some (.ref a__law_heap)
  a__law_draw : Addr
  d__law_draw : FuncData
  F__law_draw : Fun K "_law_draw" "_law_draw" s__law_draw a__law_draw d__law_draw
  b__law_draw : Binds K d__law_draw ["heap", "many"] []
  q__law_draw : mg "_law_draw" = some (.ref a__law_draw)
  a__law_pick : Addr
  d__law_pick : FuncData
  F__law_pick : Fun K "_law_pick" "_law_pick" s__law_pick a__law_pick d__law_pick
  b__law_pick : Binds K d__law_pick ["heap", "some"] []
  q__law_pick : mg "_law_pick" = some (.ref a__law_pick)
  a__law_shuffled : Addr
  d__law_shuffled : FuncData
  F__law_shuffled : Fun K "_law_shuffled" "_law_shuffled" s__law_shuffled a__law_shuffled d__law_shuffled
  b__law_shuffled : Binds K d__law_shuffled ["heap", "some"] []
  q__law_shuffled : mg "_law_shuffled" = some (.ref a__law_shuffled)
  a__law_scopes : Addr
  d__law_scopes : FuncData
  F__law_scopes : Fun K "_law_scopes" "_law_scopes" s__law_scopes a__law_scopes d__law_scopes
  b__law_scopes : Binds K d__law_scopes ["heap", "many"] []
  q__law_scopes : mg "_law_scopes" = some (.ref a__law_scopes)
  a__law_near : Addr
  d__law_near : FuncData
  F__law_near : Fun K "_law_near" "_law_near" s__law_near a__law_near d__law_near
  b__law_near : Binds K d__law_near ["scopes", "many"] []
  q__law_near : mg "_law_near" = some (.ref a__law_near)
  a__law_cluster : Addr
  d__law_cluster : FuncData
  F__law_cluster : Fun K "_law_cluster" "_law_cluster" s__law_cluster a__law_cluster d__law_cluster
  b__law_cluster : Binds K d__law_cluster ["near", "before", "thing"] []
  q__law_cluster : mg "_law_cluster" = some (.ref a__law_cluster)
  a__law_clusters : Addr
  d__law_clusters : FuncData
  F__law_clusters : Fun K "_law_clusters" "_law_clusters" s__law_clusters a__law_clusters d__law_clusters
  b__law_clusters : Binds K d__law_clusters ["near", "sequence"] []
  q__law_clusters : mg "_law_clusters" = some (.ref a__law_clusters)
  a__law_size : Addr
  d__law_size : FuncData
  F__law_size : Fun K "_law_size" "_law_size" s__law_size a__law_size d__law_size
  b__law_size : Binds K d__law_size ["counts", "lot"] []
  q__law_size : mg "_law_size" = some (.ref a__law_size)
  a__law_flows : Addr
  d__law_flows : FuncData
  F__law_flows : Fun K "_law_flows" "_law_flows" s__law_flows a__law_flows d__law_flows
  b__law_flows : Binds K d__law_flows ["sequence", "clusters"] []
  q__law_flows : mg "_law_flows" = some (.ref a__law_flows)
  a__law_settled : Addr
  d__law_settled : FuncData
  F__law_settled : Fun K "_law_settled" "_law_settled" s__law_settled a__law_settled d__law_settled
  b__law_settled : Binds K d__law_settled ["sequence", "flows"] []
  q__law_settled : mg "_law_settled" = some (.ref a__law_settled)
  a__law_same : Addr
  d__law_same : FuncData
  F__law_same : Fun K "_law_same" "_law_same" s__law_same a__law_same d__law_same
  b__law_same : Binds K d__law_same ["told", "due"] []
  q__law_same : mg "_law_same" = some (.ref a__law_same)
  a__law_sequences_right : Addr
  d__law_sequences_right : FuncData
  F__law_sequences_right : Fun K "_law_sequences_right" "_law_sequences_right" s__law_sequences_right a__law_sequences_right d__law_sequences_right
  b__law_sequences_right : Binds K d__law_sequences_right ["heap", "counts", "scopes", "near", "sequence"] []
  q__law_sequences_right : mg "_law_sequences_right" = some (.ref a__law_sequences_right)
  a__law_free : Addr
  d__law_free : FuncData
  F__law_free : Fun K "_law_free" "_law_free" s__law_free a__law_free d__law_free
  b__law_free : Binds K d__law_free ["near", "before", "thing"] []
  q__law_free : mg "_law_free" = some (.ref a__law_free)
  a__law_greedy : Addr
  d__law_greedy : FuncData
  F__law_greedy : Fun K "_law_greedy" "_law_greedy" s__law_greedy a__law_greedy d__law_greedy
  b__law_greedy : Binds K d__law_greedy ["counts", "near", "lot"] []
  q__law_greedy : mg "_law_greedy" = some (.ref a__law_greedy)
  a__law_free_first : Addr
  d__law_free_first : FuncData
  F__law_free_first : Fun K "_law_free_first" "_law_free_first" s__law_free_first a__law_free_first d__law_free_first
  b__law_free_first : Binds K d__law_free_first ["near", "lot"] []
  q__law_free_first : mg "_law_free_first" = some (.ref a__law_free_first)
  a__law_core : Addr
  d__law_core : FuncData
  F__law_core : Fun K "_law_core" "_law_core" s__law_core a__law_core d__law_core
  b__law_core : Binds K d__law_core ["counts", "near", "lot"] []
  q__law_core : mg "_law_core" = some (.ref a__law_core)
  a_law : Addr
  d_law : FuncData
  F_law : Fun K "law" "law" s_law a_law d_law
  b_law : Binds K d_law ["script"] []
  q_law : mg "law" = some (.ref a_law)
  z_abs : mg "abs" = none
  z_all : mg "all" = none
  z_any : mg "any" = none
  z_bool : mg "bool" = none
  z_enumerate : mg "enumerate" = none
  z_int : mg "int" = none
  z_isinstance : mg "isinstance" = none
  z_len : mg "len" = none
  z_list : mg "list" = none
  z_max : mg "max" = none
  z_min : mg "min" = none
  z_range : mg "range" = none
  z_sorted : mg "sorted" = none
  z_str : mg "str" = none
  z_sum : mg "sum" = none
  z_tuple : mg "tuple" = none
  z_zip : mg "zip" = none

end K87

set_option Elab.async false
set_option linter.all false
set_option maxRecDepth 100000
set_option maxHeartbeats 4000000
namespace K87
open PySem PySem.Spec L2 FL
/-! fill_count: slots 0 counts, 1 many, 2 count -/
noncomputable def g_fill_count : Sv :=
  (sSeq (sSet 1 (fC (.int 1)))
  (sSeq (sFor [0] (fItems (fVar 0)) (.n 2) (sAug 1 dMul (fVar 2)))
  (sRetN 1)))
noncomputable def m_fill_count : List D → Mo D := mirF 3 1 g_fill_count
theorem ok_fill_count {P : Program} {w : World} {K : PySem.W.Frag} {mg : Str → Option Value} {base : Heap} (t : Top K mg) : FnOk P w K mg base CX0 1 t.a_fill_count t.d_fill_count ["counts"] (spF w K 1 m_fill_count) :=
  fl_okN (k := 0) (g := g_fill_count) 3 1 t.F_fill_count sc_fill_count rfl rfl fun cdv A outer s H Ee hcd hr =>
  (ss_cons (s_set (i := 1) e_int sc_fill_count.nd)
  (ss_cons (s_for (lk := [0]) (by rfl) (i_seq (B.p (b_var 0))) (g_n sc_fill_count.nd) (ss_one (s_aug (i := 1) sc_fill_count.nd (b_var 2) ip_dMul)))
  (ss_one (s_retN 1))))
/-! tied_things: slots 0 scopes, 1 thing, 2 scope, 3 other -/
noncomputable def g_tied_things : Sv :=
  (sRet (fLc2 [2, 3] (fItems (fVar 0)) (.n 2) (fCmp dIn (fVar 1) (fVar 2)) (fItems (fVar 2)) (.n 3) fYes (fImm (fVar 3)) [3]))
noncomputable def m_tied_things : List D → Mo D := mirF 4 2 g_tied_things
theorem ok_tied_things {P : Program} {w : World} {K : PySem.W.Frag} {mg : Str → Option Value} {base : Heap} (t : Top K mg) : FnOk P w K mg base CX0 1 t.a_tied_things t.d_tied_things ["scopes", "thing"] (spF w K 2 m_tied_things) :=
  fl_okN (k := 0) (g := g_tied_things) 4 2 t.F_tied_things sc_tied_things rfl rfl fun cdv A outer s H Ee hcd hr =>
  (ss_one (s_ret (e_lc2 (vs1 := [3]) (by rfl) sc_tied_things.nd (i_seq (B.p (b_var 0))) (blkOk_by (own := [("scope", 2), ("other", 3)]) (by with_unfolding_all rfl)) (by decide) (by decide) (by decide) (fun _ _ _ _ _ => (g_n sc_tied_things.nd)) (fun _ _ _ _ _ => (ts_one (t_cmp (op_dIn (hu65 hr)) (b_var 1) (b_var 2) (by with_unfolding_all rfl)))) (fun _ _ _ _ _ => (i_seq (B.p (b_var 2)))) (fun _ _ _ _ _ => (g_n sc_tied_things.nd)) (fun _ _ _ _ _ => ts_nil) (fun _ _ _ _ _ => (B.e (b_var 3))))))
/-! cluster_behind: slots 0 scopes, 1 before, 2 thing, 3 reached, 4 place, 5 seen, 6 at, 7 other -/
noncomputable def g_cluster_behind : Sv :=
  (sSeq (sPar [3, 4] (fCons (fLst (fCons (fImm (fVar 2)) fNil)) (fCons (fC (.int 0)) fNil)))
  (sSeq (sSet 5 (fSet1 (fVar 2)))
  (sSeq (sWhile (fCmp dLt (fVar 4) (fCallB bLen (fCons (fVar 3) fNil))) (sSeq (sSet 6 (fImm (fIx (fVar 3) (fVar 4))))
  (sSeq (sAug 4 dIAdd (fC (.int 1)))
  (sSeq (sIf (fAnd (fCmp dNe (fVar 6) (fVar 2)) (fCmp dNotIn (fVar 6) (fVar 1))) (sPure .ct) (sPure .nx))
  (sForN [] (fItems (fCall 2 m_tied_things (fCons (fVar 0) (fCons (fVar 6) fNil)))) (.n 7) (sIf (fCmp dNotIn (fVar 7) (fVar 5)) (sSeq (sAdd 5 (fVar 7))
  (sApp 3 (fImm (fVar 7)))) (sPure .nx)))))))
  (sRet (fCallB bTuple (fCons (fCallB bSorted (fCons (fLc [6] (fItems (fVar 3)) (.n 6) (fOr (fCmp dEq (fVar 6) (fVar 2)) (fCmp dNotIn (fVar 6) (fVar 1))) (fImm (fVar 6))) fNil)) fNil))))))
noncomputable def m_cluster_behind : List D → Mo D := mirF 8 3 g_cluster_behind
theorem ok_cluster_behind {P : Program} {w : World} {K : PySem.W.Frag} {mg : Str → Option Value} {base : Heap} (t : Top K mg) : FnOk P w K mg base CX0 2 t.a_cluster_behind t.d_cluster_behind ["scopes", "before", "thing"] (spF w K 3 m_cluster_behind) :=
  fl_okN (k := 1) (g := g_cluster_behind) 8 3 t.F_cluster_behind sc_cluster_behind rfl rfl fun cdv A outer s H Ee hcd hr =>
  (ss_cons (s_par2 (i := 3) (j := 4) (by rfl) sc_cluster_behind.nd (ae_cons (e_lst (ae_cons (B.e (b_var 2)) ae_nil)) (ae_cons e_int ae_nil)))
  (ss_cons (s_set (i := 5) (e_set1 (b_var 2) hcd) sc_cluster_behind.nd)
  (ss_cons (s_while (t_cmp op_dLt (b_var 4) (E.b (e_callB cr_bLen (by rfl) t.z_len bt_len (ab_cons (b_var 3) ab_nil))) (nomark _)) (ss_cons (s_set (i := 6) (B.e (b_ix (hu1 hr) (b_var 3) (b_var 4))) sc_cluster_behind.nd)
  (ss_cons (s_aug (i := 4) sc_cluster_behind.nd (E.b e_int) ip_dAdd)
  (ss_cons (s_if (TW.t (t_and (t_cmp (op_dNe (hu64 hr)) (b_var 6) (b_var 2) (nomark _)) (t_and1 (t_cmp (op_dNotIn (hu65 hr)) (b_var 6) (b_var 1) (by with_unfolding_all rfl))))) (ss_one s_continue) ss_nil)
  (ss_one (s_forN (lk := []) (by rfl) (i_seq (E.p (e_call (FnOk.mono (ok_tied_things t) (by decide)) hr (by rfl) t.q_tied_things t.F_tied_things.kp t.b_tied_things (ab_cons (b_var 0) (ab_cons (b_var 6) ab_nil))))) (g_n sc_cluster_behind.nd) (ss_one (s_if (t_cmp (op_dNotIn (hu65 hr)) (b_var 7) (b_var 5) (by with_unfolding_all rfl)) (ss_cons (s_add (i := 5) (b_var 7))
  (ss_one (s_app (i := 3) (B.e (b_var 7))))) ss_nil))))))))
  (ss_one (s_ret (e_callTy cr_bTuple (by rfl) t.z_tuple bt_tuple (ab_cons (E.b (e_callB (cr_bSorted (by rfl) (hu100 hr)) (by rfl) t.z_sorted bt_sorted (ab_cons (E.b (e_lc (by rfl) sc_cluster_behind.nd (i_seq (B.p (b_var 3))) (blkOk_by (own := [("at", 6)]) (by with_unfolding_all rfl)) (by decide) (fun _ _ _ _ _ => (g_n sc_cluster_behind.nd)) (fun _ _ _ _ _ => (ts_one (TW.t (t_or (t_cmp (op_dEq (hu64 hr)) (b_var 6) (b_var 2) (nomark _)) (t_or1 (t_cmp (op_dNotIn (hu65 hr)) (b_var 6) (b_var 1) (by with_unfolding_all rfl))))))) (fun _ _ _ _ _ => (B.e (b_var 6))))) ab_nil))) ab_nil)))))))
/-! clusters_by: slots 0 scopes, 1 sequence, 2 place, 3 thing -/
noncomputable def g_clusters_by : Sv :=
  (sRet (fCallB bTuple (fCons (fLc [2, 3] (fEnum (fCons (fVar 1) fNil)) (.t [2, 3]) fYes (fCall 3 m_cluster_behind (fCons (fVar 0) (fCons (fSl (fVar 1) fNoPart (fPart (fVar 2))) (fCons (fVar 3) fNil))))) fNil)))
noncomputable def m_clusters_by : List D → Mo D := mirF 4 2 g_clusters_by
theorem ok_clusters_by {P : Program} {w : World} {K : PySem.W.Frag} {mg : Str → Option Value} {base : Heap} (t : Top K mg) : FnOk P w K mg base CX0 3 t.a_clusters_by t.d_clusters_by ["scopes", "sequence"] (spF w K 2 m_clusters_by) :=
  fl_okN (k := 2) (g := g_clusters_by) 4 2 t.F_clusters_by sc_clusters_by rfl rfl fun cdv A outer s H Ee hcd hr =>
  (ss_one (s_ret (e_callTy cr_bTuple (by rfl) t.z_tuple bt_tuple (ab_cons (E.b (e_lc (by rfl) sc_clusters_by.nd (i_enum (by rfl) t.z_enumerate (AB.p (ab_cons (b_var 1) ab_nil))) (blkOk_by (own := [("place", 2), ("thing", 3)]) (by with_unfolding_all rfl)) (by decide) (fun _ _ _ _ _ => (g_t (by rfl) (gs_cons (gs_cons gs_nil sc_clusters_by.nd) sc_clusters_by.nd))) (fun _ _ _ _ _ => ts_nil) (fun _ _ _ _ _ => (e_call (FnOk.mono (ok_cluster_behind t) (by decide)) hr (by rfl) t.q_cluster_behind t.F_cluster_behind.kp t.b_cluster_behind (ab_cons (b_var 0) (ab_cons (E.b (e_slice (b_var 1) o_none (o_some (b_var 2)))) (ab_cons (b_var 3) ab_nil))))))) ab_nil))))
/-! scopes_left: slots 0 scopes, 1 sequence, 2 left, 3 thing, 4 joined, 5 other, 6 scope -/
noncomputable def g_scopes_left : Sv :=
  (sSeq (sSet 2 (fCallB bList (fCons (fVar 0) fNil)))
  (sSeq (sFor [1] (fItems (fVar 1)) (.n 3) (sSeq (sSet 4 (fSc [5] (fItems (fCall 2 m_tied_things (fCons (fVar 2) (fCons (fVar 3) fNil)))) (.n 5) (fCmp dNe (fVar 5) (fVar 3)) (fImm (fVar 5))))
  (sSeq (sSet 2 (fLc [6] (fItems (fVar 2)) (.n 6) (fCmp dNotIn (fVar 3) (fVar 6)) (fImm (fVar 6))))
  (sApp 2 (fCallB bTuple (fCons (fCallB bSorted (fCons (fVar 4) fNil)) fNil))))))
  (sRet (fCallB bTuple (fCons (fVar 2) fNil)))))
noncomputable def m_scopes_left : List D → Mo D := mirF 7 2 g_scopes_left
theorem ok_scopes_left {P : Program} {w : World} {K : PySem.W.Frag} {mg : Str → Option Value} {base : Heap} (t : Top K mg) : FnOk P w K mg base CX0 2 t.a_scopes_left t.d_scopes_left ["scopes", "sequence"] (spF w K 2 m_scopes_left) :=
  fl_okN (k := 1) (g := g_scopes_left) 7 2 t.F_scopes_left sc_scopes_left rfl rfl fun cdv A outer s H Ee hcd hr =>
  (ss_cons (s_set (i := 2) (e_callTy (cr_bList (by rfl)) (by rfl) t.z_list bt_list (ab_cons (b_var 0) ab_nil)) sc_scopes_left.nd)
  (ss_cons (s_for (lk := [1]) (by rfl) (i_seq (B.p (b_var 1))) (g_n sc_scopes_left.nd) (ss_cons (s_setSc (i := 4) (by rfl) sc_scopes_left.nd (i_seq (B.p (E.b (e_call (FnOk.mono (ok_tied_things t) (by decide)) hr (by rfl) t.q_tied_things t.F_tied_things.kp t.b_tied_things (ab_cons (b_var 2) (ab_cons (b_var 3) ab_nil)))))) (blkOk_by (own := [("other", 5)]) (by with_unfolding_all rfl)) (by decide) (fun _ _ _ _ _ => (g_n sc_scopes_left.nd)) (fun _ _ _ _ _ => (ts_one (t_cmp (op_dNe (hu64 hr)) (b_var 5) (b_var 3) (nomark _)))) (fun _ _ _ _ _ => (B.e (b_var 5))))
  (ss_cons (s_setLc (i := 2) (by rfl) sc_scopes_left.nd (i_seq (B.p (b_var 2))) (blkOk_by (own := [("scope", 6)]) (by with_unfolding_all rfl)) (by decide) (fun _ _ _ _ _ => (g_n sc_scopes_left.nd)) (fun _ _ _ _ _ => (ts_one (t_cmp (op_dNotIn (hu65 hr)) (b_var 3) (b_var 6) (by with_unfolding_all rfl)))) (fun _ _ _ _ _ => (B.e (b_var 6))))
  (ss_one (s_app (i := 2) (e_callTy cr_bTuple (by rfl) t.z_tuple bt_tuple (ab_cons (E.b (e_callB (cr_bSorted (by rfl) (hu100 hr)) (by rfl) t.z_sorted bt_sorted (ab_cons (b_var 4) ab_nil))) ab_nil)))))))
  (ss_one (s_ret (e_callTy cr_bTuple (by rfl) t.z_tuple bt_tuple (ab_cons (b_var 2) ab_nil))))))
/-! flows_by: slots 0 scopes, 1 sequence, 2 found, 3 place, 4 cluster, 5 later, 6 other -/
noncomputable def g_flows_by : Sv :=
  (sSeq (sSet 2 (fLst fNil))
  (sSeq (sForN [] (fEnum (fCons (fCall 2 m_clusters_by (fCons (fVar 0) (fCons (fVar 1) fNil))) fNil)) (.t [3, 4]) (sSeq (sSet 5 (fLc [6] (fItems (fSl (fVar 1) (fPart (fBin dAdd (fVar 3) (fC (.int 1)))) fNoPart)) (.n 6) (fCmp dIn (fVar 6) (fVar 4)) (fImm (fVar 6))))
  (sApp 2 (fImm (fIf (fCmp dNe (fVar 5) (fLst fNil)) (fIx (fVar 5) (fC (.int 0))) (fC .non))))))
  (sRet (fCallB bTuple (fCons (fVar 2) fNil)))))
noncomputable def m_flows_by : List D → Mo D := mirF 7 2 g_flows_by
theorem ok_flows_by {P : Program} {w : World} {K : PySem.W.Frag} {mg : Str → Option Value} {base : Heap} (t : Top K mg) : FnOk P w K mg base CX0 4 t.a_flows_by t.d_flows_by ["scopes", "sequence"] (spF w K 2 m_flows_by) :=
  fl_okN (k := 3) (g := g_flows_by) 7 2 t.F_flows_by sc_flows_by rfl rfl fun cdv A outer s H Ee hcd hr =>
  (ss_cons (s_set (i := 2) (e_lst ae_nil) sc_flows_by.nd)
  (ss_cons (s_forN (lk := []) (by rfl) (i_enum (by rfl) t.z_enumerate (AE.p (ae_cons (e_call (FnOk.mono (ok_clusters_by t) (by decide)) hr (by rfl) t.q_clusters_by t.F_clusters_by.kp t.b_clusters_by (ab_cons (b_var 0) (ab_cons (b_var 1) ab_nil))) ae_nil))) (g_t (by rfl) (gs_cons (gs_cons gs_nil sc_flows_by.nd) sc_flows_by.nd)) (ss_cons (s_setLc (i := 5) (by rfl) sc_flows_by.nd (i_seq (B.p (E.b (e_slice (b_var 1) (o_some (E.b (e_bin op_dAdd (b_var 3) (E.b e_int)))) o_none)))) (blkOk_by (own := [("other", 6)]) (by with_unfolding_all rfl)) (by decide) (fun _ _ _ _ _ => (g_n sc_flows_by.nd)) (fun _ _ _ _ _ => (ts_one (t_cmp (op_dIn (hu65 hr)) (b_var 6) (b_var 4) (by with_unfolding_all rfl)))) (fun _ _ _ _ _ => (B.e (b_var 6))))
  (ss_one (s_app (i := 2) (B.e (b_ifExp (t_cmp (op_dNe (hu64 hr)) (b_var 5) (E.b (e_lst ae_nil)) (nomark _)) (b_ix (hu1 hr) (b_var 5) (E.b e_int)) (E.b e_non)))))))
  (ss_one (s_ret (e_callTy cr_bTuple (by rfl) t.z_tuple bt_tuple (ab_cons (b_var 2) ab_nil))))))
/-! settled_sequence: slots 0 scopes, 1 sequence, 2 flows, 3 left, 4 found, 5 goals, 6 awaited, 7 thing, 8 flow -/
noncomputable def g_settled_sequence : Sv :=
  (sSeq (sPar [2, 3, 4] (fCons (fCall 2 m_flows_by (fCons (fVar 0) (fCons (fVar 1) fNil))) (fCons (fCallB bSorted (fCons (fVar 1) fNil)) (fCons (fLst fNil) fNil))))
  (sSeq (sSet 5 (fDc [7, 8] (fZip (fCons (fVar 1) (fCons (fVar 2) fNil))) (.t [7, 8]) fYes (fVar 7) (fImm (fVar 8))))
  (sSeq (sWhile (fCmp dNe (fVar 3) (fLst fNil)) (sSeq (sSet 6 (fLc [7] (fItems (fVar 3)) (.n 7) fYes (fImm (fIx (fVar 5) (fVar 7)))))
  (sSeq (sSet 7 (fCallB bMin (fCons (fLc [7] (fItems (fVar 3)) (.n 7) (fCmp dNotIn (fVar 7) (fVar 6)) (fImm (fVar 7))) fNil)))
  (sSeq (sM (mRem 3 (fVar 7)))
  (sApp 4 (fImm (fVar 7)))))))
  (sRet (fCallB bTuple (fCons (fVar 4) fNil))))))
noncomputable def m_settled_sequence : List D → Mo D := mirF 9 2 g_settled_sequence
theorem ok_settled_sequence {P : Program} {w : World} {K : PySem.W.Frag} {mg : Str → Option Value} {base : Heap} (t : Top K mg) : FnOk P w K mg base CX0 5 t.a_settled_sequence t.d_settled_sequence ["scopes", "sequence"] (spF w K 2 m_settled_sequence) :=
  fl_okN (k := 4) (g := g_settled_sequence) 9 2 t.F_settled_sequence sc_settled_sequence rfl rfl fun cdv A outer s H Ee hcd hr =>
  (ss_cons (s_par3 (i := 2) (j := 3) (l := 4) (by rfl) sc_settled_sequence.nd (ae_cons (e_call (FnOk.mono (ok_flows_by t) (by decide)) hr (by rfl) t.q_flows_by t.F_flows_by.kp t.b_flows_by (ab_cons (b_var 0) (ab_cons (b_var 1) ab_nil))) (ae_cons (e_callB (cr_bSorted (by rfl) (hu100 hr)) (by rfl) t.z_sorted bt_sorted (ab_cons (b_var 1) ab_nil)) (ae_cons (e_lst ae_nil) ae_nil))))
  (ss_cons (s_set (i := 5) (e_dc (by rfl) sc_settled_sequence.nd (i_zip (by rfl) t.z_zip (AB.p (ab_cons (b_var 1) (ab_cons (b_var 2) ab_nil)))) (blkOk_by (own := [("thing", 7), ("flow", 8)]) (by with_unfolding_all rfl)) (by decide) (fun _ _ _ _ _ => (g_t (by rfl) (gs_cons (gs_cons gs_nil sc_settled_sequence.nd) sc_settled_sequence.nd))) (fun _ _ _ _ _ => ts_nil) (fun _ _ _ _ _ => (b_var 7)) (fun _ _ _ _ _ => (B.e (b_var 8)))) sc_settled_sequence.nd)
  (ss_cons (s_while (t_cmp (op_dNe (hu64 hr)) (b_var 3) (E.b (e_lst ae_nil)) (nomark _)) (ss_cons (s_set (i := 6) (e_lc (by rfl) sc_settled_sequence.nd (i_seq (B.p (b_var 3))) (blkOk_by (own := [("thing", 7)]) (by with_unfolding_all rfl)) (by decide) (fun _ _ _ _ _ => (g_n sc_settled_sequence.nd)) (fun _ _ _ _ _ => ts_nil) (fun _ _ _ _ _ => (B.e (b_ix (hu1 hr) (b_var 5) (b_var 7))))) sc_settled_sequence.nd)
  (ss_cons (s_set (i := 7) (e_callB (cr_bMin (by rfl) (hu100 hr)) (by rfl) t.z_min bt_min (ab_cons (E.b (e_lc (by rfl) sc_settled_sequence.nd (i_seq (B.p (b_var 3))) (blkOk_by (own := [("thing", 7)]) (by with_unfolding_all rfl)) (by decide) (fun _ _ _ _ _ => (g_n sc_settled_sequence.nd)) (fun _ _ _ _ _ => (ts_one (t_cmp (op_dNotIn (hu65 hr)) (b_var 7) (b_var 6) (by with_unfolding_all rfl)))) (fun _ _ _ _ _ => (B.e (b_var 7))))) ab_nil)) sc_settled_sequence.nd)
  (ss_cons (s_m (em_rem (i := 3) (b_var 7)))
  (ss_one (s_app (i := 4) (B.e (b_var 7))))))))
  (ss_one (s_ret (e_callTy cr_bTuple (by rfl) t.z_tuple bt_tuple (ab_cons (b_var 4) ab_nil)))))))
/-! lot_size: slots 0 counts, 1 lot, 2 thing -/
noncomputable def g_lot_size : Sv :=
  (sRet (fCall 1 m_fill_count (fCons (fLc [2] (fItems (fVar 1)) (.n 2) fYes (fImm (fIx (fVar 0) (fVar 2)))) fNil)))
noncomputable def m_lot_size : List D → Mo D := mirF 3 2 g_lot_size
theorem ok_lot_size {P : Program} {w : World} {K : PySem.W.Frag} {mg : Str → Option Value} {base : Heap} (t : Top K mg) : FnOk P w K mg base CX0 2 t.a_lot_size t.d_lot_size ["counts", "lot"] (spF w K 2 m_lot_size) :=
  fl_okN (k := 1) (g := g_lot_size) 3 2 t.F_lot_size sc_lot_size rfl rfl fun cdv A outer s H Ee hcd hr =>
  (ss_one (s_ret (e_call (FnOk.mono (ok_fill_count t) (by decide)) hr (by rfl) t.q_fill_count t.F_fill_count.kp t.b_fill_count (ab_cons (E.b (e_lc (by rfl) sc_lot_size.nd (i_seq (B.p (b_var 1))) (blkOk_by (own := [("thing", 2)]) (by with_unfolding_all rfl)) (by decide) (fun _ _ _ _ _ => (g_n sc_lot_size.nd)) (fun _ _ _ _ _ => ts_nil) (fun _ _ _ _ _ => (B.e (b_ix (hu1 hr) (b_var 0) (b_var 2)))))) ab_nil))))
/-! sizes_by: slots 0 counts, 1 scopes, 2 sequence, 3 cluster -/
noncomputable def g_sizes_by : Sv :=
  (sRet (fCallB bTuple (fCons (fLc [3] (fItems (fCall 2 m_clusters_by (fCons (fVar 1) (fCons (fVar 2) fNil)))) (.n 3) fYes (fCall 2 m_lot_size (fCons (fVar 0) (fCons (fVar 3) fNil)))) fNil)))
noncomputable def m_sizes_by : List D → Mo D := mirF 4 3 g_sizes_by
theorem ok_sizes_by {P : Program} {w : World} {K : PySem.W.Frag} {mg : Str → Option Value} {base : Heap} (t : Top K mg) : FnOk P w K mg base CX0 4 t.a_sizes_by t.d_sizes_by ["counts", "scopes", "sequence"] (spF w K 3 m_sizes_by) :=
  fl_okN (k := 3) (g := g_sizes_by) 4 3 t.F_sizes_by sc_sizes_by rfl rfl fun cdv A outer s H Ee hcd hr =>
  (ss_one (s_ret (e_callTy cr_bTuple (by rfl) t.z_tuple bt_tuple (ab_cons (E.b (e_lc (by rfl) sc_sizes_by.nd (i_seq (B.p (E.b (e_call (FnOk.mono (ok_clusters_by t) (by decide)) hr (by rfl) t.q_clusters_by t.F_clusters_by.kp t.b_clusters_by (ab_cons (b_var 1) (ab_cons (b_var 2) ab_nil)))))) (blkOk_by (own := [("cluster", 3)]) (by with_unfolding_all rfl)) (by decide) (fun _ _ _ _ _ => (g_n sc_sizes_by.nd)) (fun _ _ _ _ _ => ts_nil) (fun _ _ _ _ _ => (e_call (FnOk.mono (ok_lot_size t) (by decide)) hr (by rfl) t.q_lot_size t.F_lot_size.kp t.b_lot_size (ab_cons (b_var 0) (ab_cons (b_var 3) ab_nil)))))) ab_nil))))
/-! joined_cost: slots 0 kind, 1 one, 2 other -/
noncomputable def g_joined_cost : Sv :=
  (sRet (fIf (fCmp dEq (fVar 0) (fC (.str (PySem.Str.ofString "greatest")))) (fCallB bMax (fCons (fVar 1) (fCons (fVar 2) fNil))) (fBin dAdd (fVar 1) (fVar 2))))
noncomputable def m_joined_cost : List D → Mo D := mirF 3 3 g_joined_cost
theorem ok_joined_cost {P : Program} {w : World} {K : PySem.W.Frag} {mg : Str → Option Value} {base : Heap} (t : Top K mg) : FnOk P w K mg base CX0 1 t.a_joined_cost t.d_joined_cost ["kind", "one", "other"] (spF w K 3 m_joined_cost) :=
  fl_okN (k := 0) (g := g_joined_cost) 3 3 t.F_joined_cost sc_joined_cost rfl rfl fun cdv A outer s H Ee hcd hr =>
  (ss_one (s_ret (e_ifExp (t_cmp (op_dEq (hu64 hr)) (b_var 0) (E.b e_str) (nomark _)) (e_callB (cr_bMax (by rfl) (hu100 hr)) (by rfl) t.z_max bt_max (ab_cons (b_var 1) (ab_cons (b_var 2) ab_nil))) (e_bin op_dAdd (b_var 1) (b_var 2)))))
/-! cost_by: slots 0 counts, 1 scopes, 2 sequence, 3 kind, 4 found, 5 size -/
noncomputable def g_cost_by : Sv :=
  (sSeq (sSet 4 (fC (.int 0)))
  (sSeq (sForN [] (fItems (fCall 3 m_sizes_by (fCons (fVar 0) (fCons (fVar 1) (fCons (fVar 2) fNil))))) (.n 5) (sSet 4 (fCall 3 m_joined_cost (fCons (fVar 3) (fCons (fVar 4) (fCons (fVar 5) fNil))))))
  (sRetN 4)))
noncomputable def m_cost_by : List D → Mo D := mirF 6 4 g_cost_by
theorem ok_cost_by {P : Program} {w : World} {K : PySem.W.Frag} {mg : Str → Option Value} {base : Heap} (t : Top K mg) : FnOk P w K mg base CX0 5 t.a_cost_by t.d_cost_by ["counts", "scopes", "sequence", "kind"] (spF w K 4 m_cost_by) :=
  fl_okN (k := 4) (g := g_cost_by) 6 4 t.F_cost_by sc_cost_by rfl rfl fun cdv A outer s H Ee hcd hr =>
  (ss_cons (s_set (i := 4) e_int sc_cost_by.nd)
  (ss_cons (s_forN (lk := []) (by rfl) (i_seq (E.p (e_call (FnOk.mono (ok_sizes_by t) (by decide)) hr (by rfl) t.q_sizes_by t.F_sizes_by.kp t.b_sizes_by (ab_cons (b_var 0) (ab_cons (b_var 1) (ab_cons (b_var 2) ab_nil)))))) (g_n sc_cost_by.nd) (ss_one (s_set (i := 4) (e_call (FnOk.mono (ok_joined_cost t) (by decide)) hr (by rfl) t.q_joined_cost t.F_joined_cost.kp t.b_joined_cost (ab_cons (b_var 3) (ab_cons (b_var 4) (ab_cons (b_var 5) ab_nil)))) sc_cost_by.nd)))
  (ss_one (s_retN 4))))
/-! greedy_sequence: slots 0 counts, 1 scopes, 2 lot, 3 found, 4 left, 5 sizes, 6 thing -/
noncomputable def g_greedy_sequence : Sv :=
  (sSeq (sUnp [3, 4] (fTup (fCons (fTup fNil) (fCons (fCallB bList (fCons (fVar 2) fNil)) fNil))))
  (sSeq (sWhile (fCmp dNe (fVar 4) (fLst fNil)) (sSeq (sSet 5 (fLc [6] (fItems (fVar 4)) (.n 6) fYes (fTup (fCons (fCall 2 m_lot_size (fCons (fVar 0) (fCons (fCall 3 m_cluster_behind (fCons (fVar 1) (fCons (fVar 3) (fCons (fVar 6) fNil)))) fNil))) (fCons (fImm (fVar 6)) fNil)))))
  (sSeq (sSet 6 (fImm (fIx (fCallB bMin (fCons (fVar 5) fNil)) (fC (.int 1)))))
  (sSeq (sM (mRem 4 (fVar 6)))
  (sAug 3 dIAdd (fTup (fCons (fImm (fVar 6)) fNil)))))))
  (sRetN 3)))
noncomputable def m_greedy_sequence : List D → Mo D := mirF 7 3 g_greedy_sequence
theorem ok_greedy_sequence {P : Program} {w : World} {K : PySem.W.Frag} {mg : Str → Option Value} {base : Heap} (t : Top K mg) : FnOk P w K mg base CX0 3 t.a_greedy_sequence t.d_greedy_sequence ["counts", "scopes", "lot"] (spF w K 3 m_greedy_sequence) :=
  fl_okN (k := 2) (g := g_greedy_sequence) 7 3 t.F_greedy_sequence sc_greedy_sequence rfl rfl fun cdv A outer s H Ee hcd hr =>
  (ss_cons (s_unp (is := [3, 4]) (e_tup (ae_cons (e_tup ae_nil) (ae_cons (e_callTy (cr_bList (by rfl)) (by rfl) t.z_list bt_list (ab_cons (b_var 2) ab_nil)) ae_nil))) (g_t (by rfl) (gs_cons (gs_cons gs_nil sc_greedy_sequence.nd) sc_greedy_sequence.nd)))
  (ss_cons (s_while (t_cmp (op_dNe (hu64 hr)) (b_var 4) (E.b (e_lst ae_nil)) (nomark _)) (ss_cons (s_setLc (i := 5) (by rfl) sc_greedy_sequence.nd (i_seq (B.p (b_var 4))) (blkOk_by (own := [("thing", 6)]) (by with_unfolding_all rfl)) (by decide) (fun _ _ _ _ _ => (g_n sc_greedy_sequence.nd)) (fun _ _ _ _ _ => ts_nil) (fun _ _ _ _ _ => (e_tup (ae_cons (e_call (FnOk.mono (ok_lot_size t) (by decide)) hr (by rfl) t.q_lot_size t.F_lot_size.kp t.b_lot_size (ab_cons (b_var 0) (ab_cons (E.b (e_call (FnOk.mono (ok_cluster_behind t) (by decide)) hr (by rfl) t.q_cluster_behind t.F_cluster_behind.kp t.b_cluster_behind (ab_cons (b_var 1) (ab_cons (b_var 3) (ab_cons (b_var 6) ab_nil))))) ab_nil))) (ae_cons (B.e (b_var 6)) ae_nil)))))
  (ss_cons (s_set (i := 6) (B.e (b_ix (hu1 hr) (E.b (e_callB (cr_bMin (by rfl) (hu100 hr)) (by rfl) t.z_min bt_min (ab_cons (b_var 5) ab_nil))) (E.b e_int))) sc_greedy_sequence.nd)
  (ss_cons (s_m (em_rem (i := 4) (b_var 6)))
  (ss_one (s_aug (i := 3) sc_greedy_sequence.nd (E.b (e_tup (ae_cons (B.e (b_var 6)) ae_nil))) ip_dAdd))))))
  (ss_one (s_retN 3))))
/-! is_free: slots 0 scopes, 1 before, 2 thing, 3 cluster, 4 others, 5 other, 6 one -/
noncomputable def g_is_free : Sv :=
  (sSeq (sSet 3 (fCall 3 m_cluster_behind (fCons (fVar 0) (fCons (fVar 1) (fCons (fVar 2) fNil)))))
  (sSeq (sSet 4 (fLc [5] (fItems (fVar 3)) (.n 5) (fCmp dNe (fVar 5) (fVar 2)) (fImm (fVar 5))))
  (sRet (fCallB bAll (fCons (fLc2 [6, 5] (fItems (fVar 4)) (.n 6) fYes (fItems (fVar 4)) (.n 5) fYes (fB (fCmp dIn (fVar 5) (fCall 3 m_cluster_behind (fCons (fVar 0) (fCons (fVar 1) (fCons (fVar 6) fNil)))))) [5]) fNil)))))
noncomputable def m_is_free : List D → Mo D := mirF 7 3 g_is_free
theorem ok_is_free {P : Program} {w : World} {K : PySem.W.Frag} {mg : Str → Option Value} {base : Heap} (t : Top K mg) : FnOk P w K mg base CX0 3 t.a_is_free t.d_is_free ["scopes", "before", "thing"] (spF w K 3 m_is_free) :=
  fl_okN (k := 2) (g := g_is_free) 7 3 t.F_is_free sc_is_free rfl rfl fun cdv A outer s H Ee hcd hr =>
  (ss_cons (s_set (i := 3) (e_call (FnOk.mono (ok_cluster_behind t) (by decide)) hr (by rfl) t.q_cluster_behind t.F_cluster_behind.kp t.b_cluster_behind (ab_cons (b_var 0) (ab_cons (b_var 1) (ab_cons (b_var 2) ab_nil)))) sc_is_free.nd)
  (ss_cons (s_set (i := 4) (e_lc (by rfl) sc_is_free.nd (i_seq (B.p (b_var 3))) (blkOk_by (own := [("other", 5)]) (by with_unfolding_all rfl)) (by decide) (fun _ _ _ _ _ => (g_n sc_is_free.nd)) (fun _ _ _ _ _ => (ts_one (t_cmp (op_dNe (hu64 hr)) (b_var 5) (b_var 2) (nomark _)))) (fun _ _ _ _ _ => (B.e (b_var 5)))) sc_is_free.nd)
  (ss_one (s_ret (e_callB (cr_bAll (by rfl)) (by rfl) t.z_all bt_all (ab_cons (E.b (e_lc2 (vs1 := [5]) (by rfl) sc_is_free.nd (i_seq (B.p (b_var 4))) (blkOk_by (own := [("one", 6), ("other", 5)]) (by with_unfolding_all rfl)) (by decide) (by decide) (by decide) (fun _ _ _ _ _ => (g_n sc_is_free.nd)) (fun _ _ _ _ _ => ts_nil) (fun _ _ _ _ _ => (i_seq (B.p (b_var 4)))) (fun _ _ _ _ _ => (g_n sc_is_free.nd)) (fun _ _ _ _ _ => ts_nil) (fun _ _ _ _ _ => (e_cmp (op_dIn (hu65 hr)) (b_var 5) (E.b (e_call (FnOk.mono (ok_cluster_behind t) (by decide)) hr (by rfl) t.q_cluster_behind t.F_cluster_behind.kp t.b_cluster_behind (ab_cons (b_var 0) (ab_cons (b_var 1) (ab_cons (b_var 6) ab_nil))))) (by with_unfolding_all rfl))))) ab_nil))))))
/-! free_first: slots 0 scopes, 1 lot, 2 found, 3 left, 4 turn, 5 free, 6 thing -/
noncomputable def g_free_first : Sv :=
  (sSeq (sUnp [2, 3] (fTup (fCons (fTup fNil) (fCons (fCallB bList (fCons (fVar 1) fNil)) fNil))))
  (sSeq (sForN [] (fRange1 (fCons (fCallB bLen (fCons (fVar 1) fNil)) fNil)) (.n 4) (sSeq (sSet 5 (fLc [6] (fItems (fVar 3)) (.n 6) (fTB (fCall 3 m_is_free (fCons (fVar 0) (fCons (fVar 2) (fCons (fVar 6) fNil))))) (fImm (fVar 6))))
  (sSeq (sIf (fCmp dEq (fVar 5) (fLst fNil)) (sPure .bk) (sPure .nx))
  (sSeq (sM (mRem 3 (fIx (fVar 5) (fC (.int 0)))))
  (sAug 2 dIAdd (fTup (fCons (fImm (fIx (fVar 5) (fC (.int 0)))) fNil)))))))
  (sRetN 2)))
noncomputable def m_free_first : List D → Mo D := mirF 7 2 g_free_first
theorem ok_free_first {P : Program} {w : World} {K : PySem.W.Frag} {mg : Str → Option Value} {base : Heap} (t : Top K mg) : FnOk P w K mg base CX0 4 t.a_free_first t.d_free_first ["scopes", "lot"] (spF w K 2 m_free_first) :=
  fl_okN (k := 3) (g := g_free_first) 7 2 t.F_free_first sc_free_first rfl rfl fun cdv A outer s H Ee hcd hr =>
  (ss_cons (s_unp (is := [2, 3]) (e_tup (ae_cons (e_tup ae_nil) (ae_cons (e_callTy (cr_bList (by rfl)) (by rfl) t.z_list bt_list (ab_cons (b_var 1) ab_nil)) ae_nil))) (g_t (by rfl) (gs_cons (gs_cons gs_nil sc_free_first.nd) sc_free_first.nd)))
  (ss_cons (s_forN (lk := []) (by rfl) (i_range1 (by rfl) t.z_range (ab_cons (E.b (e_callB cr_bLen (by rfl) t.z_len bt_len (ab_cons (b_var 1) ab_nil))) ab_nil)) (g_n sc_free_first.nd) (ss_cons (s_setLc (i := 5) (by rfl) sc_free_first.nd (i_seq (B.p (b_var 3))) (blkOk_by (own := [("thing", 6)]) (by with_unfolding_all rfl)) (by decide) (fun _ _ _ _ _ => (g_n sc_free_first.nd)) (fun _ _ _ _ _ => (ts_one (t_val (E.b (e_call (FnOk.mono (ok_is_free t) (by decide)) hr (by rfl) t.q_is_free t.F_is_free.kp t.b_is_free (ab_cons (b_var 0) (ab_cons (b_var 2) (ab_cons (b_var 6) ab_nil)))))))) (fun _ _ _ _ _ => (B.e (b_var 6))))
  (ss_cons (s_if (t_cmp (op_dEq (hu64 hr)) (b_var 5) (E.b (e_lst ae_nil)) (nomark _)) (ss_one s_break) ss_nil)
  (ss_cons (s_m (em_rem (i := 3) (b_ix (hu1 hr) (b_var 5) (E.b e_int))))
  (ss_one (s_aug (i := 2) sc_free_first.nd (E.b (e_tup (ae_cons (B.e (b_ix (hu1 hr) (b_var 5) (E.b e_int))) ae_nil))) ip_dAdd))))))
  (ss_one (s_retN 2))))
/-! tied_size: slots 0 counts, 1 scopes, 2 away, 3 thing, 4 kept, 5 other -/
noncomputable def g_tied_size : Sv :=
  (sSeq (sSet 4 (fSc [5] (fItems (fCall 2 m_tied_things (fCons (fVar 1) (fCons (fVar 3) fNil)))) (.n 5) (fCmp dNotIn (fVar 5) (fVar 2)) (fImm (fVar 5))))
  (sSeq (sAdd 4 (fVar 3))
  (sRet (fCall 2 m_lot_size (fCons (fVar 0) (fCons (fCallB bSorted (fCons (fVar 4) fNil)) fNil))))))
noncomputable def m_tied_size : List D → Mo D := mirF 6 4 g_tied_size
theorem ok_tied_size {P : Program} {w : World} {K : PySem.W.Frag} {mg : Str → Option Value} {base : Heap} (t : Top K mg) : FnOk P w K mg base CX0 3 t.a_tied_size t.d_tied_size ["counts", "scopes", "away", "thing"] (spF w K 4 m_tied_size) :=
  fl_okN (k := 2) (g := g_tied_size) 6 4 t.F_tied_size sc_tied_size rfl rfl fun cdv A outer s H Ee hcd hr =>
  (ss_cons (s_setSc (i := 4) (by rfl) sc_tied_size.nd (i_seq (B.p (E.b (e_call (FnOk.mono (ok_tied_things t) (by decide)) hr (by rfl) t.q_tied_things t.F_tied_things.kp t.b_tied_things (ab_cons (b_var 1) (ab_cons (b_var 3) ab_nil)))))) (blkOk_by (own := [("other", 5)]) (by with_unfolding_all rfl)) (by decide) (fun _ _ _ _ _ => (g_n sc_tied_size.nd)) (fun _ _ _ _ _ => (ts_one (t_cmp (op_dNotIn (hu65 hr)) (b_var 5) (b_var 2) (by with_unfolding_all rfl)))) (fun _ _ _ _ _ => (B.e (b_var 5))))
  (ss_cons (s_add (i := 4) (b_var 3))
  (ss_one (s_ret (e_call (FnOk.mono (ok_lot_size t) (by decide)) hr (by rfl) t.q_lot_size t.F_lot_size.kp t.b_lot_size (ab_cons (b_var 0) (ab_cons (E.b (e_callB (cr_bSorted (by rfl) (hu100 hr)) (by rfl) t.z_sorted bt_sorted (ab_cons (b_var 4) ab_nil))) ab_nil)))))))
/-! core_floor: slots 0 counts, 1 scopes, 2 lot, 3 best, 4 core, 5 left, 6 away, 7 size, 8 thing -/
noncomputable def g_core_floor : Sv :=
  (sSeq (sUnp [3, 4, 5, 6] (fTup (fCons (fC (.int 0)) (fCons (fTup fNil) (fCons (fCallB bList (fCons (fVar 2) fNil)) (fCons (fLst fNil) fNil))))))
  (sSeq (sWhile (fCmp dNe (fVar 5) (fLst fNil)) (sSeq (sUnp [7, 8] (fCallB bMin (fCons (fLc [8] (fItems (fVar 5)) (.n 8) fYes (fTup (fCons (fCall 4 m_tied_size (fCons (fVar 0) (fCons (fVar 1) (fCons (fVar 6) (fCons (fVar 8) fNil))))) (fCons (fImm (fVar 8)) fNil)))) fNil)))
  (sSeq (sIf (fCmp dGt (fVar 7) (fVar 3)) (sPar [3, 4] (fCons (fImm (fVar 7)) (fCons (fCallB bTuple (fCons (fVar 5) fNil)) fNil))) (sPure .nx))
  (sSeq (sM (mRem 5 (fVar 8)))
  (sApp 6 (fImm (fVar 8)))))))
  (sRet (fTup (fCons (fImm (fVar 3)) (fCons (fImm (fVar 4)) fNil))))))
noncomputable def m_core_floor : List D → Mo D := mirF 9 3 g_core_floor
theorem ok_core_floor {P : Program} {w : World} {K : PySem.W.Frag} {mg : Str → Option Value} {base : Heap} (t : Top K mg) : FnOk P w K mg base CX0 4 t.a_core_floor t.d_core_floor ["counts", "scopes", "lot"] (spF w K 3 m_core_floor) :=
  fl_okN (k := 3) (g := g_core_floor) 9 3 t.F_core_floor sc_core_floor rfl rfl fun cdv A outer s H Ee hcd hr =>
  (ss_cons (s_unp (is := [3, 4, 5, 6]) (e_tup (ae_cons e_int (ae_cons (e_tup ae_nil) (ae_cons (e_callTy (cr_bList (by rfl)) (by rfl) t.z_list bt_list (ab_cons (b_var 2) ab_nil)) (ae_cons (e_lst ae_nil) ae_nil))))) (g_t (by rfl) (gs_cons (gs_cons (gs_cons (gs_cons gs_nil sc_core_floor.nd) sc_core_floor.nd) sc_core_floor.nd) sc_core_floor.nd)))
  (ss_cons (s_while (t_cmp (op_dNe (hu64 hr)) (b_var 5) (E.b (e_lst ae_nil)) (nomark _)) (ss_cons (s_unp (is := [7, 8]) (e_callB (cr_bMin (by rfl) (hu100 hr)) (by rfl) t.z_min bt_min (ab_cons (E.b (e_lc (by rfl) sc_core_floor.nd (i_seq (B.p (b_var 5))) (blkOk_by (own := [("thing", 8)]) (by with_unfolding_all rfl)) (by decide) (fun _ _ _ _ _ => (g_n sc_core_floor.nd)) (fun _ _ _ _ _ => ts_nil) (fun _ _ _ _ _ => (e_tup (ae_cons (e_call (FnOk.mono (ok_tied_size t) (by decide)) hr (by rfl) t.q_tied_size t.F_tied_size.kp t.b_tied_size (ab_cons (b_var 0) (ab_cons (b_var 1) (ab_cons (b_var 6) (ab_cons (b_var 8) ab_nil))))) (ae_cons (B.e (b_var 8)) ae_nil)))))) ab_nil)) (g_t (by rfl) (gs_cons (gs_cons gs_nil sc_core_floor.nd) sc_core_floor.nd)))
  (ss_cons (s_if (t_cmp op_dGt (b_var 7) (b_var 3) (nomark _)) (ss_one (s_par2 (i := 3) (j := 4) (by rfl) sc_core_floor.nd (ae_cons (B.e (b_var 7)) (ae_cons (e_callTy cr_bTuple (by rfl) t.z_tuple bt_tuple (ab_cons (b_var 5) ab_nil)) ae_nil)))) ss_nil)
  (ss_cons (s_m (em_rem (i := 5) (b_var 8)))
  (ss_one (s_app (i := 6) (B.e (b_var 8))))))))
  (ss_one (s_ret (e_tup (ae_cons (B.e (b_var 3)) (ae_cons (B.e (b_var 4)) ae_nil)))))))

end K87

set_option Elab.async false
set_option linter.all false
set_option maxRecDepth 100000
set_option maxHeartbeats 4000000
namespace K87
open PySem PySem.Spec L2 FL
/-! _law_heap: slots 0 script, 1 cells, 2 stir, 3 cell -/
noncomputable def g__law_heap : Sv :=
  (sSeq (sPar [1, 2] (fCons (fLc [3] (fItems (fSlS (fVar 0) fNoPart (fPart (fC (.int 60))))) (.n 3) fYes (fBin dAdd (fBin dMul (fC (.int 2)) (fCallB bAbs (fCons (fVar 3) fNil))) (fCallB bInt (fCons (fB (fCmp dLt (fVar 3) (fC (.int 0)))) fNil)))) (fCons (fC (.int 87251)) fNil)))
  (sSeq (sFor [1] (fItems (fVar 1)) (.n 3) (sSet 2 (fBin dMod (fCallB bInt (fCons (fBin dAdd (fBin dAdd (fBin dMul (fVar 2) (fC (.int 69621))) (fBin dMod (fCallB bInt (fCons (fVar 3) fNil)) (fC (.int 2147483563)))) (fC (.int 29))) fNil)) (fC (.int 2147483647)))))
  (sRet (fLst (fCons (fRev (fLc [3] (fItems (fVar 1)) (.n 3) (fCmp dGe (fVar 3) (fBin dPow (fC (.int 10)) (fC (.int 18)))) (fImm (fVar 3)))) (fCons (fImm (fVar 2)) fNil))))))
noncomputable def m__law_heap : List D → Mo D := mirF 4 1 g__law_heap
theorem ok__law_heap {P : Program} {w : World} {K : PySem.W.Frag} {mg : Str → Option Value} {base : Heap} (t : Top K mg) : FnOk P w K mg base CX0 1 t.a__law_heap t.d__law_heap ["script"] (spF w K 1 m__law_heap) :=
  fl_okN (k := 0) (g := g__law_heap) 4 1 t.F__law_heap sc__law_heap rfl rfl fun cdv A outer s H Ee hcd hr =>
  (ss_cons (s_par2 (i := 1) (j := 2) (by rfl) sc__law_heap.nd (ae_cons (e_lc (by rfl) sc__law_heap.nd (i_seq (B.p (E.b (e_sliceS (b_var 0) o_none (o_some (E.b e_int)))))) (blkOk_by (own := [("cell", 3)]) (by with_unfolding_all rfl)) (by decide) (fun _ _ _ _ _ => (g_n sc__law_heap.nd)) (fun _ _ _ _ _ => ts_nil) (fun _ _ _ _ _ => (e_bin op_dAdd (E.b (e_bin op_dMul (E.b e_int) (E.b (e_callB cr_bAbs (by rfl) t.z_abs bt_abs (ab_cons (b_var 3) ab_nil))))) (E.b (e_callTy cr_bInt (by rfl) t.z_int bt_int (ab_cons (E.b (e_cmp op_dLt (b_var 3) (E.b e_int) (nomark _))) ab_nil)))))) (ae_cons e_int ae_nil)))
  (ss_cons (s_for (lk := [1]) (by rfl) (i_seq (B.p (b_var 1))) (g_n sc__law_heap.nd) (ss_one (s_set (i := 2) (e_bin op_dMod (E.b (e_callTy cr_bInt (by rfl) t.z_int bt_int (ab_cons (E.b (e_bin op_dAdd (E.b (e_bin op_dAdd (E.b (e_bin op_dMul (b_var 2) (E.b e_int))) (E.b (e_bin op_dMod (E.b (e_callTy cr_bInt (by rfl) t.z_int bt_int (ab_cons (b_var 3) ab_nil))) (E.b e_int))))) (E.b e_int))) ab_nil))) (E.b e_int)) sc__law_heap.nd)))
  (ss_one (s_ret (e_lst (ae_cons (e_rev (E.b (e_lc (by rfl) sc__law_heap.nd (i_seq (B.p (b_var 1))) (blkOk_by (own := [("cell", 3)]) (by with_unfolding_all rfl)) (by decide) (fun _ _ _ _ _ => (g_n sc__law_heap.nd)) (fun _ _ _ _ _ => (ts_one (t_cmp op_dGe (b_var 3) (E.b (e_bin op_dPow (E.b e_int) (E.b e_int))) (nomark _)))) (fun _ _ _ _ _ => (B.e (b_var 3)))))) (ae_cons (B.e (b_var 2)) ae_nil)))))))
/-! _law_draw: slots 0 heap, 1 many, 2 rest -/
noncomputable def g__law_draw : Sv :=
  (sSeq (sWhile (viaHpT 0 (fAnd (fCmp dNe (fIx (fVar 0) (fC (.int 0))) (fLst fNil)) (fCmp dEq (fIx (fIx (fVar 0) (fC (.int 0))) (fNeg (fC (.int 1)))) (fC (.int 0))))) (sE (fHpop 0)))
  (sSeq (sIf (viaHpT 0 (fCmp dNe (fIx (fVar 0) (fC (.int 0))) (fLst fNil))) (sSeq (sSet 2 (fHpop 0))
  (sSeq (sE (fHapp 0 (fBin dFdiv (fVar 2) (fVar 1))))
  (sRet (fBin dMod (fCallB bInt (fCons (fVar 2) fNil)) (fVar 1))))) (sPure .nx))
  (sSeq (sHput 0 (viaHp 0 (fBin dMod (fCallB bInt (fCons (fBin dAdd (fBin dMul (fIx (fVar 0) (fC (.int 1))) (fC (.int 48271))) (fC (.int 17))) fNil)) (fC (.int 2147483647)))))
  (sRet (viaHp 0 (fBin dMod (fCallB bInt (fCons (fBin dFdiv (fIx (fVar 0) (fC (.int 1))) (fC (.int 32))) fNil)) (fVar 1)))))))
noncomputable def m__law_draw : List D → Mo D := mirF 3 2 g__law_draw
theorem ok__law_draw {P : Program} {w : World} {K : PySem.W.Frag} {mg : Str → Option Value} {base : Heap} (t : Top K mg) : FnOk P w K mg base CX0 1 t.a__law_draw t.d__law_draw ["heap", "many"] (spF w K 2 m__law_draw) :=
  fl_okN (k := 0) (g := g__law_draw) 3 2 t.F__law_draw sc__law_draw rfl rfl fun cdv A outer s H Ee hcd hr =>
  (ss_cons (s_while (hp_t 0 (TW.t (t_and (t_cmp (op_dNe (hu64 hr)) (b_ix (hu1 hr) (b_var 0) (E.b e_int)) (E.b (e_lst ae_nil)) (nomark _)) (t_and1 (t_cmp (op_dEq (hu64 hr)) (b_ix (hu1 hr) (b_ix (hu1 hr) (b_var 0) (E.b e_int)) (E.b (e_neg (E.b e_int)))) (E.b e_int) (nomark _)))))) (ss_one (s_e (e_hpop 0))))
  (ss_cons (s_if (hp_t 0 (t_cmp (op_dNe (hu64 hr)) (b_ix (hu1 hr) (b_var 0) (E.b e_int)) (E.b (e_lst ae_nil)) (nomark _))) (ss_cons (s_set (i := 2) (e_hpop 0) sc__law_draw.nd)
  (ss_cons (s_e (e_happ 0 (E.b (e_bin op_dFdiv (b_var 2) (b_var 1)))))
  (ss_one (s_ret (e_bin op_dMod (E.b (e_callTy cr_bInt (by rfl) t.z_int bt_int (ab_cons (b_var 2) ab_nil))) (b_var 1)))))) ss_nil)
  (ss_cons (s_hput 0 (hp_e 0 (E.b (e_bin op_dMod (E.b (e_callTy cr_bInt (by rfl) t.z_int bt_int (ab_cons (E.b (e_bin op_dAdd (E.b (e_bin op_dMul (b_ix (hu1 hr) (b_var 0) (E.b e_int)) (E.b e_int))) (E.b e_int))) ab_nil))) (E.b e_int)))))
  (ss_one (s_ret (hp_e 0 (E.b (e_bin op_dMod (E.b (e_callTy cr_bInt (by rfl) t.z_int bt_int (ab_cons (E.b (e_bin op_dFdiv (b_ix (hu1 hr) (b_var 0) (E.b e_int)) (E.b e_int))) ab_nil))) (b_var 1)))))))))
/-! _law_pick: slots 0 heap, 1 some -/
noncomputable def g__law_pick : Sv :=
  (sRet (fImm (fIx (fVar 1) (fCall 2 m__law_draw (fCons (fVar 0) (fCons (fCallB bLen (fCons (fVar 1) fNil)) fNil))))))
noncomputable def m__law_pick : List D → Mo D := mirF 2 2 g__law_pick
theorem ok__law_pick {P : Program} {w : World} {K : PySem.W.Frag} {mg : Str → Option Value} {base : Heap} (t : Top K mg) : FnOk P w K mg base CX0 2 t.a__law_pick t.d__law_pick ["heap", "some"] (spF w K 2 m__law_pick) :=
  fl_okN (k := 1) (g := g__law_pick) 2 2 t.F__law_pick sc__law_pick rfl rfl fun cdv A outer s H Ee hcd hr =>
  (ss_one (s_ret (B.e (b_ix (hu1 hr) (b_var 1) (E.b (e_call (FnOk.mono (ok__law_draw t) (by decide)) hr (by rfl) t.q__law_draw t.F__law_draw.kp t.b__law_draw (ab_cons (b_var 0) (ab_cons (E.b (e_callB cr_bLen (by rfl) t.z_len bt_len (ab_cons (b_var 1) ab_nil))) ab_nil))))))))
/-! _law_shuffled: slots 0 heap, 1 some, 2 rest, 3 found, 4 turn -/
noncomputable def g__law_shuffled : Sv :=
  (sSeq (sPar [2, 3] (fCons (fCallB bList (fCons (fVar 1) fNil)) (fCons (fLst fNil) fNil)))
  (sSeq (sForN [] (fRange1 (fCons (fCallB bLen (fCons (fVar 1) fNil)) fNil)) (.n 4) (sAppM 3 (mPopAt 2 (fCall 2 m__law_draw (fCons (fVar 0) (fCons (fCallB bLen (fCons (fVar 2) fNil)) fNil))))))
  (sRet (fCallB bTuple (fCons (fVar 3) fNil)))))
noncomputable def m__law_shuffled : List D → Mo D := mirF 5 2 g__law_shuffled
theorem ok__law_shuffled {P : Program} {w : World} {K : PySem.W.Frag} {mg : Str → Option Value} {base : Heap} (t : Top K mg) : FnOk P w K mg base CX0 2 t.a__law_shuffled t.d__law_shuffled ["heap", "some"] (spF w K 2 m__law_shuffled) :=
  fl_okN (k := 1) (g := g__law_shuffled) 5 2 t.F__law_shuffled sc__law_shuffled rfl rfl fun cdv A outer s H Ee hcd hr =>
  (ss_cons (s_par2 (i := 2) (j := 3) (by rfl) sc__law_shuffled.nd (ae_cons (e_callTy (cr_bList (by rfl)) (by rfl) t.z_list bt_list (ab_cons (b_var 1) ab_nil)) (ae_cons (e_lst ae_nil) ae_nil)))
  (ss_cons (s_forN (lk := []) (by rfl) (i_range1 (by rfl) t.z_range (ab_cons (E.b (e_callB cr_bLen (by rfl) t.z_len bt_len (ab_cons (b_var 1) ab_nil))) ab_nil)) (g_n sc__law_shuffled.nd) (ss_one (s_appM (i := 3) (em_popAt (i := 2) (E.b (e_call (FnOk.mono (ok__law_draw t) (by decide)) hr (by rfl) t.q__law_draw t.F__law_draw.kp t.b__law_draw (ab_cons (b_var 0) (ab_cons (E.b (e_callB cr_bLen (by rfl) t.z_len bt_len (ab_cons (b_var 2) ab_nil))) ab_nil))))))))
  (ss_one (s_ret (e_callTy cr_bTuple (by rfl) t.z_tuple bt_tuple (ab_cons (b_var 3) ab_nil))))))
/-! _law_scopes: slots 0 heap, 1 many, 2 kind, 3 found, 4 names, 5 at, 6 some, 7 size, 8 lot, 9 turn, 10 other -/
noncomputable def g__law_scopes : Sv :=
  (sSeq (sPar [2, 3] (fCons (fCall 2 m__law_draw (fCons (fVar 0) (fCons (fC (.int 4)) fNil))) (fCons (fLst fNil) fNil)))
  (sSeq (sSet 4 (fCallB bList (fCons (fCall 2 m__law_shuffled (fCons (fVar 0) (fCons (fLRg1 (fVar 1)) fNil))) fNil)))
  (sSeq (sIf (fCmp dEq (fVar 2) (fC (.int 0))) (sForN [] (fRange1 (fCons (fVar 1) fNil)) (.n 5) (sSeq (sSet 6 (fSl (fLc [10] (fRange2 (fCons (fCallB bMax (fCons (fC (.int 0)) (fCons (fBin dSub (fVar 5) (fC (.int 4))) fNil))) (fCons (fVar 5) fNil))) (.n 10) (fCmp dEq (fCall 2 m__law_draw (fCons (fVar 0) (fCons (fC (.int 3)) fNil))) (fC (.int 0))) (fImm (fVar 10))) fNoPart (fPart (fC (.int 3)))))
  (sApp 3 (fCallB bTuple (fCons (fBin dAdd (fVar 6) (fLst (fCons (fImm (fVar 5)) fNil))) fNil))))) (sIf (fCmp dEq (fVar 2) (fC (.int 1))) (sSeq (sSet 6 (fBin dAdd (fC (.int 4)) (fCall 2 m__law_draw (fCons (fVar 0) (fCons (fBin dSub (fVar 1) (fC (.int 3))) fNil)))))
  (sSeq (sSet 4 (fSl (fVar 4) fNoPart (fPart (fVar 6))))
  (sSet 3 (fLc [5] (fRange1 (fCons (fVar 6) fNil)) (.n 5) fYes (fCallB bTuple (fCons (fCallB bSorted (fCons (fLst (fCons (fImm (fIx (fVar 4) (fBin dSub (fVar 5) (fC (.int 1))))) (fCons (fImm (fIx (fVar 4) (fVar 5))) fNil))) fNil)) fNil)))))) (sIf (fCmp dEq (fVar 2) (fC (.int 2))) (sWhile (fCmp dNe (fVar 4) (fLst fNil)) (sSeq (sSet 7 (fCall 2 m__law_pick (fCons (fVar 0) (fCons (fLst (fCons (fC (.int 1)) (fCons (fC (.int 2)) (fCons (fC (.int 3)) (fCons (fC (.int 4)) fNil))))) fNil))))
  (sSeq (sUnp [8, 4] (fTup (fCons (fSl (fVar 4) fNoPart (fPart (fVar 7))) (fCons (fSl (fVar 4) (fPart (fVar 7)) fNoPart) fNil))))
  (sSet 3 (fBin dAdd (fVar 3) (fLc [5] (fRange1 (fCons (fCallB bLen (fCons (fVar 8) fNil)) fNil)) (.n 5) (fCmp dGt (fCall 2 m__law_draw (fCons (fVar 0) (fCons (fC (.int 3)) fNil))) (fC (.int 0))) (fCallB bTuple (fCons (fCallB bSorted (fCons (fSl (fVar 8) fNoPart (fPart (fBin dAdd (fVar 5) (fC (.int 1))))) fNil)) fNil)))))))) (sPure .nx))))
  (sSeq (sForN [] (fRange1 (fCons (fBin dAdd (fCall 2 m__law_pick (fCons (fVar 0) (fCons (fLst (fCons (fC (.int 0)) (fCons (fC (.int 1)) (fCons (fC (.int 3)) (fCons (fC (.int 9)) fNil))))) fNil))) (fBin dMul (fC (.int 9)) (fCallB bInt (fCons (fB (fCmp dEq (fVar 2) (fC (.int 3)))) fNil)))) fNil)) (.n 9) (sApp 3 (fCallB bTuple (fCons (fCallB bSorted (fCons (fSl (fCall 2 m__law_shuffled (fCons (fVar 0) (fCons (fLRg1 (fVar 1)) fNil))) fNoPart (fPart (fCall 2 m__law_pick (fCons (fVar 0) (fCons (fLst (fCons (fC (.int 0)) (fCons (fC (.int 1)) (fCons (fC (.int 2)) (fCons (fC (.int 2)) (fCons (fC (.int 3)) fNil)))))) fNil))))) fNil)) fNil))))
  (sRet (fCallB bTuple (fCons (fCall 2 m__law_shuffled (fCons (fVar 0) (fCons (fVar 3) fNil))) fNil)))))))
noncomputable def m__law_scopes : List D → Mo D := mirF 11 2 g__law_scopes
theorem ok__law_scopes {P : Program} {w : World} {K : PySem.W.Frag} {mg : Str → Option Value} {base : Heap} (t : Top K mg) : FnOk P w K mg base CX0 3 t.a__law_scopes t.d__law_scopes ["heap", "many"] (spF w K 2 m__law_scopes) :=
  fl_okN (k := 2) (g := g__law_scopes) 11 2 t.F__law_scopes sc__law_scopes rfl rfl fun cdv A outer s H Ee hcd hr =>
  (ss_cons (s_par2 (i := 2) (j := 3) (by rfl) sc__law_scopes.nd (ae_cons (e_call (FnOk.mono (ok__law_draw t) (by decide)) hr (by rfl) t.q__law_draw t.F__law_draw.kp t.b__law_draw (ab_cons (b_var 0) (ab_cons (E.b e_int) ab_nil))) (ae_cons (e_lst ae_nil) ae_nil)))
  (ss_cons (s_set (i := 4) (e_callTy (cr_bList (by rfl)) (by rfl) t.z_list bt_list (ab_cons (E.b (e_call (FnOk.mono (ok__law_shuffled t) (by decide)) hr (by rfl) t.q__law_shuffled t.F__law_shuffled.kp t.b__law_shuffled (ab_cons (b_var 0) (ab_cons (E.b (e_listRg1 (by rfl) t.z_list (by rfl) t.z_range (b_var 1))) ab_nil)))) ab_nil)) sc__law_scopes.nd)
  (ss_cons (s_if (t_cmp (op_dEq (hu64 hr)) (b_var 2) (E.b e_int) (nomark _)) (ss_one (s_forN (lk := []) (by rfl) (i_range1 (by rfl) t.z_range (ab_cons (b_var 1) ab_nil)) (g_n sc__law_scopes.nd) (ss_cons (s_set (i := 6) (e_slice (E.b (e_lc (by rfl) sc__law_scopes.nd (i_range2 (by rfl) t.z_range (ab_cons (E.b (e_callB (cr_bMax (by rfl) (hu100 hr)) (by rfl) t.z_max bt_max (ab_cons (E.b e_int) (ab_cons (E.b (e_bin op_dSub (b_var 5) (E.b e_int))) ab_nil)))) (ab_cons (b_var 5) ab_nil))) (blkOk_by (own := [("other", 10)]) (by with_unfolding_all rfl)) (by decide) (fun _ _ _ _ _ => (g_n sc__law_scopes.nd)) (fun _ _ _ _ _ => (ts_one (t_cmp (op_dEq (hu64 hr)) (E.b (e_call (FnOk.mono (ok__law_draw t) (by decide)) hr (by rfl) t.q__law_draw t.F__law_draw.kp t.b__law_draw (ab_cons (b_var 0) (ab_cons (E.b e_int) ab_nil)))) (E.b e_int) (nomark _)))) (fun _ _ _ _ _ => (B.e (b_var 10))))) o_none (o_some (E.b e_int))) sc__law_scopes.nd)
  (ss_one (s_app (i := 3) (e_callTy cr_bTuple (by rfl) t.z_tuple bt_tuple (ab_cons (E.b (e_bin op_dAdd (b_var 6) (E.b (e_lst (ae_cons (B.e (b_var 5)) ae_nil))))) ab_nil))))))) (ss_one (s_if (t_cmp (op_dEq (hu64 hr)) (b_var 2) (E.b e_int) (nomark _)) (ss_cons (s_set (i := 6) (e_bin op_dAdd (E.b e_int) (E.b (e_call (FnOk.mono (ok__law_draw t) (by decide)) hr (by rfl) t.q__law_draw t.F__law_draw.kp t.b__law_draw (ab_cons (b_var 0) (ab_cons (E.b (e_bin op_dSub (b_var 1) (E.b e_int))) ab_nil))))) sc__law_scopes.nd)
  (ss_cons (s_set (i := 4) (e_slice (b_var 4) o_none (o_some (b_var 6))) sc__law_scopes.nd)
  (ss_one (s_setLc (i := 3) (by rfl) sc__law_scopes.nd (i_range1 (by rfl) t.z_range (ab_cons (b_var 6) ab_nil)) (blkOk_by (own := [("at", 5)]) (by with_unfolding_all rfl)) (by decide) (fun _ _ _ _ _ => (g_n sc__law_scopes.nd)) (fun _ _ _ _ _ => ts_nil) (fun _ _ _ _ _ => (e_callTy cr_bTuple (by rfl) t.z_tuple bt_tuple (ab_cons (E.b (e_callB (cr_bSorted (by rfl) (hu100 hr)) (by rfl) t.z_sorted bt_sorted (ab_cons (E.b (e_lst (ae_cons (B.e (b_ix (hu1 hr) (b_var 4) (E.b (e_bin op_dSub (b_var 5) (E.b e_int))))) (ae_cons (B.e (b_ix (hu1 hr) (b_var 4) (b_var 5))) ae_nil)))) ab_nil))) ab_nil))))))) (ss_one (s_if (t_cmp (op_dEq (hu64 hr)) (b_var 2) (E.b e_int) (nomark _)) (ss_one (s_while (t_cmp (op_dNe (hu64 hr)) (b_var 4) (E.b (e_lst ae_nil)) (nomark _)) (ss_cons (s_set (i := 7) (e_call (FnOk.mono (ok__law_pick t) (by decide)) hr (by rfl) t.q__law_pick t.F__law_pick.kp t.b__law_pick (ab_cons (b_var 0) (ab_cons (E.b (e_lst (ae_cons e_int (ae_cons e_int (ae_cons e_int (ae_cons e_int ae_nil)))))) ab_nil))) sc__law_scopes.nd)
  (ss_cons (s_unp (is := [8, 4]) (e_tup (ae_cons (e_slice (b_var 4) o_none (o_some (b_var 7))) (ae_cons (e_slice (b_var 4) (o_some (b_var 7)) o_none) ae_nil))) (g_t (by rfl) (gs_cons (gs_cons gs_nil sc__law_scopes.nd) sc__law_scopes.nd)))
  (ss_one (s_set (i := 3) (e_bin op_dAdd (b_var 3) (E.b (e_lc (by rfl) sc__law_scopes.nd (i_range1 (by rfl) t.z_range (ab_cons (E.b (e_callB cr_bLen (by rfl) t.z_len bt_len (ab_cons (b_var 8) ab_nil))) ab_nil)) (blkOk_by (own := [("at", 5)]) (by with_unfolding_all rfl)) (by decide) (fun _ _ _ _ _ => (g_n sc__law_scopes.nd)) (fun _ _ _ _ _ => (ts_one (t_cmp op_dGt (E.b (e_call (FnOk.mono (ok__law_draw t) (by decide)) hr (by rfl) t.q__law_draw t.F__law_draw.kp t.b__law_draw (ab_cons (b_var 0) (ab_cons (E.b e_int) ab_nil)))) (E.b e_int) (nomark _)))) (fun _ _ _ _ _ => (e_callTy cr_bTuple (by rfl) t.z_tuple bt_tuple (ab_cons (E.b (e_callB (cr_bSorted (by rfl) (hu100 hr)) (by rfl) t.z_sorted bt_sorted (ab_cons (E.b (e_slice (b_var 8) o_none (o_some (E.b (e_bin op_dAdd (b_var 5) (E.b e_int)))))) ab_nil))) ab_nil)))))) sc__law_scopes.nd)))))) ss_nil)))))
  (ss_cons (s_forN (lk := []) (by rfl) (i_range1 (by rfl) t.z_range (ab_cons (E.b (e_bin op_dAdd (E.b (e_call (FnOk.mono (ok__law_pick t) (by decide)) hr (by rfl) t.q__law_pick t.F__law_pick.kp t.b__law_pick (ab_cons (b_var 0) (ab_cons (E.b (e_lst (ae_cons e_int (ae_cons e_int (ae_cons e_int (ae_cons e_int ae_nil)))))) ab_nil)))) (E.b (e_bin op_dMul (E.b e_int) (E.b (e_callTy cr_bInt (by rfl) t.z_int bt_int (ab_cons (E.b (e_cmp (op_dEq (hu64 hr)) (b_var 2) (E.b e_int) (nomark _))) ab_nil))))))) ab_nil)) (g_n sc__law_scopes.nd) (ss_one (s_app (i := 3) (e_callTy cr_bTuple (by rfl) t.z_tuple bt_tuple (ab_cons (E.b (e_callB (cr_bSorted (by rfl) (hu100 hr)) (by rfl) t.z_sorted bt_sorted (ab_cons (E.b (e_slice (E.b (e_call (FnOk.mono (ok__law_shuffled t) (by decide)) hr (by rfl) t.q__law_shuffled t.F__law_shuffled.kp t.b__law_shuffled (ab_cons (b_var 0) (ab_cons (E.b (e_listRg1 (by rfl) t.z_list (by rfl) t.z_range (b_var 1))) ab_nil)))) o_none (o_some (E.b (e_call (FnOk.mono (ok__law_pick t) (by decide)) hr (by rfl) t.q__law_pick t.F__law_pick.kp t.b__law_pick (ab_cons (b_var 0) (ab_cons (E.b (e_lst (ae_cons e_int (ae_cons e_int (ae_cons e_int (ae_cons e_int (ae_cons e_int ae_nil))))))) ab_nil))))))) ab_nil))) ab_nil)))))
  (ss_one (s_ret (e_callTy cr_bTuple (by rfl) t.z_tuple bt_tuple (ab_cons (E.b (e_call (FnOk.mono (ok__law_shuffled t) (by decide)) hr (by rfl) t.q__law_shuffled t.F__law_shuffled.kp t.b__law_shuffled (ab_cons (b_var 0) (ab_cons (b_var 3) ab_nil)))) ab_nil))))))))
/-! _law_near: slots 0 scopes, 1 many, 2 found, 3 scope, 4 one, 5 other, 6 thing -/
noncomputable def g__law_near : Sv :=
  (sSeq (sSet 2 (fLc [6] (fRange1 (fCons (fVar 1) fNil)) (.n 6) fYes (fC (.dct [] []))))
  (sSeq (sFor [0] (fItems (fVar 0)) (.n 3) (sFor [3] (fItems (fVar 3)) (.n 4) (sFor [3] (fItems (fVar 3)) (.n 5) (sIf (fCmp dNe (fVar 4) (fVar 5)) (sPut2 2 (fVar 4) (fVar 5) (fC (.bl true))) (sPure .nx)))))
  (sRetN 2)))
noncomputable def m__law_near : List D → Mo D := mirF 7 2 g__law_near
theorem ok__law_near {P : Program} {w : World} {K : PySem.W.Frag} {mg : Str → Option Value} {base : Heap} (t : Top K mg) : FnOk P w K mg base CX0 1 t.a__law_near t.d__law_near ["scopes", "many"] (spF w K 2 m__law_near) :=
  fl_okN (k := 0) (g := g__law_near) 7 2 t.F__law_near sc__law_near rfl rfl fun cdv A outer s H Ee hcd hr =>
  (ss_cons (s_setLc (i := 2) (by rfl) sc__law_near.nd (i_range1 (by rfl) t.z_range (ab_cons (b_var 1) ab_nil)) (blkOk_by (own := [("thing", 6)]) (by with_unfolding_all rfl)) (by decide) (fun _ _ _ _ _ => (g_n sc__law_near.nd)) (fun _ _ _ _ _ => ts_nil) (fun _ _ _ _ _ => e_dict0))
  (ss_cons (s_for (lk := [0]) (by rfl) (i_seq (B.p (b_var 0))) (g_n sc__law_near.nd) (ss_one (s_for (lk := [3]) (by rfl) (i_seq (B.p (b_var 3))) (g_n sc__law_near.nd) (ss_one (s_for (lk := [3]) (by rfl) (i_seq (B.p (b_var 3))) (g_n sc__law_near.nd) (ss_one (s_if (t_cmp (op_dNe (hu64 hr)) (b_var 4) (b_var 5) (nomark _)) (ss_one (s_put2 (i := 2) (hu1 hr) (b_var 4) (b_var 5) e_bl)) ss_nil)))))))
  (ss_one (s_retN 2))))
/-! _law_cluster: slots 0 near, 1 before, 2 thing, 3 seen, 4 row, 5 found, 6 one, 7 other -/
noncomputable def g__law_cluster : Sv :=
  (sSeq (sPar [3, 4, 5] (fCons (fDict1 (fVar 2) (fC (.bl true))) (fCons (fLst (fCons (fImm (fVar 2)) fNil)) (fCons (fLst (fCons (fImm (fVar 2)) fNil)) fNil))))
  (sSeq (sWhile (fCmp dNe (fVar 4) (fLst fNil)) (sSeq (sSetM 6 (mPop 4))
  (sForN [] (fItems (fCallB bList (fCons (fIx (fVar 0) (fVar 6)) fNil))) (.n 7) (sIf (fCmp dNotIn (fVar 7) (fVar 3)) (sSeq (sPut 3 (fVar 7) (fC (.bl true)))
  (sIf (fCmp dIn (fVar 7) (fVar 1)) (sApp 4 (fImm (fVar 7))) (sApp 5 (fImm (fVar 7))))) (sPure .nx)))))
  (sRet (fCallB bTuple (fCons (fCallB bSorted (fCons (fVar 5) fNil)) fNil)))))
noncomputable def m__law_cluster : List D → Mo D := mirF 8 3 g__law_cluster
theorem ok__law_cluster {P : Program} {w : World} {K : PySem.W.Frag} {mg : Str → Option Value} {base : Heap} (t : Top K mg) : FnOk P w K mg base CX0 1 t.a__law_cluster t.d__law_cluster ["near", "before", "thing"] (spF w K 3 m__law_cluster) :=
  fl_okN (k := 0) (g := g__law_cluster) 8 3 t.F__law_cluster sc__law_cluster rfl rfl fun cdv A outer s H Ee hcd hr =>
  (ss_cons (s_par3 (i := 3) (j := 4) (l := 5) (by rfl) sc__law_cluster.nd (ae_cons (e_dict1 (b_var 2) e_bl) (ae_cons (e_lst (ae_cons (B.e (b_var 2)) ae_nil)) (ae_cons (e_lst (ae_cons (B.e (b_var 2)) ae_nil)) ae_nil))))
  (ss_cons (s_while (t_cmp (op_dNe (hu64 hr)) (b_var 4) (E.b (e_lst ae_nil)) (nomark _)) (ss_cons (s_setM (i := 6) (em_pop (i := 4)) sc__law_cluster.nd)
  (ss_one (s_forN (lk := []) (by rfl) (i_seq (E.p (e_callTy (cr_bList (by rfl)) (by rfl) t.z_list bt_list (ab_cons (b_ix (hu1 hr) (b_var 0) (b_var 6)) ab_nil)))) (g_n sc__law_cluster.nd) (ss_one (s_if (t_cmp (op_dNotIn (hu65 hr)) (b_var 7) (b_var 3) (by with_unfolding_all rfl)) (ss_cons (s_put (i := 3) (hu1 hr) (b_var 7) e_bl)
  (ss_one (s_if (t_cmp (op_dIn (hu65 hr)) (b_var 7) (b_var 1) (by with_unfolding_all rfl)) (ss_one (s_app (i := 4) (B.e (b_var 7)))) (ss_one (s_app (i := 5) (B.e (b_var 7))))))) ss_nil))))))
  (ss_one (s_ret (e_callTy cr_bTuple (by rfl) t.z_tuple bt_tuple (ab_cons (E.b (e_callB (cr_bSorted (by rfl) (hu100 hr)) (by rfl) t.z_sorted bt_sorted (ab_cons (b_var 5) ab_nil))) ab_nil))))))
/-! _law_clusters: slots 0 near, 1 sequence, 2 before, 3 found, 4 thing -/
noncomputable def g__law_clusters : Sv :=
  (sSeq (sPar [2, 3] (fCons (fC (.dct [] [])) (fCons (fLst fNil) fNil)))
  (sSeq (sFor [1] (fItems (fVar 1)) (.n 4) (sSeq (sApp 3 (fCall 3 m__law_cluster (fCons (fVar 0) (fCons (fVar 2) (fCons (fVar 4) fNil)))))
  (sPut 2 (fVar 4) (fC (.bl true)))))
  (sRetN 3)))
noncomputable def m__law_clusters : List D → Mo D := mirF 5 2 g__law_clusters
theorem ok__law_clusters {P : Program} {w : World} {K : PySem.W.Frag} {mg : Str → Option Value} {base : Heap} (t : Top K mg) : FnOk P w K mg base CX0 2 t.a__law_clusters t.d__law_clusters ["near", "sequence"] (spF w K 2 m__law_clusters) :=
  fl_okN (k := 1) (g := g__law_clusters) 5 2 t.F__law_clusters sc__law_clusters rfl rfl fun cdv A outer s H Ee hcd hr =>
  (ss_cons (s_par2 (i := 2) (j := 3) (by rfl) sc__law_clusters.nd (ae_cons e_dict0 (ae_cons (e_lst ae_nil) ae_nil)))
  (ss_cons (s_for (lk := [1]) (by rfl) (i_seq (B.p (b_var 1))) (g_n sc__law_clusters.nd) (ss_cons (s_app (i := 3) (e_call (FnOk.mono (ok__law_cluster t) (by decide)) hr (by rfl) t.q__law_cluster t.F__law_cluster.kp t.b__law_cluster (ab_cons (b_var 0) (ab_cons (b_var 2) (ab_cons (b_var 4) ab_nil)))))
  (ss_one (s_put (i := 2) (hu1 hr) (b_var 4) e_bl))))
  (ss_one (s_retN 3))))
/-! _law_size: slots 0 counts, 1 lot, 2 found, 3 thing -/
noncomputable def g__law_size : Sv :=
  (sSeq (sSet 2 (fC (.int 1)))
  (sSeq (sFor [1] (fItems (fVar 1)) (.n 3) (sSet 2 (fBin dMul (fVar 2) (fIx (fVar 0) (fVar 3)))))
  (sRetN 2)))
noncomputable def m__law_size : List D → Mo D := mirF 4 2 g__law_size
theorem ok__law_size {P : Program} {w : World} {K : PySem.W.Frag} {mg : Str → Option Value} {base : Heap} (t : Top K mg) : FnOk P w K mg base CX0 1 t.a__law_size t.d__law_size ["counts", "lot"] (spF w K 2 m__law_size) :=
  fl_okN (k := 0) (g := g__law_size) 4 2 t.F__law_size sc__law_size rfl rfl fun cdv A outer s H Ee hcd hr =>
  (ss_cons (s_set (i := 2) e_int sc__law_size.nd)
  (ss_cons (s_for (lk := [1]) (by rfl) (i_seq (B.p (b_var 1))) (g_n sc__law_size.nd) (ss_one (s_set (i := 2) (e_bin op_dMul (b_var 2) (b_ix (hu1 hr) (b_var 0) (b_var 3))) sc__law_size.nd)))
  (ss_one (s_retN 2))))
/-! _law_flows: slots 0 sequence, 1 clusters, 2 found, 3 at, 4 later, 5 thing -/
noncomputable def g__law_flows : Sv :=
  (sSeq (sSet 2 (fLst fNil))
  (sSeq (sForN [] (fRange1 (fCons (fCallB bLen (fCons (fVar 0) fNil)) fNil)) (.n 3) (sSeq (sSet 4 (fLc [5] (fItems (fSl (fVar 0) (fPart (fBin dAdd (fVar 3) (fC (.int 1)))) fNoPart)) (.n 5) (fCmp dIn (fVar 5) (fIx (fVar 1) (fVar 3))) (fImm (fVar 5))))
  (sApp 2 (fImm (fIf (fCmp dNe (fVar 4) (fLst fNil)) (fIx (fVar 4) (fC (.int 0))) (fC .non))))))
  (sRetN 2)))
noncomputable def m__law_flows : List D → Mo D := mirF 6 2 g__law_flows
theorem ok__law_flows {P : Program} {w : World} {K : PySem.W.Frag} {mg : Str → Option Value} {base : Heap} (t : Top K mg) : FnOk P w K mg base CX0 1 t.a__law_flows t.d__law_flows ["sequence", "clusters"] (spF w K 2 m__law_flows) :=
  fl_okN (k := 0) (g := g__law_flows) 6 2 t.F__law_flows sc__law_flows rfl rfl fun cdv A outer s H Ee hcd hr =>
  (ss_cons (s_set (i := 2) (e_lst ae_nil) sc__law_flows.nd)
  (ss_cons (s_forN (lk := []) (by rfl) (i_range1 (by rfl) t.z_range (ab_cons (E.b (e_callB cr_bLen (by rfl) t.z_len bt_len (ab_cons (b_var 0) ab_nil))) ab_nil)) (g_n sc__law_flows.nd) (ss_cons (s_setLc (i := 4) (by rfl) sc__law_flows.nd (i_seq (B.p (E.b (e_slice (b_var 0) (o_some (E.b (e_bin op_dAdd (b_var 3) (E.b e_int)))) o_none)))) (blkOk_by (own := [("thing", 5)]) (by with_unfolding_all rfl)) (by decide) (fun _ _ _ _ _ => (g_n sc__law_flows.nd)) (fun _ _ _ _ _ => (ts_one (t_cmp (op_dIn (hu65 hr)) (b_var 5) (b_ix (hu1 hr) (b_var 1) (b_var 3)) (by with_unfolding_all rfl)))) (fun _ _ _ _ _ => (B.e (b_var 5))))
  (ss_one (s_app (i := 2) (B.e (b_ifExp (t_cmp (op_dNe (hu64 hr)) (b_var 4) (E.b (e_lst ae_nil)) (nomark _)) (b_ix (hu1 hr) (b_var 4) (E.b e_int)) (E.b e_non)))))))
  (ss_one (s_retN 2))))
/-! _law_settled: slots 0 sequence, 1 flows, 2 waits, 3 found, 4 left, 5 thing, 6 other, 7 flow, 8 one -/
noncomputable def g__law_settled : Sv :=
  (sSeq (sUnp [2, 3, 4] (fTup (fCons (fC (.dctN [] [])) (fCons (fLst fNil) (fCons (fCallB bSorted (fCons (fVar 0) fNil)) fNil)))))
  (sSeq (sFor [0, 1] (fZip (fCons (fVar 0) (fCons (fVar 1) fNil))) (.t [5, 6]) (sPutN 2 (fVar 6) (fBin dAdd (fNGet (fVar 2) (fVar 6) (fC (.int 0))) (fC (.int 1)))))
  (sSeq (sSet 7 (fC (.dct [] [])))
  (sSeq (sFor [0, 1] (fZip (fCons (fVar 0) (fCons (fVar 1) fNil))) (.t [5, 6]) (sPut 7 (fVar 5) (fImm (fVar 6))))
  (sSeq (sWhile (fCmp dNe (fVar 4) (fLst fNil)) (sSeq (sSet 5 (fImm (fIx (fLc [8] (fItems (fVar 4)) (.n 8) (fCmp dEq (fNGet (fVar 2) (fVar 8) (fC (.int 0))) (fC (.int 0))) (fImm (fVar 8))) (fC (.int 0)))))
  (sSeq (sM (mRem 4 (fVar 5)))
  (sSeq (sApp 3 (fImm (fVar 5)))
  (sPutN 2 (fIx (fVar 7) (fVar 5)) (fBin dSub (fNIx (fVar 2) (fIx (fVar 7) (fVar 5))) (fC (.int 1))))))))
  (sRet (fCallB bTuple (fCons (fVar 3) fNil))))))))
noncomputable def m__law_settled : List D → Mo D := mirF 9 2 g__law_settled
theorem ok__law_settled {P : Program} {w : World} {K : PySem.W.Frag} {mg : Str → Option Value} {base : Heap} (t : Top K mg) : FnOk P w K mg base CX0 1 t.a__law_settled t.d__law_settled ["sequence", "flows"] (spF w K 2 m__law_settled) :=
  fl_okN (k := 0) (g := g__law_settled) 9 2 t.F__law_settled sc__law_settled rfl rfl fun cdv A outer s H Ee hcd hr =>
  (ss_cons (s_unp (is := [2, 3, 4]) (e_tup (ae_cons e_dictN0 (ae_cons (e_lst ae_nil) (ae_cons (e_callB (cr_bSorted (by rfl) (hu100 hr)) (by rfl) t.z_sorted bt_sorted (ab_cons (b_var 0) ab_nil)) ae_nil)))) (g_t (by rfl) (gs_cons (gs_cons (gs_cons gs_nil sc__law_settled.nd) sc__law_settled.nd) sc__law_settled.nd)))
  (ss_cons (s_for (lk := [0, 1]) (by rfl) (i_zip (by rfl) t.z_zip (AB.p (ab_cons (b_var 0) (ab_cons (b_var 1) ab_nil)))) (g_t (by rfl) (gs_cons (gs_cons gs_nil sc__law_settled.nd) sc__law_settled.nd)) (ss_one (s_putN (i := 2) (b_var 6) (e_bin op_dAdd (E.b (e_nget (b_var 2) (b_var 6) (E.b e_int))) (E.b e_int)))))
  (ss_cons (s_set (i := 7) e_dict0 sc__law_settled.nd)
  (ss_cons (s_for (lk := [0, 1]) (by rfl) (i_zip (by rfl) t.z_zip (AB.p (ab_cons (b_var 0) (ab_cons (b_var 1) ab_nil)))) (g_t (by rfl) (gs_cons (gs_cons gs_nil sc__law_settled.nd) sc__law_settled.nd)) (ss_one (s_put (i := 7) (hu1 hr) (b_var 5) (B.e (b_var 6)))))
  (ss_cons (s_while (t_cmp (op_dNe (hu64 hr)) (b_var 4) (E.b (e_lst ae_nil)) (nomark _)) (ss_cons (s_set (i := 5) (B.e (b_ix (hu1 hr) (E.b (e_lc (by rfl) sc__law_settled.nd (i_seq (B.p (b_var 4))) (blkOk_by (own := [("one", 8)]) (by with_unfolding_all rfl)) (by decide) (fun _ _ _ _ _ => (g_n sc__law_settled.nd)) (fun _ _ _ _ _ => (ts_one (t_cmp (op_dEq (hu64 hr)) (E.b (e_nget (b_var 2) (b_var 8) (E.b e_int))) (E.b e_int) (nomark _)))) (fun _ _ _ _ _ => (B.e (b_var 8))))) (E.b e_int))) sc__law_settled.nd)
  (ss_cons (s_m (em_rem (i := 4) (b_var 5)))
  (ss_cons (s_app (i := 3) (B.e (b_var 5)))
  (ss_one (s_putN (i := 2) (b_ix (hu1 hr) (b_var 7) (b_var 5)) (e_bin op_dSub (E.b (e_nix (b_var 2) (b_ix (hu1 hr) (b_var 7) (b_var 5)))) (E.b e_int))))))))
  (ss_one (s_ret (e_callTy cr_bTuple (by rfl) t.z_tuple bt_tuple (ab_cons (b_var 3) ab_nil)))))))))
/-! _law_same: slots 0 told, 1 due, 2 at -/
noncomputable def g__law_same (r : List D → Mo D) : Sv :=
  (sSeq (sIf (fTB (fIsi .tuple (fVar 1))) (sSeq (sIf (fOr (fNot (fTB (fIsi .tuple (fVar 0)))) (fCmp dNe (fCallB bLen (fCons (fVar 0) fNil)) (fCallB bLen (fCons (fVar 1) fNil)))) (sRet (fC (.bl false))) (sPure .nx))
  (sRet (fCallB bAll (fCons (fLc [2] (fRange1 (fCons (fCallB bLen (fCons (fVar 1) fNil)) fNil)) (.n 2) fYes (fCall 2 r (fCons (fIx (fVar 0) (fVar 2)) (fCons (fIx (fVar 1) (fVar 2)) fNil)))) fNil)))) (sPure .nx))
  (sSeq (sIf (fCmp dIsN (fVar 1) (fC .non)) (sRet (fB (fCmp dIsN (fVar 0) (fC .non)))) (sPure .nx))
  (sSeq (sIf (fTB (fIsi .str (fVar 1))) (sRet (fB (fAnd (fTB (fIsi .str (fVar 0))) (fCmp dEq (fVar 0) (fVar 1))))) (sPure .nx))
  (sSeq (sIf (fTB (fIsi .bool (fVar 1))) (sRet (fB (fAnd (fTB (fIsi .bool (fVar 0))) (fCmp dEq (fVar 0) (fVar 1))))) (sPure .nx))
  (sRet (fB (fAnd (fTB (fIsi .int (fVar 0))) (fAnd (fNot (fTB (fIsi .bool (fVar 0)))) (fCmp dEq (fVar 0) (fVar 1))))))))))
noncomputable def r__law_same : Nat → List D → Mo D
  | 0 => mFail
  | d + 1 => mirF 3 2 (g__law_same (r__law_same d))
theorem okr__law_same {P : Program} {w : World} {K : PySem.W.Frag} {mg : Str → Option Value} {base : Heap} (t : Top K mg) : ∀ d : Nat, FnOk P w K mg base CX0 (1 + d) t.a__law_same t.d__law_same ["told", "due"] (spF w K 2 (r__law_same d))
  | 0 => fail_ok
  | d + 1 => have ih := okr__law_same (P := P) (w := w) (base := base) t d
  fl_okN (k := 1 + d) (g := g__law_same (r__law_same d)) 3 2 t.F__law_same sc__law_same rfl rfl fun cdv A outer s H Ee hcd hr =>
  (ss_cons (s_if (t_val (E.b (e_isi .tuple (b_var 1) (by rfl) t.z_isinstance (by rfl) t.z_tuple bt_tuple))) (ss_cons (s_if (TW.t (t_or (t_not (t_val (E.b (e_isi .tuple (b_var 0) (by rfl) t.z_isinstance (by rfl) t.z_tuple bt_tuple)))) (t_or1 (t_cmp (op_dNe (hu64 hr)) (E.b (e_callB cr_bLen (by rfl) t.z_len bt_len (ab_cons (b_var 0) ab_nil))) (E.b (e_callB cr_bLen (by rfl) t.z_len bt_len (ab_cons (b_var 1) ab_nil))) (nomark _))))) (ss_one (s_ret e_bl)) ss_nil)
  (ss_one (s_ret (e_callB (cr_bAll (by rfl)) (by rfl) t.z_all bt_all (ab_cons (E.b (e_lc (by rfl) sc__law_same.nd (i_range1 (by rfl) t.z_range (ab_cons (E.b (e_callB cr_bLen (by rfl) t.z_len bt_len (ab_cons (b_var 1) ab_nil))) ab_nil)) (blkOk_by (own := [("at", 2)]) (by with_unfolding_all rfl)) (by decide) (fun _ _ _ _ _ => (g_n sc__law_same.nd)) (fun _ _ _ _ _ => ts_nil) (fun _ _ _ _ _ => (e_call (FnOk.mono ih (by omega)) hr (by rfl) t.q__law_same t.F__law_same.kp t.b__law_same (ab_cons (b_ix (hu1 hr) (b_var 0) (b_var 2)) (ab_cons (b_ix (hu1 hr) (b_var 1) (b_var 2)) ab_nil)))))) ab_nil))))) ss_nil)
  (ss_cons (s_if (t_cmp op_dIsN (b_var 1) (E.b e_non) (nomark _)) (ss_one (s_ret (e_cmp op_dIsN (b_var 0) (E.b e_non) (nomark _)))) ss_nil)
  (ss_cons (s_if (t_val (E.b (e_isi .str (b_var 1) (by rfl) t.z_isinstance (by rfl) t.z_str bt_str))) (ss_one (s_ret (e_and (e_asB (E.b (e_isi .str (b_var 0) (by rfl) t.z_isinstance (by rfl) t.z_str bt_str))) (e_and1 (e_cmp (op_dEq (hu64 hr)) (b_var 0) (b_var 1) (nomark _)))))) ss_nil)
  (ss_cons (s_if (t_val (E.b (e_isi .bool (b_var 1) (by rfl) t.z_isinstance (by rfl) t.z_bool bt_bool))) (ss_one (s_ret (e_and (e_asB (E.b (e_isi .bool (b_var 0) (by rfl) t.z_isinstance (by rfl) t.z_bool bt_bool))) (e_and1 (e_cmp (op_dEq (hu64 hr)) (b_var 0) (b_var 1) (nomark _)))))) ss_nil)
  (ss_one (s_ret (e_and (e_asB (E.b (e_isi .int (b_var 0) (by rfl) t.z_isinstance (by rfl) t.z_int bt_int))) (e_and (e_not (e_asB (E.b (e_isi .bool (b_var 0) (by rfl) t.z_isinstance (by rfl) t.z_bool bt_bool)))) (e_and1 (e_cmp (op_dEq (hu64 hr)) (b_var 0) (b_var 1) (nomark _)))))))))))
noncomputable def m__law_same : List D → Mo D := r__law_same 6
theorem ok__law_same {P : Program} {w : World} {K : PySem.W.Frag} {mg : Str → Option Value} {base : Heap} (t : Top K mg) : FnOk P w K mg base CX0 7 t.a__law_same t.d__law_same ["told", "due"] (spF w K 2 m__law_same) := okr__law_same t 6

end K87

set_option Elab.async false
set_option linter.all false
set_option maxRecDepth 100000
set_option maxHeartbeats 4000000
namespace K87
open PySem PySem.Spec L2 FL
/-! _law_sequences_right: slots 0 heap, 1 counts, 2 scopes, 3 near, 4 sequence, 5 clusters, 6 sizes, 7 flows, 8 costs, 9 before, 10 others, 11 left, 12 thing, 13 union, 14 lot, 15 other, 16 scope -/
noncomputable def g__law_sequences_right : Sv :=
  (sSeq (sSet 5 (fCall 2 m__law_clusters (fCons (fVar 3) (fCons (fVar 4) fNil))))
  (sSeq (sPar [6, 7] (fCons (fLc [14] (fItems (fVar 5)) (.n 14) fYes (fCall 2 m__law_size (fCons (fVar 1) (fCons (fVar 14) fNil)))) (fCons (fCall 2 m__law_flows (fCons (fVar 4) (fCons (fVar 5) fNil))) fNil)))
  (sSeq (sIf (fOr (fNot (fTB (fCall 2 m__law_same (fCons (fCall 2 m_clusters_by (fCons (fVar 2) (fCons (fVar 4) fNil))) (fCons (fCallB bTuple (fCons (fVar 5) fNil)) fNil))))) (fNot (fTB (fCall 2 m__law_same (fCons (fCall 3 m_sizes_by (fCons (fVar 1) (fCons (fVar 2) (fCons (fVar 4) fNil)))) (fCons (fCallB bTuple (fCons (fVar 6) fNil)) fNil)))))) (sRet (fC (.bl false))) (sPure .nx))
  (sSeq (sSet 8 (fTup (fCons (fCall 4 m_cost_by (fCons (fVar 1) (fCons (fVar 2) (fCons (fVar 4) (fCons (fC (.str (PySem.Str.ofString "greatest"))) fNil))))) (fCons (fCall 4 m_cost_by (fCons (fVar 1) (fCons (fVar 2) (fCons (fVar 4) (fCons (fC (.str (PySem.Str.ofString "total"))) fNil))))) fNil))))
  (sSeq (sIf (fOr (fNot (fTB (fCall 2 m__law_same (fCons (fVar 8) (fCons (fTup (fCons (fCallB bMax (fCons (fBin dAdd (fLst (fCons (fC (.int 0)) fNil)) (fVar 6)) fNil)) (fCons (fCallB bSum (fCons (fVar 6) fNil)) fNil))) fNil))))) (fNot (fTB (fCall 2 m__law_same (fCons (fCall 2 m_flows_by (fCons (fVar 2) (fCons (fVar 4) fNil))) (fCons (fCallB bTuple (fCons (fVar 7) fNil)) fNil)))))) (sRet (fC (.bl false))) (sPure .nx))
  (sSeq (sIf (fNot (fTB (fCall 2 m__law_same (fCons (fCall 2 m_settled_sequence (fCons (fVar 2) (fCons (fVar 4) fNil))) (fCons (fCall 2 m__law_settled (fCons (fVar 4) (fCons (fVar 7) fNil))) fNil))))) (sRet (fC (.bl false))) (sPure .nx))
  (sSeq (sSet 9 (fSl (fVar 4) fNoPart (fPart (fCall 2 m__law_draw (fCons (fVar 0) (fCons (fBin dAdd (fCallB bLen (fCons (fVar 4) fNil)) (fC (.int 1))) fNil))))))
  (sSeq (sSet 10 (fLc [12] (fRange1 (fCons (fCallB bLen (fCons (fVar 1) fNil)) fNil)) (.n 12) (fCmp dNotIn (fVar 12) (fVar 9)) (fImm (fVar 12))))
  (sSeq (sSet 11 (fImm (fVar 2)))
  (sSeq (sFor [9] (fItems (fVar 9)) (.n 12) (sSeq (sSet 13 (fLc [15] (fRange1 (fCons (fCallB bLen (fCons (fVar 1) fNil)) fNil)) (.n 15) (fAnd (fCmp dNe (fVar 15) (fVar 12)) (fTB (fCallB bAny (fCons (fLc [16] (fItems (fVar 11)) (.n 16) fYes (fB (fAnd (fCmp dIn (fVar 12) (fVar 16)) (fCmp dIn (fVar 15) (fVar 16))))) fNil)))) (fImm (fVar 15))))
  (sSet 11 (fBin dAdd (fCallB bTuple (fCons (fLc [16] (fItems (fVar 11)) (.n 16) (fCmp dNotIn (fVar 12) (fVar 16)) (fImm (fVar 16))) fNil)) (fTup (fCons (fCallB bTuple (fCons (fVar 13) fNil)) fNil))))))
  (sSeq (sIf (fNot (fTB (fCall 2 m__law_same (fCons (fCall 2 m_scopes_left (fCons (fVar 2) (fCons (fVar 9) fNil))) (fCons (fVar 11) fNil))))) (sRet (fC (.bl false))) (sPure .nx))
  (sSeq (sIf (fCmp dEq (fVar 10) (fLst fNil)) (sRet (fC (.bl true))) (sPure .nx))
  (sSeq (sSet 12 (fCall 2 m__law_pick (fCons (fVar 0) (fCons (fVar 10) fNil))))
  (sRet (fCall 2 m__law_same (fCons (fCall 3 m_cluster_behind (fCons (fVar 2) (fCons (fCall 2 m__law_shuffled (fCons (fVar 0) (fCons (fCallB bList (fCons (fVar 9) fNil)) fNil))) (fCons (fVar 12) fNil)))) (fCons (fCall 3 m__law_cluster (fCons (fVar 3) (fCons (fVar 9) (fCons (fVar 12) fNil)))) fNil)))))))))))))))))
noncomputable def m__law_sequences_right : List D → Mo D := mirF 17 5 g__law_sequences_right
theorem ok__law_sequences_right {P : Program} {w : World} {K : PySem.W.Frag} {mg : Str → Option Value} {base : Heap} (t : Top K mg) : FnOk P w K mg base CX0 8 t.a__law_sequences_right t.d__law_sequences_right ["heap", "counts", "scopes", "near", "sequence"] (spF w K 5 m__law_sequences_right) :=
  fl_okN (k := 7) (g := g__law_sequences_right) 17 5 t.F__law_sequences_right sc__law_sequences_right rfl rfl fun cdv A outer s H Ee hcd hr =>
  (ss_cons (s_set (i := 5) (e_call (FnOk.mono (ok__law_clusters t) (by decide)) hr (by rfl) t.q__law_clusters t.F__law_clusters.kp t.b__law_clusters (ab_cons (b_var 3) (ab_cons (b_var 4) ab_nil))) sc__law_sequences_right.nd)
  (ss_cons (s_par2 (i := 6) (j := 7) (by rfl) sc__law_sequences_right.nd (ae_cons (e_lc (by rfl) sc__law_sequences_right.nd (i_seq (B.p (b_var 5))) (blkOk_by (own := [("lot", 14)]) (by with_unfolding_all rfl)) (by decide) (fun _ _ _ _ _ => (g_n sc__law_sequences_right.nd)) (fun _ _ _ _ _ => ts_nil) (fun _ _ _ _ _ => (e_call (FnOk.mono (ok__law_size t) (by decide)) hr (by rfl) t.q__law_size t.F__law_size.kp t.b__law_size (ab_cons (b_var 1) (ab_cons (b_var 14) ab_nil))))) (ae_cons (e_call (FnOk.mono (ok__law_flows t) (by decide)) hr (by rfl) t.q__law_flows t.F__law_flows.kp t.b__law_flows (ab_cons (b_var 4) (ab_cons (b_var 5) ab_nil))) ae_nil)))
  (ss_cons (s_if (TW.t (t_or (t_not (t_val (E.b (e_call (FnOk.mono (ok__law_same t) (by decide)) hr (by rfl) t.q__law_same t.F__law_same.kp t.b__law_same (ab_cons (E.b (e_call (FnOk.mono (ok_clusters_by t) (by decide)) hr (by rfl) t.q_clusters_by t.F_clusters_by.kp t.b_clusters_by (ab_cons (b_var 2) (ab_cons (b_var 4) ab_nil)))) (ab_cons (E.b (e_callTy cr_bTuple (by rfl) t.z_tuple bt_tuple (ab_cons (b_var 5) ab_nil))) ab_nil)))))) (t_or1 (t_not (t_val (E.b (e_call (FnOk.mono (ok__law_same t) (by decide)) hr (by rfl) t.q__law_same t.F__law_same.kp t.b__law_same (ab_cons (E.b (e_call (FnOk.mono (ok_sizes_by t) (by decide)) hr (by rfl) t.q_sizes_by t.F_sizes_by.kp t.b_sizes_by (ab_cons (b_var 1) (ab_cons (b_var 2) (ab_cons (b_var 4) ab_nil))))) (ab_cons (E.b (e_callTy cr_bTuple (by rfl) t.z_tuple bt_tuple (ab_cons (b_var 6) ab_nil))) ab_nil))))))))) (ss_one (s_ret e_bl)) ss_nil)
  (ss_cons (s_set (i := 8) (e_tup (ae_cons (e_call (FnOk.mono (ok_cost_by t) (by decide)) hr (by rfl) t.q_cost_by t.F_cost_by.kp t.b_cost_by (ab_cons (b_var 1) (ab_cons (b_var 2) (ab_cons (b_var 4) (ab_cons (E.b e_str) ab_nil))))) (ae_cons (e_call (FnOk.mono (ok_cost_by t) (by decide)) hr (by rfl) t.q_cost_by t.F_cost_by.kp t.b_cost_by (ab_cons (b_var 1) (ab_cons (b_var 2) (ab_cons (b_var 4) (ab_cons (E.b e_str) ab_nil))))) ae_nil))) sc__law_sequences_right.nd)
  (ss_cons (s_if (TW.t (t_or (t_not (t_val (E.b (e_call (FnOk.mono (ok__law_same t) (by decide)) hr (by rfl) t.q__law_same t.F__law_same.kp t.b__law_same (ab_cons (b_var 8) (ab_cons (E.b (e_tup (ae_cons (e_callB (cr_bMax (by rfl) (hu100 hr)) (by rfl) t.z_max bt_max (ab_cons (E.b (e_bin op_dAdd (E.b (e_lst (ae_cons e_int ae_nil))) (b_var 6))) ab_nil)) (ae_cons (e_callB (cr_bSum (by rfl)) (by rfl) t.z_sum bt_sum (ab_cons (b_var 6) ab_nil)) ae_nil)))) ab_nil)))))) (t_or1 (t_not (t_val (E.b (e_call (FnOk.mono (ok__law_same t) (by decide)) hr (by rfl) t.q__law_same t.F__law_same.kp t.b__law_same (ab_cons (E.b (e_call (FnOk.mono (ok_flows_by t) (by decide)) hr (by rfl) t.q_flows_by t.F_flows_by.kp t.b_flows_by (ab_cons (b_var 2) (ab_cons (b_var 4) ab_nil)))) (ab_cons (E.b (e_callTy cr_bTuple (by rfl) t.z_tuple bt_tuple (ab_cons (b_var 7) ab_nil))) ab_nil))))))))) (ss_one (s_ret e_bl)) ss_nil)
  (ss_cons (s_if (t_not (t_val (E.b (e_call (FnOk.mono (ok__law_same t) (by decide)) hr (by rfl) t.q__law_same t.F__law_same.kp t.b__law_same (ab_cons (E.b (e_call (FnOk.mono (ok_settled_sequence t) (by decide)) hr (by rfl) t.q_settled_sequence t.F_settled_sequence.kp t.b_settled_sequence (ab_cons (b_var 2) (ab_cons (b_var 4) ab_nil)))) (ab_cons (E.b (e_call (FnOk.mono (ok__law_settled t) (by decide)) hr (by rfl) t.q__law_settled t.F__law_settled.kp t.b__law_settled (ab_cons (b_var 4) (ab_cons (b_var 7) ab_nil)))) ab_nil)))))) (ss_one (s_ret e_bl)) ss_nil)
  (ss_cons (s_set (i := 9) (e_slice (b_var 4) o_none (o_some (E.b (e_call (FnOk.mono (ok__law_draw t) (by decide)) hr (by rfl) t.q__law_draw t.F__law_draw.kp t.b__law_draw (ab_cons (b_var 0) (ab_cons (E.b (e_bin op_dAdd (E.b (e_callB cr_bLen (by rfl) t.z_len bt_len (ab_cons (b_var 4) ab_nil))) (E.b e_int))) ab_nil)))))) sc__law_sequences_right.nd)
  (ss_cons (s_setLc (i := 10) (by rfl) sc__law_sequences_right.nd (i_range1 (by rfl) t.z_range (ab_cons (E.b (e_callB cr_bLen (by rfl) t.z_len bt_len (ab_cons (b_var 1) ab_nil))) ab_nil)) (blkOk_by (own := [("thing", 12)]) (by with_unfolding_all rfl)) (by decide) (fun _ _ _ _ _ => (g_n sc__law_sequences_right.nd)) (fun _ _ _ _ _ => (ts_one (t_cmp (op_dNotIn (hu65 hr)) (b_var 12) (b_var 9) (by with_unfolding_all rfl)))) (fun _ _ _ _ _ => (B.e (b_var 12))))
  (ss_cons (s_set (i := 11) (B.e (b_var 2)) sc__law_sequences_right.nd)
  (ss_cons (s_for (lk := [9]) (by rfl) (i_seq (B.p (b_var 9))) (g_n sc__law_sequences_right.nd) (ss_cons (s_setLc (i := 13) (by rfl) sc__law_sequences_right.nd (i_range1 (by rfl) t.z_range (ab_cons (E.b (e_callB cr_bLen (by rfl) t.z_len bt_len (ab_cons (b_var 1) ab_nil))) ab_nil)) (blkOk_by (own := [("other", 15)]) (by with_unfolding_all rfl)) (by decide) (fun _ _ _ _ _ => (g_n sc__law_sequences_right.nd)) (fun _ _ _ _ _ => (ts_one (TW.t (t_and (t_cmp (op_dNe (hu64 hr)) (b_var 15) (b_var 12) (nomark _)) (t_and1 (t_val (E.b (e_callB (cr_bAny (by rfl)) (by rfl) t.z_any bt_any (ab_cons (E.b (e_lc (by rfl) sc__law_sequences_right.nd (i_seq (B.p (b_var 11))) (blkOk_by (own := [("scope", 16)]) (by with_unfolding_all rfl)) (by decide) (fun _ _ _ _ _ => (g_n sc__law_sequences_right.nd)) (fun _ _ _ _ _ => ts_nil) (fun _ _ _ _ _ => (e_and (e_cmp (op_dIn (hu65 hr)) (b_var 12) (b_var 16) (by with_unfolding_all rfl)) (e_and1 (e_cmp (op_dIn (hu65 hr)) (b_var 15) (b_var 16) (by with_unfolding_all rfl))))))) ab_nil))))))))) (fun _ _ _ _ _ => (B.e (b_var 15))))
  (ss_one (s_set (i := 11) (e_bin op_dAdd (E.b (e_callTy cr_bTuple (by rfl) t.z_tuple bt_tuple (ab_cons (E.b (e_lc (by rfl) sc__law_sequences_right.nd (i_seq (B.p (b_var 11))) (blkOk_by (own := [("scope", 16)]) (by with_unfolding_all rfl)) (by decide) (fun _ _ _ _ _ => (g_n sc__law_sequences_right.nd)) (fun _ _ _ _ _ => (ts_one (t_cmp (op_dNotIn (hu65 hr)) (b_var 12) (b_var 16) (by with_unfolding_all rfl)))) (fun _ _ _ _ _ => (B.e (b_var 16))))) ab_nil))) (E.b (e_tup (ae_cons (e_callTy cr_bTuple (by rfl) t.z_tuple bt_tuple (ab_cons (b_var 13) ab_nil)) ae_nil)))) sc__law_sequences_right.nd))))
  (ss_cons (s_if (t_not (t_val (E.b (e_call (FnOk.mono (ok__law_same t) (by decide)) hr (by rfl) t.q__law_same t.F__law_same.kp t.b__law_same (ab_cons (E.b (e_call (FnOk.mono (ok_scopes_left t) (by decide)) hr (by rfl) t.q_scopes_left t.F_scopes_left.kp t.b_scopes_left (ab_cons (b_var 2) (ab_cons (b_var 9) ab_nil)))) (ab_cons (b_var 11) ab_nil)))))) (ss_one (s_ret e_bl)) ss_nil)
  (ss_cons (s_if (t_cmp (op_dEq (hu64 hr)) (b_var 10) (E.b (e_lst ae_nil)) (nomark _)) (ss_one (s_ret e_bl)) ss_nil)
  (ss_cons (s_set (i := 12) (e_call (FnOk.mono (ok__law_pick t) (by decide)) hr (by rfl) t.q__law_pick t.F__law_pick.kp t.b__law_pick (ab_cons (b_var 0) (ab_cons (b_var 10) ab_nil))) sc__law_sequences_right.nd)
  (ss_one (s_ret (e_call (FnOk.mono (ok__law_same t) (by decide)) hr (by rfl) t.q__law_same t.F__law_same.kp t.b__law_same (ab_cons (E.b (e_call (FnOk.mono (ok_cluster_behind t) (by decide)) hr (by rfl) t.q_cluster_behind t.F_cluster_behind.kp t.b_cluster_behind (ab_cons (b_var 2) (ab_cons (E.b (e_call (FnOk.mono (ok__law_shuffled t) (by decide)) hr (by rfl) t.q__law_shuffled t.F__law_shuffled.kp t.b__law_shuffled (ab_cons (b_var 0) (ab_cons (E.b (e_callTy (cr_bList (by rfl)) (by rfl) t.z_list bt_list (ab_cons (b_var 9) ab_nil))) ab_nil)))) (ab_cons (b_var 12) ab_nil))))) (ab_cons (E.b (e_call (FnOk.mono (ok__law_cluster t) (by decide)) hr (by rfl) t.q__law_cluster t.F__law_cluster.kp t.b__law_cluster (ab_cons (b_var 3) (ab_cons (b_var 9) (ab_cons (b_var 12) ab_nil))))) ab_nil))))))))))))))))))
/-! _law_free: slots 0 near, 1 before, 2 thing, 3 lot, 4 one, 5 other -/
noncomputable def g__law_free : Sv :=
  (sSeq (sSet 3 (fCall 3 m__law_cluster (fCons (fVar 0) (fCons (fVar 1) (fCons (fVar 2) fNil)))))
  (sSeq (sFor [3] (fItems (fVar 3)) (.n 4) (sIf (fAnd (fCmp dNe (fVar 4) (fVar 2)) (fNot (fTB (fCallB bAll (fCons (fLc [5] (fItems (fVar 3)) (.n 5) (fCmp dNe (fVar 5) (fVar 2)) (fB (fCmp dIn (fVar 5) (fCall 3 m__law_cluster (fCons (fVar 0) (fCons (fVar 1) (fCons (fVar 4) fNil))))))) fNil))))) (sRet (fC (.bl false))) (sPure .nx)))
  (sRet (fC (.bl true)))))
noncomputable def m__law_free : List D → Mo D := mirF 6 3 g__law_free
theorem ok__law_free {P : Program} {w : World} {K : PySem.W.Frag} {mg : Str → Option Value} {base : Heap} (t : Top K mg) : FnOk P w K mg base CX0 2 t.a__law_free t.d__law_free ["near", "before", "thing"] (spF w K 3 m__law_free) :=
  fl_okN (k := 1) (g := g__law_free) 6 3 t.F__law_free sc__law_free rfl rfl fun cdv A outer s H Ee hcd hr =>
  (ss_cons (s_set (i := 3) (e_call (FnOk.mono (ok__law_cluster t) (by decide)) hr (by rfl) t.q__law_cluster t.F__law_cluster.kp t.b__law_cluster (ab_cons (b_var 0) (ab_cons (b_var 1) (ab_cons (b_var 2) ab_nil)))) sc__law_free.nd)
  (ss_cons (s_for (lk := [3]) (by rfl) (i_seq (B.p (b_var 3))) (g_n sc__law_free.nd) (ss_one (s_if (TW.t (t_and (t_cmp (op_dNe (hu64 hr)) (b_var 4) (b_var 2) (nomark _)) (t_and1 (t_not (t_val (E.b (e_callB (cr_bAll (by rfl)) (by rfl) t.z_all bt_all (ab_cons (E.b (e_lc (by rfl) sc__law_free.nd (i_seq (B.p (b_var 3))) (blkOk_by (own := [("other", 5)]) (by with_unfolding_all rfl)) (by decide) (fun _ _ _ _ _ => (g_n sc__law_free.nd)) (fun _ _ _ _ _ => (ts_one (t_cmp (op_dNe (hu64 hr)) (b_var 5) (b_var 2) (nomark _)))) (fun _ _ _ _ _ => (e_cmp (op_dIn (hu65 hr)) (b_var 5) (E.b (e_call (FnOk.mono (ok__law_cluster t) (by decide)) hr (by rfl) t.q__law_cluster t.F__law_cluster.kp t.b__law_cluster (ab_cons (b_var 0) (ab_cons (b_var 1) (ab_cons (b_var 4) ab_nil))))) (by with_unfolding_all rfl))))) ab_nil)))))))) (ss_one (s_ret e_bl)) ss_nil)))
  (ss_one (s_ret e_bl))))
/-! _law_greedy: slots 0 counts, 1 near, 2 lot, 3 left, 4 found, 5 some, 6 thing -/
noncomputable def g__law_greedy : Sv :=
  (sSeq (sUnp [3, 4] (fTup (fCons (fCallB bList (fCons (fVar 2) fNil)) (fCons (fTup fNil) fNil))))
  (sSeq (sWhile (fCmp dNe (fVar 3) (fLst fNil)) (sSeq (sSet 5 (fCallB bSorted (fCons (fLc [6] (fItems (fVar 3)) (.n 6) fYes (fTup (fCons (fCall 2 m__law_size (fCons (fVar 0) (fCons (fCall 3 m__law_cluster (fCons (fVar 1) (fCons (fVar 4) (fCons (fVar 6) fNil)))) fNil))) (fCons (fImm (fVar 6)) fNil)))) fNil)))
  (sSeq (sM (mRem 3 (fIx (fIx (fVar 5) (fC (.int 0))) (fC (.int 1)))))
  (sSet 4 (fBin dAdd (fVar 4) (fTup (fCons (fImm (fIx (fIx (fVar 5) (fC (.int 0))) (fC (.int 1)))) fNil)))))))
  (sRetN 4)))
noncomputable def m__law_greedy : List D → Mo D := mirF 7 3 g__law_greedy
theorem ok__law_greedy {P : Program} {w : World} {K : PySem.W.Frag} {mg : Str → Option Value} {base : Heap} (t : Top K mg) : FnOk P w K mg base CX0 2 t.a__law_greedy t.d__law_greedy ["counts", "near", "lot"] (spF w K 3 m__law_greedy) :=
  fl_okN (k := 1) (g := g__law_greedy) 7 3 t.F__law_greedy sc__law_greedy rfl rfl fun cdv A outer s H Ee hcd hr =>
  (ss_cons (s_unp (is := [3, 4]) (e_tup (ae_cons (e_callTy (cr_bList (by rfl)) (by rfl) t.z_list bt_list (ab_cons (b_var 2) ab_nil)) (ae_cons (e_tup ae_nil) ae_nil))) (g_t (by rfl) (gs_cons (gs_cons gs_nil sc__law_greedy.nd) sc__law_greedy.nd)))
  (ss_cons (s_while (t_cmp (op_dNe (hu64 hr)) (b_var 3) (E.b (e_lst ae_nil)) (nomark _)) (ss_cons (s_set (i := 5) (e_callB (cr_bSorted (by rfl) (hu100 hr)) (by rfl) t.z_sorted bt_sorted (ab_cons (E.b (e_lc (by rfl) sc__law_greedy.nd (i_seq (B.p (b_var 3))) (blkOk_by (own := [("thing", 6)]) (by with_unfolding_all rfl)) (by decide) (fun _ _ _ _ _ => (g_n sc__law_greedy.nd)) (fun _ _ _ _ _ => ts_nil) (fun _ _ _ _ _ => (e_tup (ae_cons (e_call (FnOk.mono (ok__law_size t) (by decide)) hr (by rfl) t.q__law_size t.F__law_size.kp t.b__law_size (ab_cons (b_var 0) (ab_cons (E.b (e_call (FnOk.mono (ok__law_cluster t) (by decide)) hr (by rfl) t.q__law_cluster t.F__law_cluster.kp t.b__law_cluster (ab_cons (b_var 1) (ab_cons (b_var 4) (ab_cons (b_var 6) ab_nil))))) ab_nil))) (ae_cons (B.e (b_var 6)) ae_nil)))))) ab_nil)) sc__law_greedy.nd)
  (ss_cons (s_m (em_rem (i := 3) (b_ix (hu1 hr) (b_ix (hu1 hr) (b_var 5) (E.b e_int)) (E.b e_int))))
  (ss_one (s_set (i := 4) (e_bin op_dAdd (b_var 4) (E.b (e_tup (ae_cons (B.e (b_ix (hu1 hr) (b_ix (hu1 hr) (b_var 5) (E.b e_int)) (E.b e_int))) ae_nil)))) sc__law_greedy.nd)))))
  (ss_one (s_retN 4))))
/-! _law_free_first: slots 0 near, 1 lot, 2 left, 3 found, 4 turn, 5 some, 6 thing -/
noncomputable def g__law_free_first : Sv :=
  (sSeq (sUnp [2, 3] (fTup (fCons (fCallB bList (fCons (fVar 1) fNil)) (fCons (fTup fNil) fNil))))
  (sSeq (sForN [] (fRange1 (fCons (fCallB bLen (fCons (fVar 1) fNil)) fNil)) (.n 4) (sSeq (sSet 5 (fSl (fLc [6] (fItems (fVar 2)) (.n 6) (fTB (fCall 3 m__law_free (fCons (fVar 0) (fCons (fVar 3) (fCons (fVar 6) fNil))))) (fImm (fVar 6))) fNoPart (fPart (fC (.int 1)))))
  (sSeq (sIf (fCmp dEq (fVar 5) (fLst fNil)) (sRetN 3) (sPure .nx))
  (sSeq (sM (mRem 2 (fIx (fVar 5) (fC (.int 0)))))
  (sSet 3 (fBin dAdd (fVar 3) (fTup (fCons (fImm (fIx (fVar 5) (fC (.int 0)))) fNil))))))))
  (sRetN 3)))
noncomputable def m__law_free_first : List D → Mo D := mirF 7 2 g__law_free_first
theorem ok__law_free_first {P : Program} {w : World} {K : PySem.W.Frag} {mg : Str → Option Value} {base : Heap} (t : Top K mg) : FnOk P w K mg base CX0 3 t.a__law_free_first t.d__law_free_first ["near", "lot"] (spF w K 2 m__law_free_first) :=
  fl_okN (k := 2) (g := g__law_free_first) 7 2 t.F__law_free_first sc__law_free_first rfl rfl fun cdv A outer s H Ee hcd hr =>
  (ss_cons (s_unp (is := [2, 3]) (e_tup (ae_cons (e_callTy (cr_bList (by rfl)) (by rfl) t.z_list bt_list (ab_cons (b_var 1) ab_nil)) (ae_cons (e_tup ae_nil) ae_nil))) (g_t (by rfl) (gs_cons (gs_cons gs_nil sc__law_free_first.nd) sc__law_free_first.nd)))
  (ss_cons (s_forN (lk := []) (by rfl) (i_range1 (by rfl) t.z_range (ab_cons (E.b (e_callB cr_bLen (by rfl) t.z_len bt_len (ab_cons (b_var 1) ab_nil))) ab_nil)) (g_n sc__law_free_first.nd) (ss_cons (s_set (i := 5) (e_slice (E.b (e_lc (by rfl) sc__law_free_first.nd (i_seq (B.p (b_var 2))) (blkOk_by (own := [("thing", 6)]) (by with_unfolding_all rfl)) (by decide) (fun _ _ _ _ _ => (g_n sc__law_free_first.nd)) (fun _ _ _ _ _ => (ts_one (t_val (E.b (e_call (FnOk.mono (ok__law_free t) (by decide)) hr (by rfl) t.q__law_free t.F__law_free.kp t.b__law_free (ab_cons (b_var 0) (ab_cons (b_var 3) (ab_cons (b_var 6) ab_nil)))))))) (fun _ _ _ _ _ => (B.e (b_var 6))))) o_none (o_some (E.b e_int))) sc__law_free_first.nd)
  (ss_cons (s_if (t_cmp (op_dEq (hu64 hr)) (b_var 5) (E.b (e_lst ae_nil)) (nomark _)) (ss_one (s_retN 3)) ss_nil)
  (ss_cons (s_m (em_rem (i := 2) (b_ix (hu1 hr) (b_var 5) (E.b e_int))))
  (ss_one (s_set (i := 3) (e_bin op_dAdd (b_var 3) (E.b (e_tup (ae_cons (B.e (b_ix (hu1 hr) (b_var 5) (E.b e_int))) ae_nil)))) sc__law_free_first.nd))))))
  (ss_one (s_retN 3))))
/-! _law_core: slots 0 counts, 1 near, 2 lot, 3 left, 4 best, 5 sizes, 6 thing, 7 least, 8 other, 9 size -/
noncomputable def g__law_core : Sv :=
  (sSeq (sUnp [3, 4] (fTup (fCons (fCallB bList (fCons (fVar 2) fNil)) (fCons (fTup (fCons (fC (.int 0)) (fCons (fTup fNil) fNil))) fNil))))
  (sSeq (sWhile (fCmp dNe (fVar 3) (fLst fNil)) (sSeq (sSet 5 (fLst fNil))
  (sSeq (sFor [3] (fItems (fVar 3)) (.n 6) (sApp 5 (fTup (fCons (fCall 2 m__law_size (fCons (fVar 0) (fCons (fBin dAdd (fLst (fCons (fImm (fVar 6)) fNil)) (fLc [8] (fItems (fCallB bList (fCons (fIx (fVar 1) (fVar 6)) fNil))) (.n 8) (fOr (fCmp dIn (fVar 8) (fVar 3)) (fCmp dNotIn (fVar 8) (fVar 2))) (fImm (fVar 8)))) fNil))) (fCons (fImm (fVar 6)) fNil)))))
  (sSeq (sSet 7 (fCallB bMin (fCons (fLc [9, 6] (fItems (fVar 5)) (.t [9, 6]) fYes (fImm (fVar 9))) fNil)))
  (sSeq (sIf (fCmp dGt (fVar 7) (fIx (fVar 4) (fC (.int 0)))) (sSet 4 (fTup (fCons (fImm (fVar 7)) (fCons (fCallB bTuple (fCons (fVar 3) fNil)) fNil)))) (sPure .nx))
  (sSet 3 (fLc [9, 6] (fItems (fVar 5)) (.t [9, 6]) (fCmp dGt (fVar 9) (fVar 7)) (fImm (fVar 6)))))))))
  (sRetN 4)))
noncomputable def m__law_core : List D → Mo D := mirF 10 3 g__law_core
theorem ok__law_core {P : Program} {w : World} {K : PySem.W.Frag} {mg : Str → Option Value} {base : Heap} (t : Top K mg) : FnOk P w K mg base CX0 2 t.a__law_core t.d__law_core ["counts", "near", "lot"] (spF w K 3 m__law_core) :=
  fl_okN (k := 1) (g := g__law_core) 10 3 t.F__law_core sc__law_core rfl rfl fun cdv A outer s H Ee hcd hr =>
  (ss_cons (s_unp (is := [3, 4]) (e_tup (ae_cons (e_callTy (cr_bList (by rfl)) (by rfl) t.z_list bt_list (ab_cons (b_var 2) ab_nil)) (ae_cons (e_tup (ae_cons e_int (ae_cons (e_tup ae_nil) ae_nil))) ae_nil))) (g_t (by rfl) (gs_cons (gs_cons gs_nil sc__law_core.nd) sc__law_core.nd)))
  (ss_cons (s_while (t_cmp (op_dNe (hu64 hr)) (b_var 3) (E.b (e_lst ae_nil)) (nomark _)) (ss_cons (s_set (i := 5) (e_lst ae_nil) sc__law_core.nd)
  (ss_cons (s_for (lk := [3]) (by rfl) (i_seq (B.p (b_var 3))) (g_n sc__law_core.nd) (ss_one (s_app (i := 5) (e_tup (ae_cons (e_call (FnOk.mono (ok__law_size t) (by decide)) hr (by rfl) t.q__law_size t.F__law_size.kp t.b__law_size (ab_cons (b_var 0) (ab_cons (E.b (e_bin op_dAdd (E.b (e_lst (ae_cons (B.e (b_var 6)) ae_nil))) (E.b (e_lc (by rfl) sc__law_core.nd (i_seq (B.p (E.b (e_callTy (cr_bList (by rfl)) (by rfl) t.z_list bt_list (ab_cons (b_ix (hu1 hr) (b_var 1) (b_var 6)) ab_nil))))) (blkOk_by (own := [("other", 8)]) (by with_unfolding_all rfl)) (by decide) (fun _ _ _ _ _ => (g_n sc__law_core.nd)) (fun _ _ _ _ _ => (ts_one (TW.t (t_or (t_cmp (op_dIn (hu65 hr)) (b_var 8) (b_var 3) (by with_unfolding_all rfl)) (t_or1 (t_cmp (op_dNotIn (hu65 hr)) (b_var 8) (b_var 2) (by with_unfolding_all rfl))))))) (fun _ _ _ _ _ => (B.e (b_var 8))))))) ab_nil))) (ae_cons (B.e (b_var 6)) ae_nil))))))
  (ss_cons (s_set (i := 7) (e_callB (cr_bMin (by rfl) (hu100 hr)) (by rfl) t.z_min bt_min (ab_cons (E.b (e_lc (by rfl) sc__law_core.nd (i_seq (B.p (b_var 5))) (blkOk_by (own := [("size", 9), ("thing", 6)]) (by with_unfolding_all rfl)) (by decide) (fun _ _ _ _ _ => (g_t (by rfl) (gs_cons (gs_cons gs_nil sc__law_core.nd) sc__law_core.nd))) (fun _ _ _ _ _ => ts_nil) (fun _ _ _ _ _ => (B.e (b_var 9))))) ab_nil)) sc__law_core.nd)
  (ss_cons (s_if (t_cmp op_dGt (b_var 7) (b_ix (hu1 hr) (b_var 4) (E.b e_int)) (nomark _)) (ss_one (s_set (i := 4) (e_tup (ae_cons (B.e (b_var 7)) (ae_cons (e_callTy cr_bTuple (by rfl) t.z_tuple bt_tuple (ab_cons (b_var 3) ab_nil)) ae_nil))) sc__law_core.nd)) ss_nil)
  (ss_one (s_set (i := 3) (e_lc (by rfl) sc__law_core.nd (i_seq (B.p (b_var 5))) (blkOk_by (own := [("size", 9), ("thing", 6)]) (by with_unfolding_all rfl)) (by decide) (fun _ _ _ _ _ => (g_t (by rfl) (gs_cons (gs_cons gs_nil sc__law_core.nd) sc__law_core.nd))) (fun _ _ _ _ _ => (ts_one (t_cmp op_dGt (b_var 9) (b_var 7) (nomark _)))) (fun _ _ _ _ _ => (B.e (b_var 6)))) sc__law_core.nd)))))))
  (ss_one (s_retN 4))))
/-! law: slots 0 script, 1 heap, 2 many, 3 counts, 4 scopes, 5 near, 6 everything, 7 sequence, 8 lot, 9 thing, 10 before, 11 part, 12 some -/
noncomputable def g_law : Sv :=
  (sSeq (sSet 2 (fIf (fCmp dEq (fCall 2 m__law_draw (fCons (fVar 1) (fCons (fC (.int 2)) fNil))) (fC (.int 0))) (fC (.int 24)) (fBin dAdd (fC (.int 12)) (fCall 2 m__law_draw (fCons (fVar 1) (fCons (fC (.int 13)) fNil))))))
  (sSeq (sSet 3 (fCallB bTuple (fCons (fLc [9] (fRange1 (fCons (fVar 2) fNil)) (.n 9) fYes (fCall 2 m__law_pick (fCons (fVar 1) (fCons (fLst (fCons (fC (.int 2)) (fCons (fC (.int 2)) (fCons (fC (.int 3)) (fCons (fBin dAdd (fC (.int 2)) (fCall 2 m__law_draw (fCons (fVar 1) (fCons (fC (.int 5)) fNil)))) fNil))))) fNil)))) fNil)))
  (sSeq (sSet 4 (fCall 2 m__law_scopes (fCons (fVar 1) (fCons (fVar 2) fNil))))
  (sSeq (sPar [5, 6] (fCons (fCall 2 m__law_near (fCons (fVar 4) (fCons (fVar 2) fNil))) (fCons (fLRg1 (fVar 2)) fNil)))
  (sSeq (sSet 7 (fCall 2 m__law_shuffled (fCons (fVar 1) (fCons (fVar 6) fNil))))
  (sSeq (sIf (fNot (fTB (fCall 5 m__law_sequences_right (fCons (fVar 1) (fCons (fVar 3) (fCons (fVar 4) (fCons (fVar 5) (fCons (fVar 7) fNil)))))))) (sRet (fC (.bl false))) (sPure .nx))
  (sSeq (sIf (fNot (fTB (fCall 5 m__law_sequences_right (fCons (fVar 1) (fCons (fVar 3) (fCons (fVar 4) (fCons (fVar 5) (fCons (fSl (fVar 7) fNoPart (fPart (fBin dAdd (fBin dFdiv (fVar 2) (fC (.int 2))) (fCall 2 m__law_draw (fCons (fVar 1) (fCons (fBin dFdiv (fVar 2) (fC (.int 2))) fNil)))))) fNil)))))))) (sRet (fC (.bl false))) (sPure .nx))
  (sSeq (sSet 8 (fCallB bTuple (fCons (fCallB bSorted (fCons (fSl (fVar 7) fNoPart (fPart (fCall 2 m__law_pick (fCons (fVar 1) (fCons (fLst (fCons (fImm (fVar 2)) (fCons (fImm (fVar 2)) (fCons (fBin dSub (fVar 2) (fCall 2 m__law_draw (fCons (fVar 1) (fCons (fC (.int 9)) fNil)))) fNil)))) fNil))))) fNil)) fNil)))
  (sSeq (sPar [9, 10] (fCons (fImm (fIx (fVar 7) (fNeg (fC (.int 1))))) (fCons (fSl (fVar 7) fNoPart (fPart (fCall 2 m__law_draw (fCons (fVar 1) (fCons (fVar 2) fNil))))) fNil)))
  (sSeq (sIf (fNot (fTB (fCall 2 m__law_same (fCons (fCall 3 m_is_free (fCons (fVar 4) (fCons (fVar 10) (fCons (fVar 9) fNil)))) (fCons (fCall 3 m__law_free (fCons (fVar 5) (fCons (fVar 10) (fCons (fVar 9) fNil)))) fNil))))) (sRet (fC (.bl false))) (sPure .nx))
  (sSeq (sSet 11 (fImm (fIf (fCmp dLt (fCallB bMax (fCons (fLc [12] (fItems (fVar 5)) (.n 12) fYes (fCallB bLen (fCons (fVar 12) fNil))) fNil)) (fC (.int 5))) (fVar 8) (fCallB bTuple (fCons (fCallB bSorted (fCons (fSl (fVar 7) fNoPart (fPart (fC (.int 6)))) fNil)) fNil)))))
  (sSeq (sIf (fNot (fTB (fCall 2 m__law_same (fCons (fCall 3 m_greedy_sequence (fCons (fVar 3) (fCons (fVar 4) (fCons (fVar 8) fNil)))) (fCons (fCall 3 m__law_greedy (fCons (fVar 3) (fCons (fVar 5) (fCons (fVar 8) fNil)))) fNil))))) (sRet (fC (.bl false))) (sPure .nx))
  (sSeq (sIf (fNot (fTB (fCall 2 m__law_same (fCons (fCall 2 m_free_first (fCons (fVar 4) (fCons (fVar 11) fNil))) (fCons (fCall 2 m__law_free_first (fCons (fVar 5) (fCons (fVar 11) fNil))) fNil))))) (sRet (fC (.bl false))) (sPure .nx))
  (sRet (fCall 2 m__law_same (fCons (fCall 3 m_core_floor (fCons (fVar 3) (fCons (fVar 4) (fCons (fVar 8) fNil)))) (fCons (fCall 3 m__law_core (fCons (fVar 3) (fCons (fVar 5) (fCons (fVar 8) fNil)))) fNil)))))))))))))))))
noncomputable def h_law : Ev → Mo D := (fCall 1 m__law_heap (fCons (fVar 0) fNil))
theorem ok_law {P : Program} {w : World} {K : PySem.W.Frag} {mg : Str → Option Value} {base : Heap} (t : Top K mg)
    (good : ∀ ns : List Int, ns.length ≤ 63 → ∃ xs t u, h_law (some (.scr ns) :: List.replicate 12 none) ([], 0) = some (.lst [.lst (xs.map D.int), .int t], u) ∧ ∃ ρ' s', g_law (.no :: .bor .hp :: List.replicate 11 .no) (xs, t) = some ((.rt (.bl true), ρ'), s')) :
    FnOk P w K mg base CX0 9 t.a_law t.d_law ["script"] (spLaw K) :=
  law_ok (k := 8) (fh := h_law) (g := g_law) 11 t.F_law sc_law rfl rfl (fun cdv A outer s H Ee hcd hr => (s_set (i := 1) (e_call (FnOk.mono (ok__law_heap t) (by decide)) hr (by rfl) t.q__law_heap t.F__law_heap.kp t.b__law_heap (ab_cons (b_var 0) ab_nil)) sc_law.nd)) (fun cdv A outer s H Ee hcd hr =>
  (ss_cons (s_set (i := 2) (e_ifExp (t_cmp (op_dEq (hu64 hr)) (E.b (e_call (FnOk.mono (ok__law_draw t) (by decide)) hr (by rfl) t.q__law_draw t.F__law_draw.kp t.b__law_draw (ab_cons (b_var 1) (ab_cons (E.b e_int) ab_nil)))) (E.b e_int) (nomark _)) e_int (e_bin op_dAdd (E.b e_int) (E.b (e_call (FnOk.mono (ok__law_draw t) (by decide)) hr (by rfl) t.q__law_draw t.F__law_draw.kp t.b__law_draw (ab_cons (b_var 1) (ab_cons (E.b e_int) ab_nil)))))) sc_law.nd)
  (ss_cons (s_set (i := 3) (e_callTy cr_bTuple (by rfl) t.z_tuple bt_tuple (ab_cons (E.b (e_lc (by rfl) sc_law.nd (i_range1 (by rfl) t.z_range (ab_cons (b_var 2) ab_nil)) (blkOk_by (own := [("thing", 9)]) (by with_unfolding_all rfl)) (by decide) (fun _ _ _ _ _ => (g_n sc_law.nd)) (fun _ _ _ _ _ => ts_nil) (fun _ _ _ _ _ => (e_call (FnOk.mono (ok__law_pick t) (by decide)) hr (by rfl) t.q__law_pick t.F__law_pick.kp t.b__law_pick (ab_cons (b_var 1) (ab_cons (E.b (e_lst (ae_cons e_int (ae_cons e_int (ae_cons e_int (ae_cons (e_bin op_dAdd (E.b e_int) (E.b (e_call (FnOk.mono (ok__law_draw t) (by decide)) hr (by rfl) t.q__law_draw t.F__law_draw.kp t.b__law_draw (ab_cons (b_var 1) (ab_cons (E.b e_int) ab_nil))))) ae_nil)))))) ab_nil)))))) ab_nil)) sc_law.nd)
  (ss_cons (s_set (i := 4) (e_call (FnOk.mono (ok__law_scopes t) (by decide)) hr (by rfl) t.q__law_scopes t.F__law_scopes.kp t.b__law_scopes (ab_cons (b_var 1) (ab_cons (b_var 2) ab_nil))) sc_law.nd)
  (ss_cons (s_par2 (i := 5) (j := 6) (by rfl) sc_law.nd (ae_cons (e_call (FnOk.mono (ok__law_near t) (by decide)) hr (by rfl) t.q__law_near t.F__law_near.kp t.b__law_near (ab_cons (b_var 4) (ab_cons (b_var 2) ab_nil))) (ae_cons (e_listRg1 (by rfl) t.z_list (by rfl) t.z_range (b_var 2)) ae_nil)))
  (ss_cons (s_set (i := 7) (e_call (FnOk.mono (ok__law_shuffled t) (by decide)) hr (by rfl) t.q__law_shuffled t.F__law_shuffled.kp t.b__law_shuffled (ab_cons (b_var 1) (ab_cons (b_var 6) ab_nil))) sc_law.nd)
  (ss_cons (s_if (t_not (t_val (E.b (e_call (FnOk.mono (ok__law_sequences_right t) (by decide)) hr (by rfl) t.q__law_sequences_right t.F__law_sequences_right.kp t.b__law_sequences_right (ab_cons (b_var 1) (ab_cons (b_var 3) (ab_cons (b_var 4) (ab_cons (b_var 5) (ab_cons (b_var 7) ab_nil))))))))) (ss_one (s_ret e_bl)) ss_nil)
  (ss_cons (s_if (t_not (t_val (E.b (e_call (FnOk.mono (ok__law_sequences_right t) (by decide)) hr (by rfl) t.q__law_sequences_right t.F__law_sequences_right.kp t.b__law_sequences_right (ab_cons (b_var 1) (ab_cons (b_var 3) (ab_cons (b_var 4) (ab_cons (b_var 5) (ab_cons (E.b (e_slice (b_var 7) o_none (o_some (E.b (e_bin op_dAdd (E.b (e_bin op_dFdiv (b_var 2) (E.b e_int))) (E.b (e_call (FnOk.mono (ok__law_draw t) (by decide)) hr (by rfl) t.q__law_draw t.F__law_draw.kp t.b__law_draw (ab_cons (b_var 1) (ab_cons (E.b (e_bin op_dFdiv (b_var 2) (E.b e_int))) ab_nil))))))))) ab_nil))))))))) (ss_one (s_ret e_bl)) ss_nil)
  (ss_cons (s_set (i := 8) (e_callTy cr_bTuple (by rfl) t.z_tuple bt_tuple (ab_cons (E.b (e_callB (cr_bSorted (by rfl) (hu100 hr)) (by rfl) t.z_sorted bt_sorted (ab_cons (E.b (e_slice (b_var 7) o_none (o_some (E.b (e_call (FnOk.mono (ok__law_pick t) (by decide)) hr (by rfl) t.q__law_pick t.F__law_pick.kp t.b__law_pick (ab_cons (b_var 1) (ab_cons (E.b (e_lst (ae_cons (B.e (b_var 2)) (ae_cons (B.e (b_var 2)) (ae_cons (e_bin op_dSub (b_var 2) (E.b (e_call (FnOk.mono (ok__law_draw t) (by decide)) hr (by rfl) t.q__law_draw t.F__law_draw.kp t.b__law_draw (ab_cons (b_var 1) (ab_cons (E.b e_int) ab_nil))))) ae_nil))))) ab_nil))))))) ab_nil))) ab_nil)) sc_law.nd)
  (ss_cons (s_par2 (i := 9) (j := 10) (by rfl) sc_law.nd (ae_cons (B.e (b_ix (hu1 hr) (b_var 7) (E.b (e_neg (E.b e_int))))) (ae_cons (e_slice (b_var 7) o_none (o_some (E.b (e_call (FnOk.mono (ok__law_draw t) (by decide)) hr (by rfl) t.q__law_draw t.F__law_draw.kp t.b__law_draw (ab_cons (b_var 1) (ab_cons (b_var 2) ab_nil)))))) ae_nil)))
  (ss_cons (s_if (t_not (t_val (E.b (e_call (FnOk.mono (ok__law_same t) (by decide)) hr (by rfl) t.q__law_same t.F__law_same.kp t.b__law_same (ab_cons (E.b (e_call (FnOk.mono (ok_is_free t) (by decide)) hr (by rfl) t.q_is_free t.F_is_free.kp t.b_is_free (ab_cons (b_var 4) (ab_cons (b_var 10) (ab_cons (b_var 9) ab_nil))))) (ab_cons (E.b (e_call (FnOk.mono (ok__law_free t) (by decide)) hr (by rfl) t.q__law_free t.F__law_free.kp t.b__law_free (ab_cons (b_var 5) (ab_cons (b_var 10) (ab_cons (b_var 9) ab_nil))))) ab_nil)))))) (ss_one (s_ret e_bl)) ss_nil)
  (ss_cons (s_set (i := 11) (B.e (b_ifExp (t_cmp op_dLt (E.b (e_callB (cr_bMax (by rfl) (hu100 hr)) (by rfl) t.z_max bt_max (ab_cons (E.b (e_lc (by rfl) sc_law.nd (i_seq (B.p (b_var 5))) (blkOk_by (own := [("some", 12)]) (by with_unfolding_all rfl)) (by decide) (fun _ _ _ _ _ => (g_n sc_law.nd)) (fun _ _ _ _ _ => ts_nil) (fun _ _ _ _ _ => (e_callB cr_bLen (by rfl) t.z_len bt_len (ab_cons (b_var 12) ab_nil))))) ab_nil))) (E.b e_int) (nomark _)) (b_var 8) (E.b (e_callTy cr_bTuple (by rfl) t.z_tuple bt_tuple (ab_cons (E.b (e_callB (cr_bSorted (by rfl) (hu100 hr)) (by rfl) t.z_sorted bt_sorted (ab_cons (E.b (e_slice (b_var 7) o_none (o_some (E.b e_int)))) ab_nil))) ab_nil))))) sc_law.nd)
  (ss_cons (s_if (t_not (t_val (E.b (e_call (FnOk.mono (ok__law_same t) (by decide)) hr (by rfl) t.q__law_same t.F__law_same.kp t.b__law_same (ab_cons (E.b (e_call (FnOk.mono (ok_greedy_sequence t) (by decide)) hr (by rfl) t.q_greedy_sequence t.F_greedy_sequence.kp t.b_greedy_sequence (ab_cons (b_var 3) (ab_cons (b_var 4) (ab_cons (b_var 8) ab_nil))))) (ab_cons (E.b (e_call (FnOk.mono (ok__law_greedy t) (by decide)) hr (by rfl) t.q__law_greedy t.F__law_greedy.kp t.b__law_greedy (ab_cons (b_var 3) (ab_cons (b_var 5) (ab_cons (b_var 8) ab_nil))))) ab_nil)))))) (ss_one (s_ret e_bl)) ss_nil)
  (ss_cons (s_if (t_not (t_val (E.b (e_call (FnOk.mono (ok__law_same t) (by decide)) hr (by rfl) t.q__law_same t.F__law_same.kp t.b__law_same (ab_cons (E.b (e_call (FnOk.mono (ok_free_first t) (by decide)) hr (by rfl) t.q_free_first t.F_free_first.kp t.b_free_first (ab_cons (b_var 4) (ab_cons (b_var 11) ab_nil)))) (ab_cons (E.b (e_call (FnOk.mono (ok__law_free_first t) (by decide)) hr (by rfl) t.q__law_free_first t.F__law_free_first.kp t.b__law_free_first (ab_cons (b_var 5) (ab_cons (b_var 11) ab_nil)))) ab_nil)))))) (ss_one (s_ret e_bl)) ss_nil)
  (ss_one (s_ret (e_call (FnOk.mono (ok__law_same t) (by decide)) hr (by rfl) t.q__law_same t.F__law_same.kp t.b__law_same (ab_cons (E.b (e_call (FnOk.mono (ok_core_floor t) (by decide)) hr (by rfl) t.q_core_floor t.F_core_floor.kp t.b_core_floor (ab_cons (b_var 3) (ab_cons (b_var 4) (ab_cons (b_var 8) ab_nil))))) (ab_cons (E.b (e_call (FnOk.mono (ok__law_core t) (by decide)) hr (by rfl) t.q__law_core t.F__law_core.kp t.b__law_core (ab_cons (b_var 3) (ab_cons (b_var 5) (ab_cons (b_var 8) ab_nil))))) ab_nil))))))))))))))))))) good
end K87

set_option Elab.async false
set_option linter.all false
set_option maxRecDepth 100000
set_option maxHeartbeats 4000000
namespace K87
open PySem PySem.Spec L2 FL
/-! ### the things -/
abbrev dS (S : List (List Int)) : D := .tup (S.map fun s => tI' s)
structure OkSc (n : Nat) (S : List (List Int)) : Prop where
  len : S.length ≤ 1000
  tot : (S.map List.length).sum ≤ 2000
  rg : ∀ s ∈ S, ∀ v ∈ s, 0 ≤ v ∧ v < n
def tie (S : List (List Int)) (x : Int) : List Int := S.flatMap fun s => if s.contains x then s else []
theorem mem_tie {S : List (List Int)} {x y : Int} : y ∈ tie S x ↔ ∃ s ∈ S, x ∈ s ∧ y ∈ s := by
  unfold tie
  rw [List.mem_flatMap]
  constructor
  · rintro ⟨s, m, h⟩
    by_cases c : s.contains x = true
    · rw [if_pos c] at h
      exact ⟨s, m, by simpa using c, h⟩
    · rw [if_neg c] at h; cases h
  · rintro ⟨s, m, h1, h2⟩
    exact ⟨s, m, by rw [if_pos (by simpa using h1)]; exact h2⟩
theorem flat_len {S : List (List Int)} {f : List Int → List Int} (h : ∀ s, (f s).length ≤ s.length) : (S.flatMap f).length ≤ (S.map List.length).sum := by
  induction S with
  | nil => simp
  | cons s S ih =>
    rw [List.flatMap_cons, List.length_append, List.map_cons, List.sum_cons]
    have h1 := h s
    omega
theorem tie_len {n : Nat} {S : List (List Int)} (h : OkSc n S) (x : Int) : (tie S x).length ≤ 2000 := by
  have := flat_len (S := S) (f := fun s => if s.contains x then s else []) fun s => by
    by_cases c : s.contains x = true
    · rw [if_pos c]; exact Nat.le_refl _
    · rw [if_neg c]; simp
  have l := h.tot
  unfold tie
  omega
theorem tie_rg {n : Nat} {S : List (List Int)} (h : OkSc n S) {x y : Int} (m : y ∈ tie S x) : 0 ≤ y ∧ y < n := by
  obtain ⟨s, m1, _, m2⟩ := mem_tie.mp m
  exact h.rg s m1 y m2
theorem sl_big {k : Nat} (h : k ≤ 100000) : k ≤ sizeLine := by rw [sizeLine_eq]; omega
theorem tr_tied {n : Nat} {S : List (List Int)} (ok : OkSc n S) (x : Int) : Tr (m_tied_things [dS S, .int x]) (fun d => d = lI (tie S x)) := by
  simp [m_tied_things, g_tied_things]
  refine (lc2Go_tr (fun s => s.contains x) (fun s => s) D.int (fun _ _ => true) (fun _ c => .int c) fun s _ => ?_).bnd ?_
  · simp
  · rintro ys rfl
    have e : ((S.filter fun s => s.contains x).flatMap fun a => (a.filter fun _ => true).map D.int) = dI (tie S x) := by
      unfold tie
      clear ok
      induction S with
      | nil => rfl
      | cons s S ih =>
        rw [List.flatMap_cons]
        show _ = List.map D.int (_ ++ _)
        rw [List.map_append]
        show _ = _ ++ dI _
        rw [← ih]
        by_cases c : s.contains x = true
        · rw [List.filter_cons_of_pos (p := fun s : List Int => s.contains x) c, List.flatMap_cons, if_pos c, List.filter_eq_self.mpr fun _ _ => rfl]
        · rw [List.filter_cons_of_neg (p := fun s : List Int => s.contains x) c, if_neg c]; simp
    rw [e]
    have := tie_len ok x
    simp [sl_big (show (tie S x).length ≤ 100000 by omega)]
/-! ### clusters -/
inductive Reach (S : List (List Int)) (B : Int → Prop) (x : Int) : Int → Prop
  | self : Reach S B x x
  | step {a b : Int} : Reach S B x a → (a = x ∨ B a) → b ∈ tie S a → Reach S B x b
def InC (S : List (List Int)) (B : Int → Prop) (x b : Int) : Prop := Reach S B x b ∧ (b = x ∨ ¬ B b)
open Classical in
noncomputable def clF (n : Nat) (S : List (List Int)) (B : Int → Prop) (x : Int) : List Int := ((List.range n).map fun (k : Nat) => (k : Int)).filter fun b => decide (InC S B x b)
theorem rng_sorted (n : Nat) : ((List.range n).map fun (k : Nat) => (k : Int)).Pairwise (· < ·) := by
  rw [List.pairwise_map]
  exact List.pairwise_lt_range.imp fun h => by omega
theorem mem_rng {n : Nat} {x : Int} : x ∈ ((List.range n).map fun (k : Nat) => (k : Int)) ↔ 0 ≤ x ∧ x < n := by
  rw [List.mem_map]
  constructor
  · rintro ⟨k, m, rfl⟩
    have := List.mem_range.mp m
    omega
  · rintro ⟨h1, h2⟩
    exact ⟨x.toNat, List.mem_range.mpr (by omega), by omega⟩
theorem reach_rg {n : Nat} {S : List (List Int)} {B : Int → Prop} {x y : Int} (ok : OkSc n S) (hx : 0 ≤ x ∧ x < n) (h : Reach S B x y) : 0 ≤ y ∧ y < n := by
  cases h with
  | self => exact hx
  | step _ _ m => exact tie_rg ok m
theorem clF_sorted {n : Nat} {S : List (List Int)} {B : Int → Prop} {x : Int} : (clF n S B x).Pairwise (· < ·) := (rng_sorted n).sublist List.filter_sublist
open Classical in
theorem mem_clF {n : Nat} {S : List (List Int)} {B : Int → Prop} {x y : Int} (ok : OkSc n S) (hx : 0 ≤ x ∧ x < n) : y ∈ clF n S B x ↔ InC S B x y := by
  unfold clF
  rw [List.mem_filter, mem_rng]
  constructor
  · rintro ⟨_, h⟩; exact of_decide_eq_true h
  · intro h; exact ⟨reach_rg ok hx h.1, decide_eq_true h⟩
/-- sorted of ints -/
theorem sortI {l m : List Int} (p : m.Pairwise (· < ·)) (h : ∀ y, y ∈ l ↔ y ∈ m) (nd : l.Nodup) : (dI l).mergeSort dLeq = dI m :=
  perm_sort p ((List.perm_ext_iff_of_nodup (p.imp fun h => Int.ne_of_lt h) nd).mpr fun a => (h a).symm)
theorem alike_int (a b : Int) : PySem.W.alike (.int a) (.int b) = true := by rfl
theorem sortable_dI (l : List Int) : sortable (dI l) = true := by
  unfold sortable alikeL
  have h1 : immL (dI l) = true := immL_dI l
  have h2 : (dI l).all okD = true := by rw [List.all_map]; exact List.all_eq_true.mpr fun _ _ => rfl
  have h3 : ((dI l).all fun a => (dI l).all fun b => PySem.W.alike (toPy a) (toPy b)) = true := by
    rw [List.all_map]; refine List.all_eq_true.mpr fun a _ => ?_
    show ((dI l).all fun b => PySem.W.alike (toPy (.int a)) (toPy b)) = true
    rw [List.all_map]; exact List.all_eq_true.mpr fun b _ => alike_int a b
  have h4 : (dI l).all notTup = true := by rw [List.all_map]; exact List.all_eq_true.mpr fun _ _ => rfl
  rw [h1, h2, h3, h4]
  simp
theorem bSorted_lI (l : List Int) : bSorted [lI l] = some (.lst ((dI l).mergeSort dLeq)) := by
  show (if sortable (dI l) then some (D.lst ((dI l).mergeSort dLeq)) else none) = _
  rw [sortable_dI, if_pos rfl]
theorem bTuple_lI (l : List Int) : bTuple [lI l] = some (tI' l) := by
  show (if immL (dI l) then some (D.tup (dI l)) else none) = _
  rw [immL_dI, if_pos rfl]
end K87

set_option Elab.async false
set_option linter.all false
set_option maxRecDepth 100000
set_option maxHeartbeats 4000000
namespace K87
open PySem PySem.Spec L2 FL
@[simp] theorem bLen_lst (xs : List D) : bLen [.lst xs] = some (.int xs.length) := rfl
@[simp] theorem bLen_tup (xs : List D) : bLen [.tup xs] = some (.int xs.length) := rfl
theorem nodup_sub : ∀ {l m : List Int}, l.Nodup → (∀ y ∈ l, y ∈ m) → l.length ≤ m.length
  | [], m, _, _ => Nat.zero_le _
  | a :: l, m, nd, h => by
    obtain ⟨n1, n2⟩ := List.nodup_cons.mp nd
    have ha := h a List.mem_cons_self
    have := nodup_sub (m := m.erase a) n2 fun y my => (List.mem_erase_of_ne (fun e : y = a => n1 (e ▸ my))).mpr (h y (List.mem_cons_of_mem _ my))
    rw [List.length_erase_of_mem ha] at this
    have := List.length_pos_of_mem ha
    rw [List.length_cons]; omega
theorem nodup_len {n : Nat} {l : List Int} (nd : l.Nodup) (h : ∀ y ∈ l, 0 ≤ y ∧ y < n) : l.length ≤ n := by
  have := nodup_sub (m := (List.range n).map fun (k : Nat) => (k : Int)) nd fun y m => mem_rng.mpr (h y m)
  simpa using this
theorem insI_pos {r : List Int} {b : Int} (h : b ∈ r) : insI r b = r := if_pos h
theorem insI_neg {r : List Int} {b : Int} (h : ¬ b ∈ r) : insI r b = r ++ [b] := if_neg h
theorem insI_fold_mem {ds : List Int} : ∀ {r : List Int} {y : Int}, y ∈ ds.foldl insI r ↔ y ∈ r ∨ y ∈ ds := by
  induction ds with
  | nil => intro r y; simp
  | cons d ds ih =>
    intro r y
    rw [List.foldl_cons, ih]
    have : y ∈ insI r d ↔ y ∈ r ∨ y = d := by
      unfold insI
      by_cases h : d ∈ r
      · rw [if_pos h]
        constructor
        · exact .inl
        · rintro (h' | rfl)
          · exact h'
          · exact h
      · rw [if_neg h]; simp
    rw [this, List.mem_cons]
    constructor
    · rintro ((a | a) | a) <;> simp [a]
    · rintro (a | a | a) <;> simp [a]
theorem insI_fold_nd {ds : List Int} : ∀ {r : List Int}, r.Nodup → (ds.foldl insI r).Nodup := by
  induction ds with
  | nil => exact fun h => h
  | cons d ds ih => exact fun h => ih (insI_nodup h)
theorem insI_fold_pre {ds : List Int} : ∀ {r : List Int}, ∃ t, ds.foldl insI r = r ++ t := by
  induction ds with
  | nil => exact fun {r} => ⟨[], by simp⟩
  | cons d ds ih =>
    intro r
    obtain ⟨t, e⟩ := ih (r := insI r d)
    rw [List.foldl_cons, e]
    unfold insI
    by_cases h : d ∈ r
    · rw [if_pos h]; exact ⟨t, rfl⟩
    · rw [if_neg h]; exact ⟨[d] ++ t, by simp⟩
structure CInv (n : Nat) (S : List (List Int)) (l : List Int) (x : Int) (b : List Int × Nat) (ρ : Se) : Prop where
  sh : ∃ t6, (t6 = .no ∨ ∃ a, t6 = .own (.int a)) ∧ ρ = [.bor (dS S), .bor (tI' l), .bor (.int x), .own (lI b.1), .own (.int (b.2 : Int)), .own (.seti b.1), t6, .no]
  nd : b.1.Nodup
  re : ∀ y ∈ b.1, Reach S (fun y => y ∈ l) x y
  xm : x ∈ b.1
  p : b.2 ≤ b.1.length
  cl : ∀ i a, i < b.2 → b.1[i]? = some a → (a = x ∨ a ∈ l) → ∀ y ∈ tie S a, y ∈ b.1
structure CEnd (S : List (List Int)) (l : List Int) (x : Int) (r : Out × Se) : Prop where
  sh : ∃ t6 r' p, r = (.nx, [.bor (dS S), .bor (tI' l), .bor (.int x), .own (lI r'), .own (.int p), .own (.seti r'), t6, .no]) ∧ r'.Nodup ∧ ∀ y, y ∈ r' ↔ Reach S (fun y => y ∈ l) x y
theorem reach_all {S : List (List Int)} {B : Int → Prop} {x : Int} {r : List Int} (hx : x ∈ r) (h : ∀ a ∈ r, (a = x ∨ B a) → ∀ y ∈ tie S a, y ∈ r) {y : Int} (q : Reach S B x y) : y ∈ r := by
  induction q with
  | self => exact hx
  | step _ h1 h2 ih => exact h _ ih h1 _ h2
structure FInv (S : List (List Int)) (l : List Int) (x a : Int) (p : Nat) (r : List Int) (done : List Int) (ρ : Se) : Prop where
  sh : ∃ t7, Fr t7 ∧ ρ = [.lok (dS S), .lok (tI' l), .lok (.int x), .own (lI (done.foldl insI r)), .own (.int ((p : Int) + 1)), .own (.seti (done.foldl insI r)), .own (.int a), t7]
structure FEnd (S : List (List Int)) (l : List Int) (x a : Int) (p : Nat) (r : List Int) (ds : List Int) (r' : Out × Se) : Prop where
  sh : ∃ t7, Fr t7 ∧ r' = (.nx, [.lok (dS S), .lok (tI' l), .lok (.int x), .own (lI (ds.foldl insI r)), .own (.int ((p : Int) + 1)), .own (.seti (ds.foldl insI r)), .own (.int a), t7])
theorem tr_cluster {n : Nat} (hn : n ≤ 1000) {S : List (List Int)} (ok : OkSc n S) (l : List Int) {x : Int} (hx : 0 ≤ x ∧ x < n) : Tr (m_cluster_behind [dS S, tI' l, .int x]) (fun d => d = tI' (clF n S (fun y => y ∈ l) x)) := by
  simp [m_cluster_behind, g_cluster_behind]
  refine (sWhile_tr (β := List Int × Nat) (P := CInv n S l x) (R := CEnd S l x) (fun b => n - b.2) (b := ([x], 0)) ⟨⟨.no, .inl rfl, rfl⟩, by simp, ?_, by simp, by simp, fun i a h => by simp at h⟩ ?_).bnd ?_
  · intro y m
    rw [List.mem_singleton.mp m]; exact .self
  · rintro ⟨r, p⟩ ρ ⟨⟨t6, ht6, rfl⟩, nd, hr, hxr, hp, hcl⟩
    simp only at nd hr hxr hp hcl
    have hrn : r.length ≤ n := nodup_len nd fun y m => reach_rg ok hx (hr y m)
    simp
    by_cases hlt : p < r.length
    · rw [if_pos hlt]
      obtain ⟨a, ea⟩ : ∃ a, r[p]? = some a := ⟨_, List.getElem?_eq_getElem hlt⟩
      have e1 : dIx (lI r) (.int (p : Int)) = some (.int a) := by
        show atI (dI r) (p : Int) = _
        exact atI_nat (by rw [List.getElem?_map, ea]; rfl)
      have ma : a ∈ r := List.mem_of_getElem? ea
      have e2 : nlX (some t6) = true := by
        rcases ht6 with rfl | ⟨_, rfl⟩ <;> rfl
      -- the end of a turn without growth
      have stay : (¬ (a = x ∨ a ∈ l)) → CInv n S l x (r, p + 1) [.bor (dS S), .bor (tI' l), .bor (.int x), .own (lI r), .own (.int ((p : Int) + 1)), .own (.seti r), .own (.int a), .no] := fun hna =>
        ⟨⟨_, .inr ⟨a, rfl⟩, by simp⟩, nd, hr, hxr, hlt, fun i b hi hb hq => by
          by_cases c : i < p
          · exact hcl i b c hb hq
          · have : i = p := by simp at hi; omega
            subst this
            simp only at hb
            rw [ea] at hb
            cases hb
            exact absurd hq hna⟩
      rw [e1, e2]
      simp
      by_cases h1 : ¬ a = x ∧ ¬ a ∈ l
      · simp [h1.1, h1.2]
        exact ⟨r, p + 1, stay (by simp [h1.1, h1.2]), by omega⟩
      · have hact : a = x ∨ a ∈ l := by
          by_cases c : a = x
          · exact .inl c
          · refine .inr (Classical.byContradiction fun q => h1 ⟨c, q⟩)
        simp [if_neg h1]
        refine (tr_tied ok a).eq ?_
        simp
        refine (foGo_tr (P := FInv S l x a p r) (R := FEnd S l x a p r (tie S a)) (tie S a) (fun done b rest ρ e => ?_) (fun ρ => ?_) (rest := tie S a) (done := []) rfl ⟨_, Fr.no, rfl⟩).bnd ?_
        · rintro ⟨t7, ht7, rfl⟩
          have e5 : nlX (some t7) = true := by rcases ht7 with rfl | ⟨_, rfl⟩ <;> rfl
          have el : (done.foldl insI r).length ≤ n := nodup_len (insI_fold_nd nd) fun y m => by
            rcases insI_fold_mem.mp m with m | m
            · exact reach_rg ok hx (hr y m)
            · exact tie_rg ok (show y ∈ tie S a by rw [e]; exact List.mem_append_left _ m)
          have g1 : (done.foldl insI r).length + 1 < scanBound := by unfold scanBound; omega
          have g2 : (done.foldl insI r).length < sizeLine := by rw [sizeLine_eq]; omega
          have ei : ∀ h : b ∈ done.foldl insI r, (done ++ [b]).foldl insI r = done.foldl insI r := fun h => by
            rw [List.foldl_append]; exact insI_pos h
          have ej : ∀ h : ¬ b ∈ done.foldl insI r, (done ++ [b]).foldl insI r = done.foldl insI r ++ [b] := fun h => by
            rw [List.foldl_append]; exact insI_neg h
          simp [e5]
          by_cases hb : b ∈ done.foldl insI r
          · rw [if_pos hb]
            simp
            exact ⟨_, Fr.bor, by rw [ei hb]⟩
          · rw [if_neg hb]
            simp [g1, g2]
            refine ⟨.bor (.int b), Fr.bor, ?_⟩
            rw [ej hb]
            simp [insI_neg hb]
        · rintro ⟨t7, ht7, rfl⟩
          exact ⟨t7, ht7, rfl⟩
        · rintro r1 ⟨t7, ht7, rfl⟩
          have e6 : unlX .no t7 = .no := by rcases ht7 with rfl | ⟨_, rfl⟩ <;> rfl
          simp [e6]
          obtain ⟨t, et⟩ := insI_fold_pre (ds := tie S a) (r := r)
          refine ⟨(tie S a).foldl insI r, p + 1, ⟨⟨_, .inr ⟨a, rfl⟩, by simp⟩, insI_fold_nd nd, fun y m => ?_, insI_fold_mem.mpr (.inl hxr), ?_, fun i b hi hb hq y my => ?_⟩, by omega⟩
          · rcases insI_fold_mem.mp m with m | m
            · exact hr y m
            · exact .step (hr a ma) hact m
          · simp only; rw [et, List.length_append]; omega
          · simp only at hi hb
            refine insI_fold_mem.mpr ?_
            have hb' : r[i]? = some b := by
              rw [et, List.getElem?_append_left (by omega)] at hb; exact hb
            by_cases c : i < p
            · exact .inl (hcl i b c hb' hq y my)
            · have : i = p := by omega
              subst this
              rw [ea] at hb'
              cases hb'
              exact .inr my
    · rw [if_neg hlt]
      have ep : p = r.length := by omega
      refine ⟨t6, r, p, rfl, nd, fun y => ⟨hr y, fun q => reach_all hxr (fun b mb hb => ?_) q⟩⟩
      obtain ⟨i, hi, e⟩ := List.mem_iff_getElem.mp mb
      exact hcl i b (by omega) (by rw [List.getElem?_eq_getElem hi, e]) hb
  · rintro ⟨o, ρ⟩ ⟨t6, r', p, e, nd, hr⟩
    cases e
    simp
    refine (lcGo_tr (fun y => decide (y = x) || !l.contains y) D.int fun y _ => ?_).eq ?_
    · simp
      by_cases c : y = x
      · simp [c]
      · simp [c]
    · have hm : ∀ y, y ∈ r'.filter (fun y => decide (y = x) || !l.contains y) ↔ y ∈ clF n S (fun y => y ∈ l) x := fun y => by
        rw [mem_clF ok hx, List.mem_filter, hr]
        unfold InC
        simp
      have es := sortI clF_sorted hm (nd.filter _)
      show Tr ((Mo.ofO (bSorted [lI _])).bind _) _
      rw [bSorted_lI, es]
      simp
      rw [bTuple_lI]
      simp
end K87

set_option Elab.async false
set_option linter.all false
set_option maxRecDepth 100000
set_option maxHeartbeats 4000000
namespace K87
open PySem PySem.Spec L2 FL
/-! ### dicts that are sets; lists compared with [] -/
abbrev dSet (l : List Int) : D := .dct (l.map Sum.inl) (l.map fun _ => .bl true)
theorem putKs_in {l : List Int} {o : Int} : putKs (l.map (Sum.inl : Int → Key)) (Sum.inl o) = (insI l o).map Sum.inl := by
  induction l with
  | nil => rfl
  | cons a l ih =>
    rw [List.map_cons]
    unfold putKs
    by_cases h : a = o
    · subst h
      rw [if_pos rfl, insI_pos List.mem_cons_self]; rfl
    · rw [if_neg (fun e => h (Sum.inl.inj e)), ih]
      by_cases m : o ∈ l
      · rw [insI_pos m, insI_pos (List.mem_cons_of_mem _ m)]; rfl
      · rw [insI_neg m, insI_neg (fun q => by rcases List.mem_cons.mp q with q | q; exact h q.symm; exact m q)]; simp
theorem putVs_in {l : List Int} {o : Int} : putVs (l.map (Sum.inl : Int → Key)) (l.map fun _ => D.bl true) (Sum.inl o) (D.bl true) = (insI l o).map fun _ => D.bl true := by
  induction l with
  | nil => rfl
  | cons a l ih =>
    rw [List.map_cons, List.map_cons]
    unfold putVs
    by_cases h : a = o
    · subst h
      rw [if_pos rfl, insI_pos List.mem_cons_self]; rfl
    · rw [if_neg (fun e => h (Sum.inl.inj e)), ih]
      by_cases m : o ∈ l
      · rw [insI_pos m, insI_pos (List.mem_cons_of_mem _ m)]; rfl
      · rw [insI_neg m, insI_neg (fun q => by rcases List.mem_cons.mp q with q | q; exact h q.symm; exact m q)]; simp
theorem putD_set {l : List Int} {o : Int} (h : l.length < sizeLine) : putD (dSet l) (.int o) (.bl true) = some (dSet (insI l o)) := by
  show (if decide ((l.map (Sum.inl : Int → Key)).length < sizeLine) then some (D.dct (putKs (l.map Sum.inl) (Sum.inl o)) (putVs (l.map Sum.inl) (l.map fun _ => .bl true) (Sum.inl o) (.bl true))) else none) = _
  rw [if_pos (by simpa using h), putKs_in, putVs_in]
@[simp] theorem dIn_dSet (x : Int) (l : List Int) : dIn (.int x) (dSet l) = some (decide (x ∈ l)) := by
  show some ((l.map (Sum.inl : Int → Key)).any fun a => decide (a = Sum.inl x)) = _
  congr 1
  rw [Bool.eq_iff_iff, List.any_eq_true, decide_eq_true_eq]
  constructor
  · rintro ⟨k, m, e⟩
    obtain ⟨a, ma, rfl⟩ := List.mem_map.mp m
    have := Sum.inl.inj (of_decide_eq_true e)
    rwa [← this]
  · intro m
    exact ⟨_, List.mem_map.mpr ⟨x, m, rfl⟩, decide_eq_true rfl⟩
theorem lay_dI : ∀ l : List Int, PyData.canLayAll0 (toPyL (dI l)) = true
  | [] => rfl
  | a :: l => by
    show ((toPy (.int a)).canLay0 && PyData.canLayAll0 (toPyL (dI l))) = true
    rw [lay_dI l]; rfl
theorem depth_dI : ∀ l : List Int, PyData.depthAll (toPyL (dI l)) ≤ 1 := fun l => by
  induction l with
  | nil => decide
  | cons a l ih =>
    show max (toPy (.int a)).depth (PyData.depthAll (toPyL (dI l))) ≤ 1
    exact Nat.max_le.mpr ⟨Nat.le_of_ble_eq_true rfl, ih⟩
theorem okD_lI (l : List Int) : okD (lI l) = true := by
  unfold okD SeqAt.shaped
  have h1 : (toPy (lI l)).canLay0 = true := lay_dI l
  have h2 : (toPy (lI l)).depth ≤ 64 := by
    have := depth_dI l
    show PyData.depthAll (toPyL (dI l)) + 1 ≤ 64
    omega
  rw [h1, decide_eq_true h2]; rfl
theorem dNe_nil (l : List Int) : dNe (lI l) (.lst []) = some (!l.isEmpty) := by
  unfold dNe
  rw [okD_lI, show okD (.lst []) = true by decide]
  cases l with
  | nil => rfl
  | cons a l => rfl
end K87

set_option Elab.async false
set_option linter.all false
set_option maxRecDepth 100000
set_option maxHeartbeats 4000000
namespace K87
open PySem PySem.Spec L2 FL
@[simp] theorem sPut_ap' (i : Nat) (fk fv : Ev → Mo D) (σ : Se) : sPut i fk fv σ = (fv (vw σ)).bind fun d => (fk (vw σ)).bind fun k => match σ[i]? with | some (.own c) => (Mo.ofO (putD c k d)).bind fun c' => Mo.pure (.nx, σ.set i (.own c')) | _ => Mo.fail := rfl
abbrev dN (R : List (List Int)) : D := .lst (R.map dSet)
structure OkN (n : Nat) (S R : List (List Int)) : Prop where
  len : R.length = n
  nd : ∀ l ∈ R, l.Nodup
  mem : ∀ (i : Nat) l, R[i]? = some l → ∀ y, y ∈ l ↔ y ≠ i ∧ y ∈ tie S i
def nb (R : List (List Int)) (x : Int) : List Int := (R[x.toNat]?).getD []
theorem dIx_N {n : Nat} {S R : List (List Int)} (h : OkN n S R) {x : Int} (hx : 0 ≤ x ∧ x < n) : dIx (dN R) (.int x) = some (dSet (nb R x)) := by
  have hl : x.toNat < R.length := by rw [h.len]; omega
  have e : x = (x.toNat : Int) := by omega
  show atI (R.map dSet) x = _
  rw [e]
  refine atI_nat ?_
  unfold nb
  rw [List.getElem?_map, ← e, List.getElem?_eq_getElem hl]
  rfl
theorem mem_nb {n : Nat} {S R : List (List Int)} (h : OkN n S R) {x : Int} (hx : 0 ≤ x ∧ x < n) {y : Int} : y ∈ nb R x ↔ y ≠ x ∧ y ∈ tie S x := by
  have hl : x.toNat < R.length := by rw [h.len]; omega
  have e : (x.toNat : Int) = x := by omega
  unfold nb
  rw [List.getElem?_eq_getElem hl]
  have := h.mem x.toNat _ (List.getElem?_eq_getElem hl) y
  rw [e] at this
  exact this
theorem nb_nd {n : Nat} {S R : List (List Int)} (h : OkN n S R) {x : Int} (hx : 0 ≤ x ∧ x < n) : (nb R x).Nodup := by
  have hl : x.toNat < R.length := by rw [h.len]; omega
  unfold nb
  rw [List.getElem?_eq_getElem hl]
  exact h.nd _ (List.getElem_mem hl)
theorem bList_dSet (l : List Int) : bList [dSet l] = some (lI l) := by
  show some (D.lst ((l.map Sum.inl).map keyD)) = _
  rw [List.map_map]; rfl
/-- the DFS' state -/
structure G where
  sn : List Int
  row : List Int
  fd : List Int
/-- one neighbour -/
def gStep (l : List Int) (g : G) (o : Int) : G := if o ∈ g.sn then g else if o ∈ l then ⟨g.sn ++ [o], g.row ++ [o], g.fd⟩ else ⟨g.sn ++ [o], g.row, g.fd ++ [o]⟩
structure GInv (n : Nat) (S R : List (List Int)) (l : List Int) (x : Int) (g : G) : Prop where
  nd : g.sn.Nodup
  re : ∀ y ∈ g.sn, Reach S (fun y => y ∈ l) x y
  xm : x ∈ g.sn
  rs : ∀ y ∈ g.row, y ∈ g.sn ∧ (y = x ∨ y ∈ l)
  fs : ∀ y, y ∈ g.fd ↔ y ∈ g.sn ∧ (y = x ∨ y ∉ l)
  fn : g.fd.Nodup
  rl : g.row.length ≤ g.sn.length
theorem gStep_inv {n : Nat} {S R : List (List Int)} {l : List Int} {x : Int} {g : G} {o : Int} (h : GInv n S R l x g) (ho : Reach S (fun y => y ∈ l) x o) : GInv n S R l x (gStep l g o) := by
  unfold gStep
  by_cases h1 : o ∈ g.sn
  · rw [if_pos h1]; exact h
  · rw [if_neg h1]
    have hox : o ≠ x := fun e => h1 (e ▸ h.xm)
    have nd' : (g.sn ++ [o]).Nodup := by rw [← insI_neg h1]; exact insI_nodup h.nd
    have re' : ∀ y ∈ g.sn ++ [o], Reach S (fun y => y ∈ l) x y := fun y m => by
      rcases List.mem_append.mp m with m | m
      · exact h.re y m
      · rw [List.mem_singleton.mp m]; exact ho
    by_cases h2 : o ∈ l
    · rw [if_pos h2]
      refine ⟨nd', re', List.mem_append_left _ h.xm, fun y m => ?_, fun y => ?_, h.fn, by have := h.rl; simp; omega⟩
      · rcases List.mem_append.mp m with m | m
        · exact ⟨List.mem_append_left _ (h.rs y m).1, (h.rs y m).2⟩
        · rw [List.mem_singleton.mp m]; exact ⟨by simp, .inr h2⟩
      · rw [h.fs]
        constructor
        · rintro ⟨a, b⟩; exact ⟨List.mem_append_left _ a, b⟩
        · rintro ⟨a, b⟩
          rcases List.mem_append.mp a with a | a
          · exact ⟨a, b⟩
          · rw [List.mem_singleton.mp a] at b
            exact absurd h2 (b.elim (fun e => absurd e hox) id)
    · rw [if_neg h2]
      refine ⟨nd', re', List.mem_append_left _ h.xm, fun y m => ⟨List.mem_append_left _ (h.rs y m).1, (h.rs y m).2⟩, fun y => ?_, ?_, by have := h.rl; simp; omega⟩
      · rw [List.mem_append, h.fs, List.mem_append, List.mem_singleton]
        constructor
        · rintro (⟨a, b⟩ | rfl)
          · exact ⟨.inl a, b⟩
          · exact ⟨.inr rfl, .inr h2⟩
        · rintro ⟨a | rfl, b⟩
          · exact .inl ⟨a, b⟩
          · exact .inr rfl
      · rw [← insI_neg (r := g.fd) (b := o) (fun m => h1 ((h.fs o).mp m).1)]
        exact insI_nodup h.fn
theorem gFold_inv {n : Nat} {S R : List (List Int)} {l : List Int} {x : Int} : ∀ {ds : List Int} {g : G}, GInv n S R l x g → (∀ o ∈ ds, Reach S (fun y => y ∈ l) x o) → GInv n S R l x (ds.foldl (gStep l) g)
  | [], g, h, _ => h
  | d :: ds, g, h, ho => gFold_inv (ds := ds) (gStep_inv h (ho d List.mem_cons_self)) fun o m => ho o (List.mem_cons_of_mem _ m)
theorem gFold_grow {l : List Int} : ∀ {ds : List Int} {g : G}, (∀ y ∈ g.sn, y ∈ (ds.foldl (gStep l) g).sn) ∧ (∀ y ∈ ds, y ∈ (ds.foldl (gStep l) g).sn) ∧ (∀ y ∈ g.row, y ∈ (ds.foldl (gStep l) g).row) ∧
    (∀ y ∈ (ds.foldl (gStep l) g).sn, y ∈ g.sn ∨ (y ∈ l → y ∈ (ds.foldl (gStep l) g).row)) ∧ (ds.foldl (gStep l) g).row.length + g.sn.length ≤ g.row.length + (ds.foldl (gStep l) g).sn.length
  | [], g => ⟨fun _ h => h, (fun _ h => by cases h), fun _ h => h, fun _ h => .inl h, Nat.le_of_eq (Nat.add_comm _ _ ▸ rfl)⟩
  | d :: ds, g => by
    obtain ⟨h1, h2, h3, h4, h5⟩ := gFold_grow (l := l) (ds := ds) (g := gStep l g d)
    have a1 : ∀ y ∈ g.sn, y ∈ (gStep l g d).sn := fun y m => by unfold gStep; split; exact m; split <;> exact List.mem_append_left _ m
    have a2 : d ∈ (gStep l g d).sn := by unfold gStep; split; assumption; split <;> simp
    have a3 : ∀ y ∈ g.row, y ∈ (gStep l g d).row := fun y m => by unfold gStep; split; exact m; split; exact List.mem_append_left _ m; exact m
    have a4 : ∀ y ∈ (gStep l g d).sn, y ∈ g.sn ∨ (y ∈ l → y ∈ (gStep l g d).row) := fun y m => by
      unfold gStep at m ⊢
      split
      · rename_i c; rw [if_pos c] at m; exact .inl m
      · rename_i c
        rw [if_neg c] at m
        split
        · rename_i c2
          rw [if_pos c2] at m
          rcases List.mem_append.mp m with m | m
          · exact .inl m
          · exact .inr fun _ => List.mem_append_right _ m
        · rename_i c2
          rw [if_neg c2] at m
          rcases List.mem_append.mp m with m | m
          · exact .inl m
          · rw [List.mem_singleton.mp m]; exact .inr fun h => absurd h c2
    have a5 : (gStep l g d).row.length + g.sn.length ≤ g.row.length + (gStep l g d).sn.length := by
      unfold gStep; split; omega; split <;> simp <;> omega
    refine ⟨fun y m => h1 y (a1 y m), fun y m => ?_, fun y m => h3 y (a3 y m), fun y m => ?_, ?_⟩
    · rcases List.mem_cons.mp m with m | m
      · rw [m]; exact h1 d a2
      · exact h2 y m
    · rcases h4 y m with m | m
      · rcases a4 y m with m | q
        · exact .inl m
        · exact .inr fun h => h3 y (q h)
      · exact .inr m
    · show (ds.foldl (gStep l) (gStep l g d)).row.length + g.sn.length ≤ _
      have : ((d :: ds).foldl (gStep l) g).sn = (ds.foldl (gStep l) (gStep l g d)).sn := rfl
      rw [this]
      omega
structure DInv (n : Nat) (S R : List (List Int)) (l : List Int) (bd : D) (x : Int) (g : G) (ρ : Se) : Prop where
  sh : ∃ t6, (t6 = .no ∨ ∃ a, t6 = .own (.int a)) ∧ ρ = [.bor (dN R), .bor bd, .bor (.int x), .own (dSet g.sn), .own (lI g.row), .own (lI g.fd), t6, .no]
  gi : GInv n S R l x g
  cl : ∀ a ∈ g.sn, (a = x ∨ a ∈ l) → a ∈ g.row ∨ ∀ y ∈ nb R a, y ∈ g.sn
structure DEnd (S R : List (List Int)) (l : List Int) (bd : D) (x : Int) (r : Out × Se) : Prop where
  sh : ∃ t6 sn row fd, r = (.nx, [.bor (dN R), .bor bd, .bor (.int x), .own sn, .own row, .own (lI fd), t6, .no]) ∧ fd.Nodup ∧ ∀ y, y ∈ fd ↔ InC S (fun y => y ∈ l) x y
structure EInv (R : List (List Int)) (l : List Int) (bd : D) (x a : Int) (g : G) (done : List Int) (ρ : Se) : Prop where
  sh : ∃ t7, Fr t7 ∧ ρ = [.lok (dN R), .lok bd, .lok (.int x), .own (dSet (done.foldl (gStep l) g).sn), .own (lI (done.foldl (gStep l) g).row), .own (lI (done.foldl (gStep l) g).fd), .own (.int a), t7]
structure EEnd (R : List (List Int)) (l : List Int) (bd : D) (x a : Int) (g : G) (ds : List Int) (r : Out × Se) : Prop where
  sh : ∃ t7, Fr t7 ∧ r = (.nx, [.lok (dN R), .lok bd, .lok (.int x), .own (dSet (ds.foldl (gStep l) g).sn), .own (lI (ds.foldl (gStep l) g).row), .own (lI (ds.foldl (gStep l) g).fd), .own (.int a), t7])
theorem asL_lI (l : List Int) : asL (some (.own (lI l))) = some (dI l) := by
  show (if immL (dI l) then some (dI l) else none) = _
  rw [immL_dI]; rfl
theorem tr_lcluster {n : Nat} (hn : n ≤ 1000) {S R : List (List Int)} (ok : OkSc n S) (oN : OkN n S R) {l : List Int} {bd : D} (hb : ∀ y : Int, dIn (.int y) bd = some (decide (y ∈ l))) {x : Int} (hx : 0 ≤ x ∧ x < n) : Tr (m__law_cluster [dN R, bd, .int x]) (fun d => d = tI' (clF n S (fun y => y ∈ l) x)) := by
  simp [m__law_cluster, g__law_cluster]
  refine (sWhile_tr (β := G) (P := DInv n S R l bd x) (R := DEnd S R l bd x) (fun g => g.row.length + 2 * (n - g.sn.length)) (b := ⟨[x], [x], [x]⟩) ⟨⟨.no, .inl rfl, rfl⟩, ⟨by simp, fun y m => ?_, by simp, fun y m => ?_, fun y => ?_, by simp, by simp⟩, fun a m _ => .inl m⟩ ?_).bnd ?_
  · simp at m; rw [m]; exact .self
  · simp at m; exact ⟨by simp [m], .inl m⟩
  · simp
    intro e; exact .inl e
  · rintro g ρ ⟨⟨t6, ht6, rfl⟩, gi, hcl⟩
    have e2 : nlX (some t6) = true := by
      rcases ht6 with rfl | ⟨_, rfl⟩ <;> rfl
    simp [dNe_nil]
    by_cases hr : g.row = []
    · rw [if_pos hr]
      refine ⟨t6, _, _, g.fd, rfl, gi.fn, fun y => ?_⟩
      rw [gi.fs]
      unfold InC
      constructor
      · rintro ⟨a, b⟩; exact ⟨gi.re y a, b⟩
      · rintro ⟨a, b⟩
        refine ⟨reach_all gi.xm (fun c mc hc y' my' => ?_) a, b⟩
        rcases hcl c mc hc with q | q
        · rw [hr] at q; cases q
        · by_cases e : y' = c
          · rw [e]; exact mc
          · exact q y' ((mem_nb oN (reach_rg ok hx (gi.re c mc))).mpr ⟨e, my'⟩)
    · rw [if_neg hr]
      obtain ⟨rs, a, er⟩ : ∃ rs a, g.row = rs ++ [a] := ⟨g.row.dropLast, g.row.getLast hr, (List.dropLast_concat_getLast hr).symm⟩
      have ma : a ∈ g.row := by rw [er]; simp
      have ha := gi.rs a ma
      have hxa : 0 ≤ a ∧ a < n := reach_rg ok hx (gi.re a ha.1)
      have e1 : (dI g.row)[(dI g.row).length - 1]? = some (.int a) := by
        show (g.row.map D.int)[(g.row.map D.int).length - 1]? = _
        rw [List.length_map, List.getElem?_map, er]
        simp
      have e3 : (dI g.row).dropLast = dI rs := by
        show (g.row.map D.int).dropLast = _
        rw [← List.map_dropLast, er]; simp
      have e4 : mPop 4 [.bor (dN R), .bor bd, .bor (.int x), .own (dSet g.sn), .own (lI g.row), .own (lI g.fd), t6, .no] = Mo.pure (.int a, [.bor (dN R), .bor bd, .bor (.int x), .own (dSet g.sn), .own (lI rs), .own (lI g.fd), t6, .no]) := by
        unfold mPop
        show (Mo.ofO (asL (some (.own (lI g.row))))).bind _ = _
        rw [asL_lI, Mo.ofO_some, Mo.pure_bind, e1, Mo.ofO_some, Mo.pure_bind, e3]
        rfl
      rw [e4]
      simp [e2, dIx_N oN hxa, bList_dSet]
      refine (foGo_tr (P := EInv R l bd x a ⟨g.sn, rs, g.fd⟩) (R := EEnd R l bd x a ⟨g.sn, rs, g.fd⟩ (nb R a)) (nb R a) (fun done b rest ρ e => ?_) (fun ρ => ?_) (rest := nb R a) (done := []) rfl ⟨_, Fr.no, rfl⟩).bnd ?_
      · rintro ⟨t7, ht7, rfl⟩
        have e5 : nlX (some t7) = true := by rcases ht7 with rfl | ⟨_, rfl⟩ <;> rfl
        have gi0 : GInv n S R l x ⟨g.sn, rs, g.fd⟩ := ⟨gi.nd, gi.re, gi.xm, fun y m => gi.rs y (by rw [er]; exact List.mem_append_left _ m), gi.fs, gi.fn, by have := gi.rl; rw [er, List.length_append] at this; simp at this ⊢; omega⟩
        have gi1 : GInv n S R l x (done.foldl (gStep l) ⟨g.sn, rs, g.fd⟩) := gFold_inv gi0 fun o m => .step (gi.re a ha.1) ha.2 ((mem_nb oN hxa).mp (by rw [e]; exact List.mem_append_left _ m)).2
        have el : (done.foldl (gStep l) ⟨g.sn, rs, g.fd⟩).sn.length ≤ n := nodup_len gi1.nd fun y m => reach_rg ok hx (gi1.re y m)
        have es : (done ++ [b]).foldl (gStep l) ⟨g.sn, rs, g.fd⟩ = gStep l (done.foldl (gStep l) ⟨g.sn, rs, g.fd⟩) b := by rw [List.foldl_append]; rfl
        have fl : (done.foldl (gStep l) ⟨g.sn, rs, g.fd⟩).fd.length ≤ n := nodup_len gi1.fn fun y m => reach_rg ok hx (gi1.re y ((gi1.fs y).mp m).1)
        suffices hh : ∀ g1, GInv n S R l x g1 → g1.sn.length ≤ n → g1.fd.length ≤ n → (done ++ [b]).foldl (gStep l) ⟨g.sn, rs, g.fd⟩ = gStep l g1 b → ∃ ρ1, bindS (Tg.n 7) (D.int b) [.lok (dN R), .lok bd, .lok (.int x), .own (dSet g1.sn), .own (lI g1.row), .own (lI g1.fd), .own (.int a), t7] = some ρ1 ∧
            Tr (sIf (fCmp dNotIn (fVar 7) (fVar 3)) (sSeq (sPut 3 (fVar 7) (fC (D.bl true))) (sIf (fCmp dIn (fVar 7) (fVar 1)) (sApp 4 (fImm (fVar 7))) (sApp 5 (fImm (fVar 7))))) (sPure Out.nx) ρ1) fun r => match r.fst with
              | Out.nx => EInv R l bd x a ⟨g.sn, rs, g.fd⟩ (done ++ [b]) r.snd
              | Out.ct => EInv R l bd x a ⟨g.sn, rs, g.fd⟩ (done ++ [b]) r.snd
              | Out.bk => EEnd R l bd x a ⟨g.sn, rs, g.fd⟩ (nb R a) (Out.nx, r.snd)
              | Out.rt d => EEnd R l bd x a ⟨g.sn, rs, g.fd⟩ (nb R a) (Out.rt d, r.snd) from hh _ gi1 el fl es
        intro g1 gi1 el fl es
        have q1 : g1.sn.length < sizeLine := by rw [sizeLine_eq]; omega
        have q2 : g1.row.length < sizeLine := by have := gi1.rl; rw [sizeLine_eq]; omega
        have q3 : g1.fd.length < sizeLine := by rw [sizeLine_eq]; omega
        simp [e5]
        by_cases h1 : b ∈ g1.sn
        · rw [if_pos h1]
          simp
          exact ⟨_, Fr.bor (d := .int b), by rw [es]; unfold gStep; rw [if_pos h1]⟩
        · rw [if_neg h1]
          simp [putD_set q1, hb]
          by_cases h2 : b ∈ l
          · rw [if_pos h2]
            simp [q2]
            refine ⟨.bor (.int b), Fr.bor, ?_⟩
            rw [es]; unfold gStep; rw [if_neg h1, if_pos h2]
            simp [insI_neg h1]
          · rw [if_neg h2]
            simp [q3]
            refine ⟨.bor (.int b), Fr.bor, ?_⟩
            rw [es]; unfold gStep; rw [if_neg h1, if_neg h2]
            simp [insI_neg h1]
      · rintro ⟨t7, ht7, rfl⟩
        exact ⟨t7, ht7, rfl⟩
      · rintro r1 ⟨t7, ht7, rfl⟩
        have e6 : unlX .no t7 = .no := by rcases ht7 with rfl | ⟨_, rfl⟩ <;> rfl
        simp [e6]
        have gi0 : GInv n S R l x ⟨g.sn, rs, g.fd⟩ := ⟨gi.nd, gi.re, gi.xm, fun y m => gi.rs y (by rw [er]; exact List.mem_append_left _ m), gi.fs, gi.fn, by have := gi.rl; rw [er, List.length_append] at this; simp at this ⊢; omega⟩
        have gi1 : GInv n S R l x ((nb R a).foldl (gStep l) ⟨g.sn, rs, g.fd⟩) := gFold_inv gi0 fun o m => .step (gi.re a ha.1) ha.2 ((mem_nb oN hxa).mp m).2
        obtain ⟨h1, h2, h3, h4, h5⟩ := gFold_grow (l := l) (ds := nb R a) (g := ⟨g.sn, rs, g.fd⟩)
        have el : ((nb R a).foldl (gStep l) ⟨g.sn, rs, g.fd⟩).sn.length ≤ n := nodup_len gi1.nd fun y m => reach_rg ok hx (gi1.re y m)
        have el0 : g.sn.length ≤ n := nodup_len gi.nd fun y m => reach_rg ok hx (gi.re y m)
        have lr : g.row.length = rs.length + 1 := by rw [er]; simp
        have h6 : g.sn.length ≤ ((nb R a).foldl (gStep l) ⟨g.sn, rs, g.fd⟩).sn.length := nodup_sub gi.nd h1
        refine ⟨_, ⟨⟨_, .inr ⟨a, rfl⟩, rfl⟩, gi1, fun c mc hc => ?_⟩, ?_⟩
        · by_cases e : c = a
          · subst e; exact .inr h2
          · rcases h4 c mc with m | m
            · rcases hcl c m hc with q | q
              · rw [er] at q
                rcases List.mem_append.mp q with q | q
                · exact .inl (h3 c q)
                · exact absurd (List.mem_singleton.mp q) e
              · exact .inr fun y my => h1 y (q y my)
            · rcases hc with hc | hc
              · rcases hcl c (hc ▸ gi.xm) (.inl hc) with q | q
                · rw [er] at q
                  rcases List.mem_append.mp q with q | q
                  · exact .inl (h3 c q)
                  · exact absurd (List.mem_singleton.mp q) e
                · exact .inr fun y my => h1 y (q y my)
              · exact .inl (m hc)
        · simp only at h5 h6
          omega
  · rintro ⟨o, ρ⟩ ⟨t6, sn, row, fd, e, nd, hf⟩
    cases e
    simp
    have hm : ∀ y, y ∈ fd ↔ y ∈ clF n S (fun y => y ∈ l) x := fun y => by rw [mem_clF ok hx, hf]
    have es := sortI clF_sorted hm nd
    rw [bSorted_lI, es]
    simp
    rw [bTuple_lI]
    simp
end K87

set_option Elab.async false
set_option linter.all false
set_option maxRecDepth 100000
set_option maxHeartbeats 4000000
namespace K87
open PySem PySem.Spec L2 FL
/-! ### slices, sizes -/
theorem sIx_0 (n d : Nat) : HT.sIx n d none = d := rfl
theorem dSl_take {l : List Int} (i : Nat) : dSl none (some (i : Int)) (tI' l) = some (tI' (l.take i)) := by
  show (if immL (dI l) then some (D.tup (cutD (dI l) none (some (i : Int)))) else none) = _
  rw [immL_dI, if_pos rfl]
  congr 2
  unfold cutD
  rw [sIx_0, HT.sIx_nat, List.drop_zero, Nat.sub_zero, List.length_map]
  show (l.map D.int).take _ = (l.take i).map D.int
  rw [List.map_take]
  by_cases h : i ≤ l.length
  · rw [Nat.min_eq_left h]
  · rw [Nat.min_eq_right (by omega), List.take_of_length_le (by simp), List.take_of_length_le (by simp; omega)]
theorem dSl_drop {l : List Int} (i : Nat) : dSl (some (i : Int)) none (tI' l) = some (tI' (l.drop i)) := by
  show (if immL (dI l) then some (D.tup (cutD (dI l) (some (i : Int)) none)) else none) = _
  rw [immL_dI, if_pos rfl]
  congr 2
  unfold cutD
  rw [sIx_0, HT.sIx_nat, List.length_map]
  show ((l.map D.int).drop _).take _ = (l.drop i).map D.int
  rw [List.map_drop]
  by_cases h : i ≤ l.length
  · rw [Nat.min_eq_left h, List.take_of_length_le (by simp)]
  · rw [Nat.min_eq_right (by omega), List.drop_of_length_le (by simp), List.drop_of_length_le (by simp; omega)]; simp
def cnt (C : List Int) (x : Int) : Int := (C[x.toNat]?).getD 1
structure OkC (n : Nat) (C : List Int) : Prop where
  len : C.length = n
  rg : ∀ c ∈ C, 1 ≤ c ∧ c ≤ 100
theorem dIx_C {n : Nat} {C : List Int} (h : OkC n C) {x : Int} (hx : 0 ≤ x ∧ x < n) : dIx (tI' C) (.int x) = some (.int (cnt C x)) := by
  have hl : x.toNat < C.length := by rw [h.len]; omega
  have e : x = (x.toNat : Int) := by omega
  show atI (C.map D.int) x = _
  rw [e]
  refine atI_nat ?_
  unfold cnt
  rw [List.getElem?_map, ← e, List.getElem?_eq_getElem hl]
  rfl
theorem cnt_rg {n : Nat} {C : List Int} (h : OkC n C) (x : Int) : 1 ≤ cnt C x ∧ cnt C x ≤ 100 := by
  unfold cnt
  cases e : C[x.toNat]? with
  | none => simp
  | some c => exact h.rg c (List.mem_of_getElem? e)
def psz (C l : List Int) : Int := (l.map (cnt C)).foldl (· * ·) 1
theorem small_cnt {n : Nat} {C : List Int} (h : OkC n C) (x : Int) : FL.small64 (cnt C x) = true := by
  have := cnt_rg h x
  unfold FL.small64
  simp only [Bool.and_eq_true, decide_eq_true_eq]
  constructor <;> omega
theorem tr_fill (cs : List Int) (h : ∀ c ∈ cs, FL.small64 c = true) : Tr (m_fill_count [lI cs]) (fun d => d = .int (cs.foldl (· * ·) 1)) := by
  simp [m_fill_count, g_fill_count]
  refine (foGo_tr (P := fun done ρ => ∃ t, Fr t ∧ ρ = [.lok (lI cs), .own (.int (done.foldl (· * ·) 1)), t]) (R := fun r => ∃ t, Fr t ∧ r = (.nx, [.lok (lI cs), .own (.int (cs.foldl (· * ·) 1)), t])) cs (fun done a rest ρ e => ?_) (fun ρ => ?_) (rest := cs) (done := []) rfl ⟨_, Fr.no, rfl⟩).bnd ?_
  · rintro ⟨t, ht, rfl⟩
    have ha : FL.small64 a = true := h a (by rw [e]; simp)
    rcases ht with rfl | ⟨d, rfl⟩ <;> simp [dMul, ha] <;> exact Fr.bor
  · rintro ⟨t, ht, rfl⟩
    exact ⟨t, ht, rfl⟩
  · rintro r ⟨t, ht, rfl⟩
    simp
theorem lcGo_id {α : Type} {tg : Tg} {f : α → D} {fe : Ev → Mo D} {ρ : Ev} (g : α → D) {xs : List α} (h : ∀ a ∈ xs, ∃ ρ1, bindE tg (f a) ρ = some ρ1 ∧ Tr (fe ρ1) fun d => d = g a) : Tr (lcGo tg fYes fe ρ (xs.map f)) fun ys => ys = xs.map g :=
  (lcGo_tr (fun _ => true) g fun a m => by
    obtain ⟨ρ1, e, t⟩ := h a m
    exact ⟨ρ1, e, Tr.pure rfl, fun _ => t⟩).imp fun ys e => by rw [e, List.filter_eq_self.mpr fun _ _ => rfl]
theorem tr_lot {n : Nat} {C : List Int} (oC : OkC n C) {l : List Int} (hl : ∀ y ∈ l, 0 ≤ y ∧ y < n) {lot : D} (e : items lot = some (dI l)) : Tr (m_lot_size [tI' C, lot]) (fun d => d = .int (psz C l)) := by
  simp [m_lot_size, g_lot_size, e]
  refine (lcGo_id (fun y => .int (cnt C y)) fun y m => ?_).eq ?_
  · simp [dIx_C oC (hl y m)]
  · have e2 : l.map (fun y => D.int (cnt C y)) = dI (l.map (cnt C)) := by
      show _ = (l.map (cnt C)).map D.int
      rw [List.map_map]; rfl
    rw [e2]
    refine (tr_fill _ fun c m => ?_).imp fun d e => e
    obtain ⟨y, _, rfl⟩ := List.mem_map.mp m
    exact small_cnt oC y
structure ZInv (C : List Int) (x0 x1 : Sl) (done : List Int) (ρ : Se) : Prop where
  sh : ∃ t, Fr t ∧ ρ = [x0, x1, .own (.int (psz C done)), t]
structure ZEnd (C : List Int) (x0 x1 : Sl) (l : List Int) (r : Out × Se) : Prop where
  sh : ∃ t, Fr t ∧ r = (.nx, [x0, x1, .own (.int (psz C l)), t])
theorem tr_lsize {n : Nat} {C : List Int} (oC : OkC n C) {l : List Int} (hl : ∀ y ∈ l, 0 ≤ y ∧ y < n) {lot : D} (e : items lot = some (dI l)) : Tr (m__law_size [tI' C, lot]) (fun d => d = .int (psz C l)) := by
  simp [m__law_size, g__law_size, e]
  refine (foGo_tr (P := ZInv C (.lok (tI' C)) (.lok lot)) (R := ZEnd C (.lok (tI' C)) (.lok lot) l) l (fun done a rest ρ e => ?_) (fun ρ => ?_) (rest := l) (done := []) rfl ⟨_, Fr.no, rfl⟩).bnd ?_
  · rintro ⟨t, ht, rfl⟩
    have ha := hl a (by rw [e]; simp)
    have e5 : nlX (some t) = true := by rcases ht with rfl | ⟨_, rfl⟩ <;> rfl
    simp [e5, dIx_C oC ha, dMul, small_cnt oC a]
    exact ⟨_, Fr.bor (d := .int a), by unfold psz; simp⟩
  · rintro ⟨t, ht, rfl⟩
    exact ⟨t, ht, rfl⟩
  · rintro r ⟨t, ht, rfl⟩
    simp
/-! ### the clusters of a sequence -/
noncomputable def cls (n : Nat) (S : List (List Int)) (q : List Int) : List (List Int) := q.zipIdx.map fun p => clF n S (fun y => y ∈ q.take p.2) p.1
theorem enum_I (q : List Int) : enumD (dI q) = q.zipIdx.map fun p => D.tup [.int (p.2 : Int), .int p.1] := by
  unfold enumD
  show (q.map D.int).zipIdx.map _ = _
  rw [List.zipIdx_map, List.map_map]
  rfl
theorem tr_clusters_by {n : Nat} (hn : n ≤ 1000) {S : List (List Int)} (ok : OkSc n S) {q : List Int} (hq : ∀ y ∈ q, 0 ≤ y ∧ y < n) : Tr (m_clusters_by [dS S, tI' q]) (fun d => d = .tup ((cls n S q).map tI')) := by
  have e0 : dEnum [tI' q] = some (q.zipIdx.map fun p => D.tup [.int (p.2 : Int), .int p.1]) := by
    rw [← enum_I]; rfl
  simp [m_clusters_by, g_clusters_by, e0]
  refine (lcGo_id (fun p => tI' (clF n S (fun y => y ∈ q.take p.2) p.1)) fun p m => ?_).eq ?_
  · have hp : p.1 ∈ q := by
      have := List.mem_zipIdx m
      rw [this.2.2]; exact List.getElem_mem _
    simp [dSl_take]
    exact tr_cluster hn ok _ (hq _ hp)
  · have ei : immL (q.zipIdx.map fun p => tI' (clF n S (fun y => y ∈ q.take p.2) p.1)) = true := immL_map fun a _ => immL_dI _
    show Tr (Mo.ofO (if immL _ then some (D.tup _) else none)) _
    rw [ei, if_pos rfl]
    simp
    unfold cls
    rw [List.map_map]; rfl
theorem tr_sizes_by {n : Nat} (hn : n ≤ 1000) {S : List (List Int)} (ok : OkSc n S) {C : List Int} (oC : OkC n C) {q : List Int} (hq : ∀ y ∈ q, 0 ≤ y ∧ y < n) : Tr (m_sizes_by [tI' C, dS S, tI' q]) (fun d => d = tI' ((cls n S q).map (psz C))) := by
  simp [m_sizes_by, g_sizes_by]
  refine (tr_clusters_by hn ok hq).eq ?_
  simp
  refine (lcGo_id (fun l => .int (psz C l)) fun l m => ?_).eq ?_
  · simp
    refine tr_lot oC (fun y my => ?_) rfl
    unfold cls at m
    obtain ⟨p, _, rfl⟩ := List.mem_map.mp m
    exact mem_rng.mp (List.mem_filter.mp my).1
  · have e2 : (cls n S q).map (fun l => D.int (psz C l)) = dI ((cls n S q).map (psz C)) := by
      show _ = ((cls n S q).map (psz C)).map D.int
      rw [List.map_map]; rfl
    rw [e2, bTuple_lI]
    simp
end K87

set_option Elab.async false
set_option linter.all false
set_option maxRecDepth 100000
set_option maxHeartbeats 4000000
namespace K87
open PySem PySem.Spec L2 FL
/-! ### costs -/
abbrev sG : D := .str (PySem.Str.ofString "greatest")
abbrev sT : D := .str (PySem.Str.ofString "total")
theorem eq_gg : dEq sG sG = some true := by decide +kernel
theorem eq_tg : dEq sT sG = some false := by decide +kernel
def mx (a b : Int) : Int := if b > a then b else a
structure KInv (x0 x1 x2 x3 : Sl) (st : Int → Int → Int) (done : List Int) (ρ : Se) : Prop where
  sh : ∃ t, Fr t ∧ ρ = [x0, x1, x2, x3, .own (.int (done.foldl st 0)), t]
structure KEnd (x0 x1 x2 x3 : Sl) (st : Int → Int → Int) (l : List Int) (r : Out × Se) : Prop where
  sh : ∃ t, Fr t ∧ r = (.nx, [x0, x1, x2, x3, .own (.int (l.foldl st 0)), t])
theorem tr_cost {n : Nat} (hn : n ≤ 1000) {S : List (List Int)} (ok : OkSc n S) {C : List Int} (oC : OkC n C) {q : List Int} (hq : ∀ y ∈ q, 0 ≤ y ∧ y < n) {kd : D} {st : Int → Int → Int} (hk : ∀ a b, Tr (m_joined_cost [kd, .int a, .int b]) fun d => d = .int (st a b)) :
    Tr (m_cost_by [tI' C, dS S, tI' q, kd]) (fun d => d = .int (((cls n S q).map (psz C)).foldl st 0)) := by
  simp [m_cost_by, g_cost_by]
  refine (tr_sizes_by hn ok oC hq).eq ?_
  generalize (cls n S q).map (psz C) = l
  simp
  refine (foGo_tr (P := KInv (.lok (tI' C)) (.lok (dS S)) (.lok (tI' q)) (.lok kd) st) (R := KEnd (.lok (tI' C)) (.lok (dS S)) (.lok (tI' q)) (.lok kd) st l) l (fun done a rest ρ e => ?_) (fun ρ => ?_) (rest := l) (done := []) rfl ⟨_, Fr.no, rfl⟩).bnd ?_
  · rintro ⟨t, ht, rfl⟩
    have e5 : nlX (some t) = true := by rcases ht with rfl | ⟨_, rfl⟩ <;> rfl
    simp [e5]
    refine (hk _ _).eq ?_
    simp
    exact ⟨_, Fr.bor (d := .int a), by simp⟩
  · rintro ⟨t, ht, rfl⟩
    exact ⟨t, ht, rfl⟩
  · rintro r ⟨t, ht, rfl⟩
    simp
theorem tr_joinG (a b : Int) : Tr (m_joined_cost [sG, .int a, .int b]) fun d => d = .int (mx a b) := by
  simp [m_joined_cost, g_joined_cost, eq_gg]
  show Tr (Mo.ofO (some (D.int (if b > a then b else a)))) _
  simp [mx]
theorem tr_joinT (a b : Int) : Tr (m_joined_cost [sT, .int a, .int b]) fun d => d = .int (a + b) := by
  simp [m_joined_cost, g_joined_cost, eq_tg]
/-! ### the law's clusters -/
structure LInv (n : Nat) (S R : List (List Int)) (q : List Int) (done : List Int) (ρ : Se) : Prop where
  sh : ∃ t, Fr t ∧ ρ = [.lok (dN R), .lok (tI' q), .own (dSet done), .own (.lst ((cls n S done).map tI')), t]
structure LEnd (n : Nat) (S R : List (List Int)) (q : List Int) (r : Out × Se) : Prop where
  sh : ∃ t, Fr t ∧ r = (.nx, [.lok (dN R), .lok (tI' q), .own (dSet q), .own (.lst ((cls n S q).map tI')), t])
theorem cls_snoc {n : Nat} {S : List (List Int)} {q : List Int} {a : Int} : cls n S (q ++ [a]) = cls n S q ++ [clF n S (fun y => y ∈ q) a] := by
  unfold cls
  rw [List.zipIdx_append, List.map_append]
  congr 1
  · refine List.map_congr_left fun p m => ?_
    have := List.mem_zipIdx m
    rw [List.take_append_of_le_length (by omega)]
  · simp
theorem cls_len {n : Nat} {S : List (List Int)} {q : List Int} : (cls n S q).length = q.length := by unfold cls; simp
theorem tr_lclusters {n : Nat} (hn : n ≤ 1000) {S R : List (List Int)} (ok : OkSc n S) (oN : OkN n S R) {q : List Int} (hq : ∀ y ∈ q, 0 ≤ y ∧ y < n) (nq : q.Nodup) : Tr (m__law_clusters [dN R, tI' q]) (fun d => d = .lst ((cls n S q).map tI')) := by
  have lq : q.length ≤ n := nodup_len nq hq
  simp [m__law_clusters, g__law_clusters]
  refine (foGo_tr (P := LInv n S R q) (R := LEnd n S R q) q (fun done a rest ρ e => ?_) (fun ρ => ?_) (rest := q) (done := []) rfl ⟨_, Fr.no, rfl⟩).bnd ?_
  · rintro ⟨t, ht, rfl⟩
    have e5 : nlX (some t) = true := by rcases ht with rfl | ⟨_, rfl⟩ <;> rfl
    have ha := hq a (by rw [e]; simp)
    have ld : done.length < n := by rw [e] at lq; simp at lq; omega
    have g1 : (cls n S done).length < sizeLine := by rw [cls_len, sizeLine_eq]; omega
    have g2 : done.length < sizeLine := by rw [sizeLine_eq]; omega
    have na : a ∉ done := fun m => by
      rw [e] at nq
      exact (List.nodup_append.mp nq).2.2 a m a List.mem_cons_self rfl
    simp [e5]
    refine (tr_lcluster hn ok oN (fun y => dIn_dSet y done) ha).eq ?_
    simp [g1, putD_set g2]
    exact ⟨_, Fr.bor (d := .int a), by rw [cls_snoc, insI_neg na]; simp⟩
  · rintro ⟨t, ht, rfl⟩
    exact ⟨t, ht, rfl⟩
  · rintro r ⟨t, ht, rfl⟩
    simp
/-! ### flows -/
def oD : Option Int → D
  | none => .non
  | some x => .int x
def fl1 (q : List Int) (p : List Int × Nat) : Option Int := ((q.drop (p.2 + 1)).filter fun y => p.1.contains y).head?
def flw (q : List Int) (cl : List (List Int)) : List (Option Int) := cl.zipIdx.map (fl1 q)
theorem imm_oD (o : Option Int) : imm (oD o) = true := by cases o <;> rfl
theorem pick0 (l : List Int) : Tr ((Mo.ofO (dNe (lI l) (.lst []))).bind fun b => if b = true then Mo.ofO (dIx (lI l) (.int 0)) else Mo.pure .non) fun d => d = oD l.head? := by
  rw [dNe_nil]
  cases l with
  | nil => simp [oD]
  | cons a l =>
    have : dIx (lI (a :: l)) (.int 0) = some (.int a) := atI_nat (j := 0) rfl
    simp [this, oD]
structure WInv (x0 x1 : Sl) (q : List Int) (done : List (List Int × Nat)) (ρ : Se) : Prop where
  sh : ∃ t3 t4 t5, Fr t3 ∧ Fr t4 ∧ (t5 = .no ∨ ∃ d, t5 = .own d) ∧ ρ = [x0, x1, .own (.lst (done.map fun p => oD (fl1 q p))), t3, t4, t5, .no]
structure WEnd (x0 x1 : Sl) (q : List Int) (l : List (List Int × Nat)) (r : Out × Se) : Prop where
  sh : ∃ t3 t4 t5, Fr t3 ∧ Fr t4 ∧ (t5 = .no ∨ ∃ d, t5 = .own d) ∧ r = (.nx, [x0, x1, .own (.lst (l.map fun p => oD (fl1 q p))), t3, t4, t5, .no])
theorem enum_T (cl : List (List Int)) : enumD (cl.map tI') = cl.zipIdx.map fun p => D.tup [.int (p.2 : Int), tI' p.1] := by
  unfold enumD
  rw [List.zipIdx_map, List.map_map]
  rfl
theorem tr_flows {n : Nat} (hn : n ≤ 1000) {S : List (List Int)} (ok : OkSc n S) {q : List Int} (hq : ∀ y ∈ q, 0 ≤ y ∧ y < n) (nq : q.Nodup) : Tr (m_flows_by [dS S, tI' q]) (fun d => d = .tup ((flw q (cls n S q)).map oD)) := by
  have lq : q.length ≤ n := nodup_len nq hq
  have lc : (cls n S q).length ≤ n := by rw [cls_len]; exact lq
  simp [m_flows_by, g_flows_by]
  refine (tr_clusters_by hn ok hq).eq ?_
  generalize cls n S q = cl at lc
  have e0 : dEnum [.tup (cl.map tI')] = some (cl.zipIdx.map fun p => D.tup [.int (p.2 : Int), tI' p.1]) := by
    rw [← enum_T]; rfl
  simp [e0]
  refine (foGo_tr (P := WInv (.lok (dS S)) (.lok (tI' q)) q) (R := WEnd (.lok (dS S)) (.lok (tI' q)) q cl.zipIdx) cl.zipIdx (fun done a rest ρ e => ?_) (fun ρ => ?_) (rest := cl.zipIdx) (done := []) rfl ⟨_, _, _, Fr.no, Fr.no, .inl rfl, rfl⟩).bnd ?_
  · rintro ⟨t3, t4, t5, h3, h4, h5, rfl⟩
    have n3 : nlX (some t3) = true := by rcases h3 with rfl | ⟨_, rfl⟩ <;> rfl
    have n4 : nlX (some t4) = true := by rcases h4 with rfl | ⟨_, rfl⟩ <;> rfl
    have n5 : nlX (some t5) = true := by rcases h5 with rfl | ⟨_, rfl⟩ <;> rfl
    have ld : done.length < sizeLine := by
      have : cl.zipIdx.length = cl.length := List.length_zipIdx
      rw [e] at this
      simp at this
      rw [sizeLine_eq]; omega
    have ed := dSl_drop (l := q) (a.2 + 1)
    have ec : ((a.2 : Int) + 1) = ((a.2 + 1 : Nat) : Int) := by omega
    simp [n3, n4, n5]
    rw [ec, ed]
    simp
    rw [← List.map_drop]
    refine (lcGo_tr (fun y => a.1.contains y) D.int fun y _ => ?_).eq ?_
    · simp
    · show Tr ((Mo.ofO (dNe (lI ((q.drop (a.2 + 1)).filter fun y => a.1.contains y)) (.lst []))).bind _) _
      have hp := pick0 ((q.drop (a.2 + 1)).filter fun y => a.1.contains y)
      have ef : ((q.drop (a.2 + 1)).filter fun y => a.1.contains y).head? = fl1 q a := rfl
      rw [ef] at hp
      generalize (q.drop (a.2 + 1)).filter (fun y => a.1.contains y) = lt at hp
      rw [← Mo.bind_assoc]
      refine hp.eq ?_
      simp [imm_oD, ld]
      exact ⟨_, _, _, Fr.bor (d := .int a.2), Fr.bor (d := tI' a.1), .inr ⟨lI lt, rfl⟩, by simp⟩
  · rintro ⟨t3, t4, t5, h3, h4, h5, rfl⟩
    exact ⟨t3, t4, t5, h3, h4, h5, rfl⟩
  · rintro r ⟨t3, t4, t5, h3, h4, h5, rfl⟩
    have ei : immL (cl.zipIdx.map fun p => oD (fl1 q p)) = true := immL_map fun a _ => imm_oD _
    simp
    show Tr (Mo.ofO (if immL _ then some (D.tup _) else none)) _
    rw [ei, if_pos rfl]
    simp
    unfold flw
    rw [List.map_map]; rfl
end K87

set_option Elab.async false
set_option linter.all false
set_option maxRecDepth 100000
set_option maxHeartbeats 4000000
namespace K87
open PySem PySem.Spec L2 FL
structure VInv (x0 x1 : Sl) (q : List Int) (cl : List (List Int)) (done : List Nat) (ρ : Se) : Prop where
  sh : ∃ t3 t4, Fr t3 ∧ (t4 = .no ∨ ∃ d, t4 = .own d) ∧ ρ = [x0, x1, .own (.lst (done.map fun i => oD (fl1 q ((cl[i]?).getD [], i)))), t3, t4, .no]
structure VEnd (x0 x1 : Sl) (q : List Int) (cl : List (List Int)) (l : List Nat) (r : Out × Se) : Prop where
  sh : ∃ t3 t4, Fr t3 ∧ (t4 = .no ∨ ∃ d, t4 = .own d) ∧ r = (.nx, [x0, x1, .own (.lst (l.map fun i => oD (fl1 q ((cl[i]?).getD [], i)))), t3, t4, .no])
theorem rangeD_0 (k : Nat) : rangeD 0 (k : Int) = (List.range k).map fun (i : Nat) => D.int (i : Int) := by
  unfold rangeD
  have : ((k : Int) - 0).toNat = k := by omega
  rw [this]
  refine List.map_congr_left fun i _ => ?_
  simp
theorem dRange1_nat {k : Nat} (h : k ≤ 1000) : dRange1 [.int (k : Int)] = some ((List.range k).map fun (i : Nat) => D.int (i : Int)) := by
  rw [← rangeD_0]
  show (if rgOk 0 (k : Int) then some (rangeD 0 (k : Int)) else none) = _
  have : rgOk 0 (k : Int) = true := by
    have h62 : (2 : Int) ^ 62 = 4611686018427387904 := by decide
    have h3 : ((k : Int) - 0).toNat ≤ sizeLine := Nat.le_trans (show ((k : Int) - 0).toNat ≤ 1000 by omega) (sl_big (by decide))
    have a1 : -((2 : Int) ^ 62) ≤ 0 := by rw [h62]; decide
    have a2 : (0 : Int) < 2 ^ 62 := by rw [h62]; decide
    have a3 : -((2 : Int) ^ 62) ≤ (k : Int) := by rw [h62]; omega
    have a4 : (k : Int) < 2 ^ 62 := by rw [h62]; omega
    unfold rgOk
    rw [decide_eq_true a1, decide_eq_true a2, decide_eq_true a3, decide_eq_true a4, decide_eq_true h3]
    rfl
  rw [this, if_pos rfl]
theorem fR1 {g : Ev → Mo (List D)} {ρ : Ev} {k : Nat} (hg : g ρ = Mo.pure [.int (k : Int)]) (h : k ≤ 1000) : fRange1 g ρ = Mo.pure ((List.range k).map fun (i : Nat) => D.int (i : Int)) := by
  rw [fRange1_ap, hg, Mo.pure_bind, dRange1_nat h, Mo.ofO_some]
theorem flw_range (q : List Int) : ∀ (cl : List (List Int)), flw q cl = (List.range cl.length).map fun i => fl1 q ((cl[i]?).getD [], i) := fun cl => by
  unfold flw
  refine List.ext_getElem (by simp) fun i h1 h2 => ?_
  have hi : i < cl.length := by simpa using h2
  simp [List.getElem?_eq_getElem hi]
theorem tr_lflows {n : Nat} (hn : n ≤ 1000) {q : List Int} (lq : q.length ≤ n) {cl : List (List Int)} (lc : cl.length = q.length) : Tr (m__law_flows [tI' q, .lst (cl.map tI')]) (fun d => d = .lst ((flw q cl).map oD)) := by
  have hix : ∀ (a : Nat) c, cl[a]? = some c → dIx (.lst (cl.map tI')) (.int (a : Int)) = some (tI' c) := fun a c hc => by
    show atI (cl.map tI') (a : Int) = _
    exact atI_nat (by rw [List.getElem?_map, hc]; rfl)
  generalize D.lst (cl.map tI') = d1 at hix
  have e0 : fRange1 (fCons (fCallB bLen (fCons (fVar 0) fNil)) fNil) [some (tI' q), some d1, some (.lst []), none, none, none] = Mo.pure ((List.range q.length).map fun (i : Nat) => D.int (i : Int)) := fR1 (by simp) (by omega)
  have hsl : ∀ k : Nat, dSl (some (k : Int)) none (tI' q) = some (tI' (q.drop k)) := fun k => dSl_drop k
  generalize tI' q = d0 at e0 hsl
  generalize hrr : ((List.range q.length).map fun (i : Nat) => D.int (i : Int)) = rr at e0
  simp [m__law_flows, g__law_flows, e0]
  rw [← hrr]
  refine (foGo_tr (f := fun (i : Nat) => D.int (i : Int)) (P := VInv (.lok d0) (.lok d1) q cl) (R := VEnd (.lok d0) (.lok d1) q cl (List.range q.length)) (List.range q.length) (fun done a rest ρ e => ?_) (fun ρ => ?_) (rest := List.range q.length) (done := []) rfl ⟨_, _, Fr.no, .inl rfl, rfl⟩).bnd ?_
  · rintro ⟨t3, t4, h3, h4, rfl⟩
    have n3 : nlX (some t3) = true := by rcases h3 with rfl | ⟨_, rfl⟩ <;> rfl
    have n4 : nlX (some t4) = true := by rcases h4 with rfl | ⟨_, rfl⟩ <;> rfl
    have ha : a < q.length := List.mem_range.mp (by rw [e]; simp)
    have ld : done.length < sizeLine := by
      have : (List.range q.length).length = q.length := List.length_range
      rw [e] at this
      simp at this
      rw [sizeLine_eq]; omega
    have ed := hsl (a + 1)
    have ec : ((a : Int) + 1) = ((a + 1 : Nat) : Int) := by omega
    obtain ⟨c, hc⟩ : ∃ c, cl[a]? = some c := ⟨_, List.getElem?_eq_getElem (by omega)⟩
    have ei := hix a c hc
    simp [n3, n4]
    rw [ec, ed]
    simp
    rw [← List.map_drop]
    refine (lcGo_tr (fun y => c.contains y) D.int fun y _ => ?_).eq ?_
    · simp [ei]
    · show Tr ((Mo.ofO (dNe (lI ((q.drop (a + 1)).filter fun y => c.contains y)) (.lst []))).bind _) _
      have hp := pick0 ((q.drop (a + 1)).filter fun y => c.contains y)
      have ef : ((q.drop (a + 1)).filter fun y => c.contains y).head? = fl1 q ((cl[a]?).getD [], a) := by rw [hc]; rfl
      rw [ef] at hp
      generalize (q.drop (a + 1)).filter (fun y => c.contains y) = lt at hp
      rw [← Mo.bind_assoc]
      refine hp.eq ?_
      simp [imm_oD, ld]
      exact ⟨_, _, Fr.bor (d := .int a), .inr ⟨lI lt, rfl⟩, by simp⟩
  · rintro ⟨t3, t4, h3, h4, rfl⟩
    exact ⟨t3, t4, h3, h4, rfl⟩
  · rintro r ⟨t3, t4, h3, h4, rfl⟩
    simp
    rw [flw_range, lc, List.map_map]; rfl
end K87

set_option Elab.async false
set_option linter.all false
set_option maxRecDepth 100000
set_option maxHeartbeats 4000000
namespace K87
open PySem PySem.Spec L2 FL
/-! ### _law_same -/
mutual
/-- data that _law_same can tell -/
def plain : Nat → D → Bool
  | _, .int _ => true
  | _, .non => true
  | _, .bl _ => true
  | k + 1, .tup xs => decide (xs.length ≤ 1000) && plainL k xs
  | _, _ => false
def plainL : Nat → List D → Bool
  | _, [] => true
  | k, x :: xs => plain k x && plainL k xs
end
theorem plainL_iff {k : Nat} : ∀ {xs : List D}, plainL k xs = true ↔ ∀ x ∈ xs, plain k x = true
  | [] => by simp [plainL]
  | x :: xs => by
    unfold plainL
    rw [Bool.and_eq_true, plainL_iff]
    simp
theorem dIsN_non (d : D) : dIsN d .non = some (isNon d) := id rfl
theorem isi_int (t : Ty) (i : Int) : isiD t (.int i) = some (match t with | .int => true | _ => false) := by cases t <;> rfl
theorem isi_bl (t : Ty) (i : Bool) : isiD t (.bl i) = some (match t with | .bool => true | .int => true | _ => false) := by cases t <;> rfl
theorem isi_non (t : Ty) : isiD t .non = some false := by cases t <;> rfl
theorem isi_tup (t : Ty) (xs : List D) : isiD t (.tup xs) = some (match t with | .tuple => true | _ => false) := by cases t <;> rfl
theorem dEq_bl (b : Bool) : dEq (.bl b) (.bl b) = some true := by cases b <;> rfl
theorem bAll_bl (l : List Bool) : bAll [.lst (l.map D.bl)] = some (.bl (l.all id)) := by
  show (boolsOf (l.map D.bl)).map _ = _
  rw [boolsOf_map]; rfl
theorem same_tup {r : List D → Mo D} {xs : List D} (hl : xs.length ≤ 1000) (h : ∀ x ∈ xs, Tr (r [x, x]) fun d => d = .bl true) : Tr (mirF 3 2 (g__law_same r) [.tup xs, .tup xs]) fun d => d = .bl true := by
  have hix : ∀ (a : Nat) c, xs[a]? = some c → dIx (.tup xs) (.int (a : Int)) = some c := fun a c hc => by
    show atI xs (a : Int) = _
    exact atI_nat hc
  have hlen : bLen [.tup xs] = some (.int (xs.length : Int)) := rfl
  have his : ∀ t, isiD t (.tup xs) = some (match t with | .tuple => true | _ => false) := fun t => isi_tup t xs
  generalize D.tup xs = d at hix hlen his
  have e0 : fRange1 (fCons (fCallB bLen (fCons (fVar 1) fNil)) fNil) [some d, some d, none] = Mo.pure ((List.range xs.length).map fun (i : Nat) => D.int (i : Int)) := fR1 (by simp [hlen]) (by omega)
  generalize hrr : ((List.range xs.length).map fun (i : Nat) => D.int (i : Int)) = rr at e0
  simp [g__law_same, his, hlen, e0]
  rw [← hrr]
  refine (lcGo_id (f := fun (i : Nat) => D.int (i : Int)) (fun _ => D.bl true) fun a m => ?_).eq ?_
  · have ha : a < xs.length := List.mem_range.mp m
    have hc : xs[a]? = some xs[a] := List.getElem?_eq_getElem ha
    simp [hix a _ hc]
    exact h _ (List.getElem_mem _)
  · have e : (List.range xs.length).map (fun _ => D.bl true) = ((List.range xs.length).map fun _ => true).map D.bl := by rw [List.map_map]; rfl
    rw [e, bAll_bl]
    simp
theorem tr_same : ∀ (k : Nat) (d : D), plain k d = true → Tr (r__law_same (k + 1) [d, d]) fun x => x = .bl true
  | k, .int i, _ => by
    simp [r__law_same, g__law_same, isi_int, dIsN_non, FL.isNon]
  | k, .bl i, _ => by
    simp [r__law_same, g__law_same, isi_bl, dIsN_non, FL.isNon, dEq_bl]
  | k, .non, _ => by
    simp [r__law_same, g__law_same, isi_non, dIsN_non, FL.isNon]
  | k + 1, .tup xs, h => by
    unfold plain at h
    simp only [Bool.and_eq_true, decide_eq_true_eq] at h
    exact same_tup h.1 fun x m => tr_same k x (plainL_iff.mp h.2 x m)
  | 0, .tup _, h => by cases h
  | 0, .str _, h => by cases h
  | _ + 1, .str _, h => by cases h
  | 0, .hp, h => by cases h
  | _ + 1, .hp, h => by cases h
  | 0, .lst _, h => by cases h
  | _ + 1, .lst _, h => by cases h
  | 0, .dct _ _, h => by cases h
  | _ + 1, .dct _ _, h => by cases h
  | 0, .dcT _ _, h => by cases h
  | _ + 1, .dcT _ _, h => by cases h
  | 0, .seti _, h => by cases h
  | _ + 1, .seti _, h => by cases h
  | 0, .scr _, h => by cases h
  | _ + 1, .scr _, h => by cases h
  | 0, .dctN _ _, h => by cases h
  | _ + 1, .dctN _ _, h => by cases h
theorem tr_lsame {d : D} (h : plain 5 d = true) : Tr (m__law_same [d, d]) fun x => x = .bl true := tr_same 5 d h
end K87

set_option Elab.async false
set_option linter.all false
set_option maxRecDepth 100000
set_option maxHeartbeats 4000000
namespace K87
open PySem PySem.Spec L2 FL
/-! ### sorted -/
def srt (q : List Int) : List Int := q.mergeSort fun a b => decide (a ≤ b)
theorem srt_perm (q : List Int) : (srt q).Perm q := List.mergeSort_perm q _
theorem srt_le (q : List Int) : (srt q).Pairwise (· ≤ ·) := by
  have := List.pairwise_mergeSort (le := fun a b : Int => decide (a ≤ b)) (fun a b c h1 h2 => by simp at *; omega) (fun a b => by simp; omega) q
  exact this.imp fun h => by simpa using h
theorem srt_lt {q : List Int} (nd : q.Nodup) : (srt q).Pairwise (· < ·) := by
  have n2 : (srt q).Nodup := (srt_perm q).nodup_iff.mpr nd
  have := (srt_le q).and n2
  exact this.imp fun ⟨h1, h2⟩ => by omega
theorem sortD {q : List Int} (nd : q.Nodup) : (dI q).mergeSort dLeq = dI (srt q) := perm_sort (srt_lt nd) (srt_perm q)
theorem mem_srt {q : List Int} {x : Int} : x ∈ srt q ↔ x ∈ q := (srt_perm q).mem_iff
theorem bSorted_tI (l : List Int) : bSorted [tI' l] = some (.lst ((dI l).mergeSort dLeq)) := by
  show (if sortable (dI l) then some (D.lst ((dI l).mergeSort dLeq)) else none) = _
  rw [sortable_dI, if_pos rfl]
/-! ### goals -/
def gof (q : List Int) (fl : List (Option Int)) (x : Int) : Option Int := (((q.zip fl).find? fun p => decide (p.1 = x)).map (·.2)).join
def pickS (g : Int → Option Int) (left : List Int) : Option Int := (left.filter fun x => !(left.map g).contains (some x)).head?
def stl (g : Int → Option Int) : Nat → List Int → List Int
  | 0, _ => []
  | n + 1, left => match pickS g left with
    | none => []
    | some x => x :: stl g n (left.erase x)
theorem pick_mem {g : Int → Option Int} {left : List Int} {x : Int} (h : pickS g left = some x) : x ∈ left := (List.mem_filter.mp (List.mem_of_head? h)).1
theorem stl_step {g : Int → Option Int} {left : List Int} {x : Int} (h : pickS g left = some x) : stl g left.length left = x :: stl g (left.erase x).length (left.erase x) := by
  have m := pick_mem h
  have l := List.length_erase_of_mem m
  have p := List.length_pos_of_mem m
  obtain ⟨n, e⟩ : ∃ n, left.length = n + 1 := ⟨left.length - 1, by omega⟩
  have e' : n = (left.erase x).length := by omega
  rw [e, ← e']
  show (match pickS g left with | none => [] | some x => x :: stl g n (left.erase x)) = _
  rw [h]
/-- the goals lie later -/
def Later (q : List Int) (g : Int → Option Int) : Prop := ∀ x ∈ q, ∀ y, g x = some y → q.idxOf x < q.idxOf y
theorem pick_some {q : List Int} {g : Int → Option Int} (h : Later q g) {left : List Int} (hl : ∀ x ∈ left, x ∈ q) (hn : left ≠ []) : ∃ x, pickS g left = some x := by
  obtain ⟨m, hm⟩ := exMin (fun a b : Int => q.idxOf a < q.idxOf b) (fun h h' => by omega) (fun a => Nat.lt_irrefl _) (fun h => by omega) hn
  unfold pickS
  cases e : (left.filter fun x => !(left.map g).contains (some x)).head? with
  | some x => exact ⟨x, rfl⟩
  | none =>
    rw [List.head?_eq_none_iff] at e
    have : m ∈ left.filter fun x => !(left.map g).contains (some x) := by
      refine List.mem_filter.mpr ⟨hm.mem, ?_⟩
      simp only [Bool.not_eq_true', List.contains_eq_mem, decide_eq_false_iff_not]
      intro c
      obtain ⟨y, my, ey⟩ := List.mem_map.mp c
      exact hm.le y my (h y (hl y my) m ey)
    rw [e] at this; cases this
theorem zip_look {q : List Int} {fl : List (Option Int)} : ∀ {x : Int}, q.length = fl.length → x ∈ q → lookD (q.map Sum.inl) (fl.map oD) (Sum.inl x) = some (oD (gof q fl x)) := by
  induction q generalizing fl with
  | nil => intro x _ m; cases m
  | cons a q ih =>
    intro x hl m
    cases fl with
    | nil => cases hl
    | cons o fl =>
      unfold lookD gof
      rw [List.map_cons, List.map_cons, List.zip_cons_cons, List.find?_cons, List.zip_cons_cons, List.find?_cons]
      by_cases c : a = x
      · subst c
        simp
      · have c' : ¬ (Sum.inl a : Key) = Sum.inl x := fun h => c (Sum.inl.inj h)
        simp only [c, c', decide_false]
        exact ih (by simpa using hl) ((List.mem_cons.mp m).resolve_left fun h => c h.symm)
abbrev goD (q : List Int) (fl : List (Option Int)) : D := .dct (q.map Sum.inl) (fl.map oD)
theorem dIx_go {q : List Int} {fl : List (Option Int)} {x : Int} (hl : q.length = fl.length) (m : x ∈ q) : dIx (goD q fl) (.int x) = some (oD (gof q fl x)) := zip_look hl m
theorem flat_oD (o : Option Int) : flat (oD o) = true := by cases o <;> rfl
theorem dIn_oD (x : Int) (l : List (Option Int)) : dIn (.int x) (.lst (l.map oD)) = some (l.contains (some x)) := by
  have : (l.map oD).all flat = true := by rw [List.all_map]; exact List.all_eq_true.mpr fun a _ => flat_oD a
  show (if flat (D.int x) && (l.map oD).all flat then some ((l.map oD).any fun y => eqF y (D.int x)) else _) = _
  rw [this]
  show some ((l.map oD).any fun y => eqF y (.int x)) = _
  rw [List.any_map, List.contains_eq_any_beq]
  congr 2
  funext a
  cases a with
  | none => rfl
  | some a =>
    show (a == x) = (some x == some a)
    rw [Bool.eq_iff_iff]; simp; exact eq_comm
theorem keyN_oD (o : Option Int) : keyN (oD o) = some (o.map Sum.inl) := by cases o <;> rfl
theorem putKs_app {κ : Type} [DecidableEq κ] {k : κ} : ∀ {ks : List κ}, k ∉ ks → putKs ks k = ks ++ [k]
  | [], _ => rfl
  | a :: ks, h => by
    unfold putKs
    rw [if_neg (fun e : a = k => h (by rw [e]; exact List.mem_cons_self)), putKs_app (fun m => h (List.mem_cons_of_mem _ m))]; rfl
theorem putVs_app {κ α : Type} [DecidableEq κ] {k : κ} {x : α} : ∀ {ks : List κ} {vs : List α}, k ∉ ks → ks.length = vs.length → putVs ks vs k x = vs ++ [x]
  | [], [], _, _ => rfl
  | a :: ks, v :: vs, h, l => by
    unfold putVs
    rw [if_neg (fun e : a = k => h (by rw [e]; exact List.mem_cons_self)), putVs_app (fun m => h (List.mem_cons_of_mem _ m)) (by simpa using l)]; rfl
theorem putKs_same {κ : Type} [DecidableEq κ] {k : κ} : ∀ {ks : List κ}, k ∈ ks → putKs ks k = ks
  | a :: ks, h => by
    unfold putKs
    by_cases c : a = k
    · rw [if_pos c]
    · rw [if_neg c, putKs_same ((List.mem_cons.mp h).resolve_left fun e => c e.symm)]
theorem putVs_len {κ α : Type} [DecidableEq κ] {k : κ} {x : α} : ∀ {ks : List κ} {vs : List α}, ks.length = vs.length → (putKs ks k).length = (putVs ks vs k x).length
  | [], [], _ => rfl
  | a :: ks, v :: vs, l => by
    unfold putVs putKs
    by_cases c : a = k
    · rw [if_pos c, if_pos c]; simpa using l
    · rw [if_neg c, if_neg c]
      have := putVs_len (k := k) (x := x) (ks := ks) (vs := vs) (by simpa using l)
      simpa using this
theorem putKs_le {κ : Type} [DecidableEq κ] {k : κ} : ∀ {ks : List κ}, (putKs ks k).length ≤ ks.length + 1
  | [] => by simp [putKs]
  | a :: ks => by
    unfold putKs
    split
    · simp
    · have := putKs_le (k := k) (ks := ks); simpa using this
theorem lookN_put {k k' : Option Key} {n : Int} : ∀ {ks : List (Option Key)} {vs : List Int}, ks.length = vs.length → lookN (putKs ks k) (putVs ks vs k n) k' = if k = k' then some n else lookN ks vs k'
  | [], [], _ => by
    unfold putKs putVs lookN
    by_cases c : k = k' <;> simp [c]
  | a :: ks, v :: vs, l => by
    have ih := lookN_put (k := k) (k' := k') (n := n) (ks := ks) (vs := vs) (by simpa using l)
    unfold putKs putVs
    by_cases c : a = k
    · rw [if_pos c, if_pos c]
      subst c
      unfold lookN
      by_cases d : a = k' <;> simp [d]
    · rw [if_neg c, if_neg c]
      unfold lookN at ih ⊢
      rw [List.zip_cons_cons, List.find?_cons, List.zip_cons_cons, List.find?_cons]
      by_cases d : a = k'
      · have : k ≠ k' := fun e => c (d.trans e.symm)
        simp [d, this]
      · simp only [d, decide_false]
        exact ih
theorem lookN_mem {k : Option Key} : ∀ {ks : List (Option Key)} {vs : List Int}, ks.length = vs.length → (lookN ks vs k).isSome → k ∈ ks
  | [], [], _, h => by simp [lookN] at h
  | a :: ks, v :: vs, l, h => by
    unfold lookN at h
    rw [List.zip_cons_cons, List.find?_cons] at h
    by_cases c : a = k
    · rw [c]; exact List.mem_cons_self
    · simp only [c, decide_false] at h
      exact List.mem_cons_of_mem _ (lookN_mem (vs := vs) (by simpa using l) h)
theorem dcGo_nd {α : Type} {tg : Tg} {f : α → D} {fk fv : Ev → Mo D} {ρ : Ev} (kf : α → Int) (vf : α → D) : ∀ {xs : List α} {ks : List Int} {vs : List D}, (ks ++ xs.map kf).Nodup → ks.length = vs.length → ks.length + xs.length ≤ 1000 →
    (∀ a ∈ xs, ∃ ρ1, bindE tg (f a) ρ = some ρ1 ∧ Tr (fk ρ1) (fun d => d = .int (kf a)) ∧ Tr (fv ρ1) fun d => d = vf a) →
    Tr (dcGo tg fYes fk fv ρ (xs.map f) (ks.map Sum.inl) vs) fun r => r = ((ks ++ xs.map kf).map Sum.inl, vs ++ xs.map vf)
  | [], ks, vs, _, _, _, _ => by
    refine Tr.pure ?_
    simp
  | a :: xs, ks, vs, nd, l, ll, h => by
    obtain ⟨ρ1, e1, t1, t2⟩ := h a List.mem_cons_self
    rw [List.map_cons]
    unfold dcGo
    rw [e1, Mo.ofO_some, Mo.pure_bind]
    show Tr ((Mo.pure true).bind _) _
    rw [Mo.pure_bind]
    simp only [if_true]
    refine t1.eq (t2.eq ?_)
    have na : kf a ∉ ks := fun m => by
      have := (List.nodup_append.mp nd).2.2 _ m (kf a) (by simp)
      exact this rfl
    have na' : (Sum.inl (kf a) : Key) ∉ ks.map (Sum.inl : Int → Key) := fun m => by
      obtain ⟨b, mb, e⟩ := List.mem_map.mp m
      exact na (Sum.inl.inj e ▸ mb)
    show Tr ((Mo.ofO (some (Sum.inl (kf a)))).bind _) _
    rw [Mo.ofO_some, Mo.pure_bind]
    have g : (ks.map (Sum.inl : Int → Key)).length < sizeLine := by
      rw [List.length_map, sizeLine_eq]; simp at ll; omega
    rw [decide_eq_true g, gd_true, Mo.pure_bind, putKs_app na', putVs_app na' (by rw [List.length_map]; exact l)]
    have ek : ks.map (Sum.inl : Int → Key) ++ [Sum.inl (kf a)] = (ks ++ [kf a]).map Sum.inl := by simp
    rw [ek]
    have ih := dcGo_nd (tg := tg) (f := f) (fk := fk) (fv := fv) (ρ := ρ) kf vf (xs := xs) (ks := ks ++ [kf a]) (vs := vs ++ [vf a]) (by simpa using nd) (by simpa using l) (by simp at ll ⊢; omega) fun b m => h b (List.mem_cons_of_mem _ m)
    refine ih.imp fun r e => ?_
    rw [e]; simp
end K87

set_option Elab.async false
set_option linter.all false
set_option maxRecDepth 100000
set_option maxHeartbeats 4000000
namespace K87
open PySem PySem.Spec L2 FL
theorem dZip_q {q : List Int} {fl : List (Option Int)} {d : D} (h : items d = some (fl.map oD)) : dZip [tI' q, d] = some ((q.zip fl).map fun p => D.tup [.int p.1, oD p.2]) := by
  have : dZip [tI' q, d] = some (zipD (dI q) (fl.map oD)) := by
    cases d <;> first | (cases h; done) | skip
    all_goals first | (cases h; rfl) | skip
    all_goals (cases h)
  rw [this]
  unfold zipD
  show some (((q.map D.int).zip (fl.map oD)).map _) = _
  rw [List.zip_map, List.map_map]
  rfl
theorem imm_oD' (o : Option Int) : imm (oD o) = true := by cases o <;> rfl
structure PInv (x0 x1 : Sl) (fl : D) (q : List Int) (fs : List (Option Int)) (tot : List Int) (left : List Int) (ρ : Se) : Prop where
  sh : ∃ found o6 o7, ρ = [x0, x1, .own fl, .own (lI left), .own (lI found), .own (goD q fs), slO o6, slO o7, .no] ∧ found ++ stl (gof q fs) left.length left = tot
  so : left.Pairwise (· < ·)
  sub : ∀ x ∈ left, x ∈ q
structure PEnd (x0 x1 : Sl) (tot : List Int) (r : Out × Se) : Prop where
  sh : ∃ x2 x3 x5 x6 x7, r = (.nx, [x0, x1, x2, x3, .own (lI tot), x5, x6, x7, .no])
theorem stl_len {g : Int → Option Int} : ∀ {n : Nat} {l : List Int}, (stl g n l).length ≤ n
  | 0, _ => Nat.le_refl _
  | n + 1, l => by
    unfold stl
    split
    · simp
    · have := stl_len (g := g) (n := n) (l := l.erase ‹_›); simp; omega
theorem asL_own {l : List Int} : asL (some (Sl.own (lI l))) = some (dI l) := asL_lI l
theorem mRem_ap {i : Nat} {f : Ev → Mo D} {ρ : Se} {l : List Int} {x : Int} (h : ρ[i]? = some (.own (lI l))) (hf : f (vw ρ) = Mo.pure (.int x)) (m : x ∈ l) : mRem i f ρ = Mo.pure (.non, ρ.set i (.own (lI (l.erase x)))) := by
  unfold mRem
  rw [h, asL_own, Mo.ofO_some, Mo.pure_bind, hf, Mo.pure_bind]
  show (Mo.ofO (intsOf (l.map D.int))).bind _ = _
  rw [intsOf_map, Mo.ofO_some, Mo.pure_bind, decide_eq_true m, gd_true, Mo.pure_bind]
theorem head_min {l : List Int} {x : Int} (so : l.Pairwise (· < ·)) (h : l.head? = some x) : MinI l x := by
  cases l with
  | nil => cases h
  | cons a l =>
    cases h
    refine ⟨List.mem_cons_self, fun y m => ?_⟩
    rcases List.mem_cons.mp m with e | m
    · subst e; exact Int.lt_irrefl _
    · have := (List.pairwise_cons.mp so).1 y m
      omega
theorem tr_settled {n : Nat} (hn : n ≤ 900) {S : List (List Int)} (ok : OkSc n S) {q : List Int} (hq : ∀ y ∈ q, 0 ≤ y ∧ y < n) (nq : q.Nodup) {fs : List (Option Int)} (hfs : fs = flw q (cls n S q)) (hL : Later q (gof q fs)) :
    Tr (m_settled_sequence [dS S, tI' q]) (fun d => d = tI' (stl (gof q fs) (srt q).length (srt q))) := by
  have lq : q.length ≤ n := nodup_len nq hq
  have lf : q.length = fs.length := by rw [hfs]; unfold flw; rw [List.length_map, List.length_zipIdx, cls_len]
  have t1 := tr_flows (show n ≤ 1000 by omega) ok hq nq
  rw [← hfs] at t1
  have e1 : bSorted [tI' q] = some (lI (srt q)) := by rw [bSorted_tI, sortD nq]
  have e2 := dZip_q (q := q) (fl := fs) (d := .tup (fs.map oD)) rfl
  generalize hd0 : dS S = d0 at t1
  generalize hd1 : tI' q = d1 at t1 e1 e2
  generalize hd2 : D.tup (fs.map oD) = d2 at t1 e2
  simp [m_settled_sequence, g_settled_sequence]
  refine t1.eq ?_
  simp [e1, e2]
  refine (dcGo_nd (f := fun p : Int × Option Int => D.tup [.int p.1, oD p.2]) (fun p => p.1) (fun p => oD p.2) (xs := q.zip fs) (ks := []) (vs := []) ?_ rfl ?_ fun p m => ?_).eq ?_
  · rw [List.nil_append, List.map_fst_zip (by omega)]; exact nq
  · simp; omega
  · simp [imm_oD']
  simp only [List.nil_append]
  have e3 : (q.zip fs).map (fun p => p.1) = q := List.map_fst_zip (by omega)
  have e4 : (q.zip fs).map (fun p => oD p.2) = fs.map oD := by
    have : (q.zip fs).map (fun p => oD p.2) = ((q.zip fs).map Prod.snd).map oD := by rw [List.map_map]; rfl
    rw [this, List.map_snd_zip (by omega)]
  rw [e3, e4]
  have hG : ∀ x ∈ q, dIx (goD q fs) (.int x) = some (oD (gof q fs x)) := fun x m => dIx_go lf m
  have hgo : goD q fs = .dct (q.map Sum.inl) (fs.map oD) := rfl
  rw [← hgo]

  refine (sWhile_tr (β := List Int) (P := PInv (.bor d0) (.bor d1) d2 q fs (stl (gof q fs) (srt q).length (srt q))) (R := PEnd (.bor d0) (.bor d1) (stl (gof q fs) (srt q).length (srt q))) (fun l => l.length) (b := srt q) ⟨⟨[], none, none, rfl, rfl⟩, srt_lt nq, fun x m => mem_srt.mp m⟩ ?_).bnd ?_
  · rintro left ρ ⟨⟨found, o6, o7, rfl, ht⟩, so, sub⟩
    simp [dNe_nil]
    by_cases hl : left = []
    · rw [if_pos hl]
      subst hl
      have : found = stl (gof q fs) (srt q).length (srt q) := by rw [← ht]; simp [stl]
      rw [← this]
      exact ⟨_, _, _, _, _, rfl⟩
    · rw [if_neg hl]
      obtain ⟨x, hx⟩ := pick_some hL sub hl
      have mx := pick_mem hx
      refine (lcGo_id (f := D.int) (fun y => oD (gof q fs y)) fun y m => ?_).eq ?_
      · simp [hG y (sub y m), imm_oD']
      have ew : left.map (fun y => oD (gof q fs y)) = (left.map (gof q fs)).map oD := by rw [List.map_map]; rfl
      rw [ew]
      generalize hA : D.lst ((left.map (gof q fs)).map oD) = A
      have hin : ∀ y : Int, dIn (.int y) A = some ((left.map (gof q fs)).contains (some y)) := fun y => by rw [← hA]; exact dIn_oD _ _
      try simp
      refine (lcGo_tr (f := D.int) (fun y => !(left.map (gof q fs)).contains (some y)) D.int fun y m => ?_).eq ?_
      · simp [hin]
      have hmin : bMin [lI (left.filter fun y => !(left.map (gof q fs)).contains (some y))] = some (.int x) := bMin_lI (head_min (so.sublist List.filter_sublist) hx)
      generalize hB : D.lst ((left.filter fun y => !(left.map (gof q fs)).contains (some y)).map D.int) = B
      have hmin' : bMin [B] = some (.int x) := by rw [← hB]; exact hmin
      have st := stl_step hx
      have lf2 : found.length < sizeLine := by
        have h1 : (found ++ stl (gof q fs) left.length left).length = (stl (gof q fs) (srt q).length (srt q)).length := by rw [ht]
        have h2 := stl_len (g := gof q fs) (n := (srt q).length) (l := srt q)
        have h3 := (srt_perm q).length_eq
        rw [List.length_append] at h1
        rw [sizeLine_eq]; omega
      have mr := mRem_ap (i := 3) (f := fVar 7) (ρ := [.bor d0, .bor d1, .own d2, .own (lI left), .own (lI found), .own (goD q fs), .own A, .own (.int x), .no]) (l := left) (x := x) rfl rfl mx
      simp [hmin']
      rw [mr]
      simp [lf2]
      refine ⟨left.erase x, ⟨⟨found ++ [x], some A, some (.int x), by simp [slO_some], ?_⟩, so.sublist List.erase_sublist, fun y m => sub y (List.mem_of_mem_erase m)⟩, ?_⟩
      · rw [← ht, st]; simp
      · rw [List.length_erase_of_mem mx]
        have := List.length_pos_of_mem mx
        omega
  · rintro r ⟨x2, x3, x5, x6, x7, rfl⟩
    simp
    rw [bTuple_lI]
    simp
end K87

set_option Elab.async false
set_option linter.all false
set_option maxRecDepth 100000
set_option maxHeartbeats 4000000
namespace K87
open PySem PySem.Spec L2 FL
/-! ### the law's settled -/
structure Cn (ks : List (Option Key)) (vs : List Int) (c : Option Int → Nat) : Prop where
  len : ks.length = vs.length
  get : ∀ o : Option Int, (lookN ks vs (o.map Sum.inl)).getD 0 = (c o : Int)
theorem mapinl {a b : Option Int} : (a.map (Sum.inl : Int → Key) = b.map Sum.inl) ↔ a = b := by
  constructor
  · intro h
    cases a <;> cases b <;> simp at h ⊢
    exact h
  · rintro rfl; rfl
theorem Cn.put {ks : List (Option Key)} {vs : List Int} {c c' : Option Int → Nat} (h : Cn ks vs c) {o : Option Int} {n : Int} (h1 : n = (c' o : Int)) (h2 : ∀ p, p ≠ o → c' p = c p) : Cn (putKs ks (o.map Sum.inl)) (putVs ks vs (o.map Sum.inl) n) c' := by
  refine ⟨putVs_len h.len, fun p => ?_⟩
  rw [lookN_put h.len]
  by_cases e : o = p
  · subst e
    rw [if_pos rfl, Option.getD_some, h1]
  · rw [if_neg (fun q => e (mapinl.mp q)), h.get, h2 p (fun q => e q.symm)]
theorem sPutN_go {i : Nat} {fk fv : Ev → Mo D} {ρ : Se} {ks : List (Option Key)} {vs : List Int} {o : Option Int} {n : Int} (h : ρ[i]? = some (.own (.dctN ks vs))) (hv : fv (vw ρ) = Mo.pure (.int n)) (hk : fk (vw ρ) = Mo.pure (oD o)) (l : ks.length < sizeLine) :
    sPutN i fk fv ρ = Mo.pure (.nx, ρ.set i (.own (.dctN (putKs ks (o.map Sum.inl)) (putVs ks vs (o.map Sum.inl) n)))) := by
  unfold sPutN
  rw [hv, Mo.pure_bind, hk, Mo.pure_bind, h]
  show (Mo.ofO (keyN (oD o))).bind _ = _
  rw [keyN_oD, Mo.ofO_some, Mo.pure_bind, decide_eq_true l, gd_true, Mo.pure_bind]
theorem fNGet_go {fd fk fx : Ev → Mo D} {ρ : Ev} {ks : List (Option Key)} {vs : List Int} {o : Option Int} {n : Int} (h : fd ρ = Mo.pure (.dctN ks vs)) (hk : fk ρ = Mo.pure (oD o)) (hx : fx ρ = Mo.pure (.int n)) :
    fNGet fd fk fx ρ = Mo.pure (.int ((lookN ks vs (o.map Sum.inl)).getD n)) := by
  unfold fNGet
  rw [h, Mo.pure_bind, hk, Mo.pure_bind, hx, Mo.pure_bind]
  show (Mo.ofO (keyN (oD o))).bind _ = _
  rw [keyN_oD, Mo.ofO_some, Mo.pure_bind]
theorem fNIx_go {fd fk : Ev → Mo D} {ρ : Ev} {ks : List (Option Key)} {vs : List Int} {o : Option Int} (h : fd ρ = Mo.pure (.dctN ks vs)) (hk : fk ρ = Mo.pure (oD o)) (m : (lookN ks vs (o.map Sum.inl)).isSome) :
    fNIx fd fk ρ = Mo.pure (.int ((lookN ks vs (o.map Sum.inl)).getD 0)) := by
  unfold fNIx
  rw [h, Mo.pure_bind, hk, Mo.pure_bind]
  show (Mo.ofO ((keyN (oD o)).bind fun k => lookN ks vs k)).bind _ = _
  rw [keyN_oD]
  cases e : lookN ks vs (o.map Sum.inl) with
  | none => rw [e] at m; cases m
  | some v =>
    show (Mo.ofO (lookN ks vs (o.map Sum.inl))).bind _ = _
    rw [e, Mo.ofO_some, Mo.pure_bind, Option.getD_some]
structure W1 (d0 d1 : D) (done : List (Int × Option Int)) (ρ : Se) : Prop where
  sh : ∃ ks vs t5 t6, ρ = [.lok d0, .lok d1, .own (.dctN ks vs), .own (lI []), .own (lI (srt [])), slB t5, slB t6, .no, .no]
structure WI (d0 d1 : D) (sq : List Int) (done : List (Int × Option Int)) (ρ : Se) : Prop where
  sh : ∃ ks vs t5 t6, ρ = [.lok d0, .lok d1, .own (.dctN ks vs), .own (.lst []), .own (lI sq), slB t5, slB t6, .no, .no] ∧ Cn ks vs (fun o => (done.map (·.2)).count o) ∧ ks.length ≤ done.length ∧ ∀ p ∈ done, (lookN ks vs (p.2.map Sum.inl)).isSome
structure WJ (d0 d1 : D) (sq : List Int) (l : List (Int × Option Int)) (r : Out × Se) : Prop where
  sh : ∃ ks vs t5 t6, r = (.nx, [.lok d0, .lok d1, .own (.dctN ks vs), .own (.lst []), .own (lI sq), slB t5, slB t6, .no, .no]) ∧ Cn ks vs (fun o => (l.map (·.2)).count o) ∧ ks.length ≤ l.length ∧ ∀ p ∈ l, (lookN ks vs (p.2.map Sum.inl)).isSome
structure FI (x0 x1 x2 x3 x4 : Sl) (done : List (Int × Option Int)) (ρ : Se) : Prop where
  sh : ∃ t5 t6, ρ = [x0, x1, x2, x3, x4, slB t5, slB t6, .own (.dct ((done.map (·.1)).map Sum.inl) (done.map fun p => oD p.2)), .no]
structure FJ (x0 x1 x2 x3 x4 : Sl) (l : List (Int × Option Int)) (r : Out × Se) : Prop where
  sh : ∃ t5 t6, r = (.nx, [x0, x1, x2, x3, x4, slB t5, slB t6, .own (.dct ((l.map (·.1)).map Sum.inl) (l.map fun p => oD p.2)), .no])
structure QInv (x0 x1 : Sl) (q : List Int) (fs : List (Option Int)) (tot : List Int) (left : List Int) (ρ : Se) : Prop where
  sh : ∃ ks vs found o5, ρ = [x0, x1, .own (.dctN ks vs), .own (lI found), .own (lI left), slO o5, .no, .own (goD q fs), .no] ∧ found ++ stl (gof q fs) left.length left = tot ∧ Cn ks vs (fun o => (left.map (gof q fs)).count o) ∧ ks.length ≤ 1000 ∧ ∀ x ∈ q, (lookN ks vs ((gof q fs x).map Sum.inl)).isSome
  sub : ∀ x ∈ left, x ∈ q
structure QEnd (x0 x1 : Sl) (tot : List Int) (r : Out × Se) : Prop where
  sh : ∃ x2 x4 x5 x6 x7, r = (.nx, [x0, x1, x2, .own (lI tot), x4, x5, x6, x7, .no])
theorem gof_zip {q : List Int} {fs : List (Option Int)} : ∀ {p : Int × Option Int}, q.Nodup → p ∈ q.zip fs → gof q fs p.1 = p.2 := by
  induction q generalizing fs with
  | nil => intro p _ m; simp at m
  | cons a q ih =>
    intro p nd m
    cases fs with
    | nil => simp at m
    | cons o fs =>
      rw [List.zip_cons_cons] at m
      unfold gof
      rw [List.zip_cons_cons, List.find?_cons]
      rcases List.mem_cons.mp m with e | m'
      · subst e; simp
      · have hp : p.1 ∈ q := (List.of_mem_zip (show (p.1, p.2) ∈ q.zip fs from m')).1
        have : a ≠ p.1 := fun e => (List.nodup_cons.mp nd).1 (e ▸ hp)
        simp only [this, decide_false]
        exact ih (List.nodup_cons.mp nd).2 m'
theorem sPut_dct {i : Nat} {fk fv : Ev → Mo D} {ρ : Se} {ks : List Int} {vs : List D} {k : Int} {d : D} (h : ρ[i]? = some (.own (.dct (ks.map Sum.inl) vs))) (hv : fv (vw ρ) = Mo.pure d) (hk : fk (vw ρ) = Mo.pure (.int k)) (nk : k ∉ ks) (le : ks.length = vs.length) (l : ks.length < sizeLine) :
    sPut i fk fv ρ = Mo.pure (.nx, ρ.set i (.own (.dct ((ks ++ [k]).map Sum.inl) (vs ++ [d])))) := by
  have nk' : (Sum.inl k : Key) ∉ ks.map (Sum.inl : Int → Key) := fun m => by
    obtain ⟨b, mb, e⟩ := List.mem_map.mp m
    exact nk (Sum.inl.inj e ▸ mb)
  rw [sPut_ap', hv, Mo.pure_bind, hk, Mo.pure_bind, h]
  show (Mo.ofO (if decide ((ks.map (Sum.inl : Int → Key)).length < sizeLine) then some (D.dct (putKs (ks.map Sum.inl) (Sum.inl k)) (putVs (ks.map Sum.inl) vs (Sum.inl k) d)) else none)).bind _ = _
  rw [if_pos (by simpa using l), Mo.ofO_some, Mo.pure_bind, putKs_app nk', putVs_app nk' (by rw [List.length_map]; exact le)]
  simp
theorem count_erase {g : Int → Option Int} {left : List Int} {x : Int} (m : x ∈ left) (o : Option Int) : (left.map g).count o = ((left.erase x).map g).count o + if g x = o then 1 else 0 := by
  have p := (List.perm_cons_erase m).map g
  rw [p.count_eq, List.map_cons, List.count_cons]
  simp only [beq_iff_eq]
theorem tr_lsettled {n : Nat} (hn : n ≤ 900) {q : List Int} (lq : q.length ≤ n) (nq : q.Nodup) {fs : List (Option Int)} (lf : q.length = fs.length) (hL : Later q (gof q fs)) :
    Tr (m__law_settled [tI' q, .lst (fs.map oD)]) (fun d => d = tI' (stl (gof q fs) (srt q).length (srt q))) := by
  have e1 : bSorted [tI' q] = some (lI (srt q)) := by rw [bSorted_tI, sortD nq]
  have e2 := dZip_q (q := q) (fl := fs) (d := .lst (fs.map oD)) rfl
  generalize hd1 : tI' q = d0 at e1 e2
  generalize hd2 : D.lst (fs.map oD) = d1 at e2
  have lz : (q.zip fs).length = q.length := by simp; omega
  have p1 : (q.zip fs).map (·.1) = q := List.map_fst_zip (by omega)
  have p2 : (q.zip fs).map (·.2) = fs := List.map_snd_zip (by omega)
  simp [m__law_settled, g__law_settled, e1, e2]
  generalize hzz : (q.zip fs).map (fun p => D.tup [D.int p.fst, oD p.snd]) = zz
  have hz1 : Tr (foGo (.t [5, 6]) (sPutN 2 (fVar 6) (fBin dAdd (fNGet (fVar 2) (fVar 6) (fC (.int 0))) (fC (.int 1)))) zz [.lok d0, .lok d1, .own (.dctN [] []), .own (.lst []), .own (lI (srt q)), .no, .no, .no, .no]) (WJ d0 d1 (srt q) (q.zip fs)) := by
    rw [← hzz]
    refine foGo_tr (f := fun p : Int × Option Int => D.tup [.int p.1, oD p.2]) (P := WI d0 d1 (srt q)) (q.zip fs) (fun done a rest ρ e => ?_) (fun ρ => ?_) (rest := q.zip fs) (done := []) rfl ⟨[], [], none, none, rfl, ⟨rfl, fun o => rfl⟩, Nat.le_refl _, fun p m => by cases m⟩
    · rintro ⟨ks, vs, t5, t6, rfl, cn, hk, hs⟩
      have lk : ks.length < sizeLine := by
        have : done.length < (q.zip fs).length := by rw [e]; simp
        rw [sizeLine_eq]; omega
      refine ⟨[.lok d0, .lok d1, .own (.dctN ks vs), .own (.lst []), .own (lI (srt q)), .bor (.int a.1), .bor (oD a.2), .no, .no], by simp, ?_⟩
      have ev : fBin dAdd (fNGet (fVar 2) (fVar 6) (fC (.int 0))) (fC (.int 1)) (vw [.lok d0, .lok d1, .own (.dctN ks vs), .own (.lst []), .own (lI (srt q)), .bor (.int a.1), .bor (oD a.2), .no, .no]) = Mo.pure (.int ((((done ++ [a]).map (·.2)).count a.2 : Nat) : Int)) := by
        rw [fBin_ap, fNGet_go (ks := ks) (vs := vs) (o := a.2) (n := 0) (by rfl) (by rfl) (by rfl), Mo.pure_bind, cn.get]
        simp
      rw [sPutN_go (ks := ks) (vs := vs) (o := a.2) (by rfl) ev (by rfl) lk]
      rw [Tr_pure]
      refine ⟨_, _, some (.int a.1), some (oD a.2), rfl, cn.put rfl fun p hp => ?_, ?_, fun p m => ?_⟩
      · have hp' : a.2 ≠ p := fun e => hp e.symm
        simp [List.count_cons, hp']
      · have := putKs_le (k := a.2.map (Sum.inl : Int → Key)) (ks := ks)
        simp; omega
      · rw [lookN_put cn.len]
        split
        · rfl
        · rename_i c
          rcases List.mem_append.mp m with m | m
          · exact hs p m
          · exact absurd (by rw [List.mem_singleton.mp m]) c
    · rintro ⟨ks, vs, t5, t6, rfl, cn, hk, hs⟩
      exact ⟨ks, vs, t5, t6, rfl, cn, hk, hs⟩
  refine hz1.bnd ?_
  rintro r ⟨ks, vs, t5, t6, rfl, cn, hk, hs⟩
  simp [e2, hzz]
  have hz2 : Tr (foGo (.t [5, 6]) (sPut 7 (fVar 5) (fImm (fVar 6))) zz [.lok d0, .lok d1, .own (.dctN ks vs), .own (.lst []), .own (lI (srt q)), .no, .no, .own (.dct [] []), .no]) (FJ (.lok d0) (.lok d1) (.own (.dctN ks vs)) (.own (.lst [])) (.own (lI (srt q))) (q.zip fs)) := by
    rw [← hzz]
    refine foGo_tr (f := fun p : Int × Option Int => D.tup [.int p.1, oD p.2]) (P := FI (.lok d0) (.lok d1) (.own (.dctN ks vs)) (.own (.lst [])) (.own (lI (srt q)))) (q.zip fs) (fun done a rest ρ e => ?_) (fun ρ => ?_) (rest := q.zip fs) (done := []) rfl ⟨none, none, rfl⟩
    · rintro ⟨t5, t6, rfl⟩
      have ld : done.length < (q.zip fs).length := by rw [e]; simp
      refine ⟨[.lok d0, .lok d1, .own (.dctN ks vs), .own (.lst []), .own (lI (srt q)), .bor (.int a.1), .bor (oD a.2), .own (.dct ((done.map (·.1)).map Sum.inl) (done.map fun p => oD p.2)), .no], by simp, ?_⟩
      have nk : a.1 ∉ done.map (·.1) := fun m => by
        have e' : q = done.map (·.1) ++ a.1 :: rest.map (·.1) := by rw [← p1, e]; simp
        rw [e'] at nq
        exact (List.nodup_append.mp nq).2.2 _ m a.1 List.mem_cons_self rfl
      rw [sPut_dct (ks := done.map (·.1)) (vs := done.map fun p => oD p.2) (k := a.1) (d := oD a.2) (by rfl) (by simp [imm_oD']) (by rfl) nk (by simp) (by rw [List.length_map, sizeLine_eq]; omega)]
      rw [Tr_pure]
      exact ⟨some (.int a.1), some (oD a.2), by simp [slB_some]⟩
    · rintro ⟨t5, t6, rfl⟩
      exact ⟨t5, t6, rfl⟩
  refine hz2.bnd ?_
  rintro r ⟨t5', t6', rfl⟩
  have e3 : (q.zip fs).map (fun p => oD p.2) = fs.map oD := by
    have : (q.zip fs).map (fun p => oD p.2) = ((q.zip fs).map (·.2)).map oD := by rw [List.map_map]; rfl
    rw [this, p2]
  rw [p1, e3]
  have hG : ∀ x ∈ q, dIx (goD q fs) (.int x) = some (oD (gof q fs x)) := fun x m => dIx_go lf m
  have hgo : goD q fs = .dct (q.map Sum.inl) (fs.map oD) := rfl
  rw [← hgo]
  generalize hgd : goD q fs = gd0 at hG
  simp
  have hmap : fs.Perm ((srt q).map (gof q fs)) := by
    have h1 : q.map (gof q fs) = fs := by
      have h2 : (q.zip fs).map (fun p => gof q fs p.1) = (q.zip fs).map (·.2) := List.map_congr_left fun p m => gof_zip nq m
      have h3 : (q.zip fs).map (fun p => gof q fs p.1) = ((q.zip fs).map (·.1)).map (gof q fs) := by rw [List.map_map]; rfl
      exact (congrArg (List.map (gof q fs)) p1).symm.trans (h3.symm.trans (h2.trans p2))
    have h4 := ((srt_perm q).map (gof q fs)).symm
    rw [h1] at h4
    exact h4
  refine (sWhile_tr (β := List Int) (P := QInv (.bor d0) (.bor d1) q fs (stl (gof q fs) (srt q).length (srt q))) (R := QEnd (.bor d0) (.bor d1) (stl (gof q fs) (srt q).length (srt q))) (fun l => l.length) (b := srt q) ⟨⟨ks, vs, [], none, by rw [← hgd]; rfl, rfl, ⟨cn.len, fun o => ?_⟩, by omega, fun x m => ?_⟩, fun x m => mem_srt.mp m⟩ ?_).bnd ?_
  · rw [cn.get, p2, hmap.count_eq]
  · have : ∃ p ∈ q.zip fs, p.1 = x := by
      rw [← p1] at m
      obtain ⟨p, mp, e⟩ := List.mem_map.mp m
      exact ⟨p, mp, e⟩
    obtain ⟨p, mp, e⟩ := this
    have := hs p mp
    rw [← gof_zip nq mp, e] at this
    exact this
  · rintro left ρ ⟨⟨ks, vs, found, o5, rfl, ht, cn, lk, hs⟩, sub⟩
    rw [hgd]
    simp [dNe_nil]
    by_cases hl : left = []
    · rw [if_pos hl]
      subst hl
      have : found = stl (gof q fs) (srt q).length (srt q) := by rw [← ht]; simp [stl]
      rw [← this]
      exact ⟨_, _, _, _, _, rfl⟩
    · rw [if_neg hl]
      obtain ⟨x, hx⟩ := pick_some hL sub hl
      have mx := pick_mem hx
      refine (lcGo_tr (f := D.int) (fun y => !(left.map (gof q fs)).contains (some y)) D.int fun y m => ?_).eq ?_
      · simp
        rw [fNGet_go (ks := ks) (vs := vs) (o := some y) (n := 0) (by rfl) (by rfl) (by rfl), Mo.pure_bind, cn.get]
        simp
        rw [Bool.eq_iff_iff]
        simp [List.count_eq_zero]
      · have hhd : dIx (lI (left.filter fun y => !(left.map (gof q fs)).contains (some y))) (.int 0) = some (.int x) := by
          show atI (dI _) ((0 : Nat) : Int) = _
          refine atI_nat ?_
          unfold pickS at hx
          rw [List.getElem?_map, ← List.head?_eq_getElem?, hx]; rfl
        generalize hB : D.lst ((left.filter fun y => !(left.map (gof q fs)).contains (some y)).map D.int) = B
        have hhd' : dIx B (.int 0) = some (.int x) := by rw [← hB]; exact hhd
        have st := stl_step hx
        have lf2 : found.length < sizeLine := by
          have h1 : (found ++ stl (gof q fs) left.length left).length = (stl (gof q fs) (srt q).length (srt q)).length := by rw [ht]
          have h2 := stl_len (g := gof q fs) (n := (srt q).length) (l := srt q)
          have h3 := (srt_perm q).length_eq
          rw [List.length_append] at h1
          rw [sizeLine_eq]; omega
        have mr := mRem_ap (i := 4) (f := fVar 5) (ρ := [.bor d0, .bor d1, .own (.dctN ks vs), .own (lI found), .own (lI left), .own (.int x), .no, .own gd0, .no]) (l := left) (x := x) rfl rfl mx
        simp [hhd']
        rw [mr]
        simp [lf2]
        have ev : fBin dSub (fNIx (fVar 2) (fIx (fVar 7) (fVar 5))) (fC (.int 1)) (vw [.bor d0, .bor d1, .own (.dctN ks vs), .own (lI (found ++ [x])), .own (lI (left.erase x)), .own (.int x), .no, .own gd0, .no]) = Mo.pure (.int ((((left.erase x).map (gof q fs)).count (gof q fs x) : Nat) : Int)) := by
          rw [fBin_ap, fNIx_go (ks := ks) (vs := vs) (o := gof q fs x) (by rfl) (by simp [hG x (sub x mx)]) (hs x (sub x mx)), Mo.pure_bind, cn.get]
          simp [count_erase mx]
        have e9 : found.map D.int ++ [D.int x] = dI (found ++ [x]) := by simp
        rw [e9]
        rw [sPutN_go (ks := ks) (vs := vs) (o := gof q fs x) (by rfl) ev (by simp [hG x (sub x mx)]) (by rw [sizeLine_eq]; omega)]
        rw [Tr_pure]
        have hin : (gof q fs x).map Sum.inl ∈ ks := lookN_mem cn.len (hs x (sub x mx))
        refine ⟨left.erase x, ⟨⟨_, _, found ++ [x], some (.int x), by rw [hgd]; rfl, ?_, cn.put rfl fun p hp => ?_, ?_, fun y my => ?_⟩, fun y m => sub y (List.mem_of_mem_erase m)⟩, ?_⟩
        · rw [← ht, st]; simp
        · rw [count_erase mx p, if_neg (fun e => hp e.symm)]; rfl
        · rw [putKs_same hin]; exact lk
        · rw [lookN_put cn.len]
          split
          · rfl
          · exact hs y my
        · rw [List.length_erase_of_mem mx]
          have := List.length_pos_of_mem mx
          omega
  · rintro r ⟨x2, x3, x5, x6, x7, rfl⟩
    simp
    rw [bTuple_lI]
    simp
end K87

set_option Elab.async false
set_option linter.all false
set_option maxRecDepth 100000
set_option maxHeartbeats 4000000
namespace K87
open PySem PySem.Spec L2 FL
/-! ### the draws -/
abbrev hpE (a : D) : Ev := [some .hp, some a, none]
theorem see_ap (a : D) (fa : flat a = true) (s : Ds) : seeHp 0 (hpE a) s = [some (.lst [.lst (dI s.1), .int s.2]), some a, none] := by
  unfold seeHp hpE
  simp [fa]
theorem viaT_ap {f : Ev → Mo Bool} {a : D} (fa : flat a = true) {s : Ds} (l : s.1.length ≤ 60) {b : Bool} (h : f [some (.lst [.lst (dI s.1), .int s.2]), some a, none] = Mo.pure b) : viaHpT 0 f (hpE a) s = some (b, s) := by
  unfold viaHpT
  rw [see_ap a fa, h]
  have : s.1.length ≤ sizeLine := by rw [sizeLine_eq]; omega
  rw [decide_eq_true this]; rfl
theorem via_ap {f : Ev → Mo D} {a : D} (fa : flat a = true) {s : Ds} (l : s.1.length ≤ 60) {b : D} (fb : flat b = true) (h : f [some (.lst [.lst (dI s.1), .int s.2]), some a, none] = Mo.pure b) : viaHp 0 f (hpE a) s = some (b, s) := by
  unfold viaHp
  rw [see_ap a fa, h]
  have : s.1.length ≤ sizeLine := by rw [sizeLine_eq]; omega
  rw [decide_eq_true this]
  show (if flat b = true then some (b, s) else none) = _
  rw [fb]; rfl
theorem ix_0 (x y : D) : dIx (.lst [x, y]) (.int 0) = some x := atI_nat (j := 0) rfl
theorem ix_1 (x y : D) : dIx (.lst [x, y]) (.int 1) = some y := atI_nat (j := 1) rfl
def zl (l : List Int) : Bool := match l.getLast? with
  | some a => a == 0
  | none => false
theorem cond_ap (l : List Int) (t : Int) (a : D) : fAnd (fCmp dNe (fIx (fVar 0) (fC (.int 0))) (fLst fNil)) (fCmp dEq (fIx (fIx (fVar 0) (fC (.int 0))) (fNeg (fC (.int 1)))) (fC (.int 0))) [some (.lst [.lst (dI l), .int t]), some a, none] = Mo.pure (zl l) := by
  simp only [fAnd_ap, fCmp_ap, fIx_ap, fVar_ap, fC_ap, fLst_ap, fNil_ap, fNeg_ap, Mo.pure_bind, List.getElem?_cons_zero, Option.join_some, Mo.ofO_some, ix_0, List.length_nil, Nat.zero_le, decide_true, gd_true, dNe_nil]
  by_cases h : l = []
  · subst h; rfl
  · obtain ⟨rs, b, e⟩ : ∃ rs b, l = rs ++ [b] := ⟨l.dropLast, l.getLast h, (List.dropLast_concat_getLast h).symm⟩
    have e1 : dIx (.lst (dI l)) (.int (-1)) = some (.int b) := by
      show atI (l.map D.int) (-1) = _
      rw [e, List.map_append]
      exact atI_last _ _
    have e2 : (!l.isEmpty) = true := by rw [e]; simp
    have e3 : zl l = (b == 0) := by unfold zl; rw [e]; simp
    rw [e1, e2, e3]
    simp
theorem draw_wh {a : D} (fa : flat a = true) {Cd : Ev → Mo Bool} (hC : ∀ l t, Cd [some (.lst [.lst (dI l), .int t]), some a, none] = Mo.pure (zl l)) : ∀ (n : Nat) (s : Ds), OkS s → s.1.length < n → ∃ m s', OkS s' ∧ whN (viaHpT 0 Cd) (sE (fHpop 0)) m [.bor .hp, .bor a, .no] s = some ((.nx, [.bor .hp, .bor a, .no]), s')
  | 0, s, _, l => absurd l (by omega)
  | n + 1, s, os, l => by
    have hc := viaT_ap (f := Cd) fa (s := s) os.1 (hC s.1 s.2)
    cases hz : zl s.1 with
    | false =>
      rw [hz] at hc
      refine ⟨1, s, os, ?_⟩
      unfold whN
      show Mo.bind _ _ _ = _
      rw [Mo.bind_of (show viaHpT 0 Cd (vw [.bor .hp, .bor a, .no]) s = some (false, s) from hc)]
      rfl
    | true =>
      rw [hz] at hc
      have hne : s.1 ≠ [] := fun e => by rw [e] at hz; cases hz
      have e1 : s.1[s.1.length - 1]? = some (s.1.getLast hne) := by rw [← List.getLast?_eq_getElem?, List.getLast?_eq_some_getLast hne]
      have op : OkS (s.1.dropLast, s.2) := ⟨by simp; have := os.1; omega, fun x m => os.2.1 x (List.dropLast_subset _ m), os.2.2⟩
      obtain ⟨m, s', os', hw⟩ := draw_wh fa hC n (s.1.dropLast, s.2) op (by have := List.length_pos_iff.mpr hne; simp; omega)
      refine ⟨m + 1, s', os', ?_⟩
      unfold whN
      rw [Mo.bind_of (show viaHpT 0 Cd (vw [.bor .hp, .bor a, .no]) s = some (true, s) from hc)]
      simp only [if_true]
      have hp : sE (fHpop 0) [.bor .hp, .bor a, .no] s = some ((.nx, [.bor .hp, .bor a, .no]), (s.1.dropLast, s.2)) := by
        unfold sE
        rw [Mo.bind_of (s1 := (s.1.dropLast, s.2)) (a := .int (s.1.getLast hne)) (by unfold fHpop; rw [e1]; rfl)]
        rfl
      rw [Mo.bind_of hp]
      exact hw
theorem sSeq_of {f g : Sv} {σ σ1 : Se} {s s1 : Ds} (h : f σ s = some ((.nx, σ1), s1)) : sSeq f g σ s = g σ1 s1 := by
  rw [sSeq_ap, Mo.bind_of h]
theorem sSeq_rt {f g : Sv} {σ σ1 : Se} {s s1 : Ds} {d : D} (h : f σ s = some ((.rt d, σ1), s1)) : sSeq f g σ s = some ((.rt d, σ1), s1) := by
  rw [sSeq_ap, Mo.bind_of h]; rfl
theorem sIf_of {c : Ev → Mo Bool} {f g : Sv} {σ : Se} {s s1 : Ds} {b : Bool} (h : c (vw σ) s = some (b, s1)) : sIf c f g σ s = (if b then f σ else g σ) s1 := by
  rw [sIf_ap, Mo.bind_of h]
theorem sRet_of {f : Ev → Mo D} {σ : Se} {s s1 : Ds} {d : D} (h : f (vw σ) s = some (d, s1)) : sRet f σ s = some ((.rt d, σ), s1) := by
  rw [sRet_ap, Mo.bind_of h]; rfl
theorem mirF_of {N n : Nat} {g : Sv} {ds : List D} {σ σ1 : Se} {s s1 : Ds} {d : D} (e : ds.map Sl.bor ++ List.replicate (N - n) Sl.no = σ) (h : g σ s = some ((.rt d, σ1), s1)) : mirF N n g ds s = some (d, s1) := by
  rw [mirF_ap, e, Mo.bind_of h]; rfl
theorem tr_draw {many : Int} (h1 : 0 < many) (h2 : many < 1073741824) : Tr (m__law_draw [.hp, .int many]) (fun d => ∃ r : Int, d = .int r ∧ 0 ≤ r ∧ r < many) := by
  have fm : flat (.int many) = true := rfl
  intro s os
  obtain ⟨m, s', os', hw⟩ := draw_wh fm (cond_ap · · _) (s.1.length + 1) s os (by omega)
  have hw' := sWhile_of hw
  have hnn : ∀ c : Bool, viaHpT 0 (fCmp dNe (fIx (fVar 0) (fC (.int 0))) (fLst fNil)) (hpE (.int many)) s' = some (c, s') ↔ c = !s'.1.isEmpty := fun c => by
    have := viaT_ap (f := fCmp dNe (fIx (fVar 0) (fC (.int 0))) (fLst fNil)) fm (s := s') os'.1 (b := !s'.1.isEmpty) (by simp [ix_0, dNe_nil])
    rw [this]
    constructor
    · intro h; cases h; rfl
    · rintro rfl; rfl
  by_cases hs : s'.1 = []
  · -- the stir
    have ht := (hnn false).mpr (by rw [hs]; rfl)
    have hb : (0:Int) < 2147483647 := by decide
    have hx : ∀ x : Int, dMod (.int x) (.int 2147483647) = some (.int (x % 2147483647)) := fun x => rfl
    have hmm : dMul (.int s'.2) (.int 48271) = some (.int (s'.2 * 48271)) := by
      show (if FL.small64 s'.2 || FL.small64 48271 then _ else _) = _
      have : FL.small64 48271 = true := by decide
      rw [this, Bool.or_true, if_pos rfl]
    have hput := via_ap (f := fBin dMod (fCallB bInt (fCons (fBin dAdd (fBin dMul (fIx (fVar 0) (fC (.int 1))) (fC (.int 48271))) (fC (.int 17))) fNil)) (fC (.int 2147483647))) fm (s := s') os'.1 (b := .int ((s'.2 * 48271 + 17) % 2147483647)) rfl (by
      simp [ix_1, hmm, bInt, hx])
    have hfd : ∀ x : Int, dFdiv (.int x) (.int 32) = some (.int (x / 32)) := fun x => rfl
    have hdm : ∀ x : Int, dMod (.int x) (.int many) = some (.int (x % many)) := fun x => by
      show (if decide (0 < many) then _ else _) = _
      rw [decide_eq_true h1, if_pos rfl]
    have o2 : OkS (s'.1, (s'.2 * 48271 + 17) % 2147483647) := ⟨os'.1, os'.2.1, Int.emod_nonneg _ (by decide)⟩
    have hend := via_ap (f := fBin dMod (fCallB bInt (fCons (fBin dFdiv (fIx (fVar 0) (fC (.int 1))) (fC (.int 32))) fNil)) (fVar 1)) fm (s := (s'.1, (s'.2 * 48271 + 17) % 2147483647)) os'.1 (b := .int ((s'.2 * 48271 + 17) % 2147483647 / 32 % many)) rfl (by
      simp [ix_1, hfd, bInt, hdm])
    refine ⟨.int ((s'.2 * 48271 + 17) % 2147483647 / 32 % many), (s'.1, (s'.2 * 48271 + 17) % 2147483647), ?_, o2, _, rfl, Int.emod_nonneg _ (by omega), Int.emod_lt_of_pos _ h1⟩
    refine mirF_of (σ := [.bor .hp, .bor (.int many), .no]) rfl (σ1 := [.bor .hp, .bor (.int many), .no]) ?_
    unfold g__law_draw
    rw [sSeq_of hw', sSeq_of ((sIf_of ht).trans (by rfl)), sSeq_of (σ1 := [.bor .hp, .bor (.int many), .no]) (s1 := (s'.1, (s'.2 * 48271 + 17) % 2147483647))]
    · exact sRet_of hend
    · unfold sHput
      exact (Mo.bind_of (show viaHp 0 _ (vw [.bor .hp, .bor (.int many), .no]) s' = _ from hput)).trans rfl
  · have ht := (hnn true).mpr (by simp [hs])
    have hl := List.length_pos_iff.mpr hs
    generalize hrest : s'.1.getLast hs = rest
    have hr0 : 0 ≤ rest := by rw [← hrest]; exact os'.2.1 _ (List.getLast_mem hs)
    have e1 : s'.1[s'.1.length - 1]? = some rest := by rw [← List.getLast?_eq_getElem?, List.getLast?_eq_some_getLast hs, hrest]
    have hfd : dFdiv (.int rest) (.int many) = some (.int (rest / many)) := by
      show (if decide (0 < many) && decide (many < 1073741824) then _ else _) = _
      rw [decide_eq_true h1, decide_eq_true h2]; rfl
    have hdm : dMod (.int rest) (.int many) = some (.int (rest % many)) := by
      show (if decide (0 < many) then _ else _) = _
      rw [decide_eq_true h1, if_pos rfl]
    have o2 : OkS (s'.1.dropLast ++ [rest / many], s'.2) := by
      refine ⟨?_, fun x m => ?_, os'.2.2⟩
      · have := os'.1; simp; omega
      · rcases List.mem_append.mp m with m | m
        · exact os'.2.1 x (List.dropLast_subset _ m)
        · rw [List.mem_singleton.mp m]; exact Int.ediv_nonneg hr0 (by omega)
    refine ⟨.int (rest % many), (s'.1.dropLast ++ [rest / many], s'.2), ?_, o2, _, rfl, Int.emod_nonneg _ (by omega), Int.emod_lt_of_pos _ h1⟩
    have hpop : fHpop 0 (vw [.bor .hp, .bor (.int many), .no]) s' = some (.int rest, (s'.1.dropLast, s'.2)) := by unfold fHpop; rw [e1]; rfl
    have hset : sSet 2 (fHpop 0) [.bor .hp, .bor (.int many), .no] s' = some ((.nx, [.bor .hp, .bor (.int many), .own (.int rest)]), (s'.1.dropLast, s'.2)) := by
      rw [sSet_ap, Mo.bind_of hpop]; rfl
    have happ : sE (fHapp 0 (fBin dFdiv (fVar 2) (fVar 1))) [.bor .hp, .bor (.int many), .own (.int rest)] (s'.1.dropLast, s'.2) = some ((.nx, [.bor .hp, .bor (.int many), .own (.int rest)]), (s'.1.dropLast ++ [rest / many], s'.2)) := by
      unfold sE
      have : fHapp 0 (fBin dFdiv (fVar 2) (fVar 1)) (vw [.bor .hp, .bor (.int many), .own (.int rest)]) (s'.1.dropLast, s'.2) = some (.non, (s'.1.dropLast ++ [rest / many], s'.2)) := by
        unfold fHapp
        have q : fBin dFdiv (fVar 2) (fVar 1) (vw [.bor .hp, .bor (.int many), .own (.int rest)]) = Mo.pure (.int (rest / many)) := by simp [hfd]
        rw [q]
        have lt : s'.1.dropLast.length < sizeLine := by have := os'.1; rw [sizeLine_eq]; simp; omega
        have : (if isHp (some (some D.hp)) && decide (s'.1.dropLast.length < sizeLine) then some (D.non, (s'.1.dropLast ++ [rest / many], s'.2)) else none) = some (D.non, (s'.1.dropLast ++ [rest / many], s'.2)) := by
          rw [decide_eq_true lt]; rfl
        exact this
      rw [Mo.bind_of this]; rfl
    have hret : sRet (fBin dMod (fCallB bInt (fCons (fVar 2) fNil)) (fVar 1)) [.bor .hp, .bor (.int many), .own (.int rest)] (s'.1.dropLast ++ [rest / many], s'.2) = some ((.rt (.int (rest % many)), [.bor .hp, .bor (.int many), .own (.int rest)]), (s'.1.dropLast ++ [rest / many], s'.2)) := by
      have q : fBin dMod (fCallB bInt (fCons (fVar 2) fNil)) (fVar 1) (vw [.bor .hp, .bor (.int many), .own (.int rest)]) = Mo.pure (.int (rest % many)) := by simp [bInt, hdm]
      rw [sRet_ap, q]; rfl
    refine mirF_of (σ := [.bor .hp, .bor (.int many), .no]) rfl (σ1 := [.bor .hp, .bor (.int many), .own (.int rest)]) ?_
    unfold g__law_draw
    rw [sSeq_of hw', sSeq_rt]
    rw [sIf_of ht]
    show sSeq _ _ _ _ = _
    rw [sSeq_of hset, sSeq_of happ]
    exact hret
end K87

set_option Elab.async false
set_option linter.all false
set_option maxRecDepth 100000
set_option maxHeartbeats 4000000
namespace K87
open PySem PySem.Spec L2 FL
theorem tr_pickG {d : D} {k : Nat} (h0 : 0 < k) (hk : k ≤ 1000) (hl : bLen [d] = some (.int (k : Int))) {P : D → Prop} (h : ∀ i : Nat, i < k → ∃ x, dIx d (.int (i : Int)) = some x ∧ imm x = true ∧ P x) : Tr (m__law_pick [.hp, d]) P := by
  simp [m__law_pick, g__law_pick, hl]
  refine (tr_draw (show (0:Int) < (k : Int) by omega) (by omega)).bnd ?_
  rintro _ ⟨r, rfl, h1, h2⟩
  obtain ⟨x, e, i, p⟩ := h r.toNat (by omega)
  have er : ((r.toNat : Nat) : Int) = r := by omega
  rw [er] at e
  simp [e, i, p]
theorem tr_pick {d : D} {xs : List D} (hd : d = .lst xs ∨ d = .tup xs) (hn : xs ≠ []) (hk : xs.length ≤ 1000) (hi : immL xs = true) : Tr (m__law_pick [.hp, d]) (fun x => x ∈ xs) := by
  refine tr_pickG (k := xs.length) (List.length_pos_iff.mpr hn) hk (by rcases hd with rfl | rfl <;> rfl) fun i h => ⟨xs[i], ?_, ?_, List.getElem_mem h⟩
  · have := atI_nat (List.getElem?_eq_getElem h)
    rcases hd with rfl | rfl <;> exact this
  · rw [immL_eq, List.all_eq_true] at hi
    exact hi _ (List.getElem_mem h)
theorem ixN_nat' {n j : Nat} (hj : j < n) : ixN n (j : Int) = some j := by
  unfold ixN
  rw [if_pos (by omega), if_pos (by omega), Int.toNat_natCast]
theorem erasePerm {α : Type} : ∀ {l : List α} {i : Nat} (h : i < l.length), (l[i] :: l.eraseIdx i).Perm l
  | a :: l, 0, _ => List.Perm.refl _
  | a :: l, i + 1, h => by
    have ih := erasePerm (l := l) (i := i) (by simpa using h)
    rw [List.getElem_cons_succ, List.eraseIdx_cons_succ]
    exact (List.Perm.swap _ _ _).trans (ih.cons a)
structure SI (d : D) (xs : List D) (done : List Nat) (ρ : Se) : Prop where
  sh : ∃ rest found t, ρ = [.lok .hp, .lok d, .own (.lst rest), .own (.lst found), slB t] ∧ (rest ++ found).Perm xs ∧ found.length = done.length
structure SJ (d : D) (xs : List D) (r : Out × Se) : Prop where
  sh : ∃ x2 found t, r = (.nx, [.lok .hp, .lok d, x2, .own (.lst found), t]) ∧ found.Perm xs
theorem immL_sub {xs ys : List D} (h : immL xs = true) (s : ∀ y ∈ ys, y ∈ xs) : immL ys = true := by
  rw [immL_eq, List.all_eq_true] at h ⊢
  exact fun y m => h y (s y m)
theorem tr_shuf {d : D} {xs : List D} (hb : bList [d] = some (.lst xs)) (hl : bLen [d] = some (.int (xs.length : Int))) (hk : xs.length ≤ 1000) (hi : immL xs = true) : Tr (m__law_shuffled [.hp, d]) (fun r => ∃ ys, r = .tup ys ∧ ys.Perm xs) := by
  have e0 : fRange1 (fCons (fCallB bLen (fCons (fVar 1) fNil)) fNil) [some .hp, some d, some (.lst xs), some (.lst []), none] = Mo.pure ((List.range xs.length).map fun (i : Nat) => D.int (i : Int)) := fR1 (by simp [hl]) (by omega)
  generalize hrr : ((List.range xs.length).map fun (i : Nat) => D.int (i : Int)) = rr at e0
  simp [m__law_shuffled, g__law_shuffled, hb, e0]
  rw [← hrr]
  refine (foGo_tr (f := fun (i : Nat) => D.int (i : Int)) (P := SI d xs) (R := SJ d xs) (List.range xs.length) (fun done a rs ρ e => ?_) (fun ρ => ?_) (rest := List.range xs.length) (done := []) rfl ⟨xs, [], none, rfl, by simp, rfl⟩).bnd ?_
  · rintro ⟨rest, found, t, rfl, pm, hf⟩
    have hlen : rest.length + found.length = xs.length := by
      have := pm.length_eq; rwa [List.length_append] at this
    have hdone : done.length < xs.length := by
      have : (List.range xs.length).length = xs.length := List.length_range
      rw [e] at this; simp at this; omega
    have ir : immL rest = true := immL_sub hi fun y m => pm.mem_iff.mp (List.mem_append_left _ m)
    have iff' : immL found = true := immL_sub hi fun y m => pm.mem_iff.mp (List.mem_append_right _ m)
    refine ⟨[.lok .hp, .lok d, .own (.lst rest), .own (.lst found), .bor (.int a)], by simp, ?_⟩
    have as1 : ∀ ys, immL ys = true → asL (some (Sl.own (.lst ys))) = some ys := fun ys h => by
      show (if immL ys then some ys else none) = _
      rw [h]; rfl
    unfold sAppM mPopAt
    simp [as1 _ ir, as1 _ iff']
    refine (tr_draw (show (0:Int) < (rest.length : Int) by omega) (by omega)).bnd ?_
    rintro _ ⟨r, rfl, h1, h2⟩
    have er : r = ((r.toNat : Nat) : Int) := by omega
    have hr : r.toNat < rest.length := by omega
    have e1 : ixN rest.length r = some r.toNat := by
      rw [er]; exact ixN_nat' (by omega)
    have g1 : rest.length ≤ sizeLine := by rw [sizeLine_eq]; omega
    have g2 : found.length < sizeLine := by rw [sizeLine_eq]; omega
    simp [g1, e1, List.getElem?_eq_getElem hr, g2, as1 _ iff']
    refine ⟨rest.eraseIdx r.toNat, found ++ [rest[r.toNat]], some (.int a), rfl, ?_, by simp [hf]⟩
    refine List.Perm.trans ?_ pm
    have p1 := erasePerm hr
    have : (rest.eraseIdx r.toNat ++ (found ++ [rest[r.toNat]])).Perm (rest[r.toNat] :: rest.eraseIdx r.toNat ++ found) := by
      rw [← List.append_assoc]
      exact (List.perm_append_singleton _ _)
    exact this.trans (p1.append_right found)
  · rintro ⟨rest, found, t, rfl, pm, hf⟩
    have hl0 : rest = [] := by
      have h1 := pm.length_eq
      rw [List.length_append, hf, List.length_range] at h1
      exact List.length_eq_zero_iff.mp (by omega)
    subst hl0
    exact ⟨_, found, _, rfl, by simpa using pm⟩
  · rintro r ⟨x2, found, t, rfl, pm⟩
    have iff' : immL found = true := immL_sub hi fun y m => pm.mem_iff.mp m
    have eb : bTuple [.lst found] = some (.tup found) := by
      show (if immL found then some (D.tup found) else none) = _
      rw [iff']; rfl
    simp [eb]
    exact pm
theorem bList_lst {xs : List D} (h : immL xs = true) : bList [.lst xs] = some (.lst xs) := by
  show (if immL xs then some (D.lst xs) else none) = _
  rw [h]; rfl
theorem bList_tup {xs : List D} (h : immL xs = true) : bList [.tup xs] = some (.lst xs) := by
  show (if immL xs then some (D.lst xs) else none) = _
  rw [h]; rfl
theorem tr_shufL {xs : List D} (hk : xs.length ≤ 1000) (hi : immL xs = true) : Tr (m__law_shuffled [.hp, .lst xs]) (fun r => ∃ ys, r = .tup ys ∧ ys.Perm xs) := tr_shuf (bList_lst hi) rfl hk hi
theorem perm_dI {l : List Int} {ys : List D} (h : ys.Perm (dI l)) : ∃ m : List Int, ys = dI m ∧ m.Perm l := by
  have h1 : ∀ y ∈ ys, ∃ i : Int, y = .int i := fun y my => by
    obtain ⟨i, _, e⟩ := List.mem_map.mp (h.mem_iff.mp my)
    exact ⟨i, e.symm⟩
  have h2 : ∃ m : List Int, ys = dI m := by
    clear h
    induction ys with
    | nil => exact ⟨[], rfl⟩
    | cons y ys ih =>
      obtain ⟨i, rfl⟩ := h1 y List.mem_cons_self
      obtain ⟨m, rfl⟩ := ih fun z mz => h1 z (List.mem_cons_of_mem _ mz)
      exact ⟨i :: m, rfl⟩
  obtain ⟨m, rfl⟩ := h2
  refine ⟨m, rfl, ?_⟩
  have h3 := h.map fun d => match d with
    | D.int i => i
    | _ => 0
  have h4 : ∀ l : List Int, (dI l).map (fun d => match d with
    | D.int i => i
    | _ => 0) = l := fun l => by
    show (l.map D.int).map _ = l
    rw [List.map_map]
    exact List.map_id l
  rw [h4, h4] at h3
  exact h3
end K87

set_option Elab.async false
set_option linter.all false
set_option maxRecDepth 100000
set_option maxHeartbeats 4000000
namespace K87
open PySem PySem.Spec L2 FL
theorem dSl_takeL {xs : List D} (h : immL xs = true) (i : Nat) : dSl none (some (i : Int)) (.lst xs) = some (.lst (xs.take i)) := by
  show (if immL xs then some (D.lst (cutD xs none (some (i : Int)))) else none) = _
  rw [h, if_pos rfl]
  congr 2
  unfold cutD
  rw [sIx_0, HT.sIx_nat, List.drop_zero, Nat.sub_zero]
  by_cases h : i ≤ xs.length
  · rw [Nat.min_eq_left h]
  · rw [Nat.min_eq_right (by omega), List.take_of_length_le (by simp), List.take_of_length_le (by omega)]
theorem dSl_dropL {xs : List D} (h : immL xs = true) (i : Nat) : dSl (some (i : Int)) none (.lst xs) = some (.lst (xs.drop i)) := by
  show (if immL xs then some (D.lst (cutD xs (some (i : Int)) none)) else none) = _
  rw [h, if_pos rfl]
  congr 2
  unfold cutD
  rw [sIx_0, HT.sIx_nat]
  by_cases h : i ≤ xs.length
  · rw [Nat.min_eq_left h, List.take_of_length_le (by simp)]
  · rw [Nat.min_eq_right (by omega), List.drop_of_length_le (by simp), List.drop_of_length_le (by omega)]; simp
theorem lcGo_sub {α : Type} {tg : Tg} {f : α → D} {ft : Ev → Mo Bool} {fe : Ev → Mo D} {ρ : Ev} (g : α → D) : ∀ {xs : List α}, (∀ a ∈ xs, ∃ ρ1, bindE tg (f a) ρ = some ρ1 ∧ Tr (ft ρ1) (fun _ => True) ∧ Tr (fe ρ1) fun d => d = g a) →
    Tr (lcGo tg ft fe ρ (xs.map f)) fun ys => ∃ zs : List α, zs.Sublist xs ∧ ys = zs.map g
  | [], _ => Tr.pure ⟨[], .slnil, rfl⟩
  | a :: xs, h => by
    obtain ⟨ρ1, e1, t1, t2⟩ := h a List.mem_cons_self
    have ih := lcGo_sub (ft := ft) (fe := fe) (ρ := ρ) g (xs := xs) fun b m => h b (List.mem_cons_of_mem _ m)
    rw [List.map_cons]
    unfold lcGo
    rw [e1, Mo.ofO_some, Mo.pure_bind]
    refine t1.bnd fun b _ => ?_
    cases b with
    | false =>
      simp only [Bool.false_eq_true, if_false]
      refine ih.imp fun ys ⟨zs, s, e⟩ => ⟨zs, s.cons a, e⟩
    | true =>
      simp only [if_true]
      refine t2.eq (ih.bnd fun ys ⟨zs, s, e⟩ => Tr.pure ⟨a :: zs, s.cons_cons a, by rw [e]; rfl⟩)
/-- a good scope -/
def GdS (n : Nat) (s : List Int) : Prop := s.length ≤ 4 ∧ ∀ v ∈ s, 0 ≤ v ∧ v < n
theorem rgOk_of {a b : Int} (h1 : 0 ≤ a) (h2 : a ≤ 1000) (h3 : 0 ≤ b) (h4 : b ≤ 1000) : rgOk a b = true := by
  have h62 : (2 : Int) ^ 62 = 4611686018427387904 := by decide
  have h3 : (b - a).toNat ≤ sizeLine := Nat.le_trans (show (b - a).toNat ≤ 1000 by omega) (sl_big (by decide))
  have a1 : -((2 : Int) ^ 62) ≤ a := by rw [h62]; omega
  have a2 : a < 2 ^ 62 := by rw [h62]; omega
  have a3 : -((2 : Int) ^ 62) ≤ b := by rw [h62]; omega
  have a4 : b < 2 ^ 62 := by rw [h62]; omega
  unfold rgOk
  rw [decide_eq_true a1, decide_eq_true a2, decide_eq_true a3, decide_eq_true a4, decide_eq_true h3]
  rfl
theorem fR2 {g : Ev → Mo (List D)} {ρ : Ev} {a b : Int} (hg : g ρ = Mo.pure [.int a, .int b]) (h1 : 0 ≤ a) (h2 : a ≤ 1000) (h3 : 0 ≤ b) (h4 : b ≤ 1000) : fRange2 g ρ = Mo.pure ((List.range (b - a).toNat).map fun (i : Nat) => D.int (a + (i : Int))) := by
  rw [fRange2_ap, hg, Mo.pure_bind]
  show Mo.ofO (if rgOk a b then some (rangeD a b) else none) = _
  rw [rgOk_of h1 h2 h3 h4, if_pos rfl, Mo.ofO_some]; rfl
structure AB (n : Nat) (k : Int) (r : Out × Se) : Prop where
  sh : ∃ (S : List (List Int)) (x4 x5 x6 x7 x8 : Sl), r = (.nx, [.bor .hp, .bor (.int n), .own (.int k), .own (.lst (S.map tI')), x4, x5, x6, x7, x8, .no, .no]) ∧ S.length ≤ 24 ∧ ∀ s ∈ S, GdS n s
abbrev AL (k : Int) (n : Nat) (S : List (List Int)) (names : D) (s5 s6 s7 s8 s9 s10 : Sl) : Se := [.lok .hp, .lok (.int n), .own (.int k), .own (.lst (S.map tI')), .own names, s5, s6, s7, s8, s9, s10]
structure A0 (n : Nat) (k : Int) (names : D) (done : List Nat) (ρ : Se) : Prop where
  sh : ∃ (S : List (List Int)) (t5 o6 : Option D), ρ = AL k n S names (slB t5) (slO o6) .no .no .no .no ∧ S.length = done.length ∧ ∀ s ∈ S, GdS n s
structure A0' (n : Nat) (k : Int) (names : D) (r : Out × Se) : Prop where
  sh : ∃ (S : List (List Int)) (t5 o6 : Option D), r = (.nx, AL k n S names (slB t5) (slO o6) .no .no .no .no) ∧ S.length = n ∧ ∀ s ∈ S, GdS n s
theorem bMax_ii (i j : Int) : bMax [.int i, .int j] = some (.int (if j > i then j else i)) := id rfl
theorem dAdd_LL {a b : List D} (h1 : immL a = true) (h2 : immL b = true) (h : a.length + b.length ≤ 100000) : dAdd (.lst a) (.lst b) = some (.lst (a ++ b)) := by
  show (if immL a && immL b && decide (a.length + b.length ≤ sizeLine) then _ else _) = _
  rw [h1, h2, decide_eq_true (sl_big h)]; rfl
theorem bTuple_dI (l : List Int) : bTuple [.lst (l.map D.int)] = some (tI' l) := bTuple_lI l
theorem tr_scopes0 {n : Nat} (h2 : n ≤ 24) {k : Int} {names : D} : Tr (foGo (Tg.n 5)
                      (sSeq
                        (sSet 6
                          (fSl
                            (fLc [10]
                              (fRange2
                                (fCons
                                  (fCallB bMax (fCons (fC (D.int 0)) (fCons (fBin dSub (fVar 5) (fC (D.int 4))) fNil)))
                                  (fCons (fVar 5) fNil)))
                              (Tg.n 10)
                              (fCmp dEq (fCall 2 m__law_draw (fCons (fVar 0) (fCons (fC (D.int 3)) fNil)))
                                (fC (D.int 0)))
                              (fImm (fVar 10)))
                            fNoPart (fPart (fC (D.int 3)))))
                        (sApp 3 (fCallB bTuple (fCons (fBin dAdd (fVar 6) (fLst (fCons (fImm (fVar 5)) fNil))) fNil))))
                      ((List.range n).map fun (i : Nat) => D.int (i : Int)) (AL k n [] names .no .no .no .no .no .no)) (A0' n k names) := by
  refine foGo_tr (f := fun (i : Nat) => D.int (i : Int)) (P := A0 n k names) (R := A0' n k names) (List.range n) (fun done a rs ρ e => ?_) (fun ρ => ?_) (rest := List.range n) (done := []) rfl ⟨[], none, none, rfl, rfl, fun s m => by cases m⟩
  · rintro ⟨S, t5, o6, rfl, hS, hg⟩
    have ha : a < n := List.mem_range.mp (by rw [e]; simp)
    have ld : done.length < n := by
      have : (List.range n).length = n := List.length_range
      rw [e] at this; simp at this; omega
    refine ⟨AL k n S names (.bor (.int a)) (slO o6) .no .no .no .no, by simp, ?_⟩
    have gS : S.length < sizeLine := by rw [sizeLine_eq]; omega
    simp
    rw [fR2 (a := if (a : Int) - 4 > 0 then (a : Int) - 4 else 0) (b := (a : Int)) (by simp [bMax_ii]) (by split <;> omega) (by split <;> omega) (by omega) (by omega), Mo.pure_bind]
    generalize hlo : (if (a : Int) - 4 > 0 then (a : Int) - 4 else 0) = lo
    have hlo0 : 0 ≤ lo := by rw [← hlo]; split <;> omega
    refine (lcGo_sub (f := fun (i : Nat) => D.int (lo + (i : Int))) (fun (i : Nat) => D.int (lo + (i : Int))) fun i m => ?_).bnd ?_
    · simp
      exact (tr_draw (many := 3) (by decide) (by decide)).bnd fun d ⟨r, e, _⟩ => by subst e; simp
    · rintro ys ⟨zs, sub, rfl⟩
      have ez : zs.map (fun (i : Nat) => D.int (lo + (i : Int))) = dI (zs.map fun (i : Nat) => lo + (i : Int)) := by
        show _ = List.map D.int _
        rw [List.map_map]; rfl
      have hz : ∀ v ∈ (zs.map fun (i : Nat) => lo + (i : Int)), 0 ≤ v ∧ v < n := fun v m => by
        obtain ⟨i, mi, rfl⟩ := List.mem_map.mp m
        have := List.mem_range.mp (sub.subset mi)
        omega
      rw [ez]
      generalize (zs.map fun (i : Nat) => lo + (i : Int)) = w at hz
      have e3 : dSl none (some (3 : Int)) (lI w) = some (lI (w.take 3)) := by
        have := dSl_takeL (immL_dI w) 3
        rw [← List.map_take] at this
        exact this
      have e4 : dAdd (lI (w.take 3)) (.lst [.int (a : Int)]) = some (lI (w.take 3 ++ [(a : Int)])) := by
        rw [dAdd_LL (immL_dI _) (by rfl) (by simp; omega)]; simp
      rw [e3, Mo.ofO_some, Mo.pure_bind]
      generalize hw3 : lI (w.take 3) = w3 at e4
      have e5 : bTuple [lI (w.take 3 ++ [(a : Int)])] = some (tI' (w.take 3 ++ [(a : Int)])) := bTuple_lI _
      generalize lI (w.take 3 ++ [(a : Int)]) = w4 at e4 e5
      simp [e4, e5, gS]
      refine ⟨S ++ [w.take 3 ++ [(a : Int)]], some (.int a), some w3, by simp [slB_some, slO_some], by simp [hS], fun s m => ?_⟩
      rcases List.mem_append.mp m with m | m
      · exact hg s m
      · rw [List.mem_singleton.mp m]
        refine ⟨by simp; omega, fun v mv => ?_⟩
        rcases List.mem_append.mp mv with mv | mv
        · exact hz v (List.mem_of_mem_take mv)
        · rw [List.mem_singleton.mp mv]; omega
  · rintro ⟨S, t5, o6, rfl, hS, hg⟩
    exact ⟨S, t5, o6, rfl, by rw [hS, List.length_range], hg⟩
theorem rangeD_perm (n : Nat) : rangeD 0 (n : Int) = dI ((List.range n).map fun (k : Nat) => (k : Int)) := by
  rw [rangeD_0]; show _ = List.map D.int _; rw [List.map_map]; rfl
theorem fLRg1_ap {f : Ev → Mo D} {ρ : Ev} {n : Nat} (hn : n ≤ 1000) (h : f ρ = Mo.pure (.int (n : Int))) : fLRg1 f ρ = Mo.pure (lI ((List.range n).map fun (k : Nat) => (k : Int))) := by
  unfold fLRg1
  rw [h, Mo.pure_bind]
  have g : rg24 0 (n : Int) = true := by
    unfold rg24
    have h1 := dRange1_nat hn
    have h2 : rgOk 0 (n : Int) = true := by
      by_cases c : rgOk 0 (n : Int) = true
      · exact c
      · have : dRange1 [.int (n : Int)] = none := by
          show (if rgOk 0 (n : Int) then some (rangeD 0 (n : Int)) else none) = _
          rw [if_neg c]
        rw [this] at h1; cases h1
    rw [h2, decide_eq_true (show ((n : Int) - 0).toNat ≤ 2 ^ 24 by omega)]; rfl
  show (gd (rg24 0 (n : Int))).bind _ = _
  rw [g, gd_true, Mo.pure_bind, rangeD_perm]
theorem perm_map_ex {α β : Type} {f : α → β} {ys zs : List β} (h : ys.Perm zs) : ∀ l : List α, zs = l.map f → ∃ m : List α, ys = m.map f ∧ m.Perm l := by
  induction h with
  | nil => intro l e; exact ⟨l, e, .refl _⟩
  | cons x _ ih =>
    intro l e
    cases l with
    | nil => cases e
    | cons a l =>
      rw [List.map_cons] at e
      cases e
      obtain ⟨m, e1, p⟩ := ih l rfl
      exact ⟨a :: m, by rw [e1, List.map_cons], p.cons a⟩
  | swap x y l0 =>
    intro l e
    cases l with
    | nil => cases e
    | cons a l =>
      cases l with
      | nil => cases e
      | cons b l =>
        rw [List.map_cons, List.map_cons] at e
        cases e
        exact ⟨b :: a :: l, rfl, .swap _ _ _⟩
  | trans _ _ ih1 ih2 =>
    intro l e
    obtain ⟨m, e1, p1⟩ := ih2 l e
    obtain ⟨m2, e2, p2⟩ := ih1 m e1
    exact ⟨m2, e2, p2.trans p1⟩
theorem lcGo_exs {α β : Type} {tg : Tg} {f : α → D} {ft : Ev → Mo Bool} {fe : Ev → Mo D} {ρ : Ev} (enc : β → D) (G : β → Prop) : ∀ {xs : List α}, (∀ a ∈ xs, ∃ ρ1, bindE tg (f a) ρ = some ρ1 ∧ Tr (ft ρ1) (fun _ => True) ∧ Tr (fe ρ1) fun d => ∃ b, d = enc b ∧ G b) →
    Tr (lcGo tg ft fe ρ (xs.map f)) fun ys => ∃ bs : List β, ys = bs.map enc ∧ bs.length ≤ xs.length ∧ ∀ b ∈ bs, G b
  | [], _ => Tr.pure ⟨[], rfl, Nat.le_refl _, fun b m => by cases m⟩
  | a :: xs, h => by
    obtain ⟨ρ1, e1, t1, t2⟩ := h a List.mem_cons_self
    have ih := lcGo_exs (ft := ft) (fe := fe) (ρ := ρ) enc G (xs := xs) fun b m => h b (List.mem_cons_of_mem _ m)
    rw [List.map_cons]
    unfold lcGo
    rw [e1, Mo.ofO_some, Mo.pure_bind]
    refine t1.bnd fun b _ => ?_
    cases b with
    | false =>
      simp only [Bool.false_eq_true, if_false]
      refine ih.imp fun ys ⟨zs, s, l, e⟩ => ⟨zs, s, by simp; omega, e⟩
    | true =>
      simp only [if_true]
      refine t2.bnd fun d ⟨b, e, g⟩ => ih.bnd fun ys ⟨zs, s, l, e'⟩ => Tr.pure ⟨b :: zs, by rw [s, e]; rfl, by simp; omega, fun c m => ?_⟩
      rcases List.mem_cons.mp m with m | m
      · rw [m]; exact g
      · exact e' c m
theorem sortD_any (q : List Int) : (dI q).mergeSort dLeq = dI (srt q) := by
  refine (PySem.W.sort_maps D.int fun a _ b _ => ?_).symm
  show decide (a ≤ b) = dLeq (.int a) (.int b)
  have := congrFun (congrFun (PySem.W.dataLe_int (β := Int) id) a) b
  exact this.symm
theorem bSorted_any (l : List Int) : bSorted [lI l] = some (lI (srt l)) := by rw [bSorted_lI, sortD_any]
theorem GdS.srt {n : Nat} {s : List Int} (h : GdS n s) : GdS n (srt s) := ⟨by rw [(srt_perm s).length_eq]; exact h.1, fun v m => h.2 v (mem_srt.mp m)⟩
theorem ix_any {ys : List Int} {i : Int} (h1 : -(ys.length : Int) ≤ i) (h2 : i < ys.length) : ∃ v ∈ ys, dIx (lI ys) (.int i) = some (.int v) := by
  show ∃ v ∈ ys, atI (ys.map D.int) i = some (.int v)
  unfold atI ixN
  rw [List.length_map]
  by_cases c : 0 ≤ i
  · rw [if_pos c, if_pos h2]
    have hl : i.toNat < ys.length := by omega
    exact ⟨ys[i.toNat], List.getElem_mem hl, by simp [List.getElem?_eq_getElem hl]⟩
  · rw [if_neg c, if_pos h1]
    have hl : (i + ys.length).toNat < ys.length := by omega
    exact ⟨ys[(i + ys.length).toNat], List.getElem_mem hl, by simp [List.getElem?_eq_getElem hl]⟩
structure K2 (n : Nat) (k : Int) (names : List Int) (ρ : Se) : Prop where
  sh : ∃ (S : List (List Int)) (o7 o8 : Option D), ρ = [.bor .hp, .bor (.int n), .own (.int k), .own (.lst (S.map tI')), .own (lI names), .no, .no, slO o7, slO o8, .no, .no] ∧ S.length + names.length ≤ n ∧ ∀ s ∈ S, GdS n s
  rg : ∀ v ∈ names, 0 ≤ v ∧ v < n
structure TI (n : Nat) (k : Int) (y4 y5 y6 y7 y8 : Sl) (m : Nat) (done : List Nat) (ρ : Se) : Prop where
  sh : ∃ (S : List (List Int)) (t9 : Option D), ρ = [.lok .hp, .lok (.int n), .own (.int k), .own (.lst (S.map tI')), y4, y5, y6, y7, y8, slB t9, .no] ∧ S.length ≤ m + done.length ∧ ∀ s ∈ S, GdS n s
structure TJ (n : Nat) (k : Int) (y4 y5 y6 y7 y8 : Sl) (m : Nat) (l : List Nat) (r : Out × Se) : Prop where
  sh : ∃ (S : List (List Int)) (t9 : Option D), r = (.nx, [.lok .hp, .lok (.int n), .own (.int k), .own (.lst (S.map tI')), y4, y5, y6, y7, y8, slB t9, .no]) ∧ S.length ≤ m + l.length ∧ ∀ s ∈ S, GdS n s
theorem tr_scopes {n : Nat} (h1 : 12 ≤ n) (h2 : n ≤ 24) : Tr (m__law_scopes [.hp, .int n]) (fun d => ∃ S : List (List Int), d = dS S ∧ S.length ≤ 42 ∧ ∀ s ∈ S, GdS n s) := by
  simp [m__law_scopes, g__law_scopes]
  refine (tr_draw (many := 4) (by decide) (by decide)).bnd ?_
  rintro _ ⟨k, rfl, k1, k2⟩
  simp
  rw [fLRg1_ap (n := n) (by omega) (by rfl)]
  simp
  refine (tr_shufL (xs := dI ((List.range n).map fun (k : Nat) => (k : Int))) (by simp; omega) (immL_dI _)).bnd ?_
  rintro _ ⟨ys, rfl, pm⟩
  obtain ⟨m, rfl, pm2⟩ := perm_dI pm
  have hm : ∀ v ∈ m, 0 ≤ v ∧ v < n := fun v mv => mem_rng.mp (pm2.mem_iff.mp mv)
  have lm : m.length = n := by rw [pm2.length_eq]; simp
  rw [bList_tup (immL_dI m), Mo.ofO_some, Mo.pure_bind]
  refine Tr.bnd (P := AB n k) ?_ ?_
  · by_cases c0 : k = 0
    · rw [if_pos c0]
      rw [fR1 (k := n) (by rfl) (by omega), Mo.pure_bind]
      refine (tr_scopes0 h2 (k := k) (names := lI m)).bnd ?_
      rintro r ⟨S, t5, o6, rfl, hS, hg⟩
      simp
      exact ⟨S, _, _, _, _, _, rfl, by omega, hg⟩
    rw [if_neg c0]
    by_cases c1 : k = 1
    · rw [if_pos c1]
      refine (tr_draw (many := (n : Int) - 3) (by omega) (by omega)).bnd ?_
      rintro _ ⟨r, rfl, r1, r2⟩
      simp
      have er : 4 + r = ((4 + r.toNat : Nat) : Int) := by omega
      rw [er]
      have et : dSl none (some ((4 + r.toNat : Nat) : Int)) (lI m) = some (lI (m.take (4 + r.toNat))) := by
        have := dSl_takeL (immL_dI m) (4 + r.toNat)
        rw [← List.map_take] at this
        exact this
      rw [et, Mo.ofO_some, Mo.pure_bind, fR1 (k := 4 + r.toNat) (by rfl) (by omega), Mo.pure_bind]
      generalize hw : m.take (4 + r.toNat) = w
      have lw : w.length = 4 + r.toNat := by rw [← hw, List.length_take]; omega
      have hwm : ∀ v ∈ w, 0 ≤ v ∧ v < n := fun v mv => hm v (by rw [← hw] at mv; exact List.mem_of_mem_take mv)
      refine (lcGo_exs (f := fun (i : Nat) => D.int (i : Int)) tI' (GdS n) fun i mi => ?_).bnd ?_
      · have hi := List.mem_range.mp mi
        obtain ⟨u, mu, eu⟩ := ix_any (ys := w) (i := (i : Int) - 1) (by omega) (by omega)
        obtain ⟨v, mv, ev⟩ := ix_any (ys := w) (i := (i : Int)) (by omega) (by omega)
        generalize lI w = dw at eu ev
        simp [eu, ev]
        have es : bSorted [.lst [.int u, .int v]] = some (lI (srt [u, v])) := bSorted_any [u, v]
        rw [es, Mo.ofO_some, Mo.pure_bind, bTuple_lI]
        simp
        refine ⟨srt [u, v], rfl, GdS.srt ⟨by simp, fun x mx => ?_⟩⟩
        rcases List.mem_cons.mp mx with e | mx
        · rw [e]; exact hwm u mu
        · rw [List.mem_singleton.mp mx]; exact hwm v mv
      · rintro ys ⟨S, rfl, lS, hg⟩
        rw [Tr_pure]
        exact ⟨S, _, _, _, _, _, rfl, by simp at lS; omega, hg⟩
    rw [if_neg c1]
    by_cases c2 : k = 2
    · rw [if_pos c2]
      refine (sWhile_tr (β := List Int) (P := K2 n k) (R := AB n k) (fun l => l.length) (b := m) ⟨⟨[], none, none, rfl, by simp; omega, fun s m => by cases m⟩, hm⟩ ?_)
      rintro nm ρ ⟨⟨S, o7, o8, rfl, hS, hg⟩, hrg⟩
      simp [dNe_nil]
      by_cases hn : nm = []
      · rw [if_pos hn]
        exact ⟨S, _, _, _, _, _, rfl, by omega, hg⟩
      · rw [if_neg hn]
        have ln := List.length_pos_iff.mpr hn
        refine (tr_pick (d := .lst [.int 1, .int 2, .int 3, .int 4]) (xs := [.int 1, .int 2, .int 3, .int 4]) (.inl rfl) (by simp) (by decide) (by rfl)).bnd ?_
        intro d md
        obtain ⟨z, rfl, z1, z2⟩ : ∃ z : Nat, d = .int z ∧ 1 ≤ z ∧ z ≤ 4 := by
          simp at md
          rcases md with rfl | rfl | rfl | rfl
          · exact ⟨1, rfl, by decide, by decide⟩
          · exact ⟨2, rfl, by decide, by decide⟩
          · exact ⟨3, rfl, by decide, by decide⟩
          · exact ⟨4, rfl, by decide, by decide⟩
        have et : dSl none (some (z : Int)) (lI nm) = some (lI (nm.take z)) := by
          have := dSl_takeL (immL_dI nm) z
          rw [← List.map_take] at this
          exact this
        have ed : dSl (some (z : Int)) none (lI nm) = some (lI (nm.drop z)) := by
          have := dSl_dropL (immL_dI nm) z
          rw [← List.map_drop] at this
          exact this
        simp [et, ed]
        generalize hw : nm.take z = w
        have lw : w.length ≤ 4 := by rw [← hw, List.length_take]; omega
        have lw2 : w.length + (nm.drop z).length = nm.length := by rw [← hw, ← List.length_append, List.take_append_drop]
        have lw3 : (nm.drop z).length < nm.length := by rw [List.length_drop]; omega
        have hwm : ∀ v ∈ w, 0 ≤ v ∧ v < n := fun v mv => hrg v (by rw [← hw] at mv; exact List.mem_of_mem_take mv)
        rw [fR1 (k := w.length) (by simp) (by omega), Mo.pure_bind]
        refine (lcGo_exs (f := fun (i : Nat) => D.int (i : Int)) tI' (GdS n) fun i mi => ?_).bnd ?_
        · have hi := List.mem_range.mp mi
          have et2 : dSl none (some ((i : Int) + 1)) (lI w) = some (lI (w.take (i + 1))) := by
            have := dSl_takeL (immL_dI w) (i + 1)
            rw [← List.map_take] at this
            exact this
          generalize lI w = dw at et2
          simp
          refine ⟨(tr_draw (many := 3) (by decide) (by decide)).bnd fun d ⟨r, e, _⟩ => by subst e; simp, ?_⟩
          rw [et2, Mo.ofO_some, Mo.pure_bind, bSorted_any, Mo.ofO_some, Mo.pure_bind, bTuple_lI]
          simp
          refine ⟨srt (w.take (i + 1)), rfl, GdS.srt ⟨by simp; omega, fun x mx => hwm x (List.mem_of_mem_take mx)⟩⟩
        · rintro ys ⟨S2, rfl, lS, hg2⟩
          rw [List.length_range] at lS
          have ea : dAdd (.lst (S.map tI')) (.lst (S2.map tI')) = some (.lst (S.map tI' ++ S2.map tI')) := dAdd_LL (immL_map fun a _ => immL_dI a) (immL_map fun a _ => immL_dI a) (by simp; omega)
          rw [ea]
          simp
          refine ⟨nm.drop z, ⟨⟨S ++ S2, some (.int z), some (lI w), by simp [slO_some], ?_, fun s m => ?_⟩, fun v mv => hrg v (List.mem_of_mem_drop mv)⟩, by omega⟩
          · rw [List.length_append]; omega
          · rcases List.mem_append.mp m with m | m
            · exact hg s m
            · exact hg2 s m
    rw [if_neg c2, Tr_pure]
    exact ⟨[], _, _, _, _, _, rfl, by simp, fun s m => by cases m⟩
  · rintro r ⟨S, x4, x5, x6, x7, x8, rfl, hS, hg⟩
    simp
    rw [fRange1_ap]
    simp
    refine (tr_pick (d := .lst [.int 0, .int 1, .int 3, .int 9]) (xs := [.int 0, .int 1, .int 3, .int 9]) (.inl rfl) (by simp) (by decide) (by rfl)).bnd ?_
    intro d md
    obtain ⟨z, rfl, z2⟩ : ∃ z : Nat, d = .int z ∧ z ≤ 9 := by
      simp at md
      rcases md with rfl | rfl | rfl | rfl
      · exact ⟨0, rfl, by decide⟩
      · exact ⟨1, rfl, by decide⟩
      · exact ⟨3, rfl, by decide⟩
      · exact ⟨9, rfl, by decide⟩
    have eI : bInt [.bl (k == 3)] = some (.int (if k = 3 then 1 else 0)) := by
      show some (D.int (if (k == 3) = true then 1 else 0)) = _
      by_cases c : k = 3 <;> simp [c]
    have eM : dMul (.int 9) (.int (if k = 3 then 1 else 0)) = some (.int (9 * if k = 3 then 1 else 0)) := by
      show (if FL.small64 9 || FL.small64 (if k = 3 then 1 else 0) then some (D.int (9 * if k = 3 then 1 else 0)) else none) = _
      have : FL.small64 9 = true := by decide
      rw [this]; rfl
    have eR : dRange1 [.int ((z : Int) + 9 * if k = 3 then 1 else 0)] = some ((List.range (z + 9 * if k = 3 then 1 else 0)).map fun (i : Nat) => D.int (i : Int)) := by
      have : ((z : Int) + 9 * if k = 3 then 1 else 0) = ((z + 9 * if k = 3 then 1 else 0 : Nat) : Int) := by split <;> simp
      rw [this]
      exact dRange1_nat (by split <;> omega)
    simp [eI, eM, eR]
    generalize hc : (z + 9 * if k = 3 then 1 else 0) = cn
    have hc2 : cn ≤ 18 := by rw [← hc]; split <;> omega
    refine (foGo_tr (f := fun (i : Nat) => D.int (i : Int)) (P := TI n k (lockX false x4) (lockX false x5) (lockX false x6) (lockX false x7) (lockX false x8) 24) (R := TJ n k (lockX false x4) (lockX false x5) (lockX false x6) (lockX false x7) (lockX false x8) 24 (List.range cn)) (List.range cn) (fun done a rs ρ e => ?_) (fun ρ => ?_) (rest := List.range cn) (done := []) rfl ⟨S, none, rfl, hS, hg⟩).bnd ?_
    · rintro ⟨S, t9, rfl, hS, hg⟩
      generalize lockX false x4 = y4
      generalize lockX false x5 = y5
      generalize lockX false x6 = y6
      generalize lockX false x7 = y7
      generalize lockX false x8 = y8
      have ld : done.length < cn := by
        have : (List.range cn).length = cn := List.length_range
        rw [e] at this; simp at this; omega
      have gS : S.length < sizeLine := by rw [sizeLine_eq]; omega
      refine ⟨[.lok .hp, .lok (.int n), .own (.int k), .own (.lst (S.map tI')), y4, y5, y6, y7, y8, .bor (.int a), .no], by simp, ?_⟩
      simp
      rw [fLRg1_ap (n := n) (by omega) (by rfl)]
      simp
      refine (tr_shufL (xs := dI ((List.range n).map fun (k : Nat) => (k : Int))) (by simp; omega) (immL_dI _)).bnd ?_
      rintro _ ⟨ys, rfl, pm⟩
      obtain ⟨w, rfl, pm2⟩ := perm_dI pm
      have hw : ∀ v ∈ w, 0 ≤ v ∧ v < n := fun v mv => mem_rng.mp (pm2.mem_iff.mp mv)
      refine (tr_pick (d := .lst [.int 0, .int 1, .int 2, .int 2, .int 3]) (xs := [.int 0, .int 1, .int 2, .int 2, .int 3]) (.inl rfl) (by simp) (by decide) (by rfl)).bnd ?_
      intro d md
      obtain ⟨z, rfl, z2⟩ : ∃ z : Nat, d = .int z ∧ z ≤ 3 := by
        simp at md
        rcases md with rfl | rfl | rfl | rfl | rfl
        · exact ⟨0, rfl, by decide⟩
        · exact ⟨1, rfl, by decide⟩
        · exact ⟨2, rfl, by decide⟩
        · exact ⟨3, rfl, by decide⟩
      simp only [Mo.pure_bind]
      rw [dSl_take]
      simp only [Mo.ofO_some, Mo.pure_bind]
      have eb : bSorted [tI' (w.take z)] = some (lI (srt (w.take z))) := by rw [bSorted_tI, sortD_any]
      simp only [eb, bTuple_lI, Mo.ofO_some, Mo.pure_bind]
      have eg : (S.map tI').length < sizeLine := by rw [List.length_map]; exact gS
      rw [decide_eq_true gS, gd_true, Mo.pure_bind, Tr_pure]
      refine ⟨S ++ [srt (w.take z)], some (.int a), by simp [slB_some], by simp; omega, fun s m => ?_⟩
      rcases List.mem_append.mp m with m | m
      · exact hg s m
      · rw [List.mem_singleton.mp m]
        exact GdS.srt ⟨by simp; omega, fun x mx => hw x (List.mem_of_mem_take mx)⟩
    · rintro ⟨S, t9, rfl, hS, hg⟩
      exact ⟨S, t9, rfl, hS, hg⟩
    · rintro r ⟨S, t9, rfl, hS, hg⟩
      rw [List.length_range] at hS
      simp
      refine (tr_shufL (xs := S.map tI') (by simp; omega) (immL_map fun a _ => immL_dI a)).bnd ?_
      rintro _ ⟨ys, rfl, pm⟩
      obtain ⟨S2, rfl, pm2⟩ := perm_map_ex pm S rfl
      have eb : bTuple [.tup (S2.map tI')] = some (.tup (S2.map tI')) := by
        show (if immL (S2.map tI') then some (D.tup (S2.map tI')) else none) = _
        have : immL (S2.map tI') = true := immL_map fun a _ => immL_dI a
        rw [this]; rfl
      rw [eb]
      simp
      exact ⟨S2, rfl, by rw [pm2.length_eq]; omega, fun s m => hg s (pm2.mem_iff.mp m)⟩
end K87

set_option Elab.async false
set_option linter.all false
set_option maxRecDepth 100000
set_option maxHeartbeats 4000000
namespace K87
open PySem PySem.Spec L2 FL
/-! ### near -/
structure OkM (n : Nat) (Q : Int → Int → Prop) (R : List (List Int)) : Prop where
  len : R.length = n
  nd : ∀ l ∈ R, l.Nodup
  rg : ∀ l ∈ R, ∀ y ∈ l, 0 ≤ y ∧ y < n
  mem : ∀ (i : Nat) l, R[i]? = some l → ∀ y, y ∈ l ↔ y ≠ i ∧ Q i y
def addN (R : List (List Int)) (a b : Int) : List (List Int) := if a = b then R else R.set a.toNat (insI (nb R a) b)
theorem mem_insI {l : List Int} {b y : Int} : y ∈ insI l b ↔ y ∈ l ∨ y = b := by
  unfold insI
  by_cases h : b ∈ l
  · rw [if_pos h]
    constructor
    · exact .inl
    · rintro (h' | rfl)
      · exact h'
      · exact h
  · rw [if_neg h]; simp
theorem OkM.nb {n : Nat} {Q : Int → Int → Prop} {R : List (List Int)} (h : OkM n Q R) {a : Int} (ha : 0 ≤ a ∧ a < n) : R[a.toNat]? = some (K87.nb R a) := by
  have hl : a.toNat < R.length := by rw [h.len]; omega
  unfold K87.nb
  rw [List.getElem?_eq_getElem hl]; rfl
theorem OkM.add {n : Nat} {Q Q' : Int → Int → Prop} {R : List (List Int)} (h : OkM n Q R) {a b : Int} (ha : 0 ≤ a ∧ a < n) (hb : 0 ≤ b ∧ b < n) (hq : ∀ i y, y ≠ i → (Q' i y ↔ Q i y ∨ (i = a ∧ y = b))) : OkM n Q' (addN R a b) := by
  unfold addN
  by_cases c : a = b
  · rw [if_pos c]
    refine ⟨h.len, h.nd, h.rg, fun i l e y => ?_⟩
    rw [h.mem i l e y]
    constructor
    · rintro ⟨h1, h2⟩; exact ⟨h1, (hq _ _ h1).mpr (.inl h2)⟩
    · rintro ⟨h1, h2⟩
      rcases (hq _ _ h1).mp h2 with q | ⟨q1, q2⟩
      · exact ⟨h1, q⟩
      · exact absurd (q2.trans (c.symm.trans q1.symm)) h1
  · rw [if_neg c]
    have e := h.nb ha
    have mb : K87.nb R a ∈ R := List.mem_of_getElem? e
    refine ⟨by rw [List.length_set]; exact h.len, fun l m => ?_, fun l m y my => ?_, fun i l e2 y => ?_⟩
    · rcases List.mem_or_eq_of_mem_set m with m | m
      · exact h.nd l m
      · rw [m]; exact insI_nodup (h.nd _ mb)
    · rcases List.mem_or_eq_of_mem_set m with m | m
      · exact h.rg l m y my
      · rw [m] at my
        rcases mem_insI.mp my with q | q
        · exact h.rg _ mb y q
        · rw [q]; exact hb
    · by_cases ci : a.toNat = i
      · subst ci
        rw [List.getElem?_set_self (by rw [h.len]; omega)] at e2
        cases e2
        have ea : ((a.toNat : Nat) : Int) = a := by omega
        rw [mem_insI, h.mem _ _ e y, ea]
        constructor
        · rintro (⟨h1, h2⟩ | q)
          · exact ⟨h1, (hq _ _ h1).mpr (.inl h2)⟩
          · have h1 : y ≠ a := fun q' => c (q'.symm.trans q)
            exact ⟨h1, (hq _ _ h1).mpr (.inr ⟨rfl, q⟩)⟩
        · rintro ⟨h1, h2⟩
          rcases (hq _ _ h1).mp h2 with q | ⟨_, q⟩
          · exact .inl ⟨h1, q⟩
          · exact .inr q
      · rw [List.getElem?_set_ne ci] at e2
        rw [h.mem i l e2 y]
        constructor
        · rintro ⟨h1, h2⟩; exact ⟨h1, (hq _ _ h1).mpr (.inl h2)⟩
        · rintro ⟨h1, h2⟩
          rcases (hq _ _ h1).mp h2 with q | ⟨q1, q2⟩
          · exact ⟨h1, q⟩
          · exact absurd (by omega) ci
theorem OkM.iff {n : Nat} {Q Q' : Int → Int → Prop} {R : List (List Int)} (h : OkM n Q R) (hq : ∀ i y, Q' i y ↔ Q i y) : OkM n Q' R :=
  ⟨h.len, h.nd, h.rg, fun i l e y => by rw [h.mem i l e y, hq]⟩
structure R1 (n : Nat) (S : List (List Int)) (done : List (List Int)) (ρ : Se) : Prop where
  sh : ∃ (R : List (List Int)) (t3 : Option D), ρ = [.lok (dS S), .lok (.int n), .own (dN R), slB t3, .no, .no, .no] ∧ OkM n (fun i y => y ∈ tie done i) R
structure R1' (n : Nat) (S : List (List Int)) (l : List (List Int)) (r : Out × Se) : Prop where
  sh : ∃ (R : List (List Int)) (t3 : Option D), r = (.nx, [.lok (dS S), .lok (.int n), .own (dN R), slB t3, .no, .no, .no]) ∧ OkM n (fun i y => y ∈ tie l i) R
structure R2 (n : Nat) (d0 : D) (T s : List (List Int)) (sc : List Int) (done : List Int) (ρ : Se) : Prop where
  sh : ∃ (R : List (List Int)) (t4 : Option D), ρ = [.lok d0, .lok (.int n), .own (dN R), .lok (tI' sc), slB t4, .no, .no] ∧ OkM n (fun i y => y ∈ tie T i ∨ (i ∈ done ∧ y ∈ sc)) R
structure R2' (n : Nat) (d0 : D) (T s : List (List Int)) (sc : List Int) (l : List Int) (r : Out × Se) : Prop where
  sh : ∃ (R : List (List Int)) (t4 : Option D), r = (.nx, [.lok d0, .lok (.int n), .own (dN R), .lok (tI' sc), slB t4, .no, .no]) ∧ OkM n (fun i y => y ∈ tie T i ∨ (i ∈ l ∧ y ∈ sc)) R
structure R3 (n : Nat) (d0 d3 : D) (Q : Int → Int → Prop) (a : Int) (done : List Int) (ρ : Se) : Prop where
  sh : ∃ (R : List (List Int)) (t5 : Option D), ρ = [.lok d0, .lok (.int n), .own (dN R), .lok d3, .lok (.int a), slB t5, .no] ∧ OkM n (fun i y => Q i y ∨ (i = a ∧ y ∈ done)) R
structure R3' (n : Nat) (d0 d3 : D) (Q : Int → Int → Prop) (a : Int) (l : List Int) (r : Out × Se) : Prop where
  sh : ∃ (R : List (List Int)) (t5 : Option D), r = (.nx, [.lok d0, .lok (.int n), .own (dN R), .lok d3, .lok (.int a), slB t5, .no]) ∧ OkM n (fun i y => Q i y ∨ (i = a ∧ y ∈ l)) R
theorem sPut2_N {n : Nat} (hn : n ≤ 1000) {Q : Int → Int → Prop} {R : List (List Int)} (h : OkM n Q R) {a b : Int} (ha : 0 ≤ a ∧ a < n) (hab : a ≠ b) {i : Nat} {f1 f2 fv : Ev → Mo D} {ρ : Se} (hi : ρ[i]? = some (.own (dN R))) (hv : fv (vw ρ) = Mo.pure (.bl true)) (h1 : f1 (vw ρ) = Mo.pure (.int a)) (h2 : f2 (vw ρ) = Mo.pure (.int b)) :
    sPut2 i f1 f2 fv ρ = Mo.pure (.nx, ρ.set i (.own (dN (addN R a b)))) := by
  unfold sPut2
  rw [hv, Mo.pure_bind, h1, Mo.pure_bind, hi]
  have e := h.nb ha
  have ea : ((a.toNat : Nat) : Int) = a := by omega
  have e1 : sub1 (dN R) (.int a) = some (dSet (nb R a)) := by
    show atI (R.map dSet) a = _
    rw [← ea]
    refine atI_nat ?_
    rw [List.getElem?_map, e, ea]; rfl
  have mb : nb R a ∈ R := List.mem_of_getElem? e
  have ln : (nb R a).length < sizeLine := by
    have := nodup_len (h.nd _ mb) (h.rg _ mb)
    rw [sizeLine_eq]; omega
  have e2 : setSub (dN R) (.int a) (dSet (insI (nb R a) b)) = dN (addN R a b) := by
    have hx : ixN (R.map dSet).length a = some a.toNat := by
      rw [← ea]
      exact ixN_nat' (by rw [List.length_map, h.len]; omega)
    show (match ixN (R.map dSet).length a with | some j => D.lst ((R.map dSet).set j (dSet (insI (nb R a) b))) | none => .lst (R.map dSet)) = _
    rw [hx]
    unfold addN
    rw [if_neg hab]
    show D.lst _ = D.lst _
    rw [List.map_set]
  show (Mo.ofO (sub1 (dN R) (.int a))).bind _ = _
  rw [e1, Mo.ofO_some, Mo.pure_bind, h2, Mo.pure_bind, putD_set ln, Mo.ofO_some, Mo.pure_bind, e2]
theorem tie_snoc {T : List (List Int)} {s : List Int} {i y : Int} : y ∈ tie (T ++ [s]) i ↔ y ∈ tie T i ∨ (i ∈ s ∧ y ∈ s) := by
  rw [mem_tie, mem_tie]
  constructor
  · rintro ⟨u, m, h1, h2⟩
    rcases List.mem_append.mp m with m | m
    · exact .inl ⟨u, m, h1, h2⟩
    · rw [List.mem_singleton.mp m] at h1 h2; exact .inr ⟨h1, h2⟩
  · rintro (⟨u, m, h1, h2⟩ | ⟨h1, h2⟩)
    · exact ⟨u, List.mem_append_left _ m, h1, h2⟩
    · exact ⟨s, by simp, h1, h2⟩
theorem tr_near {n : Nat} (hn : n ≤ 1000) {S : List (List Int)} (rg : ∀ s ∈ S, ∀ v ∈ s, 0 ≤ v ∧ v < n) : Tr (m__law_near [dS S, .int n]) (fun d => ∃ R, d = dN R ∧ OkN n S R) := by
  have hit : items (dS S) = some (S.map tI') := rfl
  generalize hd0 : dS S = d0 at hit
  simp [m__law_near, g__law_near]
  rw [fR1 (k := n) (by rfl) (by omega), Mo.pure_bind]
  refine (lcGo_id (f := fun (i : Nat) => D.int (i : Int)) (fun _ => dSet []) fun i m => ?_).eq ?_
  · simp
  rw [hit, Mo.ofO_some, Mo.pure_bind]
  have e0 : (List.range n).map (fun _ => dSet []) = (List.replicate n ([] : List Int)).map dSet := by rw [List.map_const', List.length_range, List.map_replicate]
  have hin : OkM n (fun i y => y ∈ tie [] i) (List.replicate n ([] : List Int)) := by
    refine ⟨by simp, fun l m => ?_, fun l m y my => ?_, fun i l e y => ?_⟩
    · rw [List.eq_of_mem_replicate m]; exact List.nodup_nil
    · rw [List.eq_of_mem_replicate m] at my; cases my
    · rw [List.eq_of_mem_replicate (List.mem_of_getElem? e)]
      constructor
      · intro h; cases h
      · rintro ⟨_, h⟩; cases h
  rw [e0]
  refine (foGo_tr (f := tI') (P := R1 n S) (R := R1' n S S) S (fun done s rest ρ e => ?_) (fun ρ => ?_) (rest := S) (done := []) rfl ⟨List.replicate n [], none, by rw [← hd0]; rfl, hin⟩).bnd ?_
  · rintro ⟨R, t3, rfl, hR⟩
    rw [hd0]
    have hs : ∀ v ∈ s, 0 ≤ v ∧ v < n := fun v m => rg s (by rw [e]; simp) v m
    refine ⟨[.lok d0, .lok (.int n), .own (dN R), .bor (tI' s), .no, .no, .no], by simp, ?_⟩
    have hit3 : items (tI' s) = some (dI s) := rfl
    generalize hd3 : tI' s = d3 at hit3
    simp [hit3]
    refine (foGo_tr (f := D.int) (P := R2 n d0 done S s) (R := R2' n d0 done S s s) s (fun d2 a rest2 ρ e2 => ?_) (fun ρ => ?_) (rest := s) (done := []) rfl ⟨R, none, by rw [hd3]; rfl, hR.iff fun i y => by simp⟩).bnd ?_
    · rintro ⟨R, t4, rfl, hR⟩
      rw [hd3]
      have ha := hs a (by rw [e2]; simp)
      refine ⟨[.lok d0, .lok (.int n), .own (dN R), .lok d3, .bor (.int a), .no, .no], by simp, ?_⟩
      simp [hit3]
      refine (foGo_tr (f := D.int) (P := R3 n d0 d3 (fun i y => y ∈ tie done i ∨ (i ∈ d2 ∧ y ∈ s)) a) (R := R3' n d0 d3 (fun i y => y ∈ tie done i ∨ (i ∈ d2 ∧ y ∈ s)) a s) s (fun d3' b rest3 ρ e3 => ?_) (fun ρ => ?_) (rest := s) (done := []) rfl ⟨R, none, rfl, hR.iff fun i y => by simp⟩).bnd ?_
      · rintro ⟨R, t5, rfl, hR⟩
        have hb := hs b (by rw [e3]; simp)
        refine ⟨[.lok d0, .lok (.int n), .own (dN R), .lok d3, .lok (.int a), .bor (.int b), .no], by simp, ?_⟩
        have hq : ∀ i y : Int, y ≠ i → (((y ∈ tie done i ∨ (i ∈ d2 ∧ y ∈ s)) ∨ (i = a ∧ y ∈ d3' ++ [b])) ↔ ((y ∈ tie done i ∨ (i ∈ d2 ∧ y ∈ s)) ∨ (i = a ∧ y ∈ d3')) ∨ (i = a ∧ y = b)) := fun i y _ => by
          rw [List.mem_append, List.mem_singleton]
          constructor
          · rintro (h | ⟨h1, h2 | h2⟩)
            · exact .inl (.inl h)
            · exact .inl (.inr ⟨h1, h2⟩)
            · exact .inr ⟨h1, h2⟩
          · rintro ((h | ⟨h1, h2⟩) | ⟨h1, h2⟩)
            · exact .inl h
            · exact .inr ⟨h1, .inl h2⟩
            · exact .inr ⟨h1, .inr h2⟩
        have hadd := hR.add (Q' := fun i y => (y ∈ tie done i ∨ (i ∈ d2 ∧ y ∈ s)) ∨ (i = a ∧ y ∈ d3' ++ [b])) ha hb hq
        by_cases c : a = b
        · rw [sIf_ap]
          subst c
          simp
          refine ⟨R, some (.int a), by simp [slB_some], ?_⟩
          unfold addN at hadd
          rw [if_pos rfl] at hadd
          exact hadd
        · rw [sIf_ap]
          have et : fCmp dNe (fVar 4) (fVar 5) (vw [.lok d0, .lok (.int n), .own (dN R), .lok d3, .lok (.int a), .bor (.int b), .no]) = Mo.pure true := by
            have c' : (a != b) = true := by simpa using c
            simp [c']
          rw [et, Mo.pure_bind, if_pos rfl]
          rw [sPut2_N hn hR ha c (by rfl) (by rfl) (by rfl) (by rfl), Tr_pure]
          exact ⟨addN R a b, some (.int b), rfl, hadd⟩
      · rintro ⟨R, t5, rfl, hR⟩
        exact ⟨R, t5, rfl, hR⟩
      · rintro r ⟨R, t5, rfl, hR⟩
        simp
        refine ⟨R, some (.int a), by rw [hd3]; simp [slB_some], hR.iff fun i y => ?_⟩
        rw [List.mem_append, List.mem_singleton]
        constructor
        · rintro (h | ⟨h1 | h1, h2⟩)
          · exact .inl (.inl h)
          · exact .inl (.inr ⟨h1, h2⟩)
          · exact .inr ⟨h1, h2⟩
        · rintro ((h | ⟨h1, h2⟩) | ⟨h1, h2⟩)
          · exact .inl h
          · exact .inr ⟨.inl h1, h2⟩
          · exact .inr ⟨.inr h1, h2⟩
    · rintro ⟨R, t4, rfl, hR⟩
      exact ⟨R, t4, rfl, hR⟩
    · rintro r ⟨R, t4, rfl, hR⟩
      rw [hd3]
      simp
      refine ⟨R, some d3, by rw [hd0]; simp [slB_some], hR.iff fun i y => tie_snoc⟩
  · rintro ⟨R, t3, rfl, hR⟩
    exact ⟨R, t3, rfl, hR⟩
  · rintro r ⟨R, t3, rfl, hR⟩
    simp
    exact ⟨R, rfl, ⟨hR.len, hR.nd, hR.mem⟩⟩
end K87

set_option Elab.async false
set_option linter.all false
set_option maxRecDepth 100000
set_option maxHeartbeats 4000000
namespace K87
open PySem PySem.Spec L2 FL
theorem idx_at {q : List Int} (nq : q.Nodup) {i : Nat} (h : i < q.length) : q.idxOf q[i] = i := by
  induction q generalizing i with
  | nil => cases h
  | cons a q ih =>
    obtain ⟨h1, h2⟩ := List.nodup_cons.mp nq
    cases i with
    | zero => simp
    | succ i =>
      rw [List.getElem_cons_succ, List.idxOf_cons]
      have : a ≠ q[i]'(by simpa using h) := fun e => h1 (e ▸ List.getElem_mem _)
      have h3 := ih h2 (i := i) (by simpa using h)
      have h4 : (a == q[i]'(by simpa using h)) = false := by simpa using this
      rw [h4, h3]; rfl
theorem flw_len {q : List Int} {cl : List (List Int)} : (flw q cl).length = cl.length := by unfold flw; simp
theorem later_flw {q : List Int} (nq : q.Nodup) {cl : List (List Int)} (l : cl.length = q.length) : Later q (gof q (flw q cl)) := by
  intro x mx y e
  obtain ⟨i, hi, rfl⟩ := List.mem_iff_getElem.mp mx
  have hfi : i < (flw q cl).length := by rw [flw_len, l]; exact hi
  have hz : (q[i], (flw q cl)[i]) ∈ q.zip (flw q cl) := by
    have : (q.zip (flw q cl))[i]'(by rw [List.length_zip]; omega) = (q[i], (flw q cl)[i]) := List.getElem_zip
    rw [← this]; exact List.getElem_mem _
  have := gof_zip nq hz
  rw [e] at this
  have hf : (flw q cl)[i] = fl1 q ((cl[i]?).getD [], i) := by
    have h1 : (flw q cl)[i]? = some (fl1 q ((cl[i]?).getD [], i)) := by
      rw [flw_range, List.getElem?_map, List.getElem?_range (by omega)]; rfl
    exact Option.some.inj ((List.getElem?_eq_getElem hfi).symm.trans h1)
  have h2 : fl1 q ((cl[i]?).getD [], i) = some y := hf.symm.trans this.symm
  have my : y ∈ q.drop (i + 1) := (List.mem_filter.mp (List.mem_of_head? h2)).1
  obtain ⟨j, hj, rfl⟩ := List.mem_iff_getElem.mp my
  rw [List.getElem_drop]
  rw [idx_at nq hi, idx_at nq]
  omega
/-! ### scopes left -/
def unS (n : Nat) (S : List (List Int)) (x : Int) : List Int := ((List.range n).map fun (k : Nat) => (k : Int)).filter fun y => decide (y ≠ x) && (tie S x).contains y
def lef (n : Nat) (S : List (List Int)) (x : Int) : List (List Int) := S.filter (fun s => !s.contains x) ++ [unS n S x]
structure OkB (n k : Nat) (S : List (List Int)) : Prop where
  len : S.length ≤ 42 + k
  tot : (S.map List.length).sum ≤ 168 + n * k
  rg : ∀ s ∈ S, ∀ v ∈ s, 0 ≤ v ∧ v < n
theorem OkB.sc {n k : Nat} {S : List (List Int)} (h : OkB n k S) (hn : n ≤ 24) (hk : k ≤ 24) : OkSc n S := by
  have : n * k ≤ 24 * 24 := Nat.mul_le_mul hn hk
  exact ⟨by have := h.len; omega, by have := h.tot; omega, h.rg⟩
theorem unS_rg {n : Nat} {S : List (List Int)} {x v : Int} (h : v ∈ unS n S x) : 0 ≤ v ∧ v < n := mem_rng.mp (List.mem_filter.mp h).1
theorem unS_len {n : Nat} {S : List (List Int)} {x : Int} : (unS n S x).length ≤ n := by
  have := List.length_filter_le (fun y => decide (y ≠ x) && (tie S x).contains y) ((List.range n).map fun (k : Nat) => (k : Int))
  simpa [unS] using this
theorem sum_filter {S : List (List Int)} {p : List Int → Bool} : ((S.filter p).map List.length).sum ≤ (S.map List.length).sum := by
  induction S with
  | nil => simp
  | cons s S ih =>
    by_cases h : p s = true
    · rw [List.filter_cons_of_pos h]; simp; exact ih
    · rw [List.filter_cons_of_neg h]; simp; omega
theorem OkB.lef {n k : Nat} {S : List (List Int)} (h : OkB n k S) (x : Int) : OkB n (k + 1) (lef n S x) := by
  unfold K87.lef
  refine ⟨?_, ?_, fun s m v mv => ?_⟩
  · have := List.length_filter_le (fun s : List Int => !s.contains x) S
    have := h.len
    rw [List.length_append, List.length_singleton]; omega
  · have h1 := sum_filter (S := S) (p := fun s : List Int => !s.contains x)
    have h2 := h.tot
    have h3 := unS_len (n := n) (S := S) (x := x)
    have h4 : n * (k + 1) = n * k + n := Nat.mul_succ n k
    simp only [List.map_append, List.sum_append, List.map_cons, List.map_nil, List.sum_cons, List.sum_nil]
    omega
  · rcases List.mem_append.mp m with m | m
    · exact h.rg s (List.mem_filter.mp m).1 v mv
    · rw [List.mem_singleton.mp m] at mv; exact unS_rg mv
theorem OkB.fold {n : Nat} : ∀ {q : List Int} {k : Nat} {S : List (List Int)}, OkB n k S → OkB n (k + q.length) (q.foldl (K87.lef n) S)
  | [], k, S, h => h
  | x :: q, k, S, h => by
    have := OkB.fold (q := q) (h.lef x)
    rw [List.foldl_cons, List.length_cons]
    have e : k + (q.length + 1) = k + 1 + q.length := by omega
    rw [e]; exact this
theorem setI_mem {l : List Int} {y : Int} : y ∈ setI l ↔ y ∈ l := by
  unfold setI; rw [insI_fold_mem]; simp
theorem setI_nd {l : List Int} : (setI l).Nodup := by unfold setI; exact insI_fold_nd List.nodup_nil
theorem bSorted_set {l : List Int} (h : l.length < 64) : bSorted [.seti l] = some (.lst ((dI l).mergeSort dLeq)) := by
  show (if decide (l.length < 64) then some (D.lst ((l.map D.int).mergeSort dLeq)) else none) = _
  rw [if_pos (by simpa using h)]
theorem unS_sorted {n : Nat} {S : List (List Int)} {x : Int} : (unS n S x).Pairwise (· < ·) := (rng_sorted n).sublist List.filter_sublist
structure LI (d0 d1 : D) (n : Nat) (S : List (List Int)) (done : List Int) (ρ : Se) : Prop where
  sh : ∃ (t3 : Option D) (o4 : Option D), ρ = [.lok d0, .lok d1, .own (.lst ((done.foldl (K87.lef n) S).map tI')), slB t3, slO o4, .no, .no]
structure LJ (d0 d1 : D) (n : Nat) (S : List (List Int)) (l : List Int) (r : Out × Se) : Prop where
  sh : ∃ (t3 : Option D) (o4 : Option D), r = (.nx, [.lok d0, .lok d1, .own (.lst ((l.foldl (K87.lef n) S).map tI')), slB t3, slO o4, .no, .no])
theorem tr_tied' {n : Nat} {S : List (List Int)} (ok : OkSc n S) (x : Int) {d : D} (hd : items d = some (S.map tI')) : Tr (m_tied_things [d, .int x]) (fun d => d = lI (tie S x)) := by
  simp [m_tied_things, g_tied_things, hd]
  refine (lc2Go_tr (f := tI') (fun s => s.contains x) (fun s => s) D.int (fun _ _ => true) (fun _ c => .int c) fun s _ => ?_).bnd ?_
  · simp
  · rintro ys rfl
    have e : ((S.filter fun s => s.contains x).flatMap fun a => (a.filter fun _ => true).map D.int) = dI (tie S x) := by
      unfold tie
      clear ok hd
      induction S with
      | nil => rfl
      | cons s S ih =>
        rw [List.flatMap_cons]
        show _ = List.map D.int (_ ++ _)
        rw [List.map_append]
        show _ = _ ++ dI _
        rw [← ih]
        by_cases c : s.contains x = true
        · rw [List.filter_cons_of_pos (p := fun s : List Int => s.contains x) c, List.flatMap_cons, if_pos c, List.filter_eq_self.mpr fun _ _ => rfl]
        · rw [List.filter_cons_of_neg (p := fun s : List Int => s.contains x) c, if_neg c]; simp
    rw [e]
    have := tie_len ok x
    simp [sl_big (show (tie S x).length ≤ 100000 by omega)]
theorem immL_T (S : List (List Int)) : immL (S.map tI') = true := immL_map fun a _ => immL_dI a
theorem bTuple_T (S : List (List Int)) : bTuple [.lst (S.map tI')] = some (dS S) := by
  show (if immL (S.map tI') then some (D.tup (S.map tI')) else none) = _
  rw [immL_T]; rfl
theorem tr_left {n : Nat} (hn : n ≤ 24) {S : List (List Int)} (ok : OkB n 0 S) {q : List Int} (hq : ∀ y ∈ q, 0 ≤ y ∧ y < n) (lq : q.length ≤ 24) : Tr (m_scopes_left [dS S, tI' q]) (fun d => d = dS (q.foldl (K87.lef n) S)) := by
  have hb : bList [dS S] = some (.lst (S.map tI')) := by
    show (if immL (S.map tI') then some (D.lst (S.map tI')) else none) = _
    rw [immL_T]; rfl
  have hit : items (tI' q) = some (dI q) := rfl
  generalize hd0 : dS S = d0 at hb
  generalize hd1 : tI' q = d1 at hit
  simp [m_scopes_left, g_scopes_left, hb, hit]
  refine (foGo_tr (f := D.int) (P := LI d0 d1 n S) (R := LJ d0 d1 n S q) q (fun done x rest ρ e => ?_) (fun ρ => ?_) (rest := q) (done := []) rfl ⟨none, none, rfl⟩).bnd ?_
  · rintro ⟨t3, o4, rfl⟩
    have ld : done.length < 24 := by rw [e] at lq; simp at lq; omega
    have okb : OkB n (0 + done.length) (done.foldl (K87.lef n) S) := OkB.fold ok
    have hx := hq x (by rw [e]; simp)
    have hfold : (done ++ [x]).foldl (K87.lef n) S = K87.lef n (done.foldl (K87.lef n) S) x := by rw [List.foldl_append]; rfl
    suffices hh : ∀ T, OkB n (0 + done.length) T → (done ++ [x]).foldl (K87.lef n) S = K87.lef n T x → ∃ ρ1, bindS (Tg.n 3) (D.int x) [.lok d0, .lok d1, .own (.lst (T.map tI')), slB t3, slO o4, .no, .no] = some ρ1 ∧
        Tr (sSeq (sSet 4 (fSc [5] (fItems (fCall 2 m_tied_things (fCons (fVar 2) (fCons (fVar 3) fNil)))) (.n 5) (fCmp dNe (fVar 5) (fVar 3)) (fImm (fVar 5)))) (sSeq (sSet 2 (fLc [6] (fItems (fVar 2)) (.n 6) (fCmp dNotIn (fVar 3) (fVar 6)) (fImm (fVar 6)))) (sApp 2 (fCallB bTuple (fCons (fCallB bSorted (fCons (fVar 4) fNil)) fNil)))) ρ1) fun r => match r.1 with
          | .nx => LI d0 d1 n S (done ++ [x]) r.2
          | .ct => LI d0 d1 n S (done ++ [x]) r.2
          | .bk => LJ d0 d1 n S q (.nx, r.2)
          | .rt d => LJ d0 d1 n S q (.rt d, r.2) from hh _ okb hfold
    intro T okT hT
    have oksc := okT.sc hn (by omega)
    refine ⟨[.lok d0, .lok d1, .own (.lst (T.map tI')), .bor (.int x), slO o4, .no, .no], by simp, ?_⟩
    simp
    refine (tr_tied' (d := .lst (T.map tI')) oksc x rfl).eq ?_
    simp
    refine (lcGo_tr (f := D.int) (fun y => decide (y ≠ x)) D.int fun y m => ?_).eq ?_
    · simp
      by_cases c : y = x <;> simp [c]
    · have hlen : ((tie T x).filter fun y => decide (y ≠ x)).length + 1 < scanBound := by
        have h1 := List.length_filter_le (fun y => decide (y ≠ x)) (tie T x)
        have h2 := tie_len oksc x
        unfold scanBound; omega
      rw [intsOf_map, Mo.ofO_some, Mo.pure_bind, decide_eq_true hlen, gd_true, Mo.pure_bind]
      generalize hse : setI ((tie T x).filter fun y => decide (y ≠ x)) = se
      have hmem : ∀ y, y ∈ se ↔ y ∈ unS n T x := fun y => by
        rw [← hse, setI_mem]
        unfold unS
        rw [List.mem_filter, List.mem_filter, mem_rng]
        constructor
        · rintro ⟨h1, h2⟩
          exact ⟨tie_rg oksc h1, by simp at h2 ⊢; exact ⟨h2, h1⟩⟩
        · rintro ⟨_, h2⟩
          simp at h2 ⊢; exact ⟨h2.2, h2.1⟩
      have hnd : se.Nodup := by rw [← hse]; exact setI_nd
      have hl64 : se.length < 64 := by
        have := nodup_len hnd fun y m => unS_rg ((hmem y).mp m)
        omega
      have es : bSorted [.seti se] = some (lI (unS n T x)) := by rw [bSorted_set hl64, sortI unS_sorted hmem hnd]
      refine (lcGo_tr (f := tI') (fun s => !s.contains x) tI' fun s m => ?_).eq ?_
      · simp [immL_dI]
      · have hl : (T.filter fun s => !s.contains x).length < sizeLine := by
          have h1 := List.length_filter_le (fun s : List Int => !s.contains x) T
          have h2 := okT.len
          rw [sizeLine_eq]; omega
        have hl2 : ((T.filter fun s => !s.contains x).map tI').length < sizeLine := by rw [List.length_map]; exact hl
        generalize hU : (T.filter fun s => !s.contains x).map tI' = U at hl2
        simp [es]
        rw [bTuple_lI]
        simp [hl2]
        refine ⟨some (.int x), some (.seti se), ?_⟩
        rw [hT]
        unfold K87.lef
        rw [← hU]
        simp [slB_some, slO_some]
  · rintro ⟨t3, o4, rfl⟩
    exact ⟨t3, o4, rfl⟩
  · rintro r ⟨t3, o4, rfl⟩
    simp
    rw [bTuple_T]
    simp
end K87

set_option Elab.async false
set_option linter.all false
set_option maxRecDepth 100000
set_option maxHeartbeats 4000000
namespace K87
open PySem PySem.Spec L2 FL
/-! ### free things -/
noncomputable def oth (n : Nat) (S : List (List Int)) (l : List Int) (x : Int) : List Int := (clF n S (fun y => y ∈ l) x).filter fun y => decide (y ≠ x)
noncomputable def frB (n : Nat) (S : List (List Int)) (l : List Int) (x : Int) : Bool := (oth n S l x).all fun a => (oth n S l x).all fun b => (clF n S (fun y => y ∈ l) a).contains b
theorem clF_rg {n : Nat} {S : List (List Int)} {B : Int → Prop} {x y : Int} (h : y ∈ clF n S B x) : 0 ≤ y ∧ y < n := mem_rng.mp (List.mem_filter.mp h).1
theorem oth_rg {n : Nat} {S : List (List Int)} {l : List Int} {x y : Int} (h : y ∈ oth n S l x) : 0 ≤ y ∧ y < n := clF_rg (List.mem_filter.mp h).1
theorem clF_len {n : Nat} {S : List (List Int)} {B : Int → Prop} {x : Int} : (clF n S B x).length ≤ n := by
  have := List.length_filter_le (fun b => @decide (InC S B x b) (Classical.propDecidable _)) ((List.range n).map fun (k : Nat) => (k : Int))
  simpa [clF] using this
theorem oth_len {n : Nat} {S : List (List Int)} {l : List Int} {x : Int} : (oth n S l x).length ≤ n := Nat.le_trans (List.length_filter_le _ _) clF_len
theorem tr_free {n : Nat} (hn : n ≤ 24) {S : List (List Int)} (ok : OkSc n S) (l : List Int) {x : Int} (hx : 0 ≤ x ∧ x < n) : Tr (m_is_free [dS S, tI' l, .int x]) (fun d => d = .bl (frB n S l x)) := by
  have hcl : ∀ a : Int, 0 ≤ a ∧ a < n → Tr (m_cluster_behind [dS S, tI' l, .int a]) (fun d => d = tI' (clF n S (fun y => y ∈ l) a)) := fun a ha => tr_cluster (by omega) ok l ha
  generalize dS S = d0 at hcl
  generalize tI' l = d1 at hcl
  simp [m_is_free, g_is_free]
  refine (hcl x hx).eq ?_
  simp
  refine (lcGo_tr (f := D.int) (fun y => decide (y ≠ x)) D.int fun y m => ?_).eq ?_
  · simp
    by_cases c : y = x <;> simp [c]
  · have hfo : (clF n S (fun y => y ∈ l) x).filter (fun y => decide (y ≠ x)) = oth n S l x := rfl
    rw [hfo]
    have ho : ∀ y ∈ oth n S l x, 0 ≤ y ∧ y < n := fun y m => oth_rg m
    have hol := oth_len (n := n) (S := S) (l := l) (x := x)
    have hit : items (.lst ((oth n S l x).map D.int)) = some (dI (oth n S l x)) := rfl
    generalize hA : D.lst ((oth n S l x).map D.int) = A at hit
    refine (lc2Go_tr (f := D.int) (fun _ => true) (fun _ => oth n S l x) D.int (fun _ _ => true) (fun a b => .bl ((clF n S (fun y => y ∈ l) a).contains b)) fun a ma => ?_).bnd ?_
    · simp [hit]
      intro c mc
      refine (hcl a (ho a ma)).eq ?_
      simp
    · rintro ys rfl
      have e : (((oth n S l x).filter fun _ => true).flatMap fun a => ((oth n S l x).filter fun _ => true).map fun b => D.bl ((clF n S (fun y => y ∈ l) a).contains b)) = ((oth n S l x).flatMap fun a => (oth n S l x).map fun b => (clF n S (fun y => y ∈ l) a).contains b).map D.bl := by
        rw [List.filter_eq_self.mpr fun _ _ => rfl, List.map_flatMap]
        congr 1
        funext a
        rw [List.map_map]; rfl
      rw [e]
      have hlen : (((oth n S l x).flatMap fun a => (oth n S l x).map fun b => (clF n S (fun y => y ∈ l) a).contains b).map D.bl).length ≤ sizeLine := by
        rw [List.length_map, List.length_flatMap]
        simp only [List.length_map]
        rw [List.map_const', List.sum_replicate_nat]
        have : (oth n S l x).length * (oth n S l x).length ≤ 24 * 24 := Nat.mul_le_mul (by omega) (by omega)
        exact sl_big (by omega)
      rw [decide_eq_true hlen, gd_true, Mo.pure_bind, bAll_bl, Mo.ofO_some]
      simp
      unfold frB
      simp [List.all_flatMap]
/-- as long as nothing else holds for those done -/
structure FrI (x0 x1 x2 x3 : Sl) (p : Int → Bool) (done : List Int) (ρ : Se) : Prop where
  sh : ∃ t4 : Option D, ρ = [x0, x1, x2, x3, slB t4, .no]
  ok : done.all p = true
structure FrJ (x0 x1 x2 x3 : Sl) (b : Bool) (r : Out × Se) : Prop where
  sh : ∃ t4 : Option D, (b = true ∧ r = (.nx, [x0, x1, x2, x3, slB t4, .no])) ∨ (b = false ∧ r = (.rt (.bl false), [x0, x1, x2, x3, slB t4, .no]))
theorem frB_oth {n : Nat} {S : List (List Int)} {l : List Int} {x : Int} : frB n S l x = (clF n S (fun y => y ∈ l) x).all fun a => decide (a = x) || (oth n S l x).all fun b => (clF n S (fun y => y ∈ l) a).contains b := by
  have h : ∀ p : Int → Bool, (oth n S l x).all p = (clF n S (fun y => y ∈ l) x).all fun a => decide (a = x) || p a := fun p => by
    unfold oth
    rw [List.all_filter]
    congr 1
    funext a
    by_cases c : a = x <;> simp [c]
  exact h _
theorem tr_lfree {n : Nat} (hn : n ≤ 24) {S R : List (List Int)} (ok : OkSc n S) (oN : OkN n S R) (l : List Int) {x : Int} (hx : 0 ≤ x ∧ x < n) : Tr (m__law_free [dN R, tI' l, .int x]) (fun d => d = .bl (frB n S l x)) := by
  have hcl : ∀ a : Int, 0 ≤ a ∧ a < n → Tr (m__law_cluster [dN R, tI' l, .int a]) (fun d => d = tI' (clF n S (fun y => y ∈ l) a)) := fun a ha => tr_lcluster (by omega) ok oN (fun y => by rw [dIn_tI]; simp) ha
  generalize dN R = d0 at hcl
  generalize tI' l = d1 at hcl
  simp [m__law_free, g__law_free]
  refine (hcl x hx).eq ?_
  have hfr := frB_oth (n := n) (S := S) (l := l) (x := x)
  have hfo : (clF n S (fun y => y ∈ l) x).filter (fun y => decide (y ≠ x)) = oth n S l x := rfl
  obtain ⟨p, hp⟩ : ∃ p : Int → Bool, p = fun a => decide (a = x) || (oth n S l x).all fun b => (clF n S (fun y => y ∈ l) a).contains b := ⟨_, rfl⟩
  rw [← hp] at hfr
  have hpa : ∀ a, p a = (decide (a = x) || (oth n S l x).all fun b => (clF n S (fun y => y ∈ l) a).contains b) := fun a => by rw [hp]
  have hcr : ∀ y ∈ clF n S (fun y => y ∈ l) x, 0 ≤ y ∧ y < n := fun y m => clF_rg m
  generalize clF n S (fun y => y ∈ l) x = C at *
  have hit : items (tI' C) = some (dI C) := rfl
  generalize hA : tI' C = A at hit
  simp [hit]
  refine (foGo_tr (f := D.int) (P := FrI (.lok d0) (.lok d1) (.lok (.int x)) (.lok A) p) (R := FrJ (.lok d0) (.lok d1) (.lok (.int x)) (.lok A) (frB n S l x)) C (fun done a rest ρ e => ?_) (fun ρ => ?_) (rest := C) (done := []) rfl ⟨⟨none, rfl⟩, rfl⟩).bnd ?_
  · rintro ⟨⟨t4, rfl⟩, hok⟩
    refine ⟨[.lok d0, .lok d1, .lok (.int x), .lok A, .bor (.int a), .no], by simp, ?_⟩
    simp
    by_cases c : a = x
    · subst c
      simp
      exact ⟨⟨some (.int a), by simp [slB_some]⟩, by rw [List.all_append, hok, List.all_cons, hpa]; simp⟩
    · have c' : (a != x) = true := by simpa using c
      simp [c, c', hit]
      refine (lcGo_tr (f := D.int) (fun y => decide (y ≠ x)) (fun b => .bl ((clF n S (fun y => y ∈ l) a).contains b)) fun y m => ?_).eq ?_
      · simp
        refine ⟨by by_cases c : y = x <;> simp [c], fun _ => ?_⟩
        refine (hcl a (hcr a (by rw [e]; simp))).eq ?_
        simp
      · have e2 : (C.filter fun y => decide (y ≠ x)).map (fun b => D.bl ((clF n S (fun y => y ∈ l) a).contains b)) = ((oth n S l x).map fun b => (clF n S (fun y => y ∈ l) a).contains b).map D.bl := by
          rw [hfo, List.map_map]; rfl
        rw [e2, bAll_bl]
        have e3 : ((oth n S l x).map fun b => (clF n S (fun y => y ∈ l) a).contains b).all id = (oth n S l x).all fun b => (clF n S (fun y => y ∈ l) a).contains b := by
          rw [List.all_map]; rfl
        rw [e3]
        simp only [Mo.ofO_some, Mo.pure_bind]
        cases hb : (oth n S l x).all fun b => (clF n S (fun y => y ∈ l) a).contains b with
        | true =>
          simp
          refine ⟨⟨some (.int a), by simp [slB_some]⟩, ?_⟩
          rw [List.all_append, hok, List.all_cons, hpa, hb]
          simp
        | false =>
          simp
          refine ⟨some (.int a), .inr ⟨?_, by simp [slB_some]⟩⟩
          rw [hfr, e, List.all_append, List.all_cons, hpa, hb, hok]
          simp [c]
  · rintro ⟨⟨t4, rfl⟩, hok⟩
    exact ⟨t4, .inl ⟨hfr.trans hok, rfl⟩⟩
  · rintro r ⟨t4, ⟨hb, rfl⟩ | ⟨hb, rfl⟩⟩
    · simp [hb]
    · simp [hb]
end K87

set_option Elab.async false
set_option linter.all false
set_option maxRecDepth 100000
set_option maxHeartbeats 4000000
namespace K87
open PySem PySem.Spec L2 FL
/-! ### greedy -/
noncomputable def plS (n : Nat) (S : List (List Int)) (C left found : List Int) : List (Int × Int) := left.map fun x => (psz C (clF n S (fun y => y ∈ found) x), x)
def gnx : List (Int × Int) → Int
  | [] => 0
  | p :: ps => (minA ltP p ps).2
noncomputable def grd (n : Nat) (S : List (List Int)) (C : List Int) : Nat → List Int → List Int → List Int
  | 0, _, found => found
  | k + 1, left, found => grd n S C k (left.erase (gnx (plS n S C left found))) (found ++ [gnx (plS n S C left found)])
theorem gnx_min {l : List (Int × Int)} {m : Int × Int} (h : MinP l m) : gnx l = m.2 := by
  cases l with
  | nil => cases h.mem
  | cons p ps =>
    show (minA ltP p ps).2 = _
    rw [minA_eq ltP pTr ltP_irr pAs ltP_tot h]
theorem pl_min {n : Nat} {S : List (List Int)} {C left found : List Int} (h : left ≠ []) : ∃ m, MinP (plS n S C left found) m ∧ m.2 ∈ left ∧ gnx (plS n S C left found) = m.2 := by
  obtain ⟨m, hm⟩ := exMinP (l := plS n S C left found) (by unfold plS; simpa using h)
  refine ⟨m, hm, ?_, gnx_min hm⟩
  have := hm.mem
  unfold plS at this
  obtain ⟨x, mx, e⟩ := List.mem_map.mp this
  rw [← e]; exact mx
theorem dAdd_TT {a b : List Int} (h : a.length + b.length ≤ 100000) : dAdd (tI' a) (tI' b) = some (tI' (a ++ b)) := by
  show (if immL (a.map D.int) && immL (b.map D.int) && decide ((a.map D.int).length + (b.map D.int).length ≤ sizeLine) then some (D.tup (a.map D.int ++ b.map D.int)) else none) = _
  rw [immL_dI, immL_dI, decide_eq_true (sl_big (by simpa using h))]
  show some (D.tup (a.map D.int ++ b.map D.int)) = some (D.tup ((a ++ b).map D.int))
  rw [List.map_append]
theorem dIAdd_TT {a b : List Int} (h : a.length + b.length ≤ 100000) : dIAdd (tI' a) (tI' b) = some (tI' (a ++ b)) := dAdd_TT h
structure GI (n : Nat) (S : List (List Int)) (C : List Int) (lot tot : List Int) (x0 x1 x2 : Sl) (b : List Int × List Int) (ρ : Se) : Prop where
  sh : ∃ o5 o6 : Option D, ρ = [x0, x1, x2, .own (tI' b.2), .own (lI b.1), slO o5, slO o6]
  tot : grd n S C b.1.length b.1 b.2 = tot
  sub : ∀ x ∈ b.1, x ∈ lot
  len : b.2.length + b.1.length ≤ lot.length
structure GJ (tot : List Int) (x0 x1 x2 : Sl) (r : Out × Se) : Prop where
  sh : ∃ x4 x5 x6 : Sl, r = (.nx, [x0, x1, x2, .own (tI' tot), x4, x5, x6])
theorem tr_greedy {n : Nat} (hn : n ≤ 24) {S : List (List Int)} (ok : OkSc n S) {C : List Int} (oC : OkC n C) {lot : List Int} (hl : ∀ y ∈ lot, 0 ≤ y ∧ y < n) (ll : lot.length ≤ 24) : Tr (m_greedy_sequence [tI' C, dS S, tI' lot]) (fun d => d = tI' (grd n S C lot.length lot [])) := by
  have hcl : ∀ (l : List Int) (a : Int), 0 ≤ a ∧ a < n → Tr (m_cluster_behind [dS S, tI' l, .int a]) (fun d => d = tI' (clF n S (fun y => y ∈ l) a)) := fun l a ha => tr_cluster (by omega) ok l ha
  have hsz : ∀ (l : List Int), (∀ y ∈ l, 0 ≤ y ∧ y < n) → Tr (m_lot_size [tI' C, tI' l]) (fun d => d = .int (psz C l)) := fun l h => tr_lot oC h rfl
  have hb : bList [tI' lot] = some (lI lot) := bList_tup (immL_dI lot)
  generalize dS S = d1 at hcl
  generalize tI' C = d0 at hsz
  generalize hd2 : tI' lot = d2 at hb
  simp [m_greedy_sequence, g_greedy_sequence, hb]
  refine (sWhile_tr (β := List Int × List Int) (P := GI n S C lot (grd n S C lot.length lot []) (.bor d0) (.bor d1) (.bor d2)) (R := GJ (grd n S C lot.length lot []) (.bor d0) (.bor d1) (.bor d2)) (fun b => b.1.length) (b := (lot, [])) ⟨⟨none, none, rfl⟩, rfl, fun x m => m, by simp⟩ ?_).bnd ?_
  · rintro ⟨left, found⟩ ρ ⟨⟨o5, o6, rfl⟩, tot, sub, len⟩
    simp only at tot sub len
    have ht : found.length + 1 ≤ 100000 := by omega
    by_cases hn : left = []
    · subst hn
      simp [dNe_nil]
      have tot' : found = grd n S C lot.length lot [] := tot
      rw [← tot']
      exact ⟨_, _, _, rfl⟩
    · have hne : dNe (lI left) (.lst []) = some true := by
        rw [dNe_nil]
        cases left with
        | nil => exact absurd rfl hn
        | cons a l => rfl
      have hcl' := hcl found
      obtain ⟨m, hm, mm, eg⟩ := pl_min (n := n) (S := S) (C := C) (found := found) hn
      have mr := mRem_ap (i := 4) (f := fVar 6) (ρ := [.bor d0, .bor d1, .bor d2, .own (tI' found), .own (lI left), .own (.lst ((plS n S C left found).map pzD)), .own (.int m.2)]) (l := left) (x := m.2) rfl rfl mm
      have hadd := dIAdd_TT (a := found) (b := [m.2]) (by simpa using ht)
      generalize hfd : tI' found = df at hcl' mr hadd
      simp [hne]
      have hit : items (lI left) = some (dI left) := rfl
      refine (lcGo_id (f := D.int) (fun x => pzD (psz C (clF n S (fun y => y ∈ found) x), x)) fun x mx => ?_).eq ?_
      · simp
        refine (hcl' x (hl x (sub x mx))).eq ((hsz _ fun y my => clF_rg my).eq ?_)
        simp
      · have e2 : left.map (fun x => pzD (psz C (clF n S (fun y => y ∈ found) x), x)) = (plS n S C left found).map pzD := by
          unfold plS; rw [List.map_map]; rfl
        rw [e2]
        have e3 := bMin_pr hm
        have e4 : dIx (pzD m) (.int 1) = some (.int m.2) := atI_nat (j := 1) rfl
        generalize hL : D.lst ((plS n S C left found).map pzD) = L at e3 mr
        simp [e3, e4]
        rw [mr]
        simp
        have e5 : (D.tup [.int m.2]) = tI' [m.2] := rfl
        rw [e5, hadd]
        simp
        refine ⟨left.erase m.2, ⟨found ++ [m.2], ⟨⟨some L, some (.int m.2), rfl⟩, ?_, fun x mx => sub x (List.mem_of_mem_erase mx), ?_⟩⟩, ?_⟩
        · have l1 := List.length_erase_of_mem mm
          have l2 := List.length_pos_of_mem mm
          obtain ⟨k, ek⟩ : ∃ k, left.length = k + 1 := ⟨left.length - 1, by omega⟩
          rw [ek] at tot
          have tot' : grd n S C k (left.erase (gnx (plS n S C left found))) (found ++ [gnx (plS n S C left found)]) = grd n S C lot.length lot [] := tot
          rw [eg] at tot'
          have : (left.erase m.2).length = k := by omega
          simp only [this]
          exact tot'
        · have l1 := List.length_erase_of_mem mm
          have l2 := List.length_pos_of_mem mm
          simp; omega
        · have l1 := List.length_erase_of_mem mm
          have l2 := List.length_pos_of_mem mm
          omega
  · rintro r ⟨x4, x5, x6, rfl⟩
    simp
structure HI (n : Nat) (S : List (List Int)) (C : List Int) (lot tot : List Int) (x0 x1 x2 : Sl) (b : List Int × List Int) (ρ : Se) : Prop where
  sh : ∃ o5 : Option D, ρ = [x0, x1, x2, .own (lI b.1), .own (tI' b.2), slO o5, .no]
  tot : grd n S C b.1.length b.1 b.2 = tot
  sub : ∀ x ∈ b.1, x ∈ lot
  len : b.2.length + b.1.length ≤ lot.length
structure HJ (tot : List Int) (x0 x1 x2 : Sl) (r : Out × Se) : Prop where
  sh : ∃ x4 x5 x6 : Sl, r = (.nx, [x0, x1, x2, x4, .own (tI' tot), x5, x6])
theorem tr_lgreedy {n : Nat} (hn : n ≤ 24) {S R : List (List Int)} (ok : OkSc n S) (oN : OkN n S R) {C : List Int} (oC : OkC n C) {lot : List Int} (hl : ∀ y ∈ lot, 0 ≤ y ∧ y < n) (ll : lot.length ≤ 24) : Tr (m__law_greedy [tI' C, dN R, tI' lot]) (fun d => d = tI' (grd n S C lot.length lot [])) := by
  have hcl : ∀ (l : List Int) (a : Int), 0 ≤ a ∧ a < n → Tr (m__law_cluster [dN R, tI' l, .int a]) (fun d => d = tI' (clF n S (fun y => y ∈ l) a)) := fun l a ha => tr_lcluster (by omega) ok oN (fun y => by rw [dIn_tI]; simp) ha
  have hsz : ∀ (l : List Int), (∀ y ∈ l, 0 ≤ y ∧ y < n) → Tr (m__law_size [tI' C, tI' l]) (fun d => d = .int (psz C l)) := fun l h => tr_lsize oC h rfl
  have hb : bList [tI' lot] = some (lI lot) := bList_tup (immL_dI lot)
  generalize dN R = d1 at hcl
  generalize tI' C = d0 at hsz
  generalize hd2 : tI' lot = d2 at hb
  simp [m__law_greedy, g__law_greedy, hb]
  refine (sWhile_tr (β := List Int × List Int) (P := HI n S C lot (grd n S C lot.length lot []) (.bor d0) (.bor d1) (.bor d2)) (R := HJ (grd n S C lot.length lot []) (.bor d0) (.bor d1) (.bor d2)) (fun b => b.1.length) (b := (lot, [])) ⟨⟨none, rfl⟩, rfl, fun x m => m, by simp⟩ ?_).bnd ?_
  · rintro ⟨left, found⟩ ρ ⟨⟨o5, rfl⟩, tot, sub, len⟩
    simp only at tot sub len
    have ht : found.length + 1 ≤ 100000 := by omega
    by_cases hn : left = []
    · subst hn
      simp [dNe_nil]
      have tot' : found = grd n S C lot.length lot [] := tot
      rw [← tot']
      exact ⟨_, _, _, rfl⟩
    · have hne : dNe (lI left) (.lst []) = some true := by
        rw [dNe_nil]
        cases left with
        | nil => exact absurd rfl hn
        | cons a l => rfl
      have hcl' := hcl found
      obtain ⟨m, hm, mm, eg⟩ := pl_min (n := n) (S := S) (C := C) (found := found) hn
      obtain ⟨rs, e3⟩ := bSorted_pr hm
      have e4 : dIx (pzD m) (.int 1) = some (.int m.2) := atI_nat (j := 1) rfl
      have e6 : dIx (.lst (pzD m :: rs)) (.int 0) = some (pzD m) := atI_nat (j := 0) rfl
      generalize pzD m = pm at e3 e4 e6
      have mr := mRem_ap (i := 3) (f := fIx (fIx (fVar 5) (fC (.int 0))) (fC (.int 1))) (ρ := [.bor d0, .bor d1, .bor d2, .own (lI left), .own (tI' found), .own (.lst (pm :: rs)), .no]) (l := left) (x := m.2) rfl (by simp [e6, e4]) mm
      have hadd := dAdd_TT (a := found) (b := [m.2]) (by simpa using ht)
      generalize hfd : tI' found = df at hcl' mr hadd
      simp [hne]
      refine (lcGo_id (f := D.int) (fun x => pzD (psz C (clF n S (fun y => y ∈ found) x), x)) fun x mx => ?_).eq ?_
      · simp
        refine (hcl' x (hl x (sub x mx))).eq ((hsz _ fun y my => clF_rg my).eq ?_)
        simp
      · have e2 : left.map (fun x => pzD (psz C (clF n S (fun y => y ∈ found) x), x)) = (plS n S C left found).map pzD := by
          unfold plS; rw [List.map_map]; rfl
        rw [e2]
        generalize hL : D.lst ((plS n S C left found).map pzD) = L at e3
        simp [e3]
        rw [mr]
        simp [e6, e4]
        have e5 : (D.tup [.int m.2]) = tI' [m.2] := rfl
        rw [e5, hadd]
        simp
        refine ⟨left.erase m.2, ⟨found ++ [m.2], ⟨⟨some (.lst (pm :: rs)), rfl⟩, ?_, fun x mx => sub x (List.mem_of_mem_erase mx), ?_⟩⟩, ?_⟩
        · have l1 := List.length_erase_of_mem mm
          have l2 := List.length_pos_of_mem mm
          obtain ⟨k, ek⟩ : ∃ k, left.length = k + 1 := ⟨left.length - 1, by omega⟩
          rw [ek] at tot
          have tot' : grd n S C k (left.erase (gnx (plS n S C left found))) (found ++ [gnx (plS n S C left found)]) = grd n S C lot.length lot [] := tot
          rw [eg] at tot'
          have : (left.erase m.2).length = k := by omega
          simp only [this]
          exact tot'
        · have l1 := List.length_erase_of_mem mm
          have l2 := List.length_pos_of_mem mm
          simp; omega
        · have l1 := List.length_erase_of_mem mm
          have l2 := List.length_pos_of_mem mm
          omega
  · rintro r ⟨x4, x5, x6, rfl⟩
    simp
theorem grd_len {n : Nat} {S : List (List Int)} {C : List Int} : ∀ {k : Nat} {left found : List Int}, (grd n S C k left found).length ≤ k + found.length
  | 0, _, _ => by simp [grd]
  | k + 1, left, found => by
    unfold grd
    have := grd_len (n := n) (S := S) (C := C) (k := k) (left := left.erase (gnx (plS n S C left found))) (found := found ++ [gnx (plS n S C left found)])
    simp at this; omega
end K87

set_option Elab.async false
set_option linter.all false
set_option maxRecDepth 100000
set_option maxHeartbeats 4000000
namespace K87
open PySem PySem.Spec L2 FL
noncomputable def ffs (n : Nat) (S : List (List Int)) : Nat → List Int → List Int → List Int
  | 0, _, found => found
  | k + 1, left, found => match (left.filter (frB n S found)).head? with
    | none => found
    | some x => ffs n S k (left.erase x) (found ++ [x])
theorem dEq_nil (l : List Int) : dEq (lI l) (.lst []) = some l.isEmpty := by
  unfold dEq
  rw [okD_lI, show okD (.lst []) = true by decide]
  cases l with
  | nil => rfl
  | cons a l => rfl
theorem ffs_len {n : Nat} {S : List (List Int)} : ∀ {k : Nat} {left found : List Int}, (ffs n S k left found).length ≤ k + found.length
  | 0, _, _ => by simp [ffs]
  | k + 1, left, found => by
    unfold ffs
    split
    · omega
    · rename_i x _
      have := ffs_len (n := n) (S := S) (k := k) (left := left.erase x) (found := found ++ [x])
      simp at this; omega
structure BI (n : Nat) (S : List (List Int)) (lot tot : List Int) (x0 x1 : Sl) (done : List Nat) (ρ : Se) : Prop where
  sh : ∃ (left found : List Int) (t4 o5 : Option D), ρ = [x0, x1, .own (tI' found), .own (lI left), slB t4, slO o5, .no] ∧ ffs n S (lot.length - done.length) left found = tot ∧ (∀ x ∈ left, x ∈ lot) ∧ found.length ≤ done.length
structure BJ (tot : List Int) (x0 x1 : Sl) (r : Out × Se) : Prop where
  sh : ∃ x3 x4 x5 : Sl, r = (.nx, [x0, x1, .own (tI' tot), x3, x4, x5, .no])
theorem tr_ffirst {n : Nat} (hn : n ≤ 24) {S : List (List Int)} (ok : OkSc n S) {lot : List Int} (hl : ∀ y ∈ lot, 0 ≤ y ∧ y < n) (ll : lot.length ≤ 24) : Tr (m_free_first [dS S, tI' lot]) (fun d => d = tI' (ffs n S lot.length lot [])) := by
  have hfr : ∀ (l : List Int) (a : Int), 0 ≤ a ∧ a < n → Tr (m_is_free [dS S, tI' l, .int a]) (fun d => d = .bl (frB n S l a)) := fun l a ha => tr_free hn ok l ha
  have hb : bList [tI' lot] = some (lI lot) := bList_tup (immL_dI lot)
  have hbl : bLen [tI' lot] = some (.int (lot.length : Int)) := by rw [bLen_tup]; simp
  generalize dS S = d0 at hfr
  generalize hd1 : tI' lot = d1 at hb hbl
  have e0 : fRange1 (fCons (fCallB bLen (fCons (fVar 1) fNil)) fNil) [some d0, some d1, some (.tup []), some (lI lot), none, none, none] = Mo.pure ((List.range lot.length).map fun (i : Nat) => D.int (i : Int)) := fR1 (by simp [hbl]) (by omega)
  simp [m_free_first, g_free_first, hb]
  rw [e0, Mo.pure_bind]
  refine (foGo_tr (f := fun (i : Nat) => D.int (i : Int)) (P := BI n S lot (ffs n S lot.length lot []) (.lok d0) (.lok d1)) (R := BJ (ffs n S lot.length lot []) (.lok d0) (.lok d1)) (List.range lot.length) (fun done a rest ρ e => ?_) (fun ρ => ?_) (rest := List.range lot.length) (done := []) rfl ⟨lot, [], none, none, rfl, rfl, fun x m => m, by simp⟩).bnd ?_
  · rintro ⟨left, found, t4, o5, rfl, tot, sub, lf⟩
    have ld : done.length < lot.length := by
      have : (List.range lot.length).length = lot.length := List.length_range
      rw [e] at this; simp at this; omega
    refine ⟨[.lok d0, .lok d1, .own (tI' found), .own (lI left), .bor (.int a), slO o5, .no], by simp, ?_⟩
    have hfr' := hfr found
    have hadd : ∀ x, dIAdd (tI' found) (tI' [x]) = some (tI' (found ++ [x])) := fun x => dIAdd_TT (by simp; omega)
    generalize hdf : tI' found = df at hfr' hadd
    simp
    refine (lcGo_tr (f := D.int) (frB n S found) D.int fun y m => ?_).eq ?_
    · simp
      exact (hfr' y (hl y (sub y m))).eq (by simp)
    · obtain ⟨k, hk⟩ : ∃ k, lot.length - done.length = k + 1 := ⟨lot.length - done.length - 1, by omega⟩
      have hk' : lot.length - (done ++ [a]).length = k := by simp; omega
      rw [hk] at tot
      have hsp : (match (left.filter (frB n S found)).head? with | none => found | some x => ffs n S k (left.erase x) (found ++ [x])) = ffs n S lot.length lot [] := tot
      have he := dEq_nil (left.filter (frB n S found))
      cases hh : (left.filter (frB n S found)).head? with
      | none =>
        rw [hh] at hsp
        have e1 : left.filter (frB n S found) = [] := List.head?_eq_none_iff.mp hh
        have he0 : dEq (D.lst []) (D.lst []) = some true := dEq_nil []
        have hsp' : found = ffs n S lot.length lot [] := hsp
        rw [e1]
        simp [he0]
        rw [← hsp', ← hdf]
        exact ⟨_, _, _, rfl⟩
      | some x =>
        rw [hh] at hsp
        have e1 : dIx (lI (left.filter (frB n S found))) (.int 0) = some (.int x) := by
          show atI (dI _) ((0 : Nat) : Int) = _
          refine atI_nat ?_
          rw [List.getElem?_map, ← List.head?_eq_getElem?, hh]; rfl
        have mx : x ∈ left := (List.mem_filter.mp (List.mem_of_head? hh)).1
        have e2 : (left.filter (frB n S found)).isEmpty = false := by
          cases h : left.filter (frB n S found) with
          | nil => rw [h] at hh; cases hh
          | cons _ _ => rfl
        rw [e2] at he
        generalize hAA : D.lst ((left.filter (frB n S found)).map D.int) = A
        have e1 : dIx A (.int 0) = some (.int x) := by rw [← hAA]; exact e1
        have he : dEq A (.lst []) = some false := by rw [← hAA]; exact he
        have mr := mRem_ap (i := 3) (f := fIx (fVar 5) (fC (.int 0))) (ρ := [.lok d0, .lok d1, .own df, .own (lI left), .bor (.int a), .own A, .no]) (l := left) (x := x) rfl (by simp [e1]) mx
        simp [he]
        rw [mr]
        simp [e1]
        have e5 : (D.tup [.int x]) = tI' [x] := rfl
        rw [e5, hadd x]
        simp
        refine ⟨left.erase x, found ++ [x], some (.int a), some A, rfl, ?_, fun y my => sub y (List.mem_of_mem_erase my), by simp; omega⟩
        rw [hk']; exact hsp
  · rintro ⟨left, found, t4, o5, rfl, tot, sub, lf⟩
    rw [List.length_range, Nat.sub_self] at tot
    have tot' : found = ffs n S lot.length lot [] := tot
    rw [← tot']
    exact ⟨_, _, _, rfl⟩
  · rintro r ⟨x3, x4, x5, rfl⟩
    simp
structure DI (n : Nat) (S : List (List Int)) (lot tot : List Int) (x0 x1 : Sl) (done : List Nat) (ρ : Se) : Prop where
  sh : ∃ (left found : List Int) (t4 o5 : Option D), ρ = [x0, x1, .own (lI left), .own (tI' found), slB t4, slO o5, .no] ∧ ffs n S (lot.length - done.length) left found = tot ∧ (∀ x ∈ left, x ∈ lot) ∧ found.length ≤ done.length
structure DJ (tot : List Int) (x0 x1 : Sl) (r : Out × Se) : Prop where
  sh : ∃ x2 x4 x5 : Sl, r = (.nx, [x0, x1, x2, .own (tI' tot), x4, x5, .no]) ∨ r = (.rt (tI' tot), [x0, x1, x2, .own (tI' tot), x4, x5, .no])
theorem dSl_1 {l : List Int} : dSl none (some (1 : Int)) (lI l) = some (lI (l.take 1)) := by
  have := dSl_takeL (immL_dI l) 1
  rw [← List.map_take] at this
  exact this
theorem tr_lffirst {n : Nat} (hn : n ≤ 24) {S R : List (List Int)} (ok : OkSc n S) (oN : OkN n S R) {lot : List Int} (hl : ∀ y ∈ lot, 0 ≤ y ∧ y < n) (ll : lot.length ≤ 24) : Tr (m__law_free_first [dN R, tI' lot]) (fun d => d = tI' (ffs n S lot.length lot [])) := by
  have hfr : ∀ (l : List Int) (a : Int), 0 ≤ a ∧ a < n → Tr (m__law_free [dN R, tI' l, .int a]) (fun d => d = .bl (frB n S l a)) := fun l a ha => tr_lfree hn ok oN l ha
  have hb : bList [tI' lot] = some (lI lot) := bList_tup (immL_dI lot)
  have hbl : bLen [tI' lot] = some (.int (lot.length : Int)) := by rw [bLen_tup]; simp
  generalize dN R = d0 at hfr
  generalize hd1 : tI' lot = d1 at hb hbl
  have e0 : fRange1 (fCons (fCallB bLen (fCons (fVar 1) fNil)) fNil) [some d0, some d1, some (lI lot), some (.tup []), none, none, none] = Mo.pure ((List.range lot.length).map fun (i : Nat) => D.int (i : Int)) := fR1 (by simp [hbl]) (by omega)
  simp [m__law_free_first, g__law_free_first, hb]
  rw [e0, Mo.pure_bind]
  refine (foGo_tr (f := fun (i : Nat) => D.int (i : Int)) (P := DI n S lot (ffs n S lot.length lot []) (.lok d0) (.lok d1)) (R := DJ (ffs n S lot.length lot []) (.lok d0) (.lok d1)) (List.range lot.length) (fun done a rest ρ e => ?_) (fun ρ => ?_) (rest := List.range lot.length) (done := []) rfl ⟨lot, [], none, none, rfl, rfl, fun x m => m, by simp⟩).bnd ?_
  · rintro ⟨left, found, t4, o5, rfl, tot, sub, lf⟩
    have ld : done.length < lot.length := by
      have : (List.range lot.length).length = lot.length := List.length_range
      rw [e] at this; simp at this; omega
    refine ⟨[.lok d0, .lok d1, .own (lI left), .own (tI' found), .bor (.int a), slO o5, .no], by simp, ?_⟩
    have hfr' := hfr found
    have hadd : ∀ x, dAdd (tI' found) (tI' [x]) = some (tI' (found ++ [x])) := fun x => dAdd_TT (by simp; omega)
    generalize hdf : tI' found = df at hfr' hadd
    simp
    refine (lcGo_tr (f := D.int) (frB n S found) D.int fun y m => ?_).eq ?_
    · simp
      exact (hfr' y (hl y (sub y m))).eq (by simp)
    · obtain ⟨k, hk⟩ : ∃ k, lot.length - done.length = k + 1 := ⟨lot.length - done.length - 1, by omega⟩
      have hk' : lot.length - (done ++ [a]).length = k := by simp; omega
      rw [hk] at tot
      have hsp : (match (left.filter (frB n S found)).head? with | none => found | some x => ffs n S k (left.erase x) (found ++ [x])) = ffs n S lot.length lot [] := tot
      have hs1 := dSl_1 (l := left.filter (frB n S found))
      have he := dEq_nil ((left.filter (frB n S found)).take 1)
      rw [hs1, Mo.ofO_some, Mo.pure_bind]
      cases hh : (left.filter (frB n S found)).head? with
      | none =>
        rw [hh] at hsp
        have e1 : left.filter (frB n S found) = [] := List.head?_eq_none_iff.mp hh
        have he0 : dEq (D.lst []) (D.lst []) = some true := dEq_nil []
        have hsp' : found = ffs n S lot.length lot [] := hsp
        have he1 : dEq (lI []) (D.lst []) = some true := dEq_nil []
        rw [e1]
        simp [he1]
        rw [← hsp', ← hdf]
        exact ⟨_, _, _, .inr rfl⟩
      | some x =>
        rw [hh] at hsp
        have e1 : dIx (lI ((left.filter (frB n S found)).take 1)) (.int 0) = some (.int x) := by
          cases h : left.filter (frB n S found) with
          | nil => rw [h] at hh; cases hh
          | cons y l =>
            rw [h] at hh; cases hh
            exact atI_nat (j := 0) rfl
        have mx : x ∈ left := (List.mem_filter.mp (List.mem_of_head? hh)).1
        have e2 : ((left.filter (frB n S found)).take 1).isEmpty = false := by
          cases h : left.filter (frB n S found) with
          | nil => rw [h] at hh; cases hh
          | cons _ _ => rfl
        rw [e2] at he
        generalize lI ((left.filter (frB n S found)).take 1) = A at he e1
        have mr := mRem_ap (i := 2) (f := fIx (fVar 5) (fC (.int 0))) (ρ := [.lok d0, .lok d1, .own (lI left), .own df, .bor (.int a), .own A, .no]) (l := left) (x := x) rfl (by simp [e1]) mx
        simp [he]
        rw [mr]
        simp [e1]
        have e5 : (D.tup [.int x]) = tI' [x] := rfl
        rw [e5, hadd x]
        simp
        refine ⟨left.erase x, found ++ [x], some (.int a), some A, rfl, ?_, fun y my => sub y (List.mem_of_mem_erase my), by simp; omega⟩
        rw [hk']; exact hsp
  · rintro ⟨left, found, t4, o5, rfl, tot, sub, lf⟩
    rw [List.length_range, Nat.sub_self] at tot
    have tot' : found = ffs n S lot.length lot [] := tot
    rw [← tot']
    exact ⟨_, _, _, .inl rfl⟩
  · rintro r ⟨x3, x4, x5, rfl | rfl⟩
    · simp
    · simp
end K87

set_option Elab.async false
set_option linter.all false
set_option maxRecDepth 100000
set_option maxHeartbeats 4000000
namespace K87
open PySem PySem.Spec L2 FL
/-! ### products -/
theorem fold_mul (l : List Int) (a : Int) : l.foldl (· * ·) a = a * l.foldl (· * ·) 1 := by
  induction l generalizing a with
  | nil => simp
  | cons b l ih =>
    rw [List.foldl_cons, ih (a * b), List.foldl_cons, ih (1 * b)]
    rw [Int.one_mul, Int.mul_assoc]
theorem psz_nil (C : List Int) : psz C [] = 1 := rfl
theorem psz_cons (C : List Int) (a : Int) (l : List Int) : psz C (a :: l) = cnt C a * psz C l := by
  unfold psz
  rw [List.map_cons, List.foldl_cons, fold_mul, Int.one_mul]
theorem psz_pos {n : Nat} {C : List Int} (oC : OkC n C) : ∀ l : List Int, 1 ≤ psz C l
  | [] => by rw [psz_nil]; decide
  | a :: l => by
    rw [psz_cons]
    have h1 := (cnt_rg oC a).1
    have h2 := psz_pos oC l
    have := Int.mul_le_mul h1 h2 (by decide) (by omega)
    simpa using this
theorem psz_perm {C : List Int} {l m : List Int} (p : l.Perm m) : psz C l = psz C m := by
  induction p with
  | nil => rfl
  | cons a _ ih => rw [psz_cons, psz_cons, ih]
  | swap a b l => rw [psz_cons, psz_cons, psz_cons, psz_cons, Int.mul_left_comm]
  | trans _ _ h1 h2 => exact h1.trans h2
theorem psz_sub {n : Nat} {C : List Int} (oC : OkC n C) {l m : List Int} (s : l.Sublist m) : psz C l ≤ psz C m := by
  induction s with
  | slnil => exact Int.le_refl _
  | cons a _ ih =>
    rw [psz_cons]
    have h1 := (cnt_rg oC a).1
    have h2 := psz_pos oC (by assumption : List Int)
    rename_i l1 l2 _
    have h3 := psz_pos oC l2
    have := Int.mul_le_mul h1 (Int.le_refl (psz C l2)) (by omega) (by omega)
    omega
  | cons_cons a _ ih =>
    rw [psz_cons, psz_cons]
    have h1 := (cnt_rg oC a).1
    exact Int.mul_le_mul_of_nonneg_left ih (by omega)
/-! ### cores -/
structure CI (sz : List Int → Int → Int) (lot : List Int) (best : Int) (core left : List Int) : Prop where
  sub : left.Sublist lot
  i1 : ∀ L : List Int, L ≠ [] → (∀ y ∈ L, y ∈ lot) → (∀ x ∈ L, best < sz L x) → ∀ x ∈ L, x ∈ left
  i2 : (best = 0 ∧ core = [] ∧ left = lot) ∨ (core ≠ [] ∧ core.Sublist lot ∧ (∀ x ∈ core, best ≤ sz core x) ∧ (∃ x ∈ core, sz core x = best) ∧ ∀ L : List Int, L ≠ [] → (∀ y ∈ L, y ∈ lot) → (∀ x ∈ L, best ≤ sz L x) → ∀ x ∈ L, x ∈ core)
section
variable {sz : List Int → Int → Int} {lot : List Int}
theorem CI.start : CI sz lot 0 [] lot := ⟨.refl _, fun L _ h _ => h, .inl ⟨rfl, rfl, rfl⟩⟩
theorem CI.step (mono : ∀ L L' : List Int, (∀ y ∈ L, y ∈ L') → ∀ x, sz L x ≤ sz L' x) (pos : ∀ L x, 1 ≤ sz L x) {best m : Int} {core left left' : List Int} (h : CI sz lot best core left) (hm : ∀ x ∈ left, m ≤ sz left x) (hx : ∃ x ∈ left, sz left x = m)
    (s : left'.Sublist left) (hr : ∀ x ∈ left, x ∉ left' → sz left x ≤ m) : CI sz lot (if m > best then m else best) (if m > best then left else core) left' := by
  have hb : m ≤ (if m > best then m else best) := by split <;> omega
  have hb2 : best ≤ (if m > best then m else best) := by split <;> omega
  refine ⟨s.trans h.sub, fun L hn hl hL x mx => ?_, ?_⟩
  · have hL' : ∀ y ∈ L, y ∈ left := h.i1 L hn hl fun y my => by have := hL y my; omega
    refine Classical.byContradiction fun c => ?_
    have h1 := hr x (hL' x mx) c
    have h2 := mono L left hL' x
    have h3 := hL x mx
    omega
  · by_cases c : m > best
    · rw [if_pos c, if_pos c]
      obtain ⟨x, mx, ex⟩ := hx
      have hne : left ≠ [] := fun e => by rw [e] at mx; cases mx
      refine .inr ⟨hne, h.sub, hm, ⟨x, mx, ex⟩, fun L hn hl hL => h.i1 L hn hl fun y my => ?_⟩
      have := hL y my
      omega
    · rw [if_neg c, if_neg c]
      rcases h.i2 with ⟨e1, e2, e3⟩ | h2
      · obtain ⟨x, mx, ex⟩ := hx
        have := pos left x
        omega
      · exact .inr h2
theorem CI.core_sub {b : Int} {K l : List Int} (h : CI sz lot b K l) : K.Sublist lot := by
  rcases h.i2 with ⟨_, e, _⟩ | h
  · rw [e]; exact List.nil_sublist _
  · exact h.2.1
theorem CI.uniq {b b' : Int} {K K' : List Int} (so : lot.Pairwise (· < ·)) (h : CI sz lot b K []) (h' : CI sz lot b' K' []) : b = b' ∧ K = K' := by
  rcases h.i2 with ⟨e1, e2, e3⟩ | ⟨n1, s1, a1, ⟨x1, m1, q1⟩, u1⟩
  · rcases h'.i2 with ⟨f1, f2, f3⟩ | ⟨n2, s2, a2, ⟨x2, m2, q2⟩, u2⟩
    · exact ⟨e1.trans f1.symm, e2.trans f2.symm⟩
    · rw [← e3] at s2
      exact absurd (List.sublist_nil.mp s2) n2
  · rcases h'.i2 with ⟨f1, f2, f3⟩ | ⟨n2, s2, a2, ⟨x2, m2, q2⟩, u2⟩
    · rw [← f3] at s1
      exact absurd (List.sublist_nil.mp s1) n1
    · have l1 : ¬ b < b' := fun c => by
        have := h.i1 K' n2 (fun y m => s2.subset m) fun x m => by have := a2 x m; omega
        exact absurd (this x2 m2) (by simp)
      have l2 : ¬ b' < b := fun c => by
        have := h'.i1 K n1 (fun y m => s1.subset m) fun x m => by have := a1 x m; omega
        exact absurd (this x1 m1) (by simp)
      have e : b = b' := by omega
      subst e
      refine ⟨rfl, ?_⟩
      have t1 := u2 K n1 (fun y m => s1.subset m) a1
      have t2 := u1 K' n2 (fun y m => s2.subset m) a2
      have p1 := so.sublist s1
      have p2 := so.sublist s2
      have pm : K.Perm K' := (List.perm_ext_iff_of_nodup (p1.imp fun h => Int.ne_of_lt h) (p2.imp fun h => Int.ne_of_lt h)).mpr fun a => ⟨t1 a, t2 a⟩
      exact pm.eq_of_pairwise (le := fun a b => a ≤ b) (fun a b _ _ h1 h2 => Int.le_antisymm h1 h2) (p1.imp fun h => Int.le_of_lt h) (p2.imp fun h => Int.le_of_lt h)
end
def kpS (n : Nat) (S : List (List Int)) (lot L : List Int) (x : Int) : List Int := ((List.range n).map fun (k : Nat) => (k : Int)).filter fun y => decide (y = x) || ((tie S x).contains y && (L.contains y || !lot.contains y))
def szS (n : Nat) (S : List (List Int)) (C lot L : List Int) (x : Int) : Int := psz C (kpS n S lot L x)
theorem filter_mono {α : Type} {p q : α → Bool} (h : ∀ a, p a = true → q a = true) : ∀ l : List α, (l.filter p).Sublist (l.filter q)
  | [] => by simp
  | a :: l => by
    have ih := filter_mono h l
    by_cases c : p a = true
    · rw [List.filter_cons_of_pos c, List.filter_cons_of_pos (h a c)]; exact ih.cons_cons a
    · rw [List.filter_cons_of_neg c]
      by_cases d : q a = true
      · rw [List.filter_cons_of_pos d]; exact ih.cons a
      · rw [List.filter_cons_of_neg d]; exact ih
theorem szS_mono {n : Nat} {S : List (List Int)} {C lot : List Int} (oC : OkC n C) (L L' : List Int) (h : ∀ y ∈ L, y ∈ L') (x : Int) : szS n S C lot L x ≤ szS n S C lot L' x := by
  refine psz_sub oC (filter_mono (fun y hy => ?_) _)
  simp at hy ⊢
  rcases hy with hy | ⟨h1, h2 | h2⟩
  · exact .inl hy
  · exact .inr ⟨h1, .inl (h y h2)⟩
  · exact .inr ⟨h1, .inr h2⟩
theorem kpS_rg {n : Nat} {S : List (List Int)} {lot L : List Int} {x y : Int} (h : y ∈ kpS n S lot L x) : 0 ≤ y ∧ y < n := mem_rng.mp (List.mem_filter.mp h).1
theorem kpS_sorted {n : Nat} {S : List (List Int)} {lot L : List Int} {x : Int} : (kpS n S lot L x).Pairwise (· < ·) := (rng_sorted n).sublist List.filter_sublist
theorem tr_tsize {n : Nat} (hn : n ≤ 24) {S : List (List Int)} (ok : OkSc n S) {C : List Int} (oC : OkC n C) {lot L away : List Int} (ha : ∀ y, y ∈ away ↔ y ∈ lot ∧ y ∉ L) {x : Int} (hx : 0 ≤ x ∧ x < n) : Tr (m_tied_size [tI' C, dS S, lI away, .int x]) (fun d => d = .int (szS n S C lot L x)) := by
  have htie := tr_tied ok x
  have hsz : ∀ (l : List Int), (∀ y ∈ l, 0 ≤ y ∧ y < n) → Tr (m_lot_size [tI' C, lI l]) (fun d => d = .int (psz C l)) := fun l h => tr_lot oC h rfl
  have hin : ∀ y : Int, dIn (.int y) (lI away) = some (away.contains y) := fun y => dIn_lI y away
  generalize dS S = d1 at htie
  generalize tI' C = d0 at hsz
  generalize lI away = d2 at hin
  simp [m_tied_size, g_tied_size]
  refine htie.eq ?_
  simp
  refine (lcGo_tr (f := D.int) (fun y => !away.contains y) D.int fun y m => ?_).eq ?_
  · simp [hin]
  · have hlen : ((tie S x).filter fun y => !away.contains y).length + 1 < scanBound := by
      have h1 := List.length_filter_le (fun y => !away.contains y) (tie S x)
      have h2 := tie_len ok x
      unfold scanBound; omega
    rw [intsOf_map, Mo.ofO_some, Mo.pure_bind, decide_eq_true hlen, gd_true, Mo.pure_bind]
    generalize hse : setI ((tie S x).filter fun y => !away.contains y) = se
    have hmem : ∀ y, y ∈ insI se x ↔ y ∈ kpS n S lot L x := fun y => by
      rw [mem_insI, ← hse, setI_mem]
      unfold kpS
      rw [List.mem_filter, List.mem_filter, mem_rng]
      have hay := ha y
      constructor
      · rintro (⟨h1, h2⟩ | rfl)
        · refine ⟨tie_rg ok h1, ?_⟩
          simp at h2 ⊢
          refine .inr ⟨h1, ?_⟩
          by_cases c : y ∈ L
          · exact .inl c
          · exact .inr fun q => h2 (hay.mpr ⟨q, c⟩)
        · exact ⟨hx, by simp⟩
      · rintro ⟨_, h2⟩
        simp at h2
        rcases h2 with h2 | ⟨h1, h2⟩
        · exact .inr h2
        · refine .inl ⟨h1, ?_⟩
          simp
          intro q
          have := hay.mp q
          rcases h2 with h2 | h2
          · exact this.2 h2
          · exact h2 this.1
    have hsel : se.length + 1 < scanBound := by
      have : se.length ≤ n := nodup_len (by rw [← hse]; exact setI_nd) fun y m => kpS_rg ((hmem y).mp (mem_insI.mpr (.inl m)))
      unfold scanBound; omega
    have hnd : (insI se x).Nodup := insI_nodup (by rw [← hse]; exact setI_nd)
    have hl64 : (insI se x).length < 64 := by
      have := nodup_len hnd fun y m => kpS_rg ((hmem y).mp m)
      omega
    have es : bSorted [.seti (insI se x)] = some (lI (kpS n S lot L x)) := by rw [bSorted_set hl64, sortI kpS_sorted hmem hnd]
    simp [hsel, es]
    exact (hsz _ fun y m => kpS_rg m).imp fun d e => e
theorem law_kp {n : Nat} {S R : List (List Int)} (ok : OkSc n S) (oN : OkN n S R) {lot L : List Int} {x : Int} (hx : 0 ≤ x ∧ x < n) : (x :: (nb R x).filter fun y => L.contains y || !lot.contains y).Perm (kpS n S lot L x) := by
  refine (List.perm_ext_iff_of_nodup ?_ (kpS_sorted.imp fun h => Int.ne_of_lt h)).mpr fun y => ?_
  · refine List.nodup_cons.mpr ⟨fun m => ?_, (nb_nd oN hx).filter _⟩
    exact ((mem_nb oN hx).mp (List.mem_filter.mp m).1).1 rfl
  · rw [List.mem_cons, List.mem_filter, mem_nb oN hx]
    unfold kpS
    rw [List.mem_filter, mem_rng]
    constructor
    · rintro (rfl | ⟨⟨h1, h2⟩, h3⟩)
      · exact ⟨hx, by simp⟩
      · refine ⟨tie_rg ok h2, ?_⟩
        simp at h3 ⊢
        exact .inr ⟨h2, h3⟩
    · rintro ⟨_, h⟩
      simp at h
      by_cases c : y = x
      · exact .inl c
      · rcases h with h | ⟨h1, h2⟩
        · exact absurd h c
        · exact .inr ⟨⟨c, h1⟩, by simpa using h2⟩
end K87

set_option Elab.async false
set_option linter.all false
set_option maxRecDepth 100000
set_option maxHeartbeats 4000000
namespace K87
open PySem PySem.Spec L2 FL
structure Co where
  left : List Int
  away : List Int
  best : Int
  core : List Int
structure UI (sz : List Int → Int → Int) (lot : List Int) (x0 x1 x2 : Sl) (b : Co) (ρ : Se) : Prop where
  sh : ∃ o7 o8 : Option D, ρ = [x0, x1, x2, .own (.int b.best), .own (tI' b.core), .own (lI b.left), .own (lI b.away), slO o7, slO o8]
  ci : CI sz lot b.best b.core b.left
  aw : ∀ y, y ∈ b.away ↔ y ∈ lot ∧ y ∉ b.left
  len : b.away.length + b.left.length ≤ lot.length
structure UJ (sz : List Int → Int → Int) (lot : List Int) (x0 x1 x2 : Sl) (r : Out × Se) : Prop where
  sh : ∃ (b : Int) (K : List Int) (x5 x6 x7 x8 : Sl), r = (.nx, [x0, x1, x2, .own (.int b), .own (tI' K), x5, x6, x7, x8]) ∧ CI sz lot b K []
theorem tr_core {n : Nat} (hn : n ≤ 24) {S : List (List Int)} (ok : OkSc n S) {C : List Int} (oC : OkC n C) {lot : List Int} (hl : ∀ y ∈ lot, 0 ≤ y ∧ y < n) (so : lot.Pairwise (· < ·)) (ll : lot.length ≤ 24) :
    Tr (m_core_floor [tI' C, dS S, tI' lot]) (fun d => ∃ b K, d = .tup [.int b, tI' K] ∧ CI (szS n S C lot) lot b K []) := by
  have nl : lot.Nodup := so.imp fun h => Int.ne_of_lt h
  have hts : ∀ (L away : List Int), (∀ y, y ∈ away ↔ y ∈ lot ∧ y ∉ L) → ∀ x : Int, 0 ≤ x ∧ x < n → Tr (m_tied_size [tI' C, dS S, lI away, .int x]) (fun d => d = .int (szS n S C lot L x)) := fun L away h x hx => tr_tsize hn ok oC h hx
  have hb : bList [tI' lot] = some (lI lot) := bList_tup (immL_dI lot)
  have mono := szS_mono (n := n) (S := S) (C := C) (lot := lot) oC
  have pos : ∀ L x, 1 ≤ szS n S C lot L x := fun L x => psz_pos oC _
  generalize szS n S C lot = sz at hts mono pos
  generalize dS S = d1 at hts
  generalize tI' C = d0 at hts
  generalize hd2 : tI' lot = d2 at hb
  simp [m_core_floor, g_core_floor, hb]
  refine (sWhile_tr (β := Co) (P := UI sz lot (.bor d0) (.bor d1) (.bor d2)) (R := UJ sz lot (.bor d0) (.bor d1) (.bor d2)) (fun b => b.left.length) (b := ⟨lot, [], 0, []⟩) ⟨⟨none, none, rfl⟩, CI.start, fun y => ?_, by simp⟩ ?_).bnd ?_
  · simp
  · rintro ⟨left, away, best, core⟩ ρ ⟨⟨o7, o8, rfl⟩, ci, aw, len⟩
    simp only at ci aw len
    by_cases hne : left = []
    · subst hne
      simp [dNe_nil]
      exact ⟨_, _, _, _, _, _, rfl, ci⟩
    · have hdn : dNe (lI left) (.lst []) = some true := by
        rw [dNe_nil]
        cases left with
        | nil => exact absurd rfl hne
        | cons a l => rfl
      have hts' := hts left away aw
      obtain ⟨m, hm⟩ := exMinP (l := left.map fun x => (sz left x, x)) (by simpa using hne)
      obtain ⟨x, mx, ex⟩ := List.mem_map.mp hm.mem
      have hm1 : m = (sz left x, x) := ex.symm
      subst hm1
      have hmin : ∀ y ∈ left, sz left x ≤ sz left y := fun y my => by
        have := hm.le (sz left y, y) (List.mem_map.mpr ⟨y, my, rfl⟩)
        unfold FL.ltP at this
        simp only at this
        omega
      have nleft : left.Nodup := nl.sublist ci.sub
      have hst := ci.step mono pos (m := sz left x) (left' := left.erase x) hmin ⟨x, mx, rfl⟩ List.erase_sublist fun y my hy => by
        by_cases c : y = x
        · rw [c]; exact Int.le_refl _
        · exact absurd ((List.mem_erase_of_ne c).mpr my) hy
      have e3 := bMin_pr hm
      have ln : left.length - 1 < left.length := by have := List.length_pos_of_mem mx; omega
      have ga : away.length < sizeLine := by have := List.length_pos_of_mem mx; rw [sizeLine_eq]; omega
      have bt := bTuple_lI left
      have hL : D.lst (away.map D.int ++ [.int x]) = lI (away ++ [x]) := by simp
      have fin : ∀ (b' : Int) (c' : List Int), b' = (if sz left x > best then sz left x else best) → c' = (if sz left x > best then left else core) → ∃ b2 : Co, UI sz lot (.bor d0) (.bor d1) (.bor d2) b2 [.bor d0, .bor d1, .bor d2, .own (.int b'), .own (tI' c'), .own (lI (left.erase x)), .own (.lst (away.map D.int ++ [.int x])), .own (.int (sz left x)), .own (.int x)] ∧ b2.left.length < left.length := fun b' c' e1 e2 => by
        subst e1 e2
        refine ⟨⟨left.erase x, away ++ [x], _, _⟩, ⟨⟨some (.int (sz left x)), some (.int x), by rw [hL]; rfl⟩, hst, fun y => ?_, ?_⟩, ?_⟩
        · rw [List.mem_append, aw, List.mem_singleton]
          constructor
          · rintro (⟨h1, h2⟩ | rfl)
            · exact ⟨h1, fun q => h2 (List.mem_of_mem_erase q)⟩
            · exact ⟨ci.sub.subset mx, fun q => (nleft.mem_erase_iff.mp q).1 rfl⟩
          · rintro ⟨h1, h2⟩
            by_cases c : y = x
            · exact .inr c
            · exact .inl ⟨h1, fun q => h2 ((List.mem_erase_of_ne c).mpr q)⟩
        · rw [List.length_erase_of_mem mx, List.length_append, List.length_singleton]
          have := List.length_pos_of_mem mx
          omega
        · simp only; rw [List.length_erase_of_mem mx]; exact ln
      have mr1 := fun (b' c' : Sl) => mRem_ap (i := 5) (f := fVar 8) (ρ := [.bor d0, .bor d1, .bor d2, b', c', .own (lI left), .own (lI away), .own (.int (sz left x)), .own (.int x)]) (l := left) (x := x) rfl rfl mx
      simp [hdn]
      refine (lcGo_id (f := D.int) (fun y => FL.pzD (sz left y, y)) fun y my => ?_).eq ?_
      · have hy := hl y (ci.sub.subset my)
        generalize lI away = da at hts'
        simp
        refine (hts' y hy).eq ?_
        simp
      · have e2 : left.map (fun y => FL.pzD (sz left y, y)) = (left.map fun x => (sz left x, x)).map pzD := by rw [List.map_map]; rfl
        rw [e2, e3]
        simp
        by_cases c : best < sz left x
        · rw [if_pos c]
          have c' : sz left x > best := c
          rw [bt]
          simp
          rw [mr1]
          simp [ga]
          exact fin _ _ (by rw [if_pos c']) (by rw [if_pos c'])
        · rw [if_neg c]
          have c' : ¬ sz left x > best := c
          simp
          rw [mr1]
          simp [ga]
          exact fin _ _ (by rw [if_neg c']) (by rw [if_neg c'])
  · rintro r ⟨b, K, x5, x6, x7, x8, rfl, ci⟩
    simp
    exact ⟨b, K, ⟨rfl, rfl⟩, ci⟩
end K87

set_option Elab.async false
set_option linter.all false
set_option maxRecDepth 100000
set_option maxHeartbeats 4000000
namespace K87
open PySem PySem.Spec L2 FL
structure MI (sz : List Int → Int → Int) (lot : List Int) (x0 x1 x2 : Sl) (b : Co) (ρ : Se) : Prop where
  sh : ∃ o5 o7 : Option D, ρ = [x0, x1, x2, .own (lI b.left), .own (.tup [.int b.best, tI' b.core]), slO o5, .no, slO o7, .no, .no]
  ci : CI sz lot b.best b.core b.left
structure MJ (sz : List Int → Int → Int) (lot : List Int) (x0 x1 x2 : Sl) (r : Out × Se) : Prop where
  sh : ∃ (b : Int) (K : List Int) (x3 x5 x6 x7 x8 x9 : Sl), r = (.nx, [x0, x1, x2, x3, .own (.tup [.int b, tI' K]), x5, x6, x7, x8, x9]) ∧ CI sz lot b K []
structure MK (sz : Int → Int) (x0 x1 x2 x3 x4 x7 : Sl) (done : List Int) (ρ : Se) : Prop where
  sh : ∃ t6 : Option D, ρ = [x0, x1, x2, x3, x4, .own (.lst ((done.map fun x => (sz x, x)).map FL.pzD)), slB t6, x7, .no, .no]
structure ML (sz : Int → Int) (x0 x1 x2 x3 x4 x7 : Sl) (l : List Int) (r : Out × Se) : Prop where
  sh : ∃ t6 : Option D, r = (.nx, [x0, x1, x2, x3, x4, .own (.lst ((l.map fun x => (sz x, x)).map FL.pzD)), slB t6, x7, .no, .no])
theorem tr_lcore {n : Nat} (hn : n ≤ 24) {S R : List (List Int)} (ok : OkSc n S) (oN : OkN n S R) {C : List Int} (oC : OkC n C) {lot : List Int} (hl : ∀ y ∈ lot, 0 ≤ y ∧ y < n) (so : lot.Pairwise (· < ·)) (ll : lot.length ≤ 24) :
    Tr (m__law_core [tI' C, dN R, tI' lot]) (fun d => ∃ b K, d = .tup [.int b, tI' K] ∧ CI (szS n S C lot) lot b K []) := by
  have nl : lot.Nodup := so.imp fun h => Int.ne_of_lt h
  have hsz : ∀ (L : List Int) (x : Int), 0 ≤ x ∧ x < n → Tr (m__law_size [tI' C, lI (x :: (nb R x).filter fun y => L.contains y || !lot.contains y)]) (fun d => d = .int (szS n S C lot L x)) := fun L x hx => by
    have e := psz_perm (C := C) (law_kp ok oN (lot := lot) (L := L) hx)
    refine (tr_lsize oC (fun y my => kpS_rg ((law_kp ok oN (lot := lot) (L := L) hx).mem_iff.mp my)) rfl).imp fun d ed => ?_
    rw [ed, e]; rfl
  have hnb : ∀ x : Int, 0 ≤ x ∧ x < n → (nb R x).length ≤ n := fun x hx => nodup_len (nb_nd oN hx) fun y my => tie_rg ok ((mem_nb oN hx).mp my).2
  have hb : bList [tI' lot] = some (lI lot) := bList_tup (immL_dI lot)
  have hix : ∀ x : Int, 0 ≤ x ∧ x < n → dIx (dN R) (.int x) = some (dSet (nb R x)) := fun x hx => dIx_N oN hx
  have hil : ∀ y : Int, dIn (.int y) (tI' lot) = some (lot.contains y) := fun y => dIn_tI y lot
  have mono := szS_mono (n := n) (S := S) (C := C) (lot := lot) oC
  have pos : ∀ L x, 1 ≤ szS n S C lot L x := fun L x => psz_pos oC _
  generalize szS n S C lot = sz at hsz mono pos
  generalize dN R = d1 at hix
  generalize tI' C = d0 at hsz
  generalize hd2 : tI' lot = d2 at hb hil
  have i0 : imm (.tup [.int 0, .tup []]) = true := rfl
  simp [m__law_core, g__law_core, hb]
  refine (sWhile_tr (β := Co) (P := MI sz lot (.bor d0) (.bor d1) (.bor d2)) (R := MJ sz lot (.bor d0) (.bor d1) (.bor d2)) (fun b => b.left.length) (b := ⟨lot, [], 0, []⟩) ⟨⟨none, none, rfl⟩, CI.start⟩ ?_).bnd ?_
  · rintro ⟨left, away, best, core⟩ ρ ⟨⟨o5, o7, rfl⟩, ci⟩
    simp only at ci
    by_cases hne : left = []
    · subst hne
      simp [dNe_nil]
      exact ⟨_, _, _, _, _, _, _, _, rfl, ci⟩
    · have hdn : dNe (lI left) (.lst []) = some true := by
        rw [dNe_nil]
        cases left with
        | nil => exact absurd rfl hne
        | cons a l => rfl
      have hit : items (lI left) = some (dI left) := rfl
      have hin : ∀ y : Int, dIn (.int y) (lI left) = some (left.contains y) := fun y => dIn_lI y left
      have bt := bTuple_lI left
      have lleft : left.length ≤ 24 := Nat.le_trans ci.sub.length_le ll
      obtain ⟨m, hm⟩ := exMinI (l := left.map (sz left)) (by simpa using hne)
      obtain ⟨x, mx, ex⟩ := List.mem_map.mp hm.mem
      subst ex
      have hmin : ∀ y ∈ left, sz left x ≤ sz left y := fun y my => by
        have := hm.le (sz left y) (List.mem_map.mpr ⟨y, my, rfl⟩)
        omega
      have hst := ci.step mono pos (m := sz left x) (left' := left.filter fun y => decide (sz left y > sz left x)) hmin ⟨x, mx, rfl⟩ List.filter_sublist fun y my hy => by
        have : ¬ sz left y > sz left x := fun c => hy (List.mem_filter.mpr ⟨my, decide_eq_true c⟩)
        omega
      have hlt : (left.filter fun y => decide (sz left y > sz left x)).length < left.length := by
        refine List.length_filter_lt_length_iff_exists.mpr ⟨x, mx, by simp⟩
      have e3 := bMin_lI hm
      have hib : dIx (.tup [.int best, tI' core]) (.int 0) = some (.int best) := atI_nat (j := 0) rfl
      have hsz' := hsz left
      generalize hdl : lI left = dl at hdn hit hin bt
      generalize hdb : D.tup [.int best, tI' core] = db at hib
      simp [hdn, hit]
      refine (foGo_tr (f := D.int) (P := MK (sz left) (.lok d0) (.lok d1) (.lok d2) (.lok dl) (.own db) (slO o7)) (R := ML (sz left) (.lok d0) (.lok d1) (.lok d2) (.lok dl) (.own db) (slO o7) left) left (fun done y rest ρ e => ?_) (fun ρ => ?_) (rest := left) (done := []) rfl ⟨none, rfl⟩).bnd ?_
      · rintro ⟨t6, rfl⟩
        have my : y ∈ left := by rw [e]; simp
        have hy := hl y (ci.sub.subset my)
        have ld : done.length < sizeLine := by rw [e] at lleft; simp at lleft; rw [sizeLine_eq]; omega
        refine ⟨[.lok d0, .lok d1, .lok d2, .lok dl, .own db, .own (.lst ((done.map fun x => (sz left x, x)).map FL.pzD)), .bor (.int y), slO o7, .no, .no], by simp, ?_⟩
        have hl2 : ((done.map fun x => (sz left x, x)).map FL.pzD).length < sizeLine := by simpa using ld
        generalize hF : (done.map fun x => (sz left x, x)).map FL.pzD = F at hl2
        simp [hix y hy, bList_dSet]
        refine (lcGo_tr (f := D.int) (fun z => left.contains z || !lot.contains z) D.int fun z mz => ?_).eq ?_
        · simp [hin, hil]
        · have hln := hnb y hy
          have hadd : dAdd (.lst [.int y]) (.lst (((nb R y).filter fun z => left.contains z || !lot.contains z).map D.int)) = some (lI (y :: (nb R y).filter fun z => left.contains z || !lot.contains z)) := by
            rw [dAdd_LL (by rfl) (immL_dI _) (by
              have := List.length_filter_le (fun z => left.contains z || !lot.contains z) (nb R y)
              simp at this ⊢; omega)]
            simp
          rw [hadd, Mo.ofO_some, Mo.pure_bind]
          refine (hsz' y hy).eq ?_
          simp [hl2]
          exact ⟨some (.int y), by rw [← hF]; simp [slB_some]⟩
      · rintro ⟨t6, rfl⟩
        exact ⟨t6, rfl⟩
      · rintro r ⟨t6, rfl⟩
        have e2 : (left.map fun x => (sz left x, x)).map FL.pzD = left.map fun x => FL.pzD (sz left x, x) := by rw [List.map_map]; rfl
        rw [e2]
        have hit5 : items (.lst (left.map fun x => FL.pzD (sz left x, x))) = some (left.map fun x => FL.pzD (sz left x, x)) := rfl
        generalize hA : D.lst (left.map fun x => FL.pzD (sz left x, x)) = A at hit5
        simp [hit5]
        refine (lcGo_id (f := fun x => FL.pzD (sz left x, x)) (fun x => .int (sz left x)) fun y my => ?_).eq ?_
        · simp
        · have e4 : left.map (fun x => D.int (sz left x)) = dI (left.map (sz left)) := by
            show _ = List.map D.int _
            rw [List.map_map]; rfl
          rw [e4, e3]
          simp [hib]
          have fin : ∀ (b' : Int) (c' : List Int), b' = (if sz left x > best then sz left x else best) → c' = (if sz left x > best then left else core) → ∃ b2 : Co, MI sz lot (.bor d0) (.bor d1) (.bor d2) b2 [.bor d0, .bor d1, .bor d2, .own (lI (left.filter fun y => decide (sz left y > sz left x))), .own (.tup [.int b', tI' c']), .own A, .no, .own (.int (sz left x)), .no, .no] ∧ b2.left.length < left.length := fun b' c' e1 e2 => by
            subst e1 e2
            exact ⟨⟨left.filter fun y => decide (sz left y > sz left x), [], _, _⟩, ⟨⟨some A, some (.int (sz left x)), rfl⟩, hst⟩, hlt⟩
          by_cases c : best < sz left x
          · have c' : sz left x > best := c
            simp [c, bt, hit5]
            refine (lcGo_tr (f := fun x => FL.pzD (sz left x, x)) (fun y => decide (sz left y > sz left x)) D.int fun y my => ?_).eq ?_
            · simp
            · have := fin _ _ rfl rfl
              rw [if_pos c', if_pos c'] at this
              simpa using this
          · have c' : ¬ sz left x > best := c
            simp [c, hit5]
            refine (lcGo_tr (f := fun x => FL.pzD (sz left x, x)) (fun y => decide (sz left y > sz left x)) D.int fun y my => ?_).eq ?_
            · simp
            · have := fin _ _ rfl rfl
              rw [if_neg c', if_neg c'] at this
              rw [← hdb]
              simpa using this
  · rintro r ⟨b, K, x3, x5, x6, x7, x8, x9, rfl, ci⟩
    simp
    exact ⟨b, K, ⟨rfl, rfl⟩, ci⟩
end K87

set_option Elab.async false
set_option linter.all false
set_option maxRecDepth 100000
set_option maxHeartbeats 4000000
namespace K87
open PySem PySem.Spec L2 FL
theorem plain_int (k : Nat) (i : Int) : plain k (.int i) = true := by cases k <;> rfl
theorem plain_bl (k : Nat) (i : Bool) : plain k (.bl i) = true := by cases k <;> rfl
theorem plain_oD (k : Nat) (i : Option Int) : plain k (oD i) = true := by cases k <;> cases i <;> rfl
theorem plain_tup {k : Nat} {xs : List D} (l : xs.length ≤ 1000) (h : ∀ x ∈ xs, plain k x = true) : plain (k + 1) (.tup xs) = true := by
  unfold plain
  rw [decide_eq_true l, plainL_iff.mpr h]; rfl
theorem plain_tI {k : Nat} {l : List Int} (h : l.length ≤ 1000) : plain (k + 1) (tI' l) = true := plain_tup (by simpa using h) fun x m => by
  obtain ⟨i, _, rfl⟩ := List.mem_map.mp m
  exact plain_int k i
theorem plain_T {k : Nat} {S : List (List Int)} (h : S.length ≤ 1000) (h2 : ∀ s ∈ S, s.length ≤ 1000) : plain (k + 2) (dS S) = true := plain_tup (by simpa using h) fun x m => by
  obtain ⟨s, ms, rfl⟩ := List.mem_map.mp m
  exact plain_tI (h2 s ms)
theorem sum_foldl (l : List Int) : l.foldl (fun a b => a + b) 0 = l.sum := by
  have h : ∀ (l : List Int) (a : Int), l.foldl (fun a b => a + b) a = a + l.sum := fun l => by
    induction l with
    | nil => intro a; simp
    | cons b l ih => intro a; rw [List.foldl_cons, ih, List.sum_cons]; omega
  rw [h]; omega
theorem bMax_lI (l : List Int) : bMax [lI (0 :: l)] = some (.int (l.foldl mx 0)) := by
  show (if alikeL (dI (0 :: l)) && noNon (dI (0 :: l)) then some (maxL (.int 0) (dI l)) else none) = _
  have h2 : noNon (dI (0 :: l)) = true := noNon_map (fun _ => rfl) _
  rw [FL.alikeL_dI, h2]
  have h : ∀ (l : List Int) (a : Int), maxL (.int a) (l.map D.int) = .int (l.foldl mx a) := fun l => by
    induction l with
    | nil => intro a; rfl
    | cons b l ih =>
      intro a
      rw [List.map_cons, List.foldl_cons]
      unfold maxL at ih ⊢
      rw [List.foldl_cons, dLess_int]
      have e : (if decide (a < b) = true then D.int b else D.int a) = D.int (mx a b) := by
        unfold mx
        by_cases c : a < b
        · rw [decide_eq_true c, if_pos rfl, if_pos c]
        · rw [decide_eq_false c, if_neg (by simp), if_neg (by omega)]
      rw [e, ih]
  rw [h]; rfl
theorem bSum_lI (l : List Int) : bSum [lI l] = some (.int l.sum) := by
  show (intsOf (l.map D.int)).map _ = _
  rw [intsOf_map]; rfl
theorem cls_rg {n : Nat} {S : List (List Int)} {q l : List Int} (h : l ∈ cls n S q) : (∀ y ∈ l, 0 ≤ y ∧ y < n) ∧ l.length ≤ n := by
  unfold cls at h
  obtain ⟨p, _, rfl⟩ := List.mem_map.mp h
  exact ⟨fun y my => clF_rg my, clF_len⟩
theorem clF_congr {n : Nat} {S : List (List Int)} {l m : List Int} (p : l.Perm m) (x : Int) : clF n S (fun y => y ∈ l) x = clF n S (fun y => y ∈ m) x := by
  have : (fun y => y ∈ l) = (fun y => y ∈ m) := by
    funext y; exact propext p.mem_iff
  rw [this]
abbrev sQ (dC dSc dNr dq : D) (x5 x6 x7 x8 x9 x10 x11 x12 x13 : Sl) : Se := [.bor .hp, .bor dC, .bor dSc, .bor dNr, .bor dq, x5, x6, x7, x8, x9, x10, x11, x12, x13, .no, .no, .no]
theorem mem_le_sum {l : List Nat} {a : Nat} (h : a ∈ l) : a ≤ l.sum := by
  induction l with
  | nil => cases h
  | cons b l ih =>
    rw [List.sum_cons]
    rcases List.mem_cons.mp h with e | m
    · omega
    · have := ih m; omega
theorem unS_any {n : Nat} {T : List (List Int)} {x : Int} : (((List.range n).map fun (k : Nat) => (k : Int)).filter fun y => decide (y ≠ x) && T.any fun s => s.contains x && s.contains y) = unS n T x := by
  unfold unS
  congr 1
  funext y
  congr 1
  rw [Bool.eq_iff_iff, List.any_eq_true]
  simp only [Bool.and_eq_true, List.contains_eq_mem, decide_eq_true_eq]
  exact mem_tie.symm
structure VI (n : Nat) (S : List (List Int)) (x0 x1 x2 x3 x4 x5 x6 x7 x8 x9 x10 : Sl) (done : List Int) (ρ : Se) : Prop where
  sh : ∃ t12 o13 : Option D, ρ = [x0, x1, x2, x3, x4, x5, x6, x7, x8, x9, x10, .own (dS (done.foldl (K87.lef n) S)), slB t12, slO o13, .no, .no, .no]
structure VJ (n : Nat) (S : List (List Int)) (x0 x1 x2 x3 x4 x5 x6 x7 x8 x9 x10 : Sl) (l : List Int) (r : Out × Se) : Prop where
  sh : ∃ t12 o13 : Option D, r = (.nx, [x0, x1, x2, x3, x4, x5, x6, x7, x8, x9, x10, .own (dS (l.foldl (K87.lef n) S)), slB t12, slO o13, .no, .no, .no])
theorem tr_seq {n : Nat} (h12 : 12 ≤ n) (hn : n ≤ 24) {S R : List (List Int)} (ob : OkB n 0 S) (oN : OkN n S R) {C : List Int} (oC : OkC n C) {q : List Int} (hq : ∀ y ∈ q, 0 ≤ y ∧ y < n) (nq : q.Nodup) :
    Tr (m__law_sequences_right [.hp, tI' C, dS S, dN R, tI' q]) (fun d => d = .bl true) := by
  have ok := ob.sc hn (Nat.zero_le _)
  have lq : q.length ≤ n := nodup_len nq hq
  have h1 := tr_lclusters (show n ≤ 1000 by omega) ok oN hq nq
  have h2 : ∀ l ∈ cls n S q, Tr (m__law_size [tI' C, tI' l]) (fun d => d = .int (psz C l)) := fun l m => tr_lsize oC (cls_rg m).1 rfl
  have lc : (cls n S q).length = q.length := cls_len
  have h3 := tr_lflows (show n ≤ 1000 by omega) lq lc
  have h4 := tr_clusters_by (show n ≤ 1000 by omega) ok hq
  have h5 := tr_sizes_by (show n ≤ 1000 by omega) ok oC hq
  have h6 := tr_cost (show n ≤ 1000 by omega) ok oC hq (kd := sG) tr_joinG
  have h7 := tr_cost (show n ≤ 1000 by omega) ok oC hq (kd := sT) tr_joinT
  have h8 := tr_flows (show n ≤ 1000 by omega) ok hq nq
  have hL := later_flw nq lc
  have h9 := tr_settled (show n ≤ 900 by omega) ok hq nq rfl hL
  have lfw : q.length = (flw q (cls n S q)).length := by rw [flw_len, lc]
  have h10 := tr_lsettled (show n ≤ 900 by omega) lq nq lfw hL
  have hclr : ∀ l ∈ cls n S q, l.length ≤ n := fun l m => (cls_rg m).2
  generalize hcls : cls n S q = cl at *
  have h11 := sum_foldl (cl.map (psz C))
  have e11 : ∀ a b : Int, (fun a b : Int => a + b) a b = a + b := fun _ _ => rfl
  have b1 : bTuple [.lst (cl.map tI')] = some (.tup (cl.map tI')) := bTuple_T cl
  have p1 : plain 5 (.tup (cl.map tI')) = true := plain_T (by omega) fun s m => by have := hclr s m; omega
  have p2 : plain 5 (tI' (cl.map (psz C))) = true := plain_tI (by simp; omega)
  generalize hst : stl (gof q (flw q cl)) (srt q).length (srt q) = st at h9 h10
  have p3 : plain 5 (tI' st) = true := plain_tI (by
    rw [← hst]
    have := stl_len (g := gof q (flw q cl)) (n := (srt q).length) (l := srt q)
    have := (srt_perm q).length_eq
    omega)
  have p4 : plain 5 (.tup ((flw q cl).map oD)) = true := plain_tup (by simp; omega) fun x m => by
    obtain ⟨i, _, rfl⟩ := List.mem_map.mp m
    exact plain_oD _ i
  have b2 : bTuple [.lst ((flw q cl).map oD)] = some (.tup ((flw q cl).map oD)) := by
    show (if immL ((flw q cl).map oD) then some (D.tup ((flw q cl).map oD)) else none) = _
    rw [show immL ((flw q cl).map oD) = true from immL_map fun a _ => imm_oD' a]; rfl
  generalize hF : D.tup ((flw q cl).map oD) = F at *
  generalize hFl : D.lst ((flw q cl).map oD) = Fl at *
  have hit : items (.lst (cl.map tI')) = some (cl.map tI') := rfl
  generalize hK : D.tup (cl.map tI') = Kt at *
  generalize hKl : D.lst (cl.map tI') = Kl at *
  have bx := bMax_lI (cl.map (psz C))
  have bs := bSum_lI (cl.map (psz C))
  have bt3 := bTuple_lI (cl.map (psz C))
  have ba : dAdd (.lst [.int 0]) (lI (cl.map (psz C))) = some (lI (0 :: cl.map (psz C))) := by
    rw [dAdd_LL (by rfl) (immL_dI _) (by simp; omega)]; rfl
  have e5 : cl.map (fun l => D.int (psz C l)) = dI (cl.map (psz C)) := by
    show _ = List.map D.int _
    rw [List.map_map]; rfl
  have e6 : (cl.map (psz C)).foldl (fun a b => a + b) 0 = (cl.map (psz C)).sum := sum_foldl _
  rw [e6] at h7
  have hs := @tr_lsame
  -- the second half
  have hleft : ∀ k : Nat, Tr (m_scopes_left [dS S, tI' (q.take k)]) (fun d => d = dS ((q.take k).foldl (K87.lef n) S)) := fun k => tr_left hn ob (fun y m => hq y (List.mem_of_mem_take m)) (by simp; omega)
  have hcb : ∀ (l : List Int) (x : Int), 0 ≤ x ∧ x < n → Tr (m_cluster_behind [dS S, tI' l, .int x]) (fun d => d = tI' (clF n S (fun y => y ∈ l) x)) := fun l x hx => tr_cluster (by omega) ok l hx
  have hlc : ∀ (l : List Int) (x : Int), 0 ≤ x ∧ x < n → Tr (m__law_cluster [dN R, tI' l, .int x]) (fun d => d = tI' (clF n S (fun y => y ∈ l) x)) := fun l x hx => tr_lcluster (by omega) ok oN (fun y => by rw [dIn_tI]; simp) hx
  have hlC : bLen [tI' C] = some (.int (n : Int)) := by rw [bLen_tup]; simp [oC.len]
  have hlq : bLen [tI' q] = some (.int (q.length : Int)) := by rw [bLen_tup]; simp
  have hsl : ∀ k : Nat, dSl none (some (k : Int)) (tI' q) = some (tI' (q.take k)) := fun k => dSl_take k
  generalize hdC : tI' C = dC at *
  generalize hdS : dS S = dSc at *
  generalize hdN : dN R = dNr at *
  generalize hdq : tI' q = dq at *
  refine Tr.mir (σ0 := sQ dC dSc dNr dq .no .no .no .no .no .no .no .no .no) rfl ?_
  unfold g__law_sequences_right
  -- clusters
  refine Tr.seqE (σ1 := sQ dC dSc dNr dq (.own Kl) .no .no .no .no .no .no .no .no) ?_ ?_
  · simp
    exact h1.eq (by simp)
  -- sizes, flows
  refine Tr.seqE (σ1 := sQ dC dSc dNr dq (.own Kl) (.own (lI (cl.map (psz C)))) (.own Fl) .no .no .no .no .no .no) ?_ ?_
  · simp [hit]
    refine (lcGo_id (f := tI') (fun l => .int (psz C l)) fun l m => ?_).eq ?_
    · simp
      exact h2 l m
    · rw [e5]
      exact h3.eq (by simp)
  generalize hdz : lI (cl.map (psz C)) = dz at *
  refine Tr.seqE (σ1 := sQ dC dSc dNr dq (.own Kl) (.own dz) (.own Fl) .no .no .no .no .no .no) ?_ ?_
  · refine Tr.skip ?_
    simp
    refine h4.eq ?_
    rw [b1, Mo.ofO_some, Mo.pure_bind]
    refine (hs p1).eq ?_
    simp
    refine h5.eq ?_
    rw [bt3, Mo.ofO_some, Mo.pure_bind]
    refine (hs p2).eq ?_
    simp
  refine Tr.seqE (σ1 := sQ dC dSc dNr dq (.own Kl) (.own dz) (.own Fl) (.own (.tup [.int ((cl.map (psz C)).foldl mx 0), .int (cl.map (psz C)).sum])) .no .no .no .no .no) ?_ ?_
  · simp
    refine h6.eq (h7.eq ?_)
    simp
  generalize hdt : D.tup [.int ((cl.map (psz C)).foldl mx 0), .int (cl.map (psz C)).sum] = dt
  have p5 : plain 5 dt = true := by
    rw [← hdt]
    exact plain_tup (by simp) fun x m => by
      simp at m
      rcases m with rfl | rfl <;> exact plain_int _ _
  refine Tr.seqE (σ1 := sQ dC dSc dNr dq (.own Kl) (.own dz) (.own Fl) (.own dt) .no .no .no .no .no) ?_ ?_
  · refine Tr.skip ?_
    simp [ba, bx, bs]
    rw [hdt]
    refine (hs p5).eq ?_
    simp
    refine h8.eq ?_
    rw [b2, Mo.ofO_some, Mo.pure_bind]
    refine (hs p4).eq ?_
    simp
  refine Tr.seqE (σ1 := sQ dC dSc dNr dq (.own Kl) (.own dz) (.own Fl) (.own dt) .no .no .no .no .no) ?_ ?_
  · refine Tr.skip ?_
    simp
    refine h9.eq (h10.eq ((hs p3).eq ?_))
    simp
  -- before
  refine Tr.seqQ (Q := fun σ => ∃ k : Nat, σ = sQ dC dSc dNr dq (.own Kl) (.own dz) (.own Fl) (.own dt) (.own (tI' (q.take k))) .no .no .no .no) ?_ ?_
  · simp [hlq]
    refine (tr_draw (many := (q.length : Int) + 1) (by omega) (by omega)).bnd ?_
    rintro _ ⟨r, rfl, r1, r2⟩
    obtain ⟨k, rfl⟩ : ∃ k : Nat, r = (k : Int) := ⟨r.toNat, by omega⟩
    simp [hsl]
    exact ⟨k, rfl⟩
  rintro _ ⟨k, rfl⟩
  have hleft := hleft k
  generalize hbf : q.take k = bf at *
  have bfq : ∀ y ∈ bf, 0 ≤ y ∧ y < n := fun y m => hq y (by rw [← hbf] at m; exact List.mem_of_mem_take m)
  have bfl : bf.length ≤ 24 := by rw [← hbf]; simp; omega
  have hbin : ∀ y : Int, dIn (.int y) (tI' bf) = some (bf.contains y) := fun y => dIn_tI y bf
  have hbit : items (tI' bf) = some (dI bf) := rfl
  have hbl : bList [tI' bf] = some (lI bf) := bList_tup (immL_dI bf)
  have hlc := hlc bf
  generalize hdb : tI' bf = db at *
  generalize hot : ((List.range n).map fun (k : Nat) => (k : Int)).filter (fun y => !bf.contains y) = ot
  refine Tr.seqE (σ1 := sQ dC dSc dNr dq (.own Kl) (.own dz) (.own Fl) (.own dt) (.own db) (.own (lI ot)) .no .no .no) ?_ ?_
  · simp
    rw [fR1 (k := n) (by simp [hlC]) (by omega), Mo.pure_bind]
    have er : (List.range n).map (fun (i : Nat) => D.int (i : Int)) = dI ((List.range n).map fun (k : Nat) => (k : Int)) := by
      show _ = List.map D.int _
      rw [List.map_map]; rfl
    rw [er]
    refine (lcGo_tr (f := D.int) (fun y => !bf.contains y) D.int fun y m => ?_).eq ?_
    · simp [hbin]
    · rw [hot]; simp
  have iS : imm dSc = true := by rw [← hdS]; exact immL_T S
  refine Tr.seqE (σ1 := sQ dC dSc dNr dq (.own Kl) (.own dz) (.own Fl) (.own dt) (.own db) (.own (lI ot)) (.own dSc) .no .no) ?_ ?_
  · simp [iS]
  refine Tr.seqQ (Q := fun σ => ∃ x13 : Option D, σ = sQ dC dSc dNr dq (.own Kl) (.own dz) (.own Fl) (.own dt) (.own db) (.own (lI ot)) (.own (dS (bf.foldl (K87.lef n) S))) .no (slO x13)) ?_ ?_
  · have hrng : ∀ x11 x12 x13 : Sl, fRange1 (fCons (fCallB bLen (fCons (fVar 1) fNil)) fNil) [some .hp, some dC, some dSc, some dNr, some dq, some Kl, some dz, some Fl, some dt, some db, some (lI ot), x11.vw, x12.vw, x13.vw, none, none, none] = Mo.pure (dI ((List.range n).map fun (k : Nat) => (k : Int))) := fun _ _ _ => by
      rw [fR1 (k := n) (by simp [hlC]) (by omega)]
      congr 1
      show _ = List.map D.int _
      rw [List.map_map]; rfl
    simp [hbit]
    refine (foGo_tr (f := D.int) (P := VI n S (.lok .hp) (.lok dC) (.lok dSc) (.lok dNr) (.lok dq) (.own Kl) (.own dz) (.own Fl) (.own dt) (.lok db) (.own (lI ot))) (R := VJ n S (.lok .hp) (.lok dC) (.lok dSc) (.lok dNr) (.lok dq) (.own Kl) (.own dz) (.own Fl) (.own dt) (.lok db) (.own (lI ot)) bf) bf (fun done x rest ρ e => ?_) (fun ρ => ?_) (rest := bf) (done := []) rfl ⟨none, none, by rw [← hdS]; rfl⟩).bnd ?_
    · rintro ⟨t12, o13, rfl⟩
      have ld : done.length < 24 := by rw [e] at bfl; simp at bfl; omega
      have okb : OkB n (0 + done.length) (done.foldl (K87.lef n) S) := ob.fold
      have hx := bfq x (by rw [e]; simp)
      have hfold : (done ++ [x]).foldl (K87.lef n) S = K87.lef n (done.foldl (K87.lef n) S) x := by rw [List.foldl_append]; rfl
      generalize done.foldl (K87.lef n) S = T at okb hfold
      have hitT : items (dS T) = some (T.map tI') := rfl
      generalize hdT : dS T = dT at hitT
      generalize hotD : lI ot = dO at hrng
      have hr := hrng (.own dT) (.bor (.int x)) (slO o13)
      simp only [vw_own, vw_bor, vw_slO] at hr
      refine ⟨[.lok .hp, .lok dC, .lok dSc, .lok dNr, .lok dq, .own Kl, .own dz, .own Fl, .own dt, .lok db, .own dO, .own dT, .bor (.int x), slO o13, .no, .no, .no], by simp, ?_⟩
      refine Tr.seqE (σ1 := [.lok .hp, .lok dC, .lok dSc, .lok dNr, .lok dq, .own Kl, .own dz, .own Fl, .own dt, .lok db, .own dO, .own dT, .bor (.int x), .own (lI (unS n T x)), .no, .no, .no]) ?_ ?_
      · simp
        rw [hr, Mo.pure_bind]
        refine (lcGo_tr (f := D.int) (fun y => decide (y ≠ x) && T.any fun s => s.contains x && s.contains y) D.int fun y m => ?_).eq ?_
        · simp
          by_cases c : y = x
          · simp [c]
          · have c' : (y != x) = true := by simpa using c
            simp [c, c', hitT]
            refine (lcGo_id (f := tI') (fun s => D.bl (s.contains x && s.contains y)) fun s ms => ?_).eq ?_
            · simp
            · have eb : T.map (fun s => D.bl (s.contains x && s.contains y)) = (T.map fun s => s.contains x && s.contains y).map D.bl := by rw [List.map_map]; rfl
              rw [eb]
              have ea : bAny [.lst ((T.map fun s => s.contains x && s.contains y).map D.bl)] = some (.bl ((T.map fun s => s.contains x && s.contains y).any id)) := by
                show (boolsOf ((T.map fun s => s.contains x && s.contains y).map D.bl)).map _ = _
                rw [boolsOf_map]; rfl
              rw [ea]
              simp [List.any_map]
        · rw [unS_any]; simp
      simp [hitT]
      refine (lcGo_tr (f := tI') (fun s => !s.contains x) tI' fun s m => ?_).eq ?_
      · simp [immL_dI]
      · rw [bTuple_T, Mo.ofO_some, Mo.pure_bind, bTuple_lI, Mo.ofO_some, Mo.pure_bind]
        have ea : dAdd (dS (T.filter fun s => !s.contains x)) (.tup [tI' (unS n T x)]) = some (dS (K87.lef n T x)) := by
          have l1 : ((T.filter fun s => !s.contains x).map tI').length + [tI' (unS n T x)].length ≤ sizeLine := by
            have h1 := List.length_filter_le (fun s : List Int => !s.contains x) T
            have h2 := okb.len
            refine sl_big ?_
            simp only [List.length_map, List.length_singleton]; omega
          show (if immL ((T.filter fun s => !s.contains x).map tI') && immL [tI' (unS n T x)] && decide (((T.filter fun s => !s.contains x).map tI').length + [tI' (unS n T x)].length ≤ sizeLine) then some (D.tup ((T.filter fun s => !s.contains x).map tI' ++ [tI' (unS n T x)])) else none) = _
          have i1 : immL [tI' (unS n T x)] = true := immL_T [unS n T x]
          rw [immL_T, i1, decide_eq_true l1]
          show some (D.tup _) = some (D.tup _)
          unfold K87.lef
          rw [List.map_append]; rfl
        rw [ea]
        simp
        exact ⟨some (.int x), some (lI (unS n T x)), by rw [hfold, ← hotD]; rfl⟩
    · rintro ⟨t12, o13, rfl⟩
      exact ⟨t12, o13, rfl⟩
    · rintro r ⟨t12, o13, rfl⟩
      simp
      exact ⟨o13, rfl⟩
  rintro _ ⟨x13, rfl⟩
  have p6 : plain 5 (dS (bf.foldl (K87.lef n) S)) = true := by
    have := (ob.fold (q := bf)).len
    have hh := (ob.fold (q := bf)).sc hn (by omega)
    refine plain_T (by omega) fun s m => ?_
    have h1 := hh.tot
    have h2 : s.length ≤ ((bf.foldl (K87.lef n) S).map List.length).sum := mem_le_sum (List.mem_map.mpr ⟨s, m, rfl⟩)
    have h3 := (ob.fold (q := bf)).tot
    have h4 : n * (0 + bf.length) ≤ 24 * 24 := Nat.mul_le_mul hn (by omega)
    omega
  generalize dS (bf.foldl (K87.lef n) S) = dl at *
  refine Tr.seqE (σ1 := sQ dC dSc dNr dq (.own Kl) (.own dz) (.own Fl) (.own dt) (.own db) (.own (lI ot)) (.own dl) .no (slO x13)) ?_ ?_
  · refine Tr.skip ?_
    simp
    refine hleft.eq ((hs p6).eq ?_)
    simp
  by_cases hoe : ot = []
  · subst hoe
    have he0 : dEq (lI []) (D.lst []) = some true := dEq_nil []
    refine Tr.seqG ?_
    refine Tr.ifT ?_ ?_
    · simp [he0]
    · simp
      exact .rt _ _ rfl
  refine Tr.seqE (σ1 := sQ dC dSc dNr dq (.own Kl) (.own dz) (.own Fl) (.own dt) (.own db) (.own (lI ot)) (.own dl) .no (slO x13)) ?_ ?_
  · refine Tr.skip ?_
    have he := dEq_nil ot
    have : ot.isEmpty = false := by cases ot with | nil => exact absurd rfl hoe | cons _ _ => rfl
    rw [this] at he
    generalize lI ot = dO at he
    simp [he]
  have hotr : ∀ y ∈ ot, 0 ≤ y ∧ y < n := fun y m => by rw [← hot] at m; exact mem_rng.mp (List.mem_filter.mp m).1
  have hotl : ot.length ≤ 1000 := by
    rw [← hot]
    have := List.length_filter_le (fun y => !bf.contains y) ((List.range n).map fun (k : Nat) => (k : Int))
    simp at this ⊢; omega
  refine Tr.seqQ (Q := fun σ => ∃ x : Int, (0 ≤ x ∧ x < n) ∧ σ = sQ dC dSc dNr dq (.own Kl) (.own dz) (.own Fl) (.own dt) (.own db) (.own (lI ot)) (.own dl) (.own (.int x)) (slO x13)) ?_ ?_
  · have hp := tr_pick (d := lI ot) (xs := dI ot) (.inl rfl) (by simpa using hoe) (by simpa using hotl) (immL_dI ot)
    have hmem : ∀ d ∈ dI ot, ∃ x : Int, (0 ≤ x ∧ x < n) ∧ d = .int x := fun d m => by
      obtain ⟨x, mx, rfl⟩ := List.mem_map.mp m
      exact ⟨x, hotr x mx, rfl⟩
    generalize lI ot = dO at *
    simp
    refine hp.bnd fun d m => ?_
    obtain ⟨x, hx, rfl⟩ := hmem d m
    simp
    exact hx
  rintro _ ⟨x, hx, rfl⟩
  refine Tr.ret ?_
  simp [hbl]
  refine (tr_shufL (xs := dI bf) (by simp; omega) (immL_dI bf)).bnd ?_
  rintro _ ⟨ys, rfl, pm⟩
  obtain ⟨w, rfl, pm2⟩ := perm_dI pm
  refine (hcb w x hx).eq ?_
  refine (hlc x hx).eq ?_
  rw [clF_congr pm2 x]
  exact hs (plain_tI (by have := clF_len (n := n) (S := S) (B := fun y => y ∈ bf) (x := x); omega))
end K87

set_option Elab.async false
set_option linter.all false
set_option maxRecDepth 100000
set_option maxHeartbeats 4000000
namespace K87
open PySem PySem.Spec L2 FL
def cellF (x : Int) : Int := 2 * (if x < 0 then -x else x) + (if x < 0 then 1 else 0)
structure HpI (d0 d1 : D) (done : List Int) (ρ : Se) : Prop where
  sh : ∃ (t : Int) (t3 : Option D), ρ = [.lok d0, .lok d1, .own (.int t), slB t3] ∧ 0 ≤ t
structure HpJ (d0 d1 : D) (r : Out × Se) : Prop where
  sh : ∃ (t : Int) (t3 : Option D), r = (.nx, [.lok d0, .lok d1, .own (.int t), slB t3]) ∧ 0 ≤ t
theorem tr_heap (ns : List Int) : Tr (m__law_heap [.scr ns]) (fun d => ∃ (xs : List Int) (t : Int), d = .lst [.lst (dI xs), .int t] ∧ OkS (xs, t)) := by
  have hs : dSlS none (some 60) (.scr ns) = some (lI (ns.take 60)) := by
    show some (D.lst _) = some (D.lst _)
    rw [sIx_0, show (some (60 : Int)) = some ((60 : Nat) : Int) from rfl, HT.sIx_nat, List.drop_zero, Nat.sub_zero]
    by_cases h : 60 ≤ ns.length
    · rw [Nat.min_eq_left h]
    · rw [Nat.min_eq_right (by omega), List.take_of_length_le (by simp), List.take_of_length_le (by omega)]
  generalize D.scr ns = d0 at hs
  refine Tr.mir (σ0 := [.bor d0, .no, .no, .no]) rfl ?_
  unfold g__law_heap
  have hm2 : ∀ a : Int, dMul (.int 2) (.int a) = some (.int (2 * a)) := fun a => by
    show (if FL.small64 2 || FL.small64 a then some (D.int (2 * a)) else none) = _
    rw [show FL.small64 2 = true by decide]; rfl
  have hab : ∀ a : Int, bAbs [.int a] = some (.int (if a < 0 then -a else a)) := fun a => rfl
  have hbi : ∀ b : Bool, bInt [.bl b] = some (.int (if b = true then 1 else 0)) := fun a => rfl
  have hbii : ∀ b : Int, bInt [.int b] = some (.int b) := fun a => rfl
  refine Tr.seqE (σ1 := [.bor d0, .own (lI ((ns.take 60).map cellF)), .own (.int 87251), .no]) ?_ ?_
  · simp
    have e1 : fSlS (fVar 0) fNoPart (fPart (fC (.int 60))) [some d0, none, none, none] = Mo.pure (lI (ns.take 60)) := by
      unfold fSlS
      simp
      rw [hs]; simp
    rw [e1, Mo.pure_bind, items_lst, Mo.ofO_some, Mo.pure_bind]
    refine (lcGo_id (f := D.int) (fun x => .int (cellF x)) fun x m => ?_).eq ?_
    · simp [hab, hm2, hbi]
      unfold cellF
      by_cases c : x < 0 <;> simp [c]
    · have e2 : (ns.take 60).map (fun x => D.int (cellF x)) = dI ((ns.take 60).map cellF) := by
        show _ = List.map D.int _
        rw [List.map_map]; rfl
      rw [e2]
      simp
  have hcl : ((ns.take 60).map cellF).length ≤ 60 := by simp; omega
  have hcn : ∀ x ∈ (ns.take 60).map cellF, 0 ≤ x := fun x m => by
    obtain ⟨y, _, rfl⟩ := List.mem_map.mp m
    unfold cellF
    split <;> omega
  generalize (ns.take 60).map cellF = cells at hcl hcn
  have hit : items (lI cells) = some (dI cells) := rfl
  generalize hd1 : lI cells = d1 at hit
  refine Tr.seqQ (Q := fun σ => ∃ t : Int, 0 ≤ t ∧ σ = [.bor d0, .own d1, .own (.int t), .no]) ?_ ?_
  · simp [hit]
    refine (foGo_tr (f := D.int) (P := HpI d0 d1) (R := HpJ d0 d1) cells (fun done x rest ρ e => ?_) (fun ρ => ?_) (rest := cells) (done := []) rfl ⟨87251, none, rfl, by decide⟩).bnd ?_
    · rintro ⟨t, t3, rfl, ht⟩
      refine ⟨[.lok d0, .lok d1, .own (.int t), .bor (.int x)], by simp, ?_⟩
      have hm : dMul (.int t) (.int 69621) = some (.int (t * 69621)) := by
        show (if FL.small64 t || FL.small64 69621 then some (D.int (t * 69621)) else none) = _
        rw [show FL.small64 69621 = true by decide, Bool.or_true]; rfl
      have hmod : ∀ a : Int, dMod (.int a) (.int 2147483563) = some (.int (a % 2147483563)) := fun a => rfl
      have hmod2 : ∀ a : Int, dMod (.int a) (.int 2147483647) = some (.int (a % 2147483647)) := fun a => rfl
      simp [hm, hmod, hmod2, hbii]
      exact ⟨_, some (.int x), by rw [slB_some], Int.emod_nonneg _ (by decide)⟩
    · rintro ⟨t, t3, rfl, ht⟩
      exact ⟨t, t3, rfl, ht⟩
    · rintro r ⟨t, t3, rfl, ht⟩
      simp [ht]
  rintro _ ⟨t, ht, rfl⟩
  refine Tr.ret ?_
  have hp : dPow (.int 10) (.int 18) = some (.int 1000000000000000000) := by
    show (if decide ((0:Int) ≤ 18) && decide ((18:Int) ≤ 1000000) && decide ((10:Int).natAbs < 2 ^ 64) then some (D.int ((10:Int) ^ (18:Int).toNat)) else none) = _
    rw [if_pos (by decide)]
    have : (10:Int) ^ (18:Int).toNat = 1000000000000000000 := by decide
    rw [this]
  simp [hit]
  refine (lcGo_tr (f := D.int) (fun x => decide ((1000000000000000000 : Int) ≤ x)) D.int fun x m => ?_).eq ?_
  · simp [hp]
  · have hr : dRev (lI (cells.filter fun x => decide ((1000000000000000000 : Int) ≤ x))) = some (lI (cells.filter fun x => decide ((1000000000000000000 : Int) ≤ x)).reverse) := by
      show (if immL (dI _) then some (D.lst (dI _).reverse) else none) = _
      rw [immL_dI, if_pos rfl]
      show some (D.lst (List.map D.int _).reverse) = some (D.lst (List.map D.int _))
      rw [List.map_reverse]
    rw [hr]
    simp
    refine ⟨(cells.filter fun x => decide ((1000000000000000000 : Int) ≤ x)).reverse, t, ⟨by simp, rfl⟩, ?_, fun x m => ?_, ht⟩
    · have := List.length_filter_le (fun x => decide ((1000000000000000000 : Int) ≤ x)) cells
      simp at this ⊢; omega
    · exact hcn x (List.mem_filter.mp (List.mem_reverse.mp m)).1
end K87

set_option Elab.async false
set_option linter.all false
set_option maxRecDepth 100000
set_option maxHeartbeats 4000000
namespace K87
open PySem PySem.Spec L2 FL
abbrev sL (x2 x3 x4 x5 x6 x7 x8 x9 x10 x11 : Sl) : Se := [.no, .bor .hp, x2, x3, x4, x5, x6, x7, x8, x9, x10, x11, .no]
theorem okC_of {n : Nat} {C : List Int} (l : C.length = n) (h : ∀ c ∈ C, 1 ≤ c ∧ c ≤ 100) : OkC n C := ⟨l, h⟩
theorem GdS.okB {n : Nat} {S : List (List Int)} (hl : S.length ≤ 42) (h : ∀ s ∈ S, GdS n s) : OkB n 0 S := by
  refine ⟨by omega, ?_, fun s m => (h s m).2⟩
  have : ∀ T : List (List Int), (∀ s ∈ T, s.length ≤ 4) → (T.map List.length).sum ≤ 4 * T.length := fun T => by
    induction T with
    | nil => simp
    | cons t T ih =>
      intro hT
      have h1 := hT t List.mem_cons_self
      have h2 := ih fun s m => hT s (List.mem_cons_of_mem _ m)
      simp; omega
  have := this S fun s m => (h s m).1
  omega
theorem len_dSet (l : List Int) : bLen [dSet l] = some (.int (l.length : Int)) := by
  show some (D.int ((l.map (Sum.inl : Int → Key)).length : Int)) = _
  rw [List.length_map]
theorem bMax_ne {l : List Int} (h : l ≠ []) : ∃ m : Int, bMax [lI l] = some (.int m) := by
  cases l with
  | nil => exact absurd rfl h
  | cons a l =>
    have h2 : noNon (dI (a :: l)) = true := noNon_map (fun _ => rfl) _
    have e : bMax [lI (a :: l)] = some (maxL (.int a) (dI l)) := by
      show (if alikeL (dI (a :: l)) && noNon (dI (a :: l)) then some (maxL (.int a) (dI l)) else none) = _
      rw [FL.alikeL_dI, h2]; rfl
    have : ∀ (l : List Int) (a : Int), ∃ m : Int, maxL (.int a) (l.map D.int) = .int m := fun l => by
      induction l with
      | nil => exact fun a => ⟨a, rfl⟩
      | cons b l ih =>
        intro a
        rw [List.map_cons]
        unfold maxL at ih ⊢
        rw [List.foldl_cons]
        split
        · exact ih b
        · exact ih a
    obtain ⟨m, em⟩ := this l a
    exact ⟨m, e.trans (congrArg some em)⟩
theorem lcGo_exY {α β : Type} {tg : Tg} {f : α → D} {fe : Ev → Mo D} {ρ : Ev} (enc : β → D) (G : β → Prop) : ∀ {xs : List α}, (∀ a ∈ xs, ∃ ρ1, bindE tg (f a) ρ = some ρ1 ∧ Tr (fe ρ1) fun d => ∃ b, d = enc b ∧ G b) →
    Tr (lcGo tg fYes fe ρ (xs.map f)) fun ys => ∃ bs : List β, ys = bs.map enc ∧ bs.length = xs.length ∧ ∀ b ∈ bs, G b
  | [], _ => Tr.pure ⟨[], rfl, rfl, fun b m => by cases m⟩
  | a :: xs, h => by
    obtain ⟨ρ1, e1, t2⟩ := h a List.mem_cons_self
    have ih := lcGo_exY (fe := fe) (ρ := ρ) enc G (xs := xs) fun b m => h b (List.mem_cons_of_mem _ m)
    rw [List.map_cons]
    unfold lcGo
    rw [e1, Mo.ofO_some, Mo.pure_bind]
    simp only [fYes_ap, Mo.pure_bind, if_true]
    refine t2.bnd fun d ⟨b, e, g⟩ => ih.bnd fun ys ⟨zs, s, l, e'⟩ => Tr.pure ⟨b :: zs, by rw [s, e]; rfl, by simp; omega, fun c m => ?_⟩
    rcases List.mem_cons.mp m with m | m
    · rw [m]; exact g
    · exact e' c m
theorem tr_law : Tr (g_law (.no :: .bor .hp :: List.replicate 11 .no)) (Rt fun d => d = .bl true) := by
  have e0 : (Sl.no :: .bor .hp :: List.replicate 11 .no) = sL .no .no .no .no .no .no .no .no .no .no := rfl
  rw [e0]
  unfold g_law
  have hs := @tr_lsame
  -- many
  refine Tr.seqQ (Q := fun σ => ∃ n : Nat, (12 ≤ n ∧ n ≤ 24) ∧ σ = sL (.own (.int n)) .no .no .no .no .no .no .no .no .no) ?_ ?_
  · simp
    refine (tr_draw (many := 2) (by decide) (by decide)).bnd ?_
    rintro _ ⟨r, rfl, r1, r2⟩
    simp
    by_cases c : r = 0
    · simp [c]
      exact ⟨24, by omega, rfl⟩
    · simp [c]
      refine (tr_draw (many := 13) (by decide) (by decide)).bnd ?_
      rintro _ ⟨t, rfl, t1, t2⟩
      simp
      exact ⟨12 + t.toNat, by omega, by omega⟩
  rintro _ ⟨n, ⟨n1, n2⟩, rfl⟩
  -- counts
  refine Tr.seqQ (Q := fun σ => ∃ C : List Int, OkC n C ∧ σ = sL (.own (.int n)) (.own (tI' C)) .no .no .no .no .no .no .no .no) ?_ ?_
  · simp
    rw [fR1 (k := n) (by rfl) (by omega), Mo.pure_bind]
    refine (lcGo_exY (f := fun (i : Nat) => D.int (i : Int)) D.int (fun c => 1 ≤ c ∧ c ≤ 100) fun i m => ?_).bnd ?_
    · simp
      refine (tr_draw (many := 5) (by decide) (by decide)).bnd ?_
      rintro _ ⟨r, rfl, r1, r2⟩
      simp
      refine (tr_pick (d := .lst [.int 2, .int 2, .int 3, .int (2 + r)]) (xs := [.int 2, .int 2, .int 3, .int (2 + r)]) (.inl rfl) (by simp) (by simp) (by rfl)).imp fun d md => ?_
      simp at md
      rcases md with rfl | rfl | rfl
      · exact ⟨2, rfl, by decide, by decide⟩
      · exact ⟨3, rfl, by decide, by decide⟩
      · exact ⟨2 + r, rfl, by omega, by omega⟩
    · rintro ys ⟨C, rfl, lC, hC⟩
      rw [List.length_range] at lC
      rw [bTuple_lI]
      simp
      exact ⟨C, okC_of lC hC, rfl⟩
  rintro _ ⟨C, oC, rfl⟩
  have iC : imm (tI' C) = true := immL_dI C
  generalize hdC : tI' C = dC
  -- scopes
  refine Tr.seqQ (Q := fun σ => ∃ S : List (List Int), OkB n 0 S ∧ σ = sL (.own (.int n)) (.own dC) (.own (dS S)) .no .no .no .no .no .no .no) ?_ ?_
  · simp
    refine (tr_scopes n1 n2).bnd ?_
    rintro _ ⟨S, rfl, lS, hS⟩
    simp
    exact ⟨S, GdS.okB lS hS, rfl⟩
  rintro _ ⟨S, oS, rfl⟩
  have ok := oS.sc n2 (Nat.zero_le _)
  have hnr := tr_near (show n ≤ 1000 by omega) oS.rg
  generalize hdS : dS S = dSc at hnr
  generalize hal : ((List.range n).map fun (k : Nat) => (k : Int)) = al
  refine Tr.seqQ (Q := fun σ => ∃ R : List (List Int), OkN n S R ∧ σ = sL (.own (.int n)) (.own dC) (.own dSc) (.own (dN R)) (.own (lI al)) .no .no .no .no .no) ?_ ?_
  · simp
    refine hnr.bnd ?_
    rintro _ ⟨R, rfl, oN⟩
    rw [fLRg1_ap (n := n) (by omega) (by rfl), hal]
    simp
    exact ⟨R, oN, rfl⟩
  rintro _ ⟨R, oN, rfl⟩
  have hal2 : ∀ v ∈ al, 0 ≤ v ∧ v < n := fun v m => by rw [← hal] at m; exact mem_rng.mp m
  have haln : al.Nodup := by rw [← hal]; exact (rng_sorted n).imp fun h => Int.ne_of_lt h
  have hall : al.length = n := by rw [← hal]; simp
  generalize hdN : dN R = dNr
  refine Tr.seqQ (Q := fun σ => ∃ q : List Int, ((∀ y ∈ q, 0 ≤ y ∧ y < n) ∧ q.Nodup ∧ q.length = n) ∧ σ = sL (.own (.int n)) (.own dC) (.own dSc) (.own dNr) (.own (lI al)) (.own (tI' q)) .no .no .no .no) ?_ ?_
  · have hsh : Tr (m__law_shuffled [.hp, lI al]) _ := tr_shufL (xs := dI al) (by simp; omega) (immL_dI al)
    have hper : ∀ ys : List D, ys.Perm (dI al) → ∃ q : List Int, ((∀ y ∈ q, 0 ≤ y ∧ y < n) ∧ q.Nodup ∧ q.length = n) ∧ ys = dI q := fun ys pm => by
      obtain ⟨q, rfl, pm2⟩ := perm_dI pm
      exact ⟨q, ⟨fun y m => hal2 y (pm2.mem_iff.mp m), pm2.nodup_iff.mpr haln, pm2.length_eq.trans hall⟩, rfl⟩
    generalize lI al = dal at *
    simp
    refine hsh.bnd ?_
    rintro _ ⟨ys, rfl, pm⟩
    obtain ⟨q, hq, rfl⟩ := hper ys pm
    simp
    exact ⟨q, hq, rfl⟩
  rintro _ ⟨q, ⟨q1, q2, q3⟩, rfl⟩
  have okk := ok
  have hseq : ∀ k : Nat, Tr (m__law_sequences_right [.hp, tI' C, dS S, dN R, tI' (q.take k)]) (fun d => d = .bl true) := fun k => tr_seq n1 n2 oS oN oC (fun y m => q1 y (List.mem_of_mem_take m)) (q2.sublist (List.take_sublist _ _))
  rw [hdC, hdS, hdN] at hseq
  have hsl : ∀ k : Nat, dSl none (some (k : Int)) (tI' q) = some (tI' (q.take k)) := fun k => dSl_take k
  have hix : ∃ x : Int, (0 ≤ x ∧ x < n) ∧ dIx (tI' q) (.int (-1)) = some (.int x) := by
    obtain ⟨x, mx, e⟩ := ix_any (ys := q) (i := -1) (by omega) (by omega)
    exact ⟨x, q1 x mx, e⟩
  have hself : q.take n = q := List.take_of_length_le (by omega)
  have hseq0 := hseq n
  rw [hself] at hseq0
  have iq : imm (tI' q) = true := immL_dI q
  generalize hdq : tI' q = dq at *
  refine Tr.seqE (σ1 := sL (.own (.int n)) (.own dC) (.own dSc) (.own dNr) (.own (lI al)) (.own dq) .no .no .no .no) ?_ ?_
  · refine Tr.skip ?_
    generalize lI al = dal
    simp
    refine hseq0.eq ?_
    simp
  have hfd : ∀ a : Int, dFdiv (.int a) (.int 2) = some (.int (a / 2)) := fun a => rfl
  refine Tr.seqE (σ1 := sL (.own (.int n)) (.own dC) (.own dSc) (.own dNr) (.own (lI al)) (.own dq) .no .no .no .no) ?_ ?_
  · refine Tr.skip ?_
    generalize lI al = dal
    simp [hfd]
    refine (tr_draw (many := (n : Int) / 2) (by omega) (by omega)).bnd ?_
    rintro _ ⟨r, rfl, r1, r2⟩
    obtain ⟨k, ek⟩ : ∃ k : Nat, (n : Int) / 2 + r = (k : Int) := ⟨((n : Int) / 2 + r).toNat, by omega⟩
    simp [ek, hsl]
    refine (hseq k).eq ?_
    simp
  -- the lot
  refine Tr.seqQ (Q := fun σ => ∃ lot : List Int, ((∀ y ∈ lot, 0 ≤ y ∧ y < n) ∧ lot.Pairwise (· < ·) ∧ lot.length ≤ 24) ∧ σ = sL (.own (.int n)) (.own dC) (.own dSc) (.own dNr) (.own (lI al)) (.own dq) (.own (tI' lot)) .no .no .no) ?_ ?_
  · generalize lI al = dal
    simp
    refine (tr_draw (many := 9) (by decide) (by decide)).bnd ?_
    rintro _ ⟨r, rfl, r1, r2⟩
    simp
    refine (tr_pick (d := .lst [.int n, .int n, .int (n - r)]) (xs := [.int n, .int n, .int (n - r)]) (.inl rfl) (by simp) (by simp) (by rfl)).bnd ?_
    intro d md
    obtain ⟨z, rfl⟩ : ∃ z : Nat, d = .int z := by
      simp at md
      rcases md with rfl | rfl
      · exact ⟨n, rfl⟩
      · exact ⟨((n : Int) - r).toNat, by congr 1; omega⟩
    have eb : bSorted [tI' (q.take z)] = some (lI (srt (q.take z))) := by rw [bSorted_tI, sortD_any]
    simp only [Mo.pure_bind]
    rw [hsl, Mo.ofO_some, Mo.pure_bind, eb, Mo.ofO_some, Mo.pure_bind, bTuple_lI]
    simp
    refine ⟨srt (q.take z), ⟨fun y m => ?_, ?_, ?_⟩, rfl⟩
    · exact q1 y (List.mem_of_mem_take (mem_srt.mp m))
    · exact srt_lt (q2.sublist (List.take_sublist _ _))
    · rw [(srt_perm _).length_eq]; simp; omega
  rintro _ ⟨lot, ⟨l1, l2, l3⟩, rfl⟩
  generalize hdl : tI' lot = dlot
  have il : imm dlot = true := by rw [← hdl]; exact immL_dI lot
  -- thing, before
  obtain ⟨x, hx, ex⟩ := hix
  refine Tr.seqQ (Q := fun σ => ∃ k : Nat, σ = sL (.own (.int n)) (.own dC) (.own dSc) (.own dNr) (.own (lI al)) (.own dq) (.own dlot) (.own (.int x)) (.own (tI' (q.take k))) .no) ?_ ?_
  · generalize lI al = dal
    simp [ex]
    refine (tr_draw (many := (n : Int)) (by omega) (by omega)).bnd ?_
    rintro _ ⟨r, rfl, r1, r2⟩
    obtain ⟨k, rfl⟩ : ∃ k : Nat, r = (k : Int) := ⟨r.toNat, by omega⟩
    simp [hsl]
    exact ⟨k, rfl⟩
  rintro _ ⟨k, rfl⟩
  have hf1 := tr_free n2 ok (q.take k) hx
  have hf2 := tr_lfree n2 ok oN (q.take k) hx
  rw [hdS] at hf1
  rw [hdN] at hf2
  generalize tI' (q.take k) = db at *
  refine Tr.seqE (σ1 := sL (.own (.int n)) (.own dC) (.own dSc) (.own dNr) (.own (lI al)) (.own dq) (.own dlot) (.own (.int x)) (.own db) .no) ?_ ?_
  · refine Tr.skip ?_
    generalize lI al = dal
    simp
    refine hf1.eq (hf2.eq ((hs (plain_bl _ _)).eq ?_))
    simp
  -- part
  refine Tr.seqQ (Q := fun σ => ∃ part : List Int, ((∀ y ∈ part, 0 ≤ y ∧ y < n) ∧ part.length ≤ 24) ∧ σ = sL (.own (.int n)) (.own dC) (.own dSc) (.own dNr) (.own (lI al)) (.own dq) (.own dlot) (.own (.int x)) (.own db) (.own (tI' part))) ?_ ?_
  · generalize lI al = dal
    have hit : items dNr = some (R.map dSet) := by rw [← hdN]; rfl
    have hRl : R.map (fun l => (l.length : Int)) ≠ [] := by
      have := oN.len
      intro e
      have : R = [] := by simpa using e
      rw [this] at oN
      have := oN.len
      simp at this; omega
    obtain ⟨m, em⟩ := bMax_ne hRl
    simp [hit]
    refine (lcGo_id (f := dSet) (fun l => .int (l.length : Int)) fun l ml => ?_).eq ?_
    · simp [len_dSet]
    · have e2 : R.map (fun l => D.int (l.length : Int)) = dI (R.map fun l => (l.length : Int)) := by
        show _ = List.map D.int _
        rw [List.map_map]; rfl
      rw [e2, em]
      simp
      by_cases c : m < 5
      · simp [c, il]
        exact ⟨lot, ⟨l1, l3⟩, by rw [hdl]⟩
      · have eb : bSorted [tI' (q.take 6)] = some (lI (srt (q.take 6))) := by rw [bSorted_tI, sortD_any]
        have hs6 : dSl none (some 6) dq = some (tI' (q.take 6)) := hsl 6
        simp only [c, if_false, hs6, Mo.ofO_some, Mo.pure_bind, eb, bTuple_lI]
        simp
        refine ⟨srt (q.take 6), ⟨fun y my => q1 y (List.mem_of_mem_take (mem_srt.mp my)), ?_⟩, rfl⟩
        rw [(srt_perm _).length_eq]; simp; omega
  rintro _ ⟨part, ⟨p1, p2⟩, rfl⟩
  have g1 := tr_greedy n2 ok oC l1 l3
  have g2 := tr_lgreedy n2 ok oN oC l1 l3
  have g3 := tr_ffirst n2 ok p1 p2
  have g4 := tr_lffirst n2 ok oN p1 p2
  have g5 := tr_core n2 ok oC l1 l2 l3
  have g6 := tr_lcore n2 ok oN oC l1 l2 l3
  have pg : plain 5 (tI' (grd n S C lot.length lot [])) = true := plain_tI (by
    have := grd_len (n := n) (S := S) (C := C) (k := lot.length) (left := lot) (found := [])
    simp at this; omega)
  have pf : plain 5 (tI' (ffs n S part.length part [])) = true := plain_tI (by
    have := ffs_len (n := n) (S := S) (k := part.length) (left := part) (found := [])
    simp at this; omega)
  generalize tI' (grd n S C lot.length lot []) = dg at *
  generalize tI' (ffs n S part.length part []) = df at *
  generalize hdp : tI' part = dp at *
  rw [hdC, hdS, hdl] at g1 g5
  rw [hdC, hdN, hdl] at g2 g6
  rw [hdS] at g3
  rw [hdN] at g4
  generalize lI al = dal
  refine Tr.seqE (σ1 := sL (.own (.int n)) (.own dC) (.own dSc) (.own dNr) (.own dal) (.own dq) (.own dlot) (.own (.int x)) (.own db) (.own dp)) ?_ ?_
  · refine Tr.skip ?_
    simp
    refine g1.eq (g2.eq ((hs pg).eq ?_))
    simp
  refine Tr.seqE (σ1 := sL (.own (.int n)) (.own dC) (.own dSc) (.own dNr) (.own dal) (.own dq) (.own dlot) (.own (.int x)) (.own db) (.own dp)) ?_ ?_
  · refine Tr.skip ?_
    simp
    refine g3.eq (g4.eq ((hs pf).eq ?_))
    simp
  refine Tr.ret ?_
  simp
  refine g5.bnd ?_
  rintro _ ⟨b, K, rfl, c1⟩
  refine g6.bnd ?_
  rintro _ ⟨b', K', rfl, c2⟩
  obtain ⟨rfl, rfl⟩ := c1.uniq l2 c2
  exact hs (plain_tup (by simp) fun y my => by
    simp at my
    rcases my with rfl | rfl
    · exact plain_int _ _
    · exact plain_tI (by have := c1.core_sub.length_le; omega))
theorem good : ∀ ns : List Int, ns.length ≤ 63 → ∃ xs t u, h_law (some (.scr ns) :: List.replicate 12 none) ([], 0) = some (.lst [.lst (xs.map D.int), .int t], u) ∧ ∃ ρ' s', g_law (.no :: .bor .hp :: List.replicate 11 .no) (xs, t) = some ((.rt (.bl true), ρ'), s') := by
  intro ns _
  have h : Tr (h_law (some (.scr ns) :: List.replicate 12 none)) (fun d => ∃ (xs : List Int) (t : Int), d = .lst [.lst (dI xs), .int t] ∧ OkS (xs, t)) := by
    unfold h_law
    simp
    exact tr_heap ns
  obtain ⟨d, u, e, _, xs, t, rfl, ok⟩ := h ([], 0) ⟨by simp, (fun x m => by cases m), by decide⟩
  refine ⟨xs, t, u, e, ?_⟩
  obtain ⟨⟨o, ρ'⟩, s', e2, _, rt⟩ := tr_law (xs, t) ok
  refine ⟨ρ', s', ?_⟩
  rw [e2]
  cases rt with
  | rt d _ p => rw [p]
  | nx _ p => cases p
end K87


namespace K87
open PySem PySem.Spec L2 FL
theorem all_mk {l : PySem.W.OpenLaw} {w : World} {K : PySem.W.Frag} {h : Heap} {mg : Str → Option Value} {fa f0 f1 f2 f3 f4 f5 f6 f7 f8 f9 f10 f11 f12 f13 f14 f15 f16 f17 f18 f19 f20 f21 f22 f23 f24 f25 f26 f27 f28 f29 f30 f31 f32 f33 : Addr} (X : K.In h) (G : h.Ns mainGlobals mg) (hfa : mg "law" = some (.ref fa))
    {od0 an0 : Option Addr} {sl0 : Array (Option Value)} {oc0 kV0 dc0 pm0 cd0 ct0 : Value}
    (a0 : PySem.W.nsIn K mainGlobals "fill_count" = some (some (.ref f0))) (l0 : K.lookup f0 = some ⟨oc0, od0, .func (PySem.W.fnOf "fill_count" "fill_count" (defArgs s_fill_count) (defBody s_fill_count) (defScope s_fill_count) .none kV0 dc0 pm0 an0 cd0 ct0), sl0⟩) (c0 : PySem.W.codeIn K cd0 "fill_count" = true) (k0 : PySem.W.keepIn K (.ref f0) = true)
    {od1 an1 : Option Addr} {sl1 : Array (Option Value)} {oc1 kV1 dc1 pm1 cd1 ct1 : Value}
    (a1 : PySem.W.nsIn K mainGlobals "tied_things" = some (some (.ref f1))) (l1 : K.lookup f1 = some ⟨oc1, od1, .func (PySem.W.fnOf "tied_things" "tied_things" (defArgs s_tied_things) (defBody s_tied_things) (defScope s_tied_things) .none kV1 dc1 pm1 an1 cd1 ct1), sl1⟩) (c1 : PySem.W.codeIn K cd1 "tied_things" = true) (k1 : PySem.W.keepIn K (.ref f1) = true)
    {od2 an2 : Option Addr} {sl2 : Array (Option Value)} {oc2 kV2 dc2 pm2 cd2 ct2 : Value}
    (a2 : PySem.W.nsIn K mainGlobals "cluster_behind" = some (some (.ref f2))) (l2 : K.lookup f2 = some ⟨oc2, od2, .func (PySem.W.fnOf "cluster_behind" "cluster_behind" (defArgs s_cluster_behind) (defBody s_cluster_behind) (defScope s_cluster_behind) .none kV2 dc2 pm2 an2 cd2 ct2), sl2⟩) (c2 : PySem.W.codeIn K cd2 "cluster_behind" = true) (k2 : PySem.W.keepIn K (.ref f2) = true)
    {od3 an3 : Option Addr} {sl3 : Array (Option Value)} {oc3 kV3 dc3 pm3 cd3 ct3 : Value}
    (a3 : PySem.W.nsIn K mainGlobals "clusters_by" = some (some (.ref f3))) (l3 : K.lookup f3 = some ⟨oc3, od3, .func (PySem.W.fnOf "clusters_by" "clusters_by" (defArgs s_clusters_by) (defBody s_clusters_by) (defScope s_clusters_by) .none kV3 dc3 pm3 an3 cd3 ct3), sl3⟩) (c3 : PySem.W.codeIn K cd3 "clusters_by" = true) (k3 : PySem.W.keepIn K (.ref f3) = true)
    {od4 an4 : Option Addr} {sl4 : Array (Option Value)} {oc4 kV4 dc4 pm4 cd4 ct4 : Value}
    (a4 : PySem.W.nsIn K mainGlobals "scopes_left" = some (some (.ref f4))) (l4 : K.lookup f4 = some ⟨oc4, od4, .func (PySem.W.fnOf "scopes_left" "scopes_left" (defArgs s_scopes_left) (defBody s_scopes_left) (defScope s_scopes_left) .none kV4 dc4 pm4 an4 cd4 ct4), sl4⟩) (c4 : PySem.W.codeIn K cd4 "scopes_left" = true) (k4 : PySem.W.keepIn K (.ref f4) = true)
    {od5 an5 : Option Addr} {sl5 : Array (Option Value)} {oc5 kV5 dc5 pm5 cd5 ct5 : Value}
    (a5 : PySem.W.nsIn K mainGlobals "flows_by" = some (some (.ref f5))) (l5 : K.lookup f5 = some ⟨oc5, od5, .func (PySem.W.fnOf "flows_by" "flows_by" (defArgs s_flows_by) (defBody s_flows_by) (defScope s_flows_by) .none kV5 dc5 pm5 an5 cd5 ct5), sl5⟩) (c5 : PySem.W.codeIn K cd5 "flows_by" = true) (k5 : PySem.W.keepIn K (.ref f5) = true)
    {od6 an6 : Option Addr} {sl6 : Array (Option Value)} {oc6 kV6 dc6 pm6 cd6 ct6 : Value}
    (a6 : PySem.W.nsIn K mainGlobals "settled_sequence" = some (some (.ref f6))) (l6 : K.lookup f6 = some ⟨oc6, od6, .func (PySem.W.fnOf "settled_sequence" "settled_sequence" (defArgs s_settled_sequence) (defBody s_settled_sequence) (defScope s_settled_sequence) .none kV6 dc6 pm6 an6 cd6 ct6), sl6⟩) (c6 : PySem.W.codeIn K cd6 "settled_sequence" = true) (k6 : PySem.W.keepIn K (.ref f6) = true)
    {od7 an7 : Option Addr} {sl7 : Array (Option Value)} {oc7 kV7 dc7 pm7 cd7 ct7 : Value}
    (a7 : PySem.W.nsIn K mainGlobals "lot_size" = some (some (.ref f7))) (l7 : K.lookup f7 = some ⟨oc7, od7, .func (PySem.W.fnOf "lot_size" "lot_size" (defArgs s_lot_size) (defBody s_lot_size) (defScope s_lot_size) .none kV7 dc7 pm7 an7 cd7 ct7), sl7⟩) (c7 : PySem.W.codeIn K cd7 "lot_size" = true) (k7 : PySem.W.keepIn K (.ref f7) = true)
    {od8 an8 : Option Addr} {sl8 : Array (Option Value)} {oc8 kV8 dc8 pm8 cd8 ct8 : Value}
    (a8 : PySem.W.nsIn K mainGlobals "sizes_by" = some (some (.ref f8))) (l8 : K.lookup f8 = some ⟨oc8, od8, .func (PySem.W.fnOf "sizes_by" "sizes_by" (defArgs s_sizes_by) (defBody s_sizes_by) (defScope s_sizes_by) .none kV8 dc8 pm8 an8 cd8 ct8), sl8⟩) (c8 : PySem.W.codeIn K cd8 "sizes_by" = true) (k8 : PySem.W.keepIn K (.ref f8) = true)
    {od9 an9 : Option Addr} {sl9 : Array (Option Value)} {oc9 kV9 dc9 pm9 cd9 ct9 : Value}
    (a9 : PySem.W.nsIn K mainGlobals "joined_cost" = some (some (.ref f9))) (l9 : K.lookup f9 = some ⟨oc9, od9, .func (PySem.W.fnOf "joined_cost" "joined_cost" (defArgs s_joined_cost) (defBody s_joined_cost) (defScope s_joined_cost) .none kV9 dc9 pm9 an9 cd9 ct9), sl9⟩) (c9 : PySem.W.codeIn K cd9 "joined_cost" = true) (k9 : PySem.W.keepIn K (.ref f9) = true)
    {od10 an10 : Option Addr} {sl10 : Array (Option Value)} {oc10 kV10 dc10 pm10 cd10 ct10 : Value}
    (a10 : PySem.W.nsIn K mainGlobals "cost_by" = some (some (.ref f10))) (l10 : K.lookup f10 = some ⟨oc10, od10, .func (PySem.W.fnOf "cost_by" "cost_by" (defArgs s_cost_by) (defBody s_cost_by) (defScope s_cost_by) .none kV10 dc10 pm10 an10 cd10 ct10), sl10⟩) (c10 : PySem.W.codeIn K cd10 "cost_by" = true) (k10 : PySem.W.keepIn K (.ref f10) = true)
    {od11 an11 : Option Addr} {sl11 : Array (Option Value)} {oc11 kV11 dc11 pm11 cd11 ct11 : Value}
    (a11 : PySem.W.nsIn K mainGlobals "greedy_sequence" = some (some (.ref f11))) (l11 : K.lookup f11 = some ⟨oc11, od11, .func (PySem.W.fnOf "greedy_sequence" "greedy_sequence" (defArgs s_greedy_sequence) (defBody s_greedy_sequence) (defScope s_greedy_sequence) .none kV11 dc11 pm11 an11 cd11 ct11), sl11⟩) (c11 : PySem.W.codeIn K cd11 "greedy_sequence" = true) (k11 : PySem.W.keepIn K (.ref f11) = true)
    {od12 an12 : Option Addr} {sl12 : Array (Option Value)} {oc12 kV12 dc12 pm12 cd12 ct12 : Value}
    (a12 : PySem.W.nsIn K mainGlobals "is_free" = some (some (.ref f12))) (l12 : K.lookup f12 = some ⟨oc12, od12, .func (PySem.W.fnOf "is_free" "is_free" (defArgs s_is_free) (defBody s_is_free) (defScope s_is_free) .none kV12 dc12 pm12 an12 cd12 ct12), sl12⟩) (c12 : PySem.W.codeIn K cd12 "is_free" = true) (k12 : PySem.W.keepIn K (.ref f12) = true)
    {od13 an13 : Option Addr} {sl13 : Array (Option Value)} {oc13 kV13 dc13 pm13 cd13 ct13 : Value}
    (a13 : PySem.W.nsIn K mainGlobals "free_first" = some (some (.ref f13))) (l13 : K.lookup f13 = some ⟨oc13, od13, .func (PySem.W.fnOf "free_first" "free_first" (defArgs s_free_first) (defBody s_free_first) (defScope s_free_first) .none kV13 dc13 pm13 an13 cd13 ct13), sl13⟩) (c13 : PySem.W.codeIn K cd13 "free_first" = true) (k13 : PySem.W.keepIn K (.ref f13) = true)
    {od14 an14 : Option Addr} {sl14 : Array (Option Value)} {oc14 kV14 dc14 pm14 cd14 ct14 : Value}
    (a14 : PySem.W.nsIn K mainGlobals "tied_size" = some (some (.ref f14))) (l14 : K.lookup f14 = some ⟨oc14, od14, .func (PySem.W.fnOf "tied_size" "tied_size" (defArgs s_tied_size) (defBody s_tied_size) (defScope s_tied_size) .none kV14 dc14 pm14 an14 cd14 ct14), sl14⟩) (c14 : PySem.W.codeIn K cd14 "tied_size" = true) (k14 : PySem.W.keepIn K (.ref f14) = true)
    {od15 an15 : Option Addr} {sl15 : Array (Option Value)} {oc15 kV15 dc15 pm15 cd15 ct15 : Value}
    (a15 : PySem.W.nsIn K mainGlobals "core_floor" = some (some (.ref f15))) (l15 : K.lookup f15 = some ⟨oc15, od15, .func (PySem.W.fnOf "core_floor" "core_floor" (defArgs s_core_floor) (defBody s_core_floor) (defScope s_core_floor) .none kV15 dc15 pm15 an15 cd15 ct15), sl15⟩) (c15 : PySem.W.codeIn K cd15 "core_floor" = true) (k15 : PySem.W.keepIn K (.ref f15) = true)
    {od16 an16 : Option Addr} {sl16 : Array (Option Value)} {oc16 kV16 dc16 pm16 cd16 ct16 : Value}
    (a16 : PySem.W.nsIn K mainGlobals "_law_heap" = some (some (.ref f16))) (l16 : K.lookup f16 = some ⟨oc16, od16, .func (PySem.W.fnOf "_law_heap" "_law_heap" (defArgs s__law_heap) (defBody s__law_heap) (defScope s__law_heap) .none kV16 dc16 pm16 an16 cd16 ct16), sl16⟩) (c16 : PySem.W.codeIn K cd16 "_law_heap" = true) (k16 : PySem.W.keepIn K (.ref f16) = true)
    {od17 an17 : Option Addr} {sl17 : Array (Option Value)} {oc17 kV17 dc17 pm17 cd17 ct17 : Value}
    (a17 : PySem.W.nsIn K mainGlobals "_law_draw" = some (some (.ref f17))) (l17 : K.lookup f17 = some ⟨oc17, od17, .func (PySem.W.fnOf "_law_draw" "_law_draw" (defArgs s__law_draw) (defBody s__law_draw) (defScope s__law_draw) .none kV17 dc17 pm17 an17 cd17 ct17), sl17⟩) (c17 : PySem.W.codeIn K cd17 "_law_draw" = true) (k17 : PySem.W.keepIn K (.ref f17) = true)
    {od18 an18 : Option Addr} {sl18 : Array (Option Value)} {oc18 kV18 dc18 pm18 cd18 ct18 : Value}
    (a18 : PySem.W.nsIn K mainGlobals "_law_pick" = some (some (.ref f18))) (l18 : K.lookup f18 = some ⟨oc18, od18, .func (PySem.W.fnOf "_law_pick" "_law_pick" (defArgs s__law_pick) (defBody s__law_pick) (defScope s__law_pick) .none kV18 dc18 pm18 an18 cd18 ct18), sl18⟩) (c18 : PySem.W.codeIn K cd18 "_law_pick" = true) (k18 : PySem.W.keepIn K (.ref f18) = true)
    {od19 an19 : Option Addr} {sl19 : Array (Option Value)} {oc19 kV19 dc19 pm19 cd19 ct19 : Value}
    (a19 : PySem.W.nsIn K mainGlobals "_law_shuffled" = some (some (.ref f19))) (l19 : K.lookup f19 = some ⟨oc19, od19, .func (PySem.W.fnOf "_law_shuffled" "_law_shuffled" (defArgs s__law_shuffled) (defBody s__law_shuffled) (defScope s__law_shuffled) .none kV19 dc19 pm19 an19 cd19 ct19), sl19⟩) (c19 : PySem.W.codeIn K cd19 "_law_shuffled" = true) (k19 : PySem.W.keepIn K (.ref f19) = true)
    {od20 an20 : Option Addr} {sl20 : Array (Option Value)} {oc20 kV20 dc20 pm20 cd20 ct20 : Value}
    (a20 : PySem.W.nsIn K mainGlobals "_law_scopes" = some (some (.ref f20))) (l20 : K.lookup f20 = some ⟨oc20, od20, .func (PySem.W.fnOf "_law_scopes" "_law_scopes" (defArgs s__law_scopes) (defBody s__law_scopes) (defScope s__law_scopes) .none kV20 dc20 pm20 an20 cd20 ct20), sl20⟩) (c20 : PySem.W.codeIn K cd20 "_law_scopes" = true) (k20 : PySem.W.keepIn K (.ref f20) = true)
    {od21 an21 : Option Addr} {sl21 : Array (Option Value)} {oc21 kV21 dc21 pm21 cd21 ct21 : Value}
    (a21 : PySem.W.nsIn K mainGlobals "_law_near" = some (some (.ref f21))) (l21 : K.lookup f21 = some ⟨oc21, od21, .func (PySem.W.fnOf "_law_near" "_law_near" (defArgs s__law_near) (defBody s__law_near) (defScope s__law_near) .none kV21 dc21 pm21 an21 cd21 ct21), sl21⟩) (c21 : PySem.W.codeIn K cd21 "_law_near" = true) (k21 : PySem.W.keepIn K (.ref f21) = true)
    {od22 an22 : Option Addr} {sl22 : Array (Option Value)} {oc22 kV22 dc22 pm22 cd22 ct22 : Value}
    (a22 : PySem.W.nsIn K mainGlobals "_law_cluster" = some (some (.ref f22))) (l22 : K.lookup f22 = some ⟨oc22, od22, .func (PySem.W.fnOf "_law_cluster" "_law_cluster" (defArgs s__law_cluster) (defBody s__law_cluster) (defScope s__law_cluster) .none kV22 dc22 pm22 an22 cd22 ct22), sl22⟩) (c22 : PySem.W.codeIn K cd22 "_law_cluster" = true) (k22 : PySem.W.keepIn K (.ref f22) = true)
    {od23 an23 : Option Addr} {sl23 : Array (Option Value)} {oc23 kV23 dc23 pm23 cd23 ct23 : Value}
    (a23 : PySem.W.nsIn K mainGlobals "_law_clusters" = some (some (.ref f23))) (l23 : K.lookup f23 = some ⟨oc23, od23, .func (PySem.W.fnOf "_law_clusters" "_law_clusters" (defArgs s__law_clusters) (defBody s__law_clusters) (defScope s__law_clusters) .none kV23 dc23 pm23 an23 cd23 ct23), sl23⟩) (c23 : PySem.W.codeIn K cd23 "_law_clusters" = true) (k23 : PySem.W.keepIn K (.ref f23) = true)
    {od24 an24 : Option Addr} {sl24 : Array (Option Value)} {oc24 kV24 dc24 pm24 cd24 ct24 : Value}
    (a24 : PySem.W.nsIn K mainGlobals "_law_size" = some (some (.ref f24))) (l24 : K.lookup f24 = some ⟨oc24, od24, .func (PySem.W.fnOf "_law_size" "_law_size" (defArgs s__law_size) (defBody s__law_size) (defScope s__law_size) .none kV24 dc24 pm24 an24 cd24 ct24), sl24⟩) (c24 : PySem.W.codeIn K cd24 "_law_size" = true) (k24 : PySem.W.keepIn K (.ref f24) = true)
    {od25 an25 : Option Addr} {sl25 : Array (Option Value)} {oc25 kV25 dc25 pm25 cd25 ct25 : Value}
    (a25 : PySem.W.nsIn K mainGlobals "_law_flows" = some (some (.ref f25))) (l25 : K.lookup f25 = some ⟨oc25, od25, .func (PySem.W.fnOf "_law_flows" "_law_flows" (defArgs s__law_flows) (defBody s__law_flows) (defScope s__law_flows) .none kV25 dc25 pm25 an25 cd25 ct25), sl25⟩) (c25 : PySem.W.codeIn K cd25 "_law_flows" = true) (k25 : PySem.W.keepIn K (.ref f25) = true)
    {od26 an26 : Option Addr} {sl26 : Array (Option Value)} {oc26 kV26 dc26 pm26 cd26 ct26 : Value}
    (a26 : PySem.W.nsIn K mainGlobals "_law_settled" = some (some (.ref f26))) (l26 : K.lookup f26 = some ⟨oc26, od26, .func (PySem.W.fnOf "_law_settled" "_law_settled" (defArgs s__law_settled) (defBody s__law_settled) (defScope s__law_settled) .none kV26 dc26 pm26 an26 cd26 ct26), sl26⟩) (c26 : PySem.W.codeIn K cd26 "_law_settled" = true) (k26 : PySem.W.keepIn K (.ref f26) = true)
    {od27 an27 : Option Addr} {sl27 : Array (Option Value)} {oc27 kV27 dc27 pm27 cd27 ct27 : Value}
    (a27 : PySem.W.nsIn K mainGlobals "_law_same" = some (some (.ref f27))) (l27 : K.lookup f27 = some ⟨oc27, od27, .func (PySem.W.fnOf "_law_same" "_law_same" (defArgs s__law_same) (defBody s__law_same) (defScope s__law_same) .none kV27 dc27 pm27 an27 cd27 ct27), sl27⟩) (c27 : PySem.W.codeIn K cd27 "_law_same" = true) (k27 : PySem.W.keepIn K (.ref f27) = true)
    {od28 an28 : Option Addr} {sl28 : Array (Option Value)} {oc28 kV28 dc28 pm28 cd28 ct28 : Value}
    (a28 : PySem.W.nsIn K mainGlobals "_law_sequences_right" = some (some (.ref f28))) (l28 : K.lookup f28 = some ⟨oc28, od28, .func (PySem.W.fnOf "_law_sequences_right" "_law_sequences_right" (defArgs s__law_sequences_right) (defBody s__law_sequences_right) (defScope s__law_sequences_right) .none kV28 dc28 pm28 an28 cd28 ct28), sl28⟩) (c28 : PySem.W.codeIn K cd28 "_law_sequences_right" = true) (k28 : PySem.W.keepIn K (.ref f28) = true)
    {od29 an29 : Option Addr} {sl29 : Array (Option Value)} {oc29 kV29 dc29 pm29 cd29 ct29 : Value}
    (a29 : PySem.W.nsIn K mainGlobals "_law_free" = some (some (.ref f29))) (l29 : K.lookup f29 = some ⟨oc29, od29, .func (PySem.W.fnOf "_law_free" "_law_free" (defArgs s__law_free) (defBody s__law_free) (defScope s__law_free) .none kV29 dc29 pm29 an29 cd29 ct29), sl29⟩) (c29 : PySem.W.codeIn K cd29 "_law_free" = true) (k29 : PySem.W.keepIn K (.ref f29) = true)
    {od30 an30 : Option Addr} {sl30 : Array (Option Value)} {oc30 kV30 dc30 pm30 cd30 ct30 : Value}
    (a30 : PySem.W.nsIn K mainGlobals "_law_greedy" = some (some (.ref f30))) (l30 : K.lookup f30 = some ⟨oc30, od30, .func (PySem.W.fnOf "_law_greedy" "_law_greedy" (defArgs s__law_greedy) (defBody s__law_greedy) (defScope s__law_greedy) .none kV30 dc30 pm30 an30 cd30 ct30), sl30⟩) (c30 : PySem.W.codeIn K cd30 "_law_greedy" = true) (k30 : PySem.W.keepIn K (.ref f30) = true)
    {od31 an31 : Option Addr} {sl31 : Array (Option Value)} {oc31 kV31 dc31 pm31 cd31 ct31 : Value}
    (a31 : PySem.W.nsIn K mainGlobals "_law_free_first" = some (some (.ref f31))) (l31 : K.lookup f31 = some ⟨oc31, od31, .func (PySem.W.fnOf "_law_free_first" "_law_free_first" (defArgs s__law_free_first) (defBody s__law_free_first) (defScope s__law_free_first) .none kV31 dc31 pm31 an31 cd31 ct31), sl31⟩) (c31 : PySem.W.codeIn K cd31 "_law_free_first" = true) (k31 : PySem.W.keepIn K (.ref f31) = true)
    {od32 an32 : Option Addr} {sl32 : Array (Option Value)} {oc32 kV32 dc32 pm32 cd32 ct32 : Value}
    (a32 : PySem.W.nsIn K mainGlobals "_law_core" = some (some (.ref f32))) (l32 : K.lookup f32 = some ⟨oc32, od32, .func (PySem.W.fnOf "_law_core" "_law_core" (defArgs s__law_core) (defBody s__law_core) (defScope s__law_core) .none kV32 dc32 pm32 an32 cd32 ct32), sl32⟩) (c32 : PySem.W.codeIn K cd32 "_law_core" = true) (k32 : PySem.W.keepIn K (.ref f32) = true)
    {od33 an33 : Option Addr} {sl33 : Array (Option Value)} {oc33 kV33 dc33 pm33 cd33 ct33 : Value}
    (a33 : PySem.W.nsIn K mainGlobals "law" = some (some (.ref f33))) (l33 : K.lookup f33 = some ⟨oc33, od33, .func (PySem.W.fnOf "law" "law" (defArgs s_law) (defBody s_law) (defScope s_law) .none kV33 dc33 pm33 an33 cd33 ct33), sl33⟩) (c33 : PySem.W.codeIn K cd33 "law" = true) (k33 : PySem.W.keepIn K (.ref f33) = true)
    (z0 : PySem.W.nsIn K mainGlobals "abs" = some none)
    (z1 : PySem.W.nsIn K mainGlobals "all" = some none)
    (z2 : PySem.W.nsIn K mainGlobals "any" = some none)
    (z3 : PySem.W.nsIn K mainGlobals "bool" = some none)
    (z4 : PySem.W.nsIn K mainGlobals "enumerate" = some none)
    (z5 : PySem.W.nsIn K mainGlobals "int" = some none)
    (z6 : PySem.W.nsIn K mainGlobals "isinstance" = some none)
    (z7 : PySem.W.nsIn K mainGlobals "len" = some none)
    (z8 : PySem.W.nsIn K mainGlobals "list" = some none)
    (z9 : PySem.W.nsIn K mainGlobals "max" = some none)
    (z10 : PySem.W.nsIn K mainGlobals "min" = some none)
    (z11 : PySem.W.nsIn K mainGlobals "range" = some none)
    (z12 : PySem.W.nsIn K mainGlobals "sorted" = some none)
    (z13 : PySem.W.nsIn K mainGlobals "str" = some none)
    (z14 : PySem.W.nsIn K mainGlobals "sum" = some none)
    (z15 : PySem.W.nsIn K mainGlobals "tuple" = some none)
    (z16 : PySem.W.nsIn K mainGlobals "zip" = some none)
    (good : ∀ ns : List Int, ns.length ≤ 63 → ∃ xs t u, h_law (some (.scr ns) :: List.replicate 12 none) ([], 0) = some (.lst [.lst (xs.map D.int), .int t], u) ∧ ∃ ρ' s', g_law (.no :: .bor .hp :: List.replicate 11 .no) (xs, t) = some ((.rt (.bl true), ρ'), s')) :
    ∃ fd : FuncData, (∀ (s : Shared) (v : Value), BindsTo s fd ⟨[v], []⟩ [("script", v)]) ∧ ∀ base : Heap, K.In base → base.Ns mainGlobals mg → FnOk l.prog w K mg base CX0 9 fa fd ["script"] (spLaw K) := by
  have e := hfa.symm.trans (PySem.W.mg_of X G a33)
  cases e
  have F0 := fun_mk (st := s_fill_count) l0 c0 k0
  have b0 := F0.binds (ps := ["counts"]) fun _ _ _ _ _ _ us hl => match us, hl with | [_], _ => rfl
  have F1 := fun_mk (st := s_tied_things) l1 c1 k1
  have b1 := F1.binds (ps := ["scopes", "thing"]) fun _ _ _ _ _ _ us hl => match us, hl with | [_, _], _ => rfl
  have F2 := fun_mk (st := s_cluster_behind) l2 c2 k2
  have b2 := F2.binds (ps := ["scopes", "before", "thing"]) fun _ _ _ _ _ _ us hl => match us, hl with | [_, _, _], _ => rfl
  have F3 := fun_mk (st := s_clusters_by) l3 c3 k3
  have b3 := F3.binds (ps := ["scopes", "sequence"]) fun _ _ _ _ _ _ us hl => match us, hl with | [_, _], _ => rfl
  have F4 := fun_mk (st := s_scopes_left) l4 c4 k4
  have b4 := F4.binds (ps := ["scopes", "sequence"]) fun _ _ _ _ _ _ us hl => match us, hl with | [_, _], _ => rfl
  have F5 := fun_mk (st := s_flows_by) l5 c5 k5
  have b5 := F5.binds (ps := ["scopes", "sequence"]) fun _ _ _ _ _ _ us hl => match us, hl with | [_, _], _ => rfl
  have F6 := fun_mk (st := s_settled_sequence) l6 c6 k6
  have b6 := F6.binds (ps := ["scopes", "sequence"]) fun _ _ _ _ _ _ us hl => match us, hl with | [_, _], _ => rfl
  have F7 := fun_mk (st := s_lot_size) l7 c7 k7
  have b7 := F7.binds (ps := ["counts", "lot"]) fun _ _ _ _ _ _ us hl => match us, hl with | [_, _], _ => rfl
  have F8 := fun_mk (st := s_sizes_by) l8 c8 k8
  have b8 := F8.binds (ps := ["counts", "scopes", "sequence"]) fun _ _ _ _ _ _ us hl => match us, hl with | [_, _, _], _ => rfl
  have F9 := fun_mk (st := s_joined_cost) l9 c9 k9
  have b9 := F9.binds (ps := ["kind", "one", "other"]) fun _ _ _ _ _ _ us hl => match us, hl with | [_, _, _], _ => rfl
  have F10 := fun_mk (st := s_cost_by) l10 c10 k10
  have b10 := F10.binds (ps := ["counts", "scopes", "sequence", "kind"]) fun _ _ _ _ _ _ us hl => match us, hl with | [_, _, _, _], _ => rfl
  have F11 := fun_mk (st := s_greedy_sequence) l11 c11 k11
  have b11 := F11.binds (ps := ["counts", "scopes", "lot"]) fun _ _ _ _ _ _ us hl => match us, hl with | [_, _, _], _ => rfl
  have F12 := fun_mk (st := s_is_free) l12 c12 k12
  have b12 := F12.binds (ps := ["scopes", "before", "thing"]) fun _ _ _ _ _ _ us hl => match us, hl with | [_, _, _], _ => rfl
  have F13 := fun_mk (st := s_free_first) l13 c13 k13
  have b13 := F13.binds (ps := ["scopes", "lot"]) fun _ _ _ _ _ _ us hl => match us, hl with | [_, _], _ => rfl
  have F14 := fun_mk (st := s_tied_size) l14 c14 k14
  have b14 := F14.binds (ps := ["counts", "scopes", "away", "thing"]) fun _ _ _ _ _ _ us hl => match us, hl with | [_, _, _, _], _ => rfl
  have F15 := fun_mk (st := s_core_floor) l15 c15 k15
  have b15 := F15.binds (ps := ["counts", "scopes", "lot"]) fun _ _ _ _ _ _ us hl => match us, hl with | [_, _, _], _ => rfl
  have F16 := fun_mk (st := s__law_heap) l16 c16 k16
  have b16 := F16.binds (ps := ["script"]) fun _ _ _ _ _ _ us hl => match us, hl with | [_], _ => rfl
  have F17 := fun_mk (st := s__law_draw) l17 c17 k17
  have b17 := F17.binds (ps := ["heap", "many"]) fun _ _ _ _ _ _ us hl => match us, hl with | [_, _], _ => rfl
  have F18 := fun_mk (st := s__law_pick) l18 c18 k18
  have b18 := F18.binds (ps := ["heap", "some"]) fun _ _ _ _ _ _ us hl => match us, hl with | [_, _], _ => rfl
  have F19 := fun_mk (st := s__law_shuffled) l19 c19 k19
  have b19 := F19.binds (ps := ["heap", "some"]) fun _ _ _ _ _ _ us hl => match us, hl with | [_, _], _ => rfl
  have F20 := fun_mk (st := s__law_scopes) l20 c20 k20
  have b20 := F20.binds (ps := ["heap", "many"]) fun _ _ _ _ _ _ us hl => match us, hl with | [_, _], _ => rfl
  have F21 := fun_mk (st := s__law_near) l21 c21 k21
  have b21 := F21.binds (ps := ["scopes", "many"]) fun _ _ _ _ _ _ us hl => match us, hl with | [_, _], _ => rfl
  have F22 := fun_mk (st := s__law_cluster) l22 c22 k22
  have b22 := F22.binds (ps := ["near", "before", "thing"]) fun _ _ _ _ _ _ us hl => match us, hl with | [_, _, _], _ => rfl
  have F23 := fun_mk (st := s__law_clusters) l23 c23 k23
  have b23 := F23.binds (ps := ["near", "sequence"]) fun _ _ _ _ _ _ us hl => match us, hl with | [_, _], _ => rfl
  have F24 := fun_mk (st := s__law_size) l24 c24 k24
  have b24 := F24.binds (ps := ["counts", "lot"]) fun _ _ _ _ _ _ us hl => match us, hl with | [_, _], _ => rfl
  have F25 := fun_mk (st := s__law_flows) l25 c25 k25
  have b25 := F25.binds (ps := ["sequence", "clusters"]) fun _ _ _ _ _ _ us hl => match us, hl with | [_, _], _ => rfl
  have F26 := fun_mk (st := s__law_settled) l26 c26 k26
  have b26 := F26.binds (ps := ["sequence", "flows"]) fun _ _ _ _ _ _ us hl => match us, hl with | [_, _], _ => rfl
  have F27 := fun_mk (st := s__law_same) l27 c27 k27
  have b27 := F27.binds (ps := ["told", "due"]) fun _ _ _ _ _ _ us hl => match us, hl with | [_, _], _ => rfl
  have F28 := fun_mk (st := s__law_sequences_right) l28 c28 k28
  have b28 := F28.binds (ps := ["heap", "counts", "scopes", "near", "sequence"]) fun _ _ _ _ _ _ us hl => match us, hl with | [_, _, _, _, _], _ => rfl
  have F29 := fun_mk (st := s__law_free) l29 c29 k29
  have b29 := F29.binds (ps := ["near", "before", "thing"]) fun _ _ _ _ _ _ us hl => match us, hl with | [_, _, _], _ => rfl
  have F30 := fun_mk (st := s__law_greedy) l30 c30 k30
  have b30 := F30.binds (ps := ["counts", "near", "lot"]) fun _ _ _ _ _ _ us hl => match us, hl with | [_, _, _], _ => rfl
  have F31 := fun_mk (st := s__law_free_first) l31 c31 k31
  have b31 := F31.binds (ps := ["near", "lot"]) fun _ _ _ _ _ _ us hl => match us, hl with | [_, _], _ => rfl
  have F32 := fun_mk (st := s__law_core) l32 c32 k32
  have b32 := F32.binds (ps := ["counts", "near", "lot"]) fun _ _ _ _ _ _ us hl => match us, hl with | [_, _, _], _ => rfl
  have F33 := fun_mk (st := s_law) l33 c33 k33
  have b33 := F33.binds (ps := ["script"]) fun _ _ _ _ _ _ us hl => match us, hl with | [_], _ => rfl
  let t : Top K mg := {
    a_fill_count := _, d_fill_count := _, F_fill_count := F0, b_fill_count := b0, q_fill_count := PySem.W.mg_of X G a0,
    a_tied_things := _, d_tied_things := _, F_tied_things := F1, b_tied_things := b1, q_tied_things := PySem.W.mg_of X G a1,
    a_cluster_behind := _, d_cluster_behind := _, F_cluster_behind := F2, b_cluster_behind := b2, q_cluster_behind := PySem.W.mg_of X G a2,
    a_clusters_by := _, d_clusters_by := _, F_clusters_by := F3, b_clusters_by := b3, q_clusters_by := PySem.W.mg_of X G a3,
    a_scopes_left := _, d_scopes_left := _, F_scopes_left := F4, b_scopes_left := b4, q_scopes_left := PySem.W.mg_of X G a4,
    a_flows_by := _, d_flows_by := _, F_flows_by := F5, b_flows_by := b5, q_flows_by := PySem.W.mg_of X G a5,
    a_settled_sequence := _, d_settled_sequence := _, F_settled_sequence := F6, b_settled_sequence := b6, q_settled_sequence := PySem.W.mg_of X G a6,
    a_lot_size := _, d_lot_size := _, F_lot_size := F7, b_lot_size := b7, q_lot_size := PySem.W.mg_of X G a7,
    a_sizes_by := _, d_sizes_by := _, F_sizes_by := F8, b_sizes_by := b8, q_sizes_by := PySem.W.mg_of X G a8,
    a_joined_cost := _, d_joined_cost := _, F_joined_cost := F9, b_joined_cost := b9, q_joined_cost := PySem.W.mg_of X G a9,
    a_cost_by := _, d_cost_by := _, F_cost_by := F10, b_cost_by := b10, q_cost_by := PySem.W.mg_of X G a10,
    a_greedy_sequence := _, d_greedy_sequence := _, F_greedy_sequence := F11, b_greedy_sequence := b11, q_greedy_sequence := PySem.W.mg_of X G a11,
    a_is_free := _, d_is_free := _, F_is_free := F12, b_is_free := b12, q_is_free := PySem.W.mg_of X G a12,
    a_free_first := _, d_free_first := _, F_free_first := F13, b_free_first := b13, q_free_first := PySem.W.mg_of X G a13,
    a_tied_size := _, d_tied_size := _, F_tied_size := F14, b_tied_size := b14, q_tied_size := PySem.W.mg_of X G a14,
    a_core_floor := _, d_core_floor := _, F_core_floor := F15, b_core_floor := b15, q_core_floor := PySem.W.mg_of X G a15,
    a__law_heap := _, d__law_heap := _, F__law_heap := F16, b__law_heap := b16, q__law_heap := PySem.W.mg_of X G a16,
    a__law_draw := _, d__law_draw := _, F__law_draw := F17, b__law_draw := b17, q__law_draw := PySem.W.mg_of X G a17,
    a__law_pick := _, d__law_pick := _, F__law_pick := F18, b__law_pick := b18, q__law_pick := PySem.W.mg_of X G a18,
    a__law_shuffled := _, d__law_shuffled := _, F__law_shuffled := F19, b__law_shuffled := b19, q__law_shuffled := PySem.W.mg_of X G a19,
    a__law_scopes := _, d__law_scopes := _, F__law_scopes := F20, b__law_scopes := b20, q__law_scopes := PySem.W.mg_of X G a20,
    a__law_near := _, d__law_near := _, F__law_near := F21, b__law_near := b21, q__law_near := PySem.W.mg_of X G a21,
    a__law_cluster := _, d__law_cluster := _, F__law_cluster := F22, b__law_cluster := b22, q__law_cluster := PySem.W.mg_of X G a22,
    a__law_clusters := _, d__law_clusters := _, F__law_clusters := F23, b__law_clusters := b23, q__law_clusters := PySem.W.mg_of X G a23,
    a__law_size := _, d__law_size := _, F__law_size := F24, b__law_size := b24, q__law_size := PySem.W.mg_of X G a24,
    a__law_flows := _, d__law_flows := _, F__law_flows := F25, b__law_flows := b25, q__law_flows := PySem.W.mg_of X G a25,
    a__law_settled := _, d__law_settled := _, F__law_settled := F26, b__law_settled := b26, q__law_settled := PySem.W.mg_of X G a26,
    a__law_same := _, d__law_same := _, F__law_same := F27, b__law_same := b27, q__law_same := PySem.W.mg_of X G a27,
    a__law_sequences_right := _, d__law_sequences_right := _, F__law_sequences_right := F28, b__law_sequences_right := b28, q__law_sequences_right := PySem.W.mg_of X G a28,
    a__law_free := _, d__law_free := _, F__law_free := F29, b__law_free := b29, q__law_free := PySem.W.mg_of X G a29,
    a__law_greedy := _, d__law_greedy := _, F__law_greedy := F30, b__law_greedy := b30, q__law_greedy := PySem.W.mg_of X G a30,
    a__law_free_first := _, d__law_free_first := _, F__law_free_first := F31, b__law_free_first := b31, q__law_free_first := PySem.W.mg_of X G a31,
    a__law_core := _, d__law_core := _, F__law_core := F32, b__law_core := b32, q__law_core := PySem.W.mg_of X G a32,
    a_law := _, d_law := _, F_law := F33, b_law := b33, q_law := PySem.W.mg_of X G a33,
    z_abs := PySem.W.mg_none_of X G z0,
    z_all := PySem.W.mg_none_of X G z1,
    z_any := PySem.W.mg_none_of X G z2,
    z_bool := PySem.W.mg_none_of X G z3,
    z_enumerate := PySem.W.mg_none_of X G z4,
    z_int := PySem.W.mg_none_of X G z5,
    z_isinstance := PySem.W.mg_none_of X G z6,
    z_len := PySem.W.mg_none_of X G z7,
    z_list := PySem.W.mg_none_of X G z8,
    z_max := PySem.W.mg_none_of X G z9,
    z_min := PySem.W.mg_none_of X G z10,
    z_range := PySem.W.mg_none_of X G z11,
    z_sorted := PySem.W.mg_none_of X G z12,
    z_str := PySem.W.mg_none_of X G z13,
    z_sum := PySem.W.mg_none_of X G z14,
    z_tuple := PySem.W.mg_none_of X G z15,
    z_zip := PySem.W.mg_none_of X G z16 }
  exact ⟨_, fun s v => .of_eq rfl, fun base _ _ => ok_law t good⟩
end K87
open PySem PySem.W PyProof.Rows
set_option maxHeartbeats 0 in
theorem PySem.Challenge.cw_allworlds_k87_whole_clusters_of_all_thin_holds : PySem.Challenge.rw_allworlds_k87_whole_clusters_of_all_thin.Holds := by
  w_on; o_law; k_head; (case hw => w_witness2)
  k_fill
  refine L2.walk_of (l := PySem.Challenge.rw_allworlds_k87_whole_clusters_of_all_thin) (n := 63) (k := 9) (x := "script") (CX := fun _ => L2.CX0) (sp := fun w => FL.spLaw _) rfl (by decide) rfl ⟨rfl, by decide, by decide⟩ (fun w h Y => PySem.W.kIn_of Y) ?F (fun _ _ a ns hl hO hS => ⟨a, ns, rfl, FL.sqS_of hO hS, hl, fun _ => rfl⟩) (fun _ _ _ _ _ h => h)
  case F =>
    intro w mg fa h KX G hmg
    refine' K87.all_mk KX G hmg ?a0 ?l0 ?c0 ?k0 ?a1 ?l1 ?c1 ?k1 ?a2 ?l2 ?c2 ?k2 ?a3 ?l3 ?c3 ?k3 ?a4 ?l4 ?c4 ?k4 ?a5 ?l5 ?c5 ?k5 ?a6 ?l6 ?c6 ?k6 ?a7 ?l7 ?c7 ?k7 ?a8 ?l8 ?c8 ?k8 ?a9 ?l9 ?c9 ?k9 ?a10 ?l10 ?c10 ?k10 ?a11 ?l11 ?c11 ?k11 ?a12 ?l12 ?c12 ?k12 ?a13 ?l13 ?c13 ?k13 ?a14 ?l14 ?c14 ?k14 ?a15 ?l15 ?c15 ?k15 ?a16 ?l16 ?c16 ?k16 ?a17 ?l17 ?c17 ?k17 ?a18 ?l18 ?c18 ?k18 ?a19 ?l19 ?c19 ?k19 ?a20 ?l20 ?c20 ?k20 ?a21 ?l21 ?c21 ?k21 ?a22 ?l22 ?c22 ?k22 ?a23 ?l23 ?c23 ?k23 ?a24 ?l24 ?c24 ?k24 ?a25 ?l25 ?c25 ?k25 ?a26 ?l26 ?c26 ?k26 ?a27 ?l27 ?c27 ?k27 ?a28 ?l28 ?c28 ?k28 ?a29 ?l29 ?c29 ?k29 ?a30 ?l30 ?c30 ?k30 ?a31 ?l31 ?c31 ?k31 ?a32 ?l32 ?c32 ?k32 ?a33 ?l33 ?c33 ?k33 ?z0 ?z1 ?z2 ?z3 ?z4 ?z5 ?z6 ?z7 ?z8 ?z9 ?z10 ?z11 ?z12 ?z13 ?z14 ?z15 ?z16 K87.good
    (case a0 => k_is); (case l0 => k_is); (case c0 => k_is); (case k0 => k_is); (case a1 => k_is); (case l1 => k_is); (case c1 => k_is); (case k1 => k_is); (case a2 => k_is); (case l2 => k_is); (case c2 => k_is); (case k2 => k_is); (case a3 => k_is); (case l3 => k_is); (case c3 => k_is); (case k3 => k_is); (case a4 => k_is); (case l4 => k_is); (case c4 => k_is); (case k4 => k_is); (case a5 => k_is); (case l5 => k_is); (case c5 => k_is); (case k5 => k_is); (case a6 => k_is); (case l6 => k_is); (case c6 => k_is); (case k6 => k_is); (case a7 => k_is); (case l7 => k_is); (case c7 => k_is); (case k7 => k_is); (case a8 => k_is); (case l8 => k_is); (case c8 => k_is); (case k8 => k_is); (case a9 => k_is); (case l9 => k_is); (case c9 => k_is); (case k9 => k_is); (case a10 => k_is); (case l10 => k_is); (case c10 => k_is); (case k10 => k_is); (case a11 => k_is); (case l11 => k_is); (case c11 => k_is); (case k11 => k_is); (case a12 => k_is); (case l12 => k_is); (case c12 => k_is); (case k12 => k_is); (case a13 => k_is); (case l13 => k_is); (case c13 => k_is); (case k13 => k_is); (case a14 => k_is); (case l14 => k_is); (case c14 => k_is); (case k14 => k_is); (case a15 => k_is); (case l15 => k_is); (case c15 => k_is); (case k15 => k_is); (case a16 => k_is); (case l16 => k_is); (case c16 => k_is); (case k16 => k_is); (case a17 => k_is); (case l17 => k_is); (case c17 => k_is); (case k17 => k_is); (case a18 => k_is); (case l18 => k_is); (case c18 => k_is); (case k18 => k_is); (case a19 => k_is); (case l19 => k_is); (case c19 => k_is); (case k19 => k_is); (case a20 => k_is); (case l20 => k_is); (case c20 => k_is); (case k20 => k_is); (case a21 => k_is); (case l21 => k_is); (case c21 => k_is); (case k21 => k_is); (case a22 => k_is); (case l22 => k_is); (case c22 => k_is); (case k22 => k_is); (case a23 => k_is); (case l23 => k_is); (case c23 => k_is); (case k23 => k_is); (case a24 => k_is); (case l24 => k_is); (case c24 => k_is); (case k24 => k_is); (case a25 => k_is); (case l25 => k_is); (case c25 => k_is); (case k25 => k_is); (case a26 => k_is); (case l26 => k_is); (case c26 => k_is); (case k26 => k_is); (case a27 => k_is); (case l27 => k_is); (case c27 => k_is); (case k27 => k_is); (case a28 => k_is); (case l28 => k_is); (case c28 => k_is); (case k28 => k_is); (case a29 => k_is); (case l29 => k_is); (case c29 => k_is); (case k29 => k_is); (case a30 => k_is); (case l30 => k_is); (case c30 => k_is); (case k30 => k_is); (case a31 => k_is); (case l31 => k_is); (case c31 => k_is); (case k31 => k_is); (case a32 => k_is); (case l32 => k_is); (case c32 => k_is); (case k32 => k_is); (case a33 => k_is); (case l33 => k_is); (case c33 => k_is); (case k33 => k_is); (case z0 => k_is); (case z1 => k_is); (case z2 => k_is); (case z3 => k_is); (case z4 => k_is); (case z5 => k_is); (case z6 => k_is); (case z7 => k_is); (case z8 => k_is); (case z9 => k_is); (case z10 => k_is); (case z11 => k_is); (case z12 => k_is); (case z13 => k_is); (case z14 => k_is); (case z15 => k_is); (case z16 => k_is)
